import PyProof.Rows.All
import Wide.All
import OpenK.AllK
import Wide.FinOn
import Open.SpecLaws
import KE.OsGo
import KE.KDictWalk
import HandS.ForSpec
import HandS.Comp
import HandS.Dict
import HandS.Iter
import HandS.Walk
import HandS.Conv
import HandS.More
import HandS.TupLen
import HandS.DictTup
import HandS.SortRule
import PySem.Challenge.RW_nearroutes_s01_answers
set_option Elab.async false
set_option maxRecDepth 100000
set_option maxHeartbeats 4000000
namespace L2
open PySem PySem.Spec PyProof.Rows
section
variable {X : Cx} {pins : List (Addr × Obj)} {σ : St} {H : Hp} {s : Shared} {d : Addr} {o : Obj}
/-- a locked dict with tuple keys, its entries with their values -/
theorem Inv.frzTv {kvs : List (List Key × V)} (I : Inv X pins σ H s) (h : H d = some (.frz o (.dT kvs))) :
    (d == sysModules) = false ∧ s.heap.get? d = some o ∧ o.ExactDict ∧ ∃ (es : Array DictEntry) (ep : Nat), o.data = .dict es ep ∧ es.size = kvs.length ∧
      ∀ (i : Nat) (k : List Key) (v : V), kvs[i]? = some (k, v) → ∃ (en : DictEntry) (q : Addr), es[i]? = some en ∧ en.key = .ref q ∧ H q = some (.tup (k.map kV)) ∧ RelV v en.val := by
  obtain ⟨hd, z, hs, xs, pr, o', es, ep, ho, hx, hdt, he, _⟩ := I.hok d _ h
  rw [hd] at ho
  cases ho
  refine ⟨hs, hd, hx, es, ep, hdt, ?_, fun i k v e => ?_⟩
  · have l1 : es.size = xs.length := size_of_entries he
    have l2 : kvs.length = xs.length := Paired.length pr
    omega
  · obtain ⟨b, hb, e1, e2, e3⟩ := paired_get pr e
    have q := entry_at he i
    rw [hb] at q
    exact ⟨_, b.2.1, q, rfl, e2, e3⟩
end
/-- the values of the locked dict at d (keys are tuples) -/
def ItdT (d : Addr) (o : Obj) (kvs : List (List Key × V)) : It :=
  ⟨fun i H => H d = some (.frz o (.dT kvs)) ∧ i < kvs.length, fun i H x H' => H' = H ∧ ∃ k, kvs[i]? = some (k, x), fun i H => H d = some (.frz o (.dT kvs)) ∧ kvs.length ≤ i⟩
/-- the pairs, each a new tuple of the key's own tuple and the value -/
def ItiT (d : Addr) (o : Obj) (kvs : List (List Key × V)) : It :=
  ⟨fun i H => H d = some (.frz o (.dT kvs)) ∧ i < kvs.length, fun i H x H' => ∃ T k v q, kvs[i]? = some (k, v) ∧ x = .ref T ∧ H T = none ∧ H q = some (.tup (k.map kV)) ∧ H' = upd H T (.tup [.ref q, v]), fun i H => H d = some (.frz o (.dT kvs)) ∧ kvs.length ≤ i⟩
section
variable {P : Program} {w : World} {K : PySem.W.Frag} {tg : Expr} {d : Addr} {o : Obj} {es : Array DictEntry} {ep : Nat}
theorem turn_valsT {kvs : List (List Key × V)} (it : Addr) (hod : o.data = .dict es ep) : Turn P w K tg (ItdT d o kvs) [it] it (fun i h => h.IsValIter it d i kvs.length ep) where
  mem := by simp
  obj := fun i h st b hb => by
    have e : b = it := by simpa using hb
    subst e
    obtain ⟨oi, e, c, dd⟩ := st
    exact ⟨oi, e, fun v z => by rw [dd] at z; cases z⟩
  keep := fun i h h' st k => st.at fun oi e => k it (by simp) oi e
  item := by
    intro X hP hw hK hc i pins s σ H E I hf st hg
    subst hP hw hK
    obtain ⟨hd, hi⟩ := hg
    obtain ⟨f0, f1, f2, f3, f4, f5⟩ := hf it (by simp)
    obtain ⟨hs, hgd, hx, es', ep', hdt, hsz, ent⟩ := I.frzTv hd
    obtain ⟨rfl, rfl⟩ := dict_ep hod hdt
    obtain ⟨⟨k, v⟩, hkv⟩ : ∃ p, kvs[i]? = some p := ⟨kvs[i], List.getElem?_eq_getElem hi⟩
    obtain ⟨en, q, hen, hkey, hq, rv⟩ := ent i k v hkv
    have hlt : i < es'.size := by omega
    have hv : es'[i] = en := by rw [Array.getElem?_eq_getElem hlt] at hen; exact Option.some.inj hen
    rw [← hsz] at st
    refine wpAny_pyNext_values_item_raw st ⟨o, hgd, hx, hdt⟩ hlt fun h' st' sb => ?_
    have I1 : Inv X pins σ H { s with heap := h' } := I.turned (t' := s.toks) (fun b ob hb e => (sb.2 b hb).trans e) f0 f1 f3 f4 f5
    obtain ⟨oi, e, c, dd⟩ := id st'
    refine ⟨es'[i].val, rfl, go_of (s := { s with heap := h' }) e c dd (by decide) ⟨v, H, I1, by rw [hv]; exact rv, ⟨rfl, k, hkv⟩, ?_, fun b hb => (hf b hb).1⟩⟩
    show h'.IsValIter it d (i + 1) kvs.length _
    rw [← hsz]
    exact st'
  done := by
    intro X hP hw hK hc i pins s σ H E I hf st hg
    subst hP hw hK
    obtain ⟨hd, hi⟩ := hg
    obtain ⟨f0, f1, f2, f3, f4, f5⟩ := hf it (by simp)
    obtain ⟨hs, hgd, hx, es', ep', hdt, hsz, ent⟩ := I.frzTv hd
    obtain ⟨rfl, rfl⟩ := dict_ep hod hdt
    rw [← hsz] at st
    exact wpAny_pyNext_values_end_raw (I.ok.hd hc) st ⟨o, hgd, hx, hdt⟩ (by omega) fun h' eb => ⟨rfl, I.turned (t' := s.toks) (fun b ob hb e => eb b ob hb e) f0 f1 f3 f4 f5⟩
  self := fun A i s Q E st h => wpAny_pyIter_valiter st h
theorem turn_itemsT {kvs : List (List Key × V)} {elts : List Expr} {kk : Nat} {tpos : Pos} (it : Addr) (hod : o.data = .dict es ep) :
    Turn P w K (.Tuple elts kk tpos) (ItiT d o kvs) [it] it (fun i h => ∃ ok ov, IsItemIter h it d i kvs.length ep ok ov) where
  mem := by simp
  obj := fun i h st b hb => by
    have e : b = it := by simpa using hb
    subst e
    obtain ⟨ok, ov, e⟩ := st
    exact ⟨_, e, fun v z => nomatch z⟩
  keep := fun i h h' st k => let ⟨ok, ov, e⟩ := st; ⟨ok, ov, k it (by simp) _ e⟩
  item := by
    intro X hP hw hK hc i pins s σ H E I hf st hg
    subst hP hw hK
    obtain ⟨hd, hi⟩ := hg
    obtain ⟨hs, hgd, hx, es', ep', hdt, hsz, ent⟩ := I.frzTv hd
    obtain ⟨rfl, rfl⟩ := dict_ep hod hdt
    obtain ⟨⟨k, v⟩, hkv⟩ : ∃ p, kvs[i]? = some p := ⟨kvs[i], List.getElem?_eq_getElem hi⟩
    obtain ⟨en, q, hen, hkey, hq, rv⟩ := ent i k v hkv
    have hlt2 : i < es'.size := by omega
    have hv : es'[i] = en := by rw [Array.getElem?_eq_getElem hlt2] at hen; exact Option.some.inj hen
    obtain ⟨ok, ov, he⟩ := st
    rw [← hsz] at he
    have hlt : it < s.heap.objs.size := Heap.lt_size he
    refine wpAny_pyNext_items_item_raw he ⟨o, hgd, hx, hdt⟩ hlt2 fun h' ho hT hz hk => ?_
    refine ⟨_, rfl, wpAny_letOwnedTupleGo_items (s := { s with heap := h' }) ho fun h'' he' sb => ?_⟩
    have hT2 : h''.get? s.heap.objs.size = some { cls := .type "tuple", data := .seq #[es'[i].key, es'[i].val] } := (sb.2 _ (Nat.ne_of_gt hlt)).trans hT
    have new : ObjOk X.prog X.w (upd H s.heap.objs.size (.tup [.ref q, v])) h'' s.heap.objs.size (.tup [.ref q, v]) :=
      ⟨by show 2 ≤ sizeLine; decide, [es'[i].key, es'[i].val], .cons (show RelV (.ref q) es'[i].key by rw [hv]; exact hkey) (.cons (by rw [hv]; exact rv) .nil), ⟨_, hT2, rfl, _, rfl⟩⟩
    have I1 : Inv X pins σ (upd H s.heap.objs.size (.tup [.ref q, v])) { s with heap := h'' } :=
      I.turnedNew (t' := s.toks) (ch := [it]) (fun b ob hb e => (sb.2 b (by simpa using hb)).trans (hk b ob (by simpa using hb) e)) hf (Nat.le_refl _) new
    refine ⟨.ref s.heap.objs.size, _, I1, rfl, ⟨_, k, v, q, hkv, rfl, I.hok.fresh (Nat.le_refl _), hq, rfl⟩, ⟨es'[i].key, es'[i].val, ?_⟩, fun b hb => ?_⟩
    · rw [← hsz]; exact he'
    · have e : b = it := by simpa using hb
      rw [e, upd_ne (Nat.ne_of_lt hlt)]
      exact (hf it (by simp)).1
  done := by
    intro X hP hw hK hc i pins s σ H E I hf st hg
    subst hP hw hK
    obtain ⟨hd, hi⟩ := hg
    obtain ⟨f0, f1, f2, f3, f4, f5⟩ := hf it (by simp)
    obtain ⟨hs, hgd, hx, es', ep', hdt, hsz, ent⟩ := I.frzTv hd
    obtain ⟨rfl, rfl⟩ := dict_ep hod hdt
    obtain ⟨ok, ov, he⟩ := st
    rw [← hsz] at he
    exact wpAny_pyNext_items_end_raw (I.ok.hd hc) he ⟨o, hgd, hx, hdt⟩ (by omega) fun h' eb => ⟨rfl, I.turned (t' := s.toks) (fun b ob hb e => eb b ob hb e) f0 f1 f3 f4 f5⟩
  self := fun A i s Q E st h => let ⟨_, _, e⟩ := st; PySem.W.kcp_self e h
end
def iValsT (td : TE) : TI := fun σ H R => td σ H fun x H1 => ∃ d o kvs, x = .ref d ∧ H1 d = some (.frz o (.dT kvs)) ∧ R (ItdT d o kvs) H1
def iItemsT (td : TE) : TI := fun σ H R => td σ H fun x H1 => ∃ d o kvs, x = .ref d ∧ H1 d = some (.frz o (.dT kvs)) ∧ R (ItiT d o kvs) H1
section
variable {X : Cx} {tg e : Expr} {td : TE} {apos cpos : Pos}
theorem pi_valuesT (he : PE X e td) (hbase : attributeBase e "values" X.env (eval e X.env) = eval e X.env := by rfl) (hline : (apos.endLine == cpos.line) = true := by rfl) : PI X tg (.Call (.Attribute e "values" apos) [] [] cpos) (iValsT td) := by
  refine ⟨fun pins s σ H R I h => ?_⟩
  refine wpAny_Call_method (T := "dict") (id := "dict.values") hbase rfl hline F.plainAttrs_dict F.slot_dict_values F.type_dict_values (thn (he.run pins s σ H _ I h) fun u s1 ⟨x, H1, I1, rx, d, o, kvs, ex, hd, q⟩ => ?_)
  subst ex
  obtain rfl : u = Value.ref d := rx
  obtain ⟨hs, hgd, hx, es, ep, hdt, hsz, ent⟩ := I1.frzTv hd
  have raw : s1.heap.DictRaw d es ep := ⟨o, hgd, hx, hdt⟩
  refine ⟨raw.typeIs, fun b q => ?_, ?_⟩
  · cases q
    exact ⟨o, hgd, hx.2.1⟩
  have I2 : Inv X pins σ H1 { s1 with heap := s1.heap.push { cls := .type "dict_values", data := .fields #[.ref d] } } := I1.kept (t' := s1.toks) fun b ob q => Heap.get?_push_of_some _ q
  have fin : wpAny (model X.prog X.w) X.A (pyIter (.ref s1.heap.objs.size)) (PIE X pins σ tg R) X.xe { s1 with heap := s1.heap.push { cls := .type "dict_values", data := .fields #[.ref d] } } := by
    refine wpAny_pyIter_values_raw (d := d) (es := es) (ep := ep) ⟨_, Heap.get?_push_size _ rfl, rfl, rfl⟩ (raw.at fun o e => Heap.get?_push_of_some _ e) (pi_one (tk := s1.toks) I2 _ (turn_valsT _ hdt) ⟨_, Heap.get?_push_size _ rfl, rfl, ?_⟩ q)
    rw [hsz] <;> rfl
  show wpAny _ _ (callWith cpos (.builtin "dict.values") [.ref d] [] []) _ X.xe s1
  exact method_meetsIn F.slot_dict_values F.entry_dict_values rfl (PySem.evalArgs_none ⟨rfl, raw.typeIs, F.args_dict_values_1 _, _, meets_dict_values_raw d hs, ⟨es, ep, raw⟩, fin⟩)
theorem pi_itemsT {elts : List Expr} {kk : Nat} {tpos : Pos} (he : PE X e td) (hbase : attributeBase e "items" X.env (eval e X.env) = eval e X.env := by rfl) (hline : (apos.endLine == cpos.line) = true := by rfl) :
    PI X (.Tuple elts kk tpos) (.Call (.Attribute e "items" apos) [] [] cpos) (iItemsT td) := by
  refine ⟨fun pins s σ H R I h => ?_⟩
  refine wpAny_Call_method (T := "dict") (id := "dict.items") hbase rfl hline F.plainAttrs_dict F.slot_dict_items F.type_dict_items (thn (he.run pins s σ H _ I h) fun u s1 ⟨x, H1, I1, rx, d, o, kvs, ex, hd, q⟩ => ?_)
  subst ex
  obtain rfl : u = Value.ref d := rx
  obtain ⟨hs, hgd, hx, es, ep, hdt, hsz, ent⟩ := I1.frzTv hd
  have raw : s1.heap.DictRaw d es ep := ⟨o, hgd, hx, hdt⟩
  refine ⟨raw.typeIs, fun b q => ?_, ?_⟩
  · cases q
    exact ⟨o, hgd, hx.2.1⟩
  have I2 : Inv X pins σ H1 { s1 with heap := s1.heap.push { cls := .type "dict_items", data := .fields #[.ref d] } } := I1.kept (t' := s1.toks) fun b ob q => Heap.get?_push_of_some _ q
  have fin : wpAny (model X.prog X.w) X.A (pyIter (.ref s1.heap.objs.size)) (PIE X pins σ (.Tuple elts kk tpos) R) X.xe { s1 with heap := s1.heap.push { cls := .type "dict_items", data := .fields #[.ref d] } } := by
    refine wpAny_pyIter_items_raw (d := d) (es := es) (ep := ep) ⟨_, Heap.get?_push_size _ rfl, rfl, rfl⟩ (raw.at fun o e => Heap.get?_push_of_some _ e) (pi_one (tk := s1.toks) I2 _ (turn_itemsT _ hdt) ⟨.none, .none, ?_⟩ q)
    rw [← hsz]
    exact Heap.get?_push_size _ rfl
  show wpAny _ _ (callWith cpos (.builtin "dict.items") [.ref d] [] []) _ X.xe s1
  exact method_meetsIn F.slot_dict_items F.entry_dict_items rfl (PySem.evalArgs_none ⟨rfl, raw.typeIs, F.args_dict_items_1 _, _, meets_dict_items_raw d hs, ⟨es, ep, raw⟩, fin⟩)
end
section
variable {d : Addr} {o : Obj} {kvs : List (List Key × V)}
theorem walk_valuesT : Walk (ItdT d o kvs) kvs.length (fun H => H d = some (.frz o (.dT kvs))) (fun i H x H' => H' = H ∧ ∃ k, kvs[i]? = some (k, x)) :=
  ⟨fun _ _ hi q => ⟨q, hi⟩, fun _ q => ⟨q, Nat.le_refl _⟩, fun _ _ _ _ _ _ y => y⟩
theorem walk_itemsT : Walk (ItiT d o kvs) kvs.length (fun H => H d = some (.frz o (.dT kvs))) (fun i H x H' => ∃ T k v q, kvs[i]? = some (k, v) ∧ x = .ref T ∧ H T = none ∧ H q = some (.tup (k.map kV)) ∧ H' = upd H T (.tup [.ref q, v])) :=
  ⟨fun _ _ hi q => ⟨q, hi⟩, fun _ q => ⟨q, Nat.le_refl _⟩, fun _ _ _ _ _ _ y => y⟩
end
end L2
namespace DT
open PySem PySem.Spec PyProof.Rows L2
section
variable {prog : Program} {w : World} {K : Type} [DecidableEq K] {knd : HeapKind prog w K}
theorem meetsPop1 {d b : Addr} {k : K} (hd : (d == sysModules) = false) :
    MeetsIn prog w (Builtin.«dict.pop» ⟨[.ref d, .ref b], []⟩) (fun A R s => ∃ xs, knd.room A.in1 ∧ knd.is s.heap k b ∧ s.heap.DictOfH knd d xs ∧ xs.length ≤ sizeLine ∧
      ∃ p, atKey xs k = some p ∧ ∀ h' tk, h'.DictOfH knd d (dropH xs k) → Heap.SameBut d s.heap h' → R (.ok (.ret p.2)) { s with heap := h', toks := tk }) :=
  .of_wp fun A R s ⟨xs, hu, hkey, hm, hsz, p0, hp0, hsome⟩ => by
    obtain ⟨o, es, ep, ho, hc, hdat, he, his, hn⟩ := id hm
    have hes : es.size = xs.length := size_of_entries he
    have hpart : (keyPart (Value.ref b)).isSome = false := rfl
    unfold Builtin.«dict.pop»
    refine wpAny_bind ?_
    unfold Builtin.Dict.keyAndDefault
    refine wpAny_bind (wpAny_notOrdered_dict hm.typeIs ?_)
    show wpAny _ _ (pure (d, Value.ref b, none)) _ _ s
    refine wpAny_pure ?_
    simp only [hpart, Bool.false_eq_true, if_false]
    refine wpAny_bind (wpAny_dictEntries ho hdat (wpAny_bind (wpAny_pure ?_)))
    cases hem : es.isEmpty with
    | true =>
      have h0 : xs = [] := by
        have z : es.size = 0 := by simpa using hem
        exact List.length_eq_zero_iff.mp (by omega)
      rw [h0] at hp0
      exact nomatch (show none = some p0 from hp0)
    | false =>
      simp only [Bool.false_eq_true, if_false]
      refine wpAny_bind (takeH hu hkey hm hsz (fun hno => ?_) fun p e hp hev h' hm' hs' => ?_)
      · rw [hno] at hp0
        exact nomatch hp0
      · simp only [Option.isNone_some, Bool.false_eq_true, if_false]
        rw [hp] at hp0
        have e1 := Option.some.inj hp0
        subst e1
        exact wpAny_bind (wpAny_letGo (wpAny_pure ⟨e.val, rfl, by rw [hev]; exact hsome h' _ hm' hs'⟩))
end
end DT
namespace L2
open PySem PySem.Spec PyProof.Rows
section
variable {X : Cx} {o e : Expr} {apos cpos : Pos} {td ty : TE}
/-- d.pop(k), k a tuple that is there -/
def tDPopT (td ty : TE) : TE := fun σ H Q => td σ H fun x H1 => ∃ a, x = .ref a ∧ IsD H1 a ∧ ty σ H1 fun y H2 => ∃ kvs k b v, H2 a = some (.dT kvs) ∧ y = .ref b ∧ H2 b = some (.tup (k.map kV)) ∧ valV kvs k = some v ∧ Q v (upd H2 a (.dT (dropK kvs k)))
theorem pe_popT (hu : X.A.units + 1 < cLine) (ho : PE X o td) (he : PE X e ty) (m : M1 X o "pop" apos e cpos) : PE X (.Call (.Attribute o "pop" apos) [e] [] cpos) (tDPopT td ty) := by
  refine ⟨fun pins s σ H Q I h => ?_⟩
  refine wpAny_Call_method m.base m.few m.line PySem.F.plainAttrs_dict PySem.F.slot_dict_pop PySem.F.type_dict_pop (thn (ho.run pins s σ H _ I h) fun u s1 ⟨x, H1, I1, rx, a, ex, d, q1⟩ => ?_)
  subst ex
  obtain rfl : u = Value.ref a := rx
  obtain ⟨t1, t2, _⟩ := isD_at I1 d
  refine ⟨t1, t2, ?_⟩
  rw [m.trees]
  refine Calls.callWith_builtin rfl (Calls.evalArgs_plain (Calls.spliced_cons (thn (he.run pins s1 σ H1 _ I1 q1) fun iv s2 ⟨y, H2, I2, ry, kvs, k, b, v, ea, ey, eb, l, q2⟩ => Calls.spliced_nil ?_)))
  subst ey
  obtain rfl : iv = Value.ref b := ry
  obtain ⟨z, hd, xs', rel, dd⟩ := dt_of I2.hok ea
  have hz : xs'.length ≤ sizeLine := by rw [← Paired.length rel]; exact z
  have r := rel.val k
  rw [l] at r
  obtain ⟨p, hp, rv⟩ : ∃ p, atKey xs' k = some p ∧ RelV v p.2 := by
    cases ep : atKey xs' k with
    | none => rw [ep] at r; exact (show False from r).elim
    | some p => rw [ep] at r; exact ⟨p, rfl, r⟩
  refine call_meetsIn PySem.F.slot_dict_pop dd.typeIs PySem.F.entry_dict_pop (PySem.F.args_dict_pop_2 _ _) (DT.meetsPop1 (knd := tupleKind (mixKind X.prog X.w)) (k := k) hd)
    ⟨xs', tupleKind_room_in1 hu, key_of I2.hok eb, dd, hz, p, hp, fun h' tk dd' hs => ?_⟩
  obtain ⟨o', es, ep, hq, h2, h3, h4, _, h5⟩ := dd'
  have I3 : Inv X pins σ (upd H2 a (.dT (dropK kvs k))) { s2 with heap := h', toks := tk } :=
    d_write I2 (by rw [ea]; exact True.intro) hs ⟨o', hq⟩ ⟨Nat.le_trans (dropK_le kvs k) z, hd, _, (L2.DX.KT_drop k rel).keeps (fun c ys ec => (by rw [upd_ne (ne_of ec ea (fun z => nomatch z))]; exact ec)), o', es, ep, hq, h2, h3, h4, h5⟩
  exact ⟨v, _, I3, rv, q2⟩
end
end L2
namespace PySem
namespace LowX
open PySem.W PySem.Calls PyProof.Rows PySem.HandSPX
/-! ### the text of __init__ -/
def iA (p1 p2 : Pos) : Arguments := { posonlyargs := [], args := [{ arg := "self", annotation := none, pos := p1 }, { arg := "number", annotation := none, pos := p2 }], vararg := none, kwonlyargs := [], kw_defaults := [], kwarg := none, defaults := [] }
def iB (q1 q2 q3 q4 : Pos) : List Stmt := [.Assign [.Attribute (.Name "self" q1) "number" q2] (.Name "number" q3) q4]
def iS : Scope := { kind := .function, names := [(PySem.Str.ofString "self", .local), (PySem.Str.ofString "number", .local)], isGenerator := false, isCoroutine := false, more := [] }
/-- what the written part says of Low, at C, and of its __init__, at fI -/
structure LowTxt (K : Frag) (mg : Str → Option Value) (C fI : Addr) : Prop where
  gC : mg "Refused" = some (.ref C)
  cls : ∃ nm q N bs bm sn sub ab col dd k0 k1 k2 k3 k5, K.lookup C = some (excClassObj nm q C N bs bm true sn sub ab col dd k0 k1 k2 k3 k5 "ValueError.__new__") ∧ refsVE bm = true
  sa : findIn K (.ref C) "__setattr__" = some (some (.builtin "object.__setattr__"))
  ga : findIn K (.ref C) "__getattribute__" = some (some (.builtin "BaseException.__getattribute__"))
  gg : findIn K (.ref C) "__getattr__" = some none
  noN : findIn K (.ref C) "number" = some none
  iC : findIn K (.ref C) "__init__" = some (some (.ref fI))
  tC : typeIn K (.ref fI) = some (.type "function")
  kC : keepIn K (.ref C) = true
  exC : subIn K (.ref C) (.type "BaseException") = some true
  tyC : typeIn K (.ref C) = some (.type "type")
  hdC : hasDictIn K C = true
  te : exmOne K (.ref C) (.ref C) = some true
  fn : ∃ (oc : Value) (od : Option Addr) (doc pm : Value) (an : Option Addr) (cdv ct : Value) (osl : Array (Option Value)) (p1 p2 q1 q2 q3 q4 : Pos),
    K.lookup fI = some ⟨oc, od, .func (fnOf "__init__" "Refused.__init__" (iA p1 p2) (iB q1 q2 q3 q4) iS .none .none doc pm an cdv ct), osl⟩ ∧ codeIn K cdv "Refused.__init__" = true
theorem one_size (v : Value) : [v].length ≤ sizeLine := by
  rw [sizeLine_eq]
  exact (by decide : 1 ≤ 16777216)
theorem kept_but {K : Frag} {h h' : Heap} {x : Addr} (X : K.In h) (hx : K.lookup x = none) (k : ∀ b o, b ≠ x → h.get? b = some o → h'.get? b = some o) : K.In h' := fun a o e =>
  k a o (fun z => by rw [z, hx] at e; cases e) (X a o e)
theorem ldC {M : Model} {s : Shared} {name : Str} {scope : Scope} {L a : Addr} {cd : Value} {m : Str → Option Value} {x : Str} {pos : Pos} {v : Value} {Q : Value → Shared → Prop} {A : Around} {E : Value → Shared → Prop} (hn : s.heap.Ns L m) (hv : m x = some v) (h : Q v s)
    (hk : scope.kind = .function := by rfl) (hl : (envOfC name scope L a cd).kindOf x = some .local := by rfl) (hd : (x == ("__debug__" : Str)) = false := by decide) :
    wpAny M A (eval (.Name x pos) (envOfC name scope L a cd)) Q E s := wpAny_Name (wpAny_loadName_local hk hl hn hv h) hd
/-- what __init__ leaves of a fresh exception at x -/
structure InitEnd (h h' : Heap) (x C dx t1 : Addr) (v : Value) : Prop where
  keep : ∀ b o, b ≠ x → h.get? b = some o → h'.get? b = some o
  obj : h'.get? x = some { cls := .ref C, dict := some dx, data := .fields #[.ref t1, .none, .none, .none, .bool false, .none] }
  dbig : h.objs.size ≤ dx
  dne : dx ≠ x
  ns : h'.Ns1 dx (fun y => if y = "number" then some v else none)
/-- a made Low -/
structure OwnMade (h h' : Heap) (e C d : Addr) (v : Value) : Prop where
  keep : ∀ b o, h.get? b = some o → h'.get? b = some o
  new : h.objs.size ≤ e
  obj : ∃ oe vs, h'.get? e = some oe ∧ oe.cls = .ref C ∧ oe.dict = some d ∧ oe.data = .fields vs ∧ vs[1]? = some .none
  dbig : h.objs.size ≤ d
  dne : d ≠ e
  ns : h'.Ns1 d (fun y => if y = "number" then some v else none)
section
variable {prog : Program} {w : World} {A : Around} {E : Value → Shared → Prop} {R : Result → Shared → Prop} {s : Shared} {K : Frag} {mg : Str → Option Value} {C fI : Addr}
theorem low_init (T : LowTxt K mg C fI) {x t0 : Addr} {v : Value} (X : K.In s.heap) (hlim : s.heap.NoLimit) (hx : s.heap.get? x = some (excO C t0)) (hnx : K.lookup x = none) (hroom : A.depth < recursionLimit)
    (hq : ∀ h' tk dx, InitEnd s.heap h' x C dx t0 v → R (.ok (.ret .none)) { s with heap := h', toks := tk }) :
    codeAny (model prog w) A (.call (.ref fI) ⟨[.ref x, v], []⟩) R s := by
  obtain ⟨oc, od, doc, pm, an, cdv, ct, osl, p1, p2, q1, q2, q3, q4, ho, hcd⟩ := T.fn
  obtain ⟨nm, q, N, bs, bm, sn, sub, ab, col, dd, k0, k1, k2, k3, k5, hC, hbm⟩ := T.cls
  have hcl : clsIn K C = some { name := nm, bases := bs, mro := .ref C :: bm, ns := N, qualname := q, hasDict := true, slotNames := sn, subclasses := sub, abstract := ab, collection := col, hasDel := false } := by unfold clsIn; rw [hC] <;> rfl
  refine Att.call_fn (binds := [("self", .ref x), ("number", v)]) X hlim ho hcd hroom (BindsTo.of_eq (by first | rfl | with_unfolding_all rfl)) (by first | rfl | decide | with_unfolding_all rfl) (fun s₁ IC => ?_) rfl rfl rfl
  obtain ⟨h₁, tk₁, rfl⟩ := IC.toInCall.same
  have k : ∀ b o, s.heap.get? b = some o → h₁.get? b = some o := IC.toInCall.keep
  have hn := IC.toInCall.ns
  have hxL : s.heap.objs.size ≠ x := Nat.ne_of_gt (Heap.lt_size hx)
  have X₁ : K.In h₁ := X.keeps k
  have hx₁ := k _ _ hx
  -- self.by = by
  show wpAny _ _ (execs _ _) _ _ _
  refine wpAny_execs_cons (plainObj_wpAny_Assign_Attribute ?_)
  refine ldC (v := v) hn (by first | rfl | with_unfolding_all rfl | kernel_rfl) (ldC (v := .ref x) hn (by first | rfl | with_unfolding_all rfl | kernel_rfl) ?_)
  refine set_plain X₁ (ox := excO C t0) (od := none) ⟨hx₁, rfl, rfl, trivial⟩ T.sa ?_
  refine exc_osa X₁ hx₁ hcl (show refsVE (.ref C :: bm) = true from hbm) rfl T.noN (fun h₃ tk₃ dx k₃ dn dne hx₃ hn₃ => ?_)
  show wpAny _ _ (execs _ _) _ _ _
  have z : s.heap.objs.size < h₁.objs.size := hn.lt
  exact wpAny_execs_nil (hq h₃ tk₃ dx ⟨fun b o hb e => k₃ b o hb (k b o e), hx₃, Nat.le_of_lt (Nat.lt_of_lt_of_le z dn), dne, hn₃⟩)
theorem low_made (T : LowTxt K mg C fI) {v : Value} (X : K.In s.heap) (hlim : s.heap.NoLimit) (hroom : A.depth + 1 < recursionLimit)
    (hq : ∀ h' tk e d, OwnMade s.heap h' e C d v → R (.ok (.ret (.ref e))) { s with heap := h', toks := tk }) :
    codeAny (model prog w) A (.call (.ref C) ⟨[v], []⟩) R s := by
  obtain ⟨nm, q, N, bs, bm, sn, sub, ab, col, dd, k0, k1, k2, k3, k5, hC, hbm⟩ := T.cls
  obtain ⟨hp, g, dr, tk, os⟩ := s
  have k : ∀ b o, hp.get? b = some o → ((hp.push (kdv_tup [v])).push (excO C hp.objs.size)).get? b = some o := fun b o e => Heap.get?_push_of_some _ (Heap.get?_push_of_some _ e)
  have hget : ((hp.push (kdv_tup [v])).push (excO C hp.objs.size)).get? (hp.objs.size + 1) = some (excO C hp.objs.size) := by heap_get
  have hnx : K.lookup (hp.objs.size + 1) = none := by
    cases e : K.lookup (hp.objs.size + 1) with
    | none => rfl
    | some o =>
      have z : hp.get? (hp.objs.size + 1) = some o := X _ _ e
      exact absurd (Nat.lt_of_succ_lt (Heap.lt_size z)) (Nat.lt_irrefl _)
  refine call_own F.excBase_ValueError (fun X => refsVE_contains X bm hbm) (X _ _ hC) (looks_findIn X T.iC) (fun self => bind_fn X self T.tC) (one_size v) ?_
  refine low_init (s := ⟨(hp.push (kdv_tup [v])).push (excO C hp.objs.size), g, dr, tk, os⟩) T (X.keeps k) (hlim.keeps k) hget hnx ?_ fun h' tk' dx ⟨k', hx, dn, dne, hns⟩ => ?_
  · show A.depth + 1 < recursionLimit
    exact hroom
  · have old : ∀ b o, hp.get? b = some o → h'.get? b = some o := fun b o e => k' b o (Nat.ne_of_lt (Nat.lt_succ_of_lt (Heap.lt_size e))) (k b o e)
    have z : hp.objs.size + 1 + 1 ≤ dx := by
      first
        | (simpa only [Heap.size_push] using dn)
        | exact dn
        | (have q := dn; rw [Heap.size_push, Heap.size_push] at q; exact q)
    exact ⟨rfl, hq h' tk' (hp.objs.size + 1) dx ⟨old, Nat.le_succ _, ⟨_, _, hx, rfl, rfl, rfl, rfl⟩, Nat.le_trans (Nat.le_trans (Nat.le_succ _) (Nat.le_succ _)) z, dne, hns⟩⟩
end
end LowX
end PySem
namespace L2
open PySem PySem.Spec PyProof.Rows
theorem relO_low {v : V} {v' : Value} (r : RelV v v') (f : Str) : RelO (List.lookup f [(("number" : Str), v)]) (if f = "number" then some v' else none) := by
  by_cases hw : f = "number"
  · subst hw
    rw [if_pos rfl]
    have q : List.lookup ("number" : Str) [(("number" : Str), v)] = some v := by simp [List.lookup]
    rw [q]
    exact r
  · rw [if_neg hw]
    have qw : (f == ("number" : Str)) = false := by simpa using hw
    have q2 : List.lookup f [(("number" : Str), v)] = none := by simp [List.lookup, qw]
    rw [q2]
    trivial
section
variable {X : Cx} {C fI : Addr}
/-- Low(e) -/
def tMkLow (C : Addr) (ta : TA) : St → Hp → XK → Prop := fun σ H Q => ta σ H fun vs H1 => ∃ v, vs = [v] ∧ ∀ d, H1 d = none → Q (.ref C) (some d) (upd H1 d (.xd [(("number" : Str), v)]))
theorem pmk_low {a : Expr} {ta : TA} {p pos : Pos} {k : Nat} (T : PySem.LowX.LowTxt X.K X.mg C fI) (hr : Room k X.A) (ha : PA X [a] ta) (hg : Gl X "Refused" := by rfl)
    (he : starEach (a :: []) X.env = (false, eval a X.env) :: starEach [] X.env := by rfl) (hpl : (backTo pos (starEach [] X.env)).any (·.1) = false := by rfl) :
    PMk X (.Call (.Name "Refused" p) [a] [] pos) (tMkLow C ta) := by
  intro pins s σ H Q I h
  refine wpAny_Call_Name_kw (ld_glob I hg T.gC ?_)
  refine PySem.W.callWith_K (h₀ := X.base) I.ok.mod.kin T.kC (thn (ha.run pos pins s σ H _ I h) fun us s1 hh => ?_) he hpl
  obtain ⟨vs, H1, I1, r1, v, ev, q1⟩ := hh
  subst ev
  refine ⟨I1.kIn, ?_⟩
  cases r1 with
  | cons rv rn =>
    rename_i v' us'
    cases rn
    show wpAny _ _ (call (.ref C) [v']) _ _ _
    have hlim := I1.nolimit
    obtain ⟨hp, g, dr, tk, os⟩ := s1
    refine wpAny_call (PySem.LowX.low_made T I1.kIn hlim (by have := hr.dp; omega) fun h' tk' e d M => ?_)
    show MkP X pins σ Q (.ref e) ⟨h', g, dr, tk', os⟩
    obtain ⟨oe, fv, hoe, hc, hd, hdat, h1⟩ := M.obj
    have hns := M.ns
    obtain ⟨G', g1, g2⟩ := restrict h' fun b => decide (b ≠ e)
    have gk : ∀ b, b ≠ e → G'.get? b = h'.get? b := fun b hb => g1 b (decide_eq_true hb)
    have ge : G'.get? e = none := g2 e (by simp)
    have old : ∀ b o, hp.get? b = some o → G'.get? b = some o := fun b o q => (gk b (Nat.ne_of_lt (Nat.lt_of_lt_of_le (Heap.lt_size q) M.new))).trans (M.keep b o q)
    have ob : ObjOk X.prog X.w (upd H1 d (.xd [(("number" : Str), v)])) G' d (.xd [(("number" : Str), v)]) :=
      ⟨_, hns.at (fun o q => (gk d M.dne).trans q), fun f => relO_low rv f⟩
    have J : Inv X pins σ (upd H1 d (.xd [(("number" : Str), v)])) ⟨G', g, dr, tk', os⟩ := I1.laid (t' := tk') old M.dbig ob
    refine ⟨e, oe, fv, ⟨G', g, dr, tk', os⟩, _, .ref C, some d, rfl, J, fun b o q => ?_, ge, hoe, ⟨hc, hd⟩, hdat, h1, ?_, rfl, I1.bare, raises_own T.exC T.tyC, q1 d (I1.hok.fresh M.dbig)⟩
    · by_cases hb : b = e
      · have q' : G'.get? b = some o := q
        rw [hb, ge] at q'; cases q'
      · exact (gk b hb).symm.trans q
    · rw [upd_ne (Ne.symm M.dne)]
      exact I1.hok.fresh M.new
/-- raise Low(e) -/
def tRaiseLow (C : Addr) (W : WX) (ta : TA) : TS := fun _ σ H => tMkLow C ta σ H fun cls d H' => W cls d σ H'
theorem ps_raiseLow {a : Expr} {ta : TA} {W : WX} {p pos pos2 : Pos} {k : Nat} (hc : X.calm = true) (T : PySem.LowX.LowTxt X.K X.mg C fI) (hr : Room k X.A) (tk : Takes X W) (ha : PA X [a] ta) (hg : Gl X "Refused" := by rfl)
    (he : starEach (a :: []) X.env = (false, eval a X.env) :: starEach [] X.env := by rfl) (hpl : (backTo pos (starEach [] X.env)).any (·.1) = false := by rfl) :
    PS X (.Raise (some (.Call (.Name "Refused" p) [a] [] pos)) none pos2) (tRaiseLow C W ta) := ps_raise hc tk (pmk_low T hr ha hg he hpl)
/-- low.by, low the exception that the suite holds (at a; its class cls, its dict d) -/
def tByLow (C : Addr) (a : Addr) (cls : Value) (d : Option Addr) (te : TE) : TE := fun σ H Q => te σ H fun x H1 => x = .ref a ∧ cls = .ref C ∧ ∃ (dd : Addr) (v : V), d = some dd ∧ H1 dd = some (.xd [(("number" : Str), v)]) ∧ Q v H1
theorem pe_byLow {a : Addr} {oe : Obj} {cls : Value} {d : Option Addr} {pn : List (Addr × Obj)} {e : Expr} {te : TE} {pos : Pos} (T : PySem.LowX.LowTxt X.K X.mg C fI) (hz : Zc cls d oe) (hf : ∃ vs, oe.data = .fields vs) (he : PE (X.suite a ((a, oe) :: pn)) e te)
    (hb : attributeBase e "number" X.env (eval e X.env) = eval e X.env := by rfl) :
    PE (X.suite a ((a, oe) :: pn)) (.Attribute e "number" pos) (tByLow C a cls d te) := by
  refine ⟨fun pins s σ H Q I h => ?_⟩
  refine attr_of hb (thn (he.run pins s σ H _ I h) fun u s1 hh => ?_)
  obtain ⟨x, H1, I1, rx, ex, ec, dd, v, ed, ea, q⟩ := hh
  subst ex
  obtain rfl : u = Value.ref a := rx
  subst ec
  subst ed
  obtain ⟨ha, _⟩ := I1.pin (a, oe) (List.mem_append_left _ List.mem_cons_self)
  obtain ⟨vs, hd⟩ := hf
  have hx : ObjOk X.prog X.w H1 s1.heap dd (.xd [(("number" : Str), v)]) := I1.hok dd _ ea
  obtain ⟨mA, hns, hr⟩ := hx
  obtain ⟨od, ho, hl⟩ := lookIn_ns hns
  have l : List.lookup ("number" : Str) [(("number" : Str), v)] = some v := by simp [List.lookup]
  obtain ⟨u, hu, ru⟩ := RelO.some_of (v := v) (o := mA "number") (by rw [← l]; exact hr "number")
  have J : PySem.W.InstAt s1.heap a oe C (some od) := ⟨ha, hz.1, by unfold PySem.W.notCls; rw [hd] <;> rfl, by rw [hz.2]; exact ho⟩
  exact HandSPX.exc_get I1.kIn J T.ga T.gg T.exC (PySem.W.findObj_own T.hdC T.noN rfl (by rw [hl, hu])) (handed_of ru) ⟨v, H1, I1.tok _, ru, q⟩
end
end L2
namespace L2
open PySem PySem.Spec PyProof.Rows
theorem if_true_of {c : Bool} {A B : Prop} (hc : c = true) (h : A) : if c = true then A else B := by
  rw [if_pos hc]
  exact h
theorem if_false_of {c : Bool} {A B : Prop} (hc : c = false) (h : B) : if c = true then A else B := by
  rw [hc, if_neg Bool.false_ne_true]
  exact h
theorem exm_self {K : PySem.W.Frag} {S : Addr} (h1 : PySem.W.subIn K (.ref S) (.type "BaseException") = some true) (h2 : PySem.W.isClsIn K S = true) (h3 : PySem.W.typeIn K (.ref S) = some (.type "type")) (h4 : PySem.W.subIn K (.ref S) (.ref S) = some true) :
    PySem.W.exmOne K (.ref S) (.ref S) = some true := by
  have e1 : (PySem.W.subIn K (.ref S) (.type "BaseException") == some true) = true := by rw [h1] <;> rfl
  have e2 : ((PySem.W.clsIn K S).isSome && PySem.W.typeIn K (.ref S) == some (.type "type")) = true := by
    have h2' : (PySem.W.clsIn K S).isSome = true := h2
    rw [h2', h3] <;> rfl
  show (if (PySem.W.subIn K (.ref S) (.type "BaseException") == some true) = true then (if ((PySem.W.clsIn K S).isSome && PySem.W.typeIn K (.ref S) == some (.type "type")) = true then PySem.W.subIn K (.ref S) (.ref S) else none) else none) = some true
  rw [if_pos e1, if_pos e2]
  exact h4
end L2
namespace Nr
open PySem PySem.Spec PyProof.Rows L2
/-- the i-th statement of the program -/
def top (i : Nat) : Stmt := PySem.Challenge.pw_nearroutes_s01_answers.main.body.getD i (.Pass ⟨0, 0, 0, 0⟩)
abbrev s_Told_init : Stmt := inClass (top 7) 0
abbrev s_network_of : Stmt := top 8
abbrev s_bytes_of : Stmt := top 9
abbrev s_number_at : Stmt := top 10
abbrev s_message_of : Stmt := top 11
abbrev s_read_one : Stmt := top 12
abbrev s_read_message : Stmt := top 13
abbrev s_Route_init : Stmt := inClass (top 19) 0
abbrev s_Route_is_in_reach : Stmt := inClass (top 19) 1
abbrev s_Route_sight : Stmt := inClass (top 19) 2
abbrev s_Table_init : Stmt := inClass (top 20) 0
abbrev s_Table_in_order : Stmt := inClass (top 20) 1
abbrev s_Table_sights : Stmt := inClass (top 20) 2
abbrev s_lose : Stmt := top 21
abbrev s_offer : Stmt := top 22
abbrev s_offer_again : Stmt := top 23
abbrev s_forget : Stmt := top 24
abbrev s_way_to : Stmt := top 25
abbrev s_other_ones : Stmt := top 26
abbrev s_Link_init : Stmt := inClass (top 31) 0
abbrev s_Link_network : Stmt := inClass (top 31) 1
abbrev s_Machine_init : Stmt := inClass (top 32) 0
abbrev s_has_network : Stmt := top 33
abbrev s_can_come_up : Stmt := top 34
abbrev s_come_up : Stmt := top 35
abbrev s_go_down : Stmt := top 36
abbrev s_told_on : Stmt := top 37
abbrev s_tell : Stmt := top 38
abbrev s_changed_networks : Stmt := top 39
abbrev s_tick : Stmt := top 40
abbrev s_due : Stmt := top 41
abbrev s_Refused_init : Stmt := inClass (top 53) 0
abbrev s_Box_init : Stmt := inClass (top 54) 0
abbrev s_Tape_init : Stmt := inClass (top 55) 0
abbrev s_Tape_is_done : Stmt := inClass (top 55) 1
abbrev s_Tape_take_many : Stmt := inClass (top 55) 2
abbrev s_Tape_take_row : Stmt := inClass (top 55) 3
abbrev s_ask : Stmt := top 56
abbrev s_is_address : Stmt := top 57
abbrev s_do_begin : Stmt := top 58
abbrev s_do_link : Stmt := top 59
abbrev s_do_down : Stmt := top 60
abbrev s_do_hear : Stmt := top 61
abbrev s_do_tick : Stmt := top 62
abbrev s_do_way : Stmt := top 63
abbrev s_do_routes : Stmt := top 64
abbrev s_do_call : Stmt := top 65
abbrev s_answer : Stmt := top 66
abbrev s_answers : Stmt := top 67
theorem sc_Told_init : FnScope ["self", "address", "bits", "far"] ["self", "address", "bits", "far"] (defScope s_Told_init) := ⟨rfl, rfl, rfl, by decide +kernel, rfl, by decide +kernel, by decide +kernel⟩
theorem sc_network_of : FnScope ["address", "bits", "lower"] ["address", "bits"] (defScope s_network_of) := ⟨rfl, rfl, rfl, by decide +kernel, rfl, by decide +kernel, by decide +kernel⟩
theorem sc_bytes_of : FnScope ["number", "many", "k"] ["number", "many"] (defScope s_bytes_of) := ⟨rfl, rfl, rfl, by decide +kernel, rfl, by decide +kernel, by decide +kernel⟩
theorem sc_number_at : FnScope ["row", "at", "many", "found", "k"] ["row", "at", "many"] (defScope s_number_at) := ⟨rfl, rfl, rfl, by decide +kernel, rfl, by decide +kernel, by decide +kernel⟩
theorem sc_message_of : FnScope ["told", "found", "one"] ["told"] (defScope s_message_of) := ⟨rfl, rfl, rfl, by decide +kernel, rfl, by decide +kernel, by decide +kernel⟩
theorem sc_read_one : FnScope ["row", "at", "found"] ["row", "at"] (defScope s_read_one) := ⟨rfl, rfl, rfl, by decide +kernel, rfl, by decide +kernel, by decide +kernel⟩
theorem sc_read_message : FnScope ["row", "many", "found", "k"] ["row"] (defScope s_read_message) := ⟨rfl, rfl, rfl, by decide +kernel, rfl, by decide +kernel, by decide +kernel⟩
theorem sc_Route_init : FnScope ["self", "far", "link", "neighbour", "good"] ["self", "far", "link", "neighbour", "good"] (defScope s_Route_init) := ⟨rfl, rfl, rfl, by decide +kernel, rfl, by decide +kernel, by decide +kernel⟩
theorem sc_Route_is_in_reach : FnScope ["self"] ["self"] (defScope s_Route_is_in_reach) := ⟨rfl, rfl, rfl, by decide +kernel, rfl, by decide +kernel, by decide +kernel⟩
theorem sc_Route_sight : FnScope ["self"] ["self"] (defScope s_Route_sight) := ⟨rfl, rfl, rfl, by decide +kernel, rfl, by decide +kernel, by decide +kernel⟩
theorem sc_Table_init : FnScope ["self"] ["self"] (defScope s_Table_init) := ⟨rfl, rfl, rfl, by decide +kernel, rfl, by decide +kernel, by decide +kernel⟩
theorem sc_Table_in_order : FnScope ["self"] ["self"] (defScope s_Table_in_order) := ⟨rfl, rfl, rfl, by decide +kernel, rfl, by decide +kernel, by decide +kernel⟩
theorem sc_Table_sights : FnScope ["self", "found", "network", "route"] ["self"] (defScope s_Table_sights) := ⟨rfl, rfl, rfl, by decide +kernel, rfl, by decide +kernel, by decide +kernel⟩
theorem sc_lose : FnScope ["route", "now"] ["route", "now"] (defScope s_lose) := ⟨rfl, rfl, rfl, by decide +kernel, rfl, by decide +kernel, by decide +kernel⟩
theorem sc_offer : FnScope ["table", "now", "link", "neighbour", "told", "network", "new", "route"] ["table", "now", "link", "neighbour", "told"] (defScope s_offer) := ⟨rfl, rfl, rfl, by decide +kernel, rfl, by decide +kernel, by decide +kernel⟩
theorem sc_offer_again : FnScope ["table", "now", "network", "new", "route"] ["table", "now", "network", "new"] (defScope s_offer_again) := ⟨rfl, rfl, rfl, by decide +kernel, rfl, by decide +kernel, by decide +kernel⟩
theorem sc_forget : FnScope ["table", "now", "network", "route"] ["table", "now"] (defScope s_forget) := ⟨rfl, rfl, rfl, by decide +kernel, rfl, by decide +kernel, by decide +kernel⟩
theorem sc_way_to : FnScope ["table", "address", "found", "most", "network", "route"] ["table", "address"] (defScope s_way_to) := ⟨rfl, rfl, rfl, by decide +kernel, rfl, by decide +kernel, by decide +kernel⟩
theorem sc_other_ones : FnScope ["before", "behind", "network", "sight"] ["before", "behind"] (defScope s_other_ones) := ⟨rfl, rfl, rfl, by decide +kernel, rfl, by decide +kernel, by decide +kernel⟩
theorem sc_Link_init : FnScope ["self", "address", "bits"] ["self", "address", "bits"] (defScope s_Link_init) := ⟨rfl, rfl, rfl, by decide +kernel, rfl, by decide +kernel, by decide +kernel⟩
theorem sc_Link_network : FnScope ["self"] ["self"] (defScope s_Link_network) := ⟨rfl, rfl, rfl, by decide +kernel, rfl, by decide +kernel, by decide +kernel⟩
theorem sc_Machine_init : FnScope ["self", "now", "k"] ["self", "now"] (defScope s_Machine_init) := ⟨rfl, rfl, rfl, by decide +kernel, rfl, by decide +kernel, by decide +kernel⟩
theorem sc_has_network : FnScope ["machine", "network", "link"] ["machine", "network"] (defScope s_has_network) := ⟨rfl, rfl, rfl, by decide +kernel, rfl, by decide +kernel, by decide +kernel⟩
theorem sc_can_come_up : FnScope ["machine", "network"] ["machine", "network"] (defScope s_can_come_up) := ⟨rfl, rfl, rfl, by decide +kernel, rfl, by decide +kernel, by decide +kernel⟩
theorem sc_come_up : FnScope ["machine", "i", "link", "routes"] ["machine", "i", "link"] (defScope s_come_up) := ⟨rfl, rfl, rfl, by decide +kernel, rfl, by decide +kernel, by decide +kernel⟩
theorem sc_go_down : FnScope ["machine", "i", "route"] ["machine", "i"] (defScope s_go_down) := ⟨rfl, rfl, rfl, by decide +kernel, rfl, by decide +kernel, by decide +kernel⟩
theorem sc_told_on : FnScope ["machine", "i", "network", "route", "far"] ["machine", "i", "network"] (defScope s_told_on) := ⟨rfl, rfl, rfl, by decide +kernel, rfl, by decide +kernel, by decide +kernel⟩
theorem sc_tell : FnScope ["machine", "networks", "found", "i", "link", "at", "told", "network"] ["machine", "networks"] (defScope s_tell) := ⟨rfl, rfl, rfl, by decide +kernel, rfl, by decide +kernel, by decide +kernel⟩
theorem sc_changed_networks : FnScope ["machine", "network"] ["machine"] (defScope s_changed_networks) := ⟨rfl, rfl, rfl, by decide +kernel, rfl, by decide +kernel, by decide +kernel⟩
theorem sc_tick : FnScope ["machine", "now", "changed", "found", "route"] ["machine", "now"] (defScope s_tick) := ⟨rfl, rfl, rfl, by decide +kernel, rfl, by decide +kernel, by decide +kernel⟩
theorem sc_due : FnScope ["machine", "found", "route"] ["machine"] (defScope s_due) := ⟨rfl, rfl, rfl, by decide +kernel, rfl, by decide +kernel, by decide +kernel⟩
theorem sc_Box_init : FnScope ["self"] ["self"] (defScope s_Box_init) := ⟨rfl, rfl, rfl, by decide +kernel, rfl, by decide +kernel, by decide +kernel⟩
theorem sc_Tape_init : FnScope ["self", "numbers"] ["self", "numbers"] (defScope s_Tape_init) := ⟨rfl, rfl, rfl, by decide +kernel, rfl, by decide +kernel, by decide +kernel⟩
theorem sc_Tape_is_done : FnScope ["self"] ["self"] (defScope s_Tape_is_done) := ⟨rfl, rfl, rfl, by decide +kernel, rfl, by decide +kernel, by decide +kernel⟩
theorem sc_Tape_take_many : FnScope ["self", "many"] ["self", "many"] (defScope s_Tape_take_many) := ⟨rfl, rfl, rfl, by decide +kernel, rfl, by decide +kernel, by decide +kernel⟩
theorem sc_Tape_take_row : FnScope ["self"] ["self"] (defScope s_Tape_take_row) := ⟨rfl, rfl, rfl, by decide +kernel, rfl, by decide +kernel, by decide +kernel⟩
theorem sc_ask : FnScope ["is_good", "number"] ["is_good", "number"] (defScope s_ask) := ⟨rfl, rfl, rfl, by decide +kernel, rfl, by decide +kernel, by decide +kernel⟩
theorem sc_is_address : FnScope ["number"] ["number"] (defScope s_is_address) := ⟨rfl, rfl, rfl, by decide +kernel, rfl, by decide +kernel, by decide +kernel⟩
theorem sc_do_begin : FnScope ["box", "now"] ["box", "now"] (defScope s_do_begin) := ⟨rfl, rfl, rfl, by decide +kernel, rfl, by decide +kernel, by decide +kernel⟩
theorem sc_do_link : FnScope ["machine", "i", "address", "bits", "link"] ["machine", "i", "address", "bits"] (defScope s_do_link) := ⟨rfl, rfl, rfl, by decide +kernel, rfl, by decide +kernel, by decide +kernel⟩
theorem sc_do_down : FnScope ["machine", "i"] ["machine", "i"] (defScope s_do_down) := ⟨rfl, rfl, rfl, by decide +kernel, rfl, by decide +kernel, by decide +kernel⟩
theorem sc_do_hear : FnScope ["machine", "i", "neighbour", "row", "link", "message", "before", "told"] ["machine", "i", "neighbour", "row"] (defScope s_do_hear) := ⟨rfl, rfl, rfl, by decide +kernel, rfl, by decide +kernel, by decide +kernel⟩
theorem sc_do_tick : FnScope ["machine", "now", "sent", "found", "i", "row"] ["machine", "now"] (defScope s_do_tick) := ⟨rfl, rfl, rfl, by decide +kernel, rfl, by decide +kernel, by decide +kernel⟩
theorem sc_do_way : FnScope ["machine", "address", "route", "neighbour"] ["machine", "address"] (defScope s_do_way) := ⟨rfl, rfl, rfl, by decide +kernel, rfl, by decide +kernel, by decide +kernel⟩
theorem sc_do_routes : FnScope ["machine", "networks", "found", "network", "route"] ["machine"] (defScope s_do_routes) := ⟨rfl, rfl, rfl, by decide +kernel, rfl, by decide +kernel, by decide +kernel⟩
theorem sc_do_call : FnScope ["machine", "call", "numbers", "row"] ["machine", "call", "numbers", "row"] (defScope s_do_call) := ⟨rfl, rfl, rfl, by decide +kernel, rfl, by decide +kernel, by decide +kernel⟩
theorem sc_answer : FnScope ["box", "tape", "call", "numbers", "row", "found", "refused"] ["box", "tape"] (defScope s_answer) := ⟨rfl, rfl, rfl, by decide +kernel, rfl, by decide +kernel, by decide +kernel⟩
theorem sc_answers : FnScope ["calls", "box", "tape", "found", "told"] ["calls"] (defScope s_answers) := ⟨rfl, rfl, rfl, by decide +kernel, rfl, by decide +kernel, by decide +kernel⟩
/-- where the top has put its classes and defs -/
structure Ad where
  c_Told : Addr
  c_Route : Addr
  c_Table : Addr
  c_Link : Addr
  c_Machine : Addr
  c_Refused : Addr
  c_Box : Addr
  c_Tape : Addr
  f_Told_init : Addr
  d_Told_init : FuncData
  f_network_of : Addr
  d_network_of : FuncData
  f_bytes_of : Addr
  d_bytes_of : FuncData
  f_number_at : Addr
  d_number_at : FuncData
  f_message_of : Addr
  d_message_of : FuncData
  f_read_one : Addr
  d_read_one : FuncData
  f_read_message : Addr
  d_read_message : FuncData
  f_Route_init : Addr
  d_Route_init : FuncData
  f_Route_is_in_reach : Addr
  d_Route_is_in_reach : FuncData
  f_Route_sight : Addr
  d_Route_sight : FuncData
  f_Table_init : Addr
  d_Table_init : FuncData
  f_Table_in_order : Addr
  d_Table_in_order : FuncData
  f_Table_sights : Addr
  d_Table_sights : FuncData
  f_lose : Addr
  d_lose : FuncData
  f_offer : Addr
  d_offer : FuncData
  f_offer_again : Addr
  d_offer_again : FuncData
  f_forget : Addr
  d_forget : FuncData
  f_way_to : Addr
  d_way_to : FuncData
  f_other_ones : Addr
  d_other_ones : FuncData
  f_Link_init : Addr
  d_Link_init : FuncData
  f_Link_network : Addr
  d_Link_network : FuncData
  f_Machine_init : Addr
  d_Machine_init : FuncData
  f_has_network : Addr
  d_has_network : FuncData
  f_can_come_up : Addr
  d_can_come_up : FuncData
  f_come_up : Addr
  d_come_up : FuncData
  f_go_down : Addr
  d_go_down : FuncData
  f_told_on : Addr
  d_told_on : FuncData
  f_tell : Addr
  d_tell : FuncData
  f_changed_networks : Addr
  d_changed_networks : FuncData
  f_tick : Addr
  d_tick : FuncData
  f_due : Addr
  d_due : FuncData
  f_Refused_init : Addr
  f_Box_init : Addr
  d_Box_init : FuncData
  f_Tape_init : Addr
  d_Tape_init : FuncData
  f_Tape_is_done : Addr
  d_Tape_is_done : FuncData
  f_Tape_take_many : Addr
  d_Tape_take_many : FuncData
  f_Tape_take_row : Addr
  d_Tape_take_row : FuncData
  f_ask : Addr
  d_ask : FuncData
  f_is_address : Addr
  d_is_address : FuncData
  f_do_begin : Addr
  d_do_begin : FuncData
  f_do_link : Addr
  d_do_link : FuncData
  f_do_down : Addr
  d_do_down : FuncData
  f_do_hear : Addr
  d_do_hear : FuncData
  f_do_tick : Addr
  d_do_tick : FuncData
  f_do_way : Addr
  d_do_way : FuncData
  f_do_routes : Addr
  d_do_routes : FuncData
  f_do_call : Addr
  d_do_call : FuncData
  f_answer : Addr
  d_answer : FuncData
  f_answers : Addr
  d_answers : FuncData
  x_SIZES : Addr
  t_ADDRESS_BITS : Tok
  t_MOST_ADDRESS : Tok
  t_MOST_TOLD : Tok
  t_HEAD : Tok
  t_EACH : Tok
  t_OUT_OF_REACH : Tok
  t_MOST_ROUTES : Tok
  t_GOOD_FOR : Tok
  t_MISTRUSTED : Tok
  t_KEPT : Tok
  t_LINKS : Tok
  t_ALL_EACH : Tok
  t_CHANGES_EACH : Tok
  t_WRONG : Tok
  t_NOT_SO : Tok
  t_NO_MESSAGE : Tok
  t_NOT_NOW : Tok
  t_FULL : Tok
  t_NO_MACHINE : Tok
  t_TIME_BOUND : Tok
  t_MOST_BITS : Tok
  t_HEAR : Tok
/-- what the top has written of them -/
structure Txt (K : PySem.W.Frag) (mg : Str → Option Value) (a : Ad) : Prop where
  cl_Told : Cls K a.c_Told
  g_Told : mg "Told" = some (.ref a.c_Told)
  m_Told : Mk K a.c_Told a.f_Told_init
  n_Told_address : NoAttr K a.c_Told "address"
  n_Told_bits : NoAttr K a.c_Told "bits"
  n_Told_far : NoAttr K a.c_Told "far"
  cl_Route : Cls K a.c_Route
  g_Route : mg "Route" = some (.ref a.c_Route)
  m_Route : Mk K a.c_Route a.f_Route_init
  n_Route_far : NoAttr K a.c_Route "far"
  n_Route_link : NoAttr K a.c_Route "link"
  n_Route_neighbour : NoAttr K a.c_Route "neighbour"
  n_Route_good : NoAttr K a.c_Route "good"
  n_Route_others : NoAttr K a.c_Route "others"
  n_Route_forgotten : NoAttr K a.c_Route "forgotten"
  n_Route_has_changed : NoAttr K a.c_Route "has_changed"
  cl_Table : Cls K a.c_Table
  g_Table : mg "Table" = some (.ref a.c_Table)
  m_Table : Mk K a.c_Table a.f_Table_init
  n_Table_routes : NoAttr K a.c_Table "routes"
  cl_Link : Cls K a.c_Link
  g_Link : mg "Link" = some (.ref a.c_Link)
  m_Link : Mk K a.c_Link a.f_Link_init
  n_Link_address : NoAttr K a.c_Link "address"
  n_Link_bits : NoAttr K a.c_Link "bits"
  cl_Machine : Cls K a.c_Machine
  g_Machine : mg "Machine" = some (.ref a.c_Machine)
  m_Machine : Mk K a.c_Machine a.f_Machine_init
  n_Machine_links : NoAttr K a.c_Machine "links"
  n_Machine_table : NoAttr K a.c_Machine "table"
  n_Machine_now : NoAttr K a.c_Machine "now"
  n_Machine_all_at : NoAttr K a.c_Machine "all_at"
  n_Machine_changes_at : NoAttr K a.c_Machine "changes_at"
  cl_Box : Cls K a.c_Box
  g_Box : mg "Box" = some (.ref a.c_Box)
  m_Box : Mk K a.c_Box a.f_Box_init
  n_Box_machine : NoAttr K a.c_Box "machine"
  cl_Tape : Cls K a.c_Tape
  g_Tape : mg "Tape" = some (.ref a.c_Tape)
  m_Tape : Mk K a.c_Tape a.f_Tape_init
  n_Tape_numbers : NoAttr K a.c_Tape "numbers"
  n_Tape_at : NoAttr K a.c_Tape "at"
  F_Told_init : Fun K "__init__" "Told.__init__" s_Told_init a.f_Told_init a.d_Told_init
  F_network_of : Fun K "network_of" "network_of" s_network_of a.f_network_of a.d_network_of
  g_network_of : mg "network_of" = some (.ref a.f_network_of)
  F_bytes_of : Fun K "bytes_of" "bytes_of" s_bytes_of a.f_bytes_of a.d_bytes_of
  g_bytes_of : mg "bytes_of" = some (.ref a.f_bytes_of)
  F_number_at : Fun K "number_at" "number_at" s_number_at a.f_number_at a.d_number_at
  g_number_at : mg "number_at" = some (.ref a.f_number_at)
  F_message_of : Fun K "message_of" "message_of" s_message_of a.f_message_of a.d_message_of
  g_message_of : mg "message_of" = some (.ref a.f_message_of)
  F_read_one : Fun K "read_one" "read_one" s_read_one a.f_read_one a.d_read_one
  g_read_one : mg "read_one" = some (.ref a.f_read_one)
  F_read_message : Fun K "read_message" "read_message" s_read_message a.f_read_message a.d_read_message
  g_read_message : mg "read_message" = some (.ref a.f_read_message)
  F_Route_init : Fun K "__init__" "Route.__init__" s_Route_init a.f_Route_init a.d_Route_init
  F_Route_is_in_reach : Fun K "is_in_reach" "Route.is_in_reach" s_Route_is_in_reach a.f_Route_is_in_reach a.d_Route_is_in_reach
  M_Route_is_in_reach : Meth K a.c_Route "is_in_reach" a.f_Route_is_in_reach
  F_Route_sight : Fun K "sight" "Route.sight" s_Route_sight a.f_Route_sight a.d_Route_sight
  M_Route_sight : Meth K a.c_Route "sight" a.f_Route_sight
  F_Table_init : Fun K "__init__" "Table.__init__" s_Table_init a.f_Table_init a.d_Table_init
  F_Table_in_order : Fun K "in_order" "Table.in_order" s_Table_in_order a.f_Table_in_order a.d_Table_in_order
  M_Table_in_order : Meth K a.c_Table "in_order" a.f_Table_in_order
  F_Table_sights : Fun K "sights" "Table.sights" s_Table_sights a.f_Table_sights a.d_Table_sights
  M_Table_sights : Meth K a.c_Table "sights" a.f_Table_sights
  F_lose : Fun K "lose" "lose" s_lose a.f_lose a.d_lose
  g_lose : mg "lose" = some (.ref a.f_lose)
  F_offer : Fun K "offer" "offer" s_offer a.f_offer a.d_offer
  g_offer : mg "offer" = some (.ref a.f_offer)
  F_offer_again : Fun K "offer_again" "offer_again" s_offer_again a.f_offer_again a.d_offer_again
  g_offer_again : mg "offer_again" = some (.ref a.f_offer_again)
  F_forget : Fun K "forget" "forget" s_forget a.f_forget a.d_forget
  g_forget : mg "forget" = some (.ref a.f_forget)
  F_way_to : Fun K "way_to" "way_to" s_way_to a.f_way_to a.d_way_to
  g_way_to : mg "way_to" = some (.ref a.f_way_to)
  F_other_ones : Fun K "other_ones" "other_ones" s_other_ones a.f_other_ones a.d_other_ones
  g_other_ones : mg "other_ones" = some (.ref a.f_other_ones)
  F_Link_init : Fun K "__init__" "Link.__init__" s_Link_init a.f_Link_init a.d_Link_init
  F_Link_network : Fun K "network" "Link.network" s_Link_network a.f_Link_network a.d_Link_network
  M_Link_network : Meth K a.c_Link "network" a.f_Link_network
  F_Machine_init : Fun K "__init__" "Machine.__init__" s_Machine_init a.f_Machine_init a.d_Machine_init
  F_has_network : Fun K "has_network" "has_network" s_has_network a.f_has_network a.d_has_network
  g_has_network : mg "has_network" = some (.ref a.f_has_network)
  F_can_come_up : Fun K "can_come_up" "can_come_up" s_can_come_up a.f_can_come_up a.d_can_come_up
  g_can_come_up : mg "can_come_up" = some (.ref a.f_can_come_up)
  F_come_up : Fun K "come_up" "come_up" s_come_up a.f_come_up a.d_come_up
  g_come_up : mg "come_up" = some (.ref a.f_come_up)
  F_go_down : Fun K "go_down" "go_down" s_go_down a.f_go_down a.d_go_down
  g_go_down : mg "go_down" = some (.ref a.f_go_down)
  F_told_on : Fun K "told_on" "told_on" s_told_on a.f_told_on a.d_told_on
  g_told_on : mg "told_on" = some (.ref a.f_told_on)
  F_tell : Fun K "tell" "tell" s_tell a.f_tell a.d_tell
  g_tell : mg "tell" = some (.ref a.f_tell)
  F_changed_networks : Fun K "changed_networks" "changed_networks" s_changed_networks a.f_changed_networks a.d_changed_networks
  g_changed_networks : mg "changed_networks" = some (.ref a.f_changed_networks)
  F_tick : Fun K "tick" "tick" s_tick a.f_tick a.d_tick
  g_tick : mg "tick" = some (.ref a.f_tick)
  F_due : Fun K "due" "due" s_due a.f_due a.d_due
  g_due : mg "due" = some (.ref a.f_due)
  F_Box_init : Fun K "__init__" "Box.__init__" s_Box_init a.f_Box_init a.d_Box_init
  F_Tape_init : Fun K "__init__" "Tape.__init__" s_Tape_init a.f_Tape_init a.d_Tape_init
  F_Tape_is_done : Fun K "is_done" "Tape.is_done" s_Tape_is_done a.f_Tape_is_done a.d_Tape_is_done
  M_Tape_is_done : Meth K a.c_Tape "is_done" a.f_Tape_is_done
  F_Tape_take_many : Fun K "take_many" "Tape.take_many" s_Tape_take_many a.f_Tape_take_many a.d_Tape_take_many
  M_Tape_take_many : Meth K a.c_Tape "take_many" a.f_Tape_take_many
  F_Tape_take_row : Fun K "take_row" "Tape.take_row" s_Tape_take_row a.f_Tape_take_row a.d_Tape_take_row
  M_Tape_take_row : Meth K a.c_Tape "take_row" a.f_Tape_take_row
  F_ask : Fun K "ask" "ask" s_ask a.f_ask a.d_ask
  g_ask : mg "ask" = some (.ref a.f_ask)
  F_is_address : Fun K "is_address" "is_address" s_is_address a.f_is_address a.d_is_address
  g_is_address : mg "is_address" = some (.ref a.f_is_address)
  F_do_begin : Fun K "do_begin" "do_begin" s_do_begin a.f_do_begin a.d_do_begin
  g_do_begin : mg "do_begin" = some (.ref a.f_do_begin)
  F_do_link : Fun K "do_link" "do_link" s_do_link a.f_do_link a.d_do_link
  g_do_link : mg "do_link" = some (.ref a.f_do_link)
  F_do_down : Fun K "do_down" "do_down" s_do_down a.f_do_down a.d_do_down
  g_do_down : mg "do_down" = some (.ref a.f_do_down)
  F_do_hear : Fun K "do_hear" "do_hear" s_do_hear a.f_do_hear a.d_do_hear
  g_do_hear : mg "do_hear" = some (.ref a.f_do_hear)
  F_do_tick : Fun K "do_tick" "do_tick" s_do_tick a.f_do_tick a.d_do_tick
  g_do_tick : mg "do_tick" = some (.ref a.f_do_tick)
  F_do_way : Fun K "do_way" "do_way" s_do_way a.f_do_way a.d_do_way
  g_do_way : mg "do_way" = some (.ref a.f_do_way)
  F_do_routes : Fun K "do_routes" "do_routes" s_do_routes a.f_do_routes a.d_do_routes
  g_do_routes : mg "do_routes" = some (.ref a.f_do_routes)
  F_do_call : Fun K "do_call" "do_call" s_do_call a.f_do_call a.d_do_call
  g_do_call : mg "do_call" = some (.ref a.f_do_call)
  F_answer : Fun K "answer" "answer" s_answer a.f_answer a.d_answer
  g_answer : mg "answer" = some (.ref a.f_answer)
  F_answers : Fun K "answers" "answers" s_answers a.f_answers a.d_answers
  g_answers : mg "answers" = some (.ref a.f_answers)
  low : PySem.LowX.LowTxt K mg a.c_Refused a.f_Refused_init
  k_ADDRESS_BITS : mg "ADDRESS_BITS" = some (.int 32 a.t_ADDRESS_BITS)
  k_MOST_ADDRESS : mg "MOST_ADDRESS" = some (.int 4294967295 a.t_MOST_ADDRESS)
  k_MOST_TOLD : mg "MOST_TOLD" = some (.int 64 a.t_MOST_TOLD)
  k_HEAD : mg "HEAD" = some (.int 2 a.t_HEAD)
  k_EACH : mg "EACH" = some (.int 8 a.t_EACH)
  k_OUT_OF_REACH : mg "OUT_OF_REACH" = some (.int 16 a.t_OUT_OF_REACH)
  k_MOST_ROUTES : mg "MOST_ROUTES" = some (.int 256 a.t_MOST_ROUTES)
  k_GOOD_FOR : mg "GOOD_FOR" = some (.int 180000 a.t_GOOD_FOR)
  k_MISTRUSTED : mg "MISTRUSTED" = some (.int 60000 a.t_MISTRUSTED)
  k_KEPT : mg "KEPT" = some (.int 120000 a.t_KEPT)
  k_LINKS : mg "LINKS" = some (.int 4 a.t_LINKS)
  k_ALL_EACH : mg "ALL_EACH" = some (.int 30000 a.t_ALL_EACH)
  k_CHANGES_EACH : mg "CHANGES_EACH" = some (.int 1000 a.t_CHANGES_EACH)
  k_WRONG : mg "WRONG" = some (.int (-1) a.t_WRONG)
  k_NOT_SO : mg "NOT_SO" = some (.int (-2) a.t_NOT_SO)
  k_NO_MESSAGE : mg "NO_MESSAGE" = some (.int (-3) a.t_NO_MESSAGE)
  k_NOT_NOW : mg "NOT_NOW" = some (.int (-4) a.t_NOT_NOW)
  k_FULL : mg "FULL" = some (.int (-5) a.t_FULL)
  k_NO_MACHINE : mg "NO_MACHINE" = some (.int (-6) a.t_NO_MACHINE)
  k_TIME_BOUND : mg "TIME_BOUND" = some (.int 4611686018427387904 a.t_TIME_BOUND)
  k_MOST_BITS : mg "MOST_BITS" = some (.int 31 a.t_MOST_BITS)
  k_SIZES : mg "SIZES" = some (.ref a.x_SIZES)
  x_SIZES : ∀ H, SqT K H a.x_SIZES [.int 1, .int 3, .int 1, .int 2, .int 1, .int 1, .int 0, .int 0]
  k_HEAR : mg "HEAR" = some (.int 3 a.t_HEAR)
  z_range : mg "range" = none
  z_len : mg "len" = none
  z_sorted : mg "sorted" = none
  z_list : mg "list" = none
  z_min : mg "min" = none
  z_max : mg "max" = none
  z_enumerate : mg "enumerate" = none
  o_Told : PySem.W.mroIn K a.c_Told (.type "object") = some true
  e_Told : PySem.W.findIn K (.ref a.c_Told) "__eq__" = some (some (.builtin "object.__eq__"))
section
variable {K : PySem.W.Frag} {mg : Str → Option Value} {a : Ad}
theorem b_Told_init (T : Txt K mg a) : Binds K a.d_Told_init ["self", "address", "bits", "far"] [] := T.F_Told_init.binds fun _ _ _ _ _ _ us hl => match us, hl with | [_, _, _, _], _ => rfl
theorem b_network_of (T : Txt K mg a) : Binds K a.d_network_of ["address", "bits"] [] := T.F_network_of.binds fun _ _ _ _ _ _ us hl => match us, hl with | [_, _], _ => rfl
theorem b_bytes_of (T : Txt K mg a) : Binds K a.d_bytes_of ["number", "many"] [] := T.F_bytes_of.binds fun _ _ _ _ _ _ us hl => match us, hl with | [_, _], _ => rfl
theorem b_number_at (T : Txt K mg a) : Binds K a.d_number_at ["row", "at", "many"] [] := T.F_number_at.binds fun _ _ _ _ _ _ us hl => match us, hl with | [_, _, _], _ => rfl
theorem b_message_of (T : Txt K mg a) : Binds K a.d_message_of ["told"] [] := T.F_message_of.binds fun _ _ _ _ _ _ us hl => match us, hl with | [_], _ => rfl
theorem b_read_one (T : Txt K mg a) : Binds K a.d_read_one ["row", "at"] [] := T.F_read_one.binds fun _ _ _ _ _ _ us hl => match us, hl with | [_, _], _ => rfl
theorem b_read_message (T : Txt K mg a) : Binds K a.d_read_message ["row"] [] := T.F_read_message.binds fun _ _ _ _ _ _ us hl => match us, hl with | [_], _ => rfl
theorem b_Route_init (T : Txt K mg a) : Binds K a.d_Route_init ["self", "far", "link", "neighbour", "good"] [] := T.F_Route_init.binds fun _ _ _ _ _ _ us hl => match us, hl with | [_, _, _, _, _], _ => rfl
theorem b_Route_is_in_reach (T : Txt K mg a) : Binds K a.d_Route_is_in_reach ["self"] [] := T.F_Route_is_in_reach.binds fun _ _ _ _ _ _ us hl => match us, hl with | [_], _ => rfl
theorem b_Route_sight (T : Txt K mg a) : Binds K a.d_Route_sight ["self"] [] := T.F_Route_sight.binds fun _ _ _ _ _ _ us hl => match us, hl with | [_], _ => rfl
theorem b_Table_init (T : Txt K mg a) : Binds K a.d_Table_init ["self"] [] := T.F_Table_init.binds fun _ _ _ _ _ _ us hl => match us, hl with | [_], _ => rfl
theorem b_Table_in_order (T : Txt K mg a) : Binds K a.d_Table_in_order ["self"] [] := T.F_Table_in_order.binds fun _ _ _ _ _ _ us hl => match us, hl with | [_], _ => rfl
theorem b_Table_sights (T : Txt K mg a) : Binds K a.d_Table_sights ["self"] [] := T.F_Table_sights.binds fun _ _ _ _ _ _ us hl => match us, hl with | [_], _ => rfl
theorem b_lose (T : Txt K mg a) : Binds K a.d_lose ["route", "now"] [] := T.F_lose.binds fun _ _ _ _ _ _ us hl => match us, hl with | [_, _], _ => rfl
theorem b_offer (T : Txt K mg a) : Binds K a.d_offer ["table", "now", "link", "neighbour", "told"] [] := T.F_offer.binds fun _ _ _ _ _ _ us hl => match us, hl with | [_, _, _, _, _], _ => rfl
theorem b_offer_again (T : Txt K mg a) : Binds K a.d_offer_again ["table", "now", "network", "new"] [] := T.F_offer_again.binds fun _ _ _ _ _ _ us hl => match us, hl with | [_, _, _, _], _ => rfl
theorem b_forget (T : Txt K mg a) : Binds K a.d_forget ["table", "now"] [] := T.F_forget.binds fun _ _ _ _ _ _ us hl => match us, hl with | [_, _], _ => rfl
theorem b_way_to (T : Txt K mg a) : Binds K a.d_way_to ["table", "address"] [] := T.F_way_to.binds fun _ _ _ _ _ _ us hl => match us, hl with | [_, _], _ => rfl
theorem b_other_ones (T : Txt K mg a) : Binds K a.d_other_ones ["before", "behind"] [] := T.F_other_ones.binds fun _ _ _ _ _ _ us hl => match us, hl with | [_, _], _ => rfl
theorem b_Link_init (T : Txt K mg a) : Binds K a.d_Link_init ["self", "address", "bits"] [] := T.F_Link_init.binds fun _ _ _ _ _ _ us hl => match us, hl with | [_, _, _], _ => rfl
theorem b_Link_network (T : Txt K mg a) : Binds K a.d_Link_network ["self"] [] := T.F_Link_network.binds fun _ _ _ _ _ _ us hl => match us, hl with | [_], _ => rfl
theorem b_Machine_init (T : Txt K mg a) : Binds K a.d_Machine_init ["self", "now"] [] := T.F_Machine_init.binds fun _ _ _ _ _ _ us hl => match us, hl with | [_, _], _ => rfl
theorem b_has_network (T : Txt K mg a) : Binds K a.d_has_network ["machine", "network"] [] := T.F_has_network.binds fun _ _ _ _ _ _ us hl => match us, hl with | [_, _], _ => rfl
theorem b_can_come_up (T : Txt K mg a) : Binds K a.d_can_come_up ["machine", "network"] [] := T.F_can_come_up.binds fun _ _ _ _ _ _ us hl => match us, hl with | [_, _], _ => rfl
theorem b_come_up (T : Txt K mg a) : Binds K a.d_come_up ["machine", "i", "link"] [] := T.F_come_up.binds fun _ _ _ _ _ _ us hl => match us, hl with | [_, _, _], _ => rfl
theorem b_go_down (T : Txt K mg a) : Binds K a.d_go_down ["machine", "i"] [] := T.F_go_down.binds fun _ _ _ _ _ _ us hl => match us, hl with | [_, _], _ => rfl
theorem b_told_on (T : Txt K mg a) : Binds K a.d_told_on ["machine", "i", "network"] [] := T.F_told_on.binds fun _ _ _ _ _ _ us hl => match us, hl with | [_, _, _], _ => rfl
theorem b_tell (T : Txt K mg a) : Binds K a.d_tell ["machine", "networks"] [] := T.F_tell.binds fun _ _ _ _ _ _ us hl => match us, hl with | [_, _], _ => rfl
theorem b_changed_networks (T : Txt K mg a) : Binds K a.d_changed_networks ["machine"] [] := T.F_changed_networks.binds fun _ _ _ _ _ _ us hl => match us, hl with | [_], _ => rfl
theorem b_tick (T : Txt K mg a) : Binds K a.d_tick ["machine", "now"] [] := T.F_tick.binds fun _ _ _ _ _ _ us hl => match us, hl with | [_, _], _ => rfl
theorem b_due (T : Txt K mg a) : Binds K a.d_due ["machine"] [] := T.F_due.binds fun _ _ _ _ _ _ us hl => match us, hl with | [_], _ => rfl
theorem b_Box_init (T : Txt K mg a) : Binds K a.d_Box_init ["self"] [] := T.F_Box_init.binds fun _ _ _ _ _ _ us hl => match us, hl with | [_], _ => rfl
theorem b_Tape_init (T : Txt K mg a) : Binds K a.d_Tape_init ["self", "numbers"] [] := T.F_Tape_init.binds fun _ _ _ _ _ _ us hl => match us, hl with | [_, _], _ => rfl
theorem b_Tape_is_done (T : Txt K mg a) : Binds K a.d_Tape_is_done ["self"] [] := T.F_Tape_is_done.binds fun _ _ _ _ _ _ us hl => match us, hl with | [_], _ => rfl
theorem b_Tape_take_many (T : Txt K mg a) : Binds K a.d_Tape_take_many ["self", "many"] [] := T.F_Tape_take_many.binds fun _ _ _ _ _ _ us hl => match us, hl with | [_, _], _ => rfl
theorem b_Tape_take_row (T : Txt K mg a) : Binds K a.d_Tape_take_row ["self"] [] := T.F_Tape_take_row.binds fun _ _ _ _ _ _ us hl => match us, hl with | [_], _ => rfl
theorem b_ask (T : Txt K mg a) : Binds K a.d_ask ["is_good", "number"] [] := T.F_ask.binds fun _ _ _ _ _ _ us hl => match us, hl with | [_, _], _ => rfl
theorem b_is_address (T : Txt K mg a) : Binds K a.d_is_address ["number"] [] := T.F_is_address.binds fun _ _ _ _ _ _ us hl => match us, hl with | [_], _ => rfl
theorem b_do_begin (T : Txt K mg a) : Binds K a.d_do_begin ["box", "now"] [] := T.F_do_begin.binds fun _ _ _ _ _ _ us hl => match us, hl with | [_, _], _ => rfl
theorem b_do_link (T : Txt K mg a) : Binds K a.d_do_link ["machine", "i", "address", "bits"] [] := T.F_do_link.binds fun _ _ _ _ _ _ us hl => match us, hl with | [_, _, _, _], _ => rfl
theorem b_do_down (T : Txt K mg a) : Binds K a.d_do_down ["machine", "i"] [] := T.F_do_down.binds fun _ _ _ _ _ _ us hl => match us, hl with | [_, _], _ => rfl
theorem b_do_hear (T : Txt K mg a) : Binds K a.d_do_hear ["machine", "i", "neighbour", "row"] [] := T.F_do_hear.binds fun _ _ _ _ _ _ us hl => match us, hl with | [_, _, _, _], _ => rfl
theorem b_do_tick (T : Txt K mg a) : Binds K a.d_do_tick ["machine", "now"] [] := T.F_do_tick.binds fun _ _ _ _ _ _ us hl => match us, hl with | [_, _], _ => rfl
theorem b_do_way (T : Txt K mg a) : Binds K a.d_do_way ["machine", "address"] [] := T.F_do_way.binds fun _ _ _ _ _ _ us hl => match us, hl with | [_, _], _ => rfl
theorem b_do_routes (T : Txt K mg a) : Binds K a.d_do_routes ["machine"] [] := T.F_do_routes.binds fun _ _ _ _ _ _ us hl => match us, hl with | [_], _ => rfl
theorem b_do_call (T : Txt K mg a) : Binds K a.d_do_call ["machine", "call", "numbers", "row"] [] := T.F_do_call.binds fun _ _ _ _ _ _ us hl => match us, hl with | [_, _, _, _], _ => rfl
theorem b_answer (T : Txt K mg a) : Binds K a.d_answer ["box", "tape"] [] := T.F_answer.binds fun _ _ _ _ _ _ us hl => match us, hl with | [_, _], _ => rfl
theorem b_answers (T : Txt K mg a) : Binds K a.d_answers ["calls"] [] := T.F_answers.binds fun _ _ _ _ _ _ us hl => match us, hl with | [_], _ => rfl
end
end Nr
namespace Nr
open Ra54
abbrev Rt := Ra54.Route
/-- what tells a route's network -/
def kb (r : Rt) : Nat × Nat := (r.net, r.bits)
theorem kb_iff {a b : Rt} : kb a = kb b ↔ a.net = b.net ∧ a.bits = b.bits := by
  unfold kb
  exact Prod.mk.injEq .. ▸ Iff.rfl
theorem before_iff {a b : Rt} : before a b = true ↔ a.net < b.net ∨ (a.net = b.net ∧ a.bits < b.bits) := by
  unfold before
  simp
theorem before_trans {a b c : Rt} (h : before a b = true) (g : before b c = true) : before a c = true := by
  rw [before_iff] at *
  omega
theorem before_ne {a b : Rt} (h : before a b = true) : kb a ≠ kb b := by
  rw [before_iff] at h
  intro e
  rw [kb_iff] at e
  omega
/-- in order by address, then bits -/
def Srt (l : List Rt) : Prop := l.Pairwise fun a b => before a b = true
theorem Srt.nodup {l : List Rt} (h : Srt l) : (l.map kb).Nodup := by
  unfold Srt at h
  rw [List.Nodup, List.pairwise_map]
  exact h.imp before_ne
/-- two of one network are one -/
theorem uniq_of {l : List Rt} (h : (l.map kb).Nodup) {a b : Rt} (ha : a ∈ l) (hb : b ∈ l) (e : kb a = kb b) : a = b := by
  induction l with
  | nil => cases ha
  | cons x l ih =>
    rw [List.map_cons, List.nodup_cons] at h
    rcases List.mem_cons.mp ha with e1 | ha
    · rcases List.mem_cons.mp hb with e2 | hb
      · rw [e1, e2]
      · rw [e1] at e
        exact absurd (List.mem_map.mpr ⟨b, hb, e.symm⟩) h.1
    · rcases List.mem_cons.mp hb with e2 | hb
      · rw [e2] at e
        exact absurd (List.mem_map.mpr ⟨a, ha, e⟩) h.1
      · exact ih h.2 ha hb
def others (r : Rt) (l : List Rt) : List Rt := l.filter fun x => decide (kb x ≠ kb r)
theorem others_id {r : Rt} {l : List Rt} (h : ∀ x ∈ l, kb x ≠ kb r) : others r l = l := List.filter_eq_self.mpr fun x hx => decide_eq_true (h x hx)
theorem place_perm (r : Rt) : ∀ {l : List Rt}, Srt l → (place r l).Perm (r :: others r l)
  | [], _ => List.Perm.refl _
  | x :: l, h => by
    have hl : Srt l := (List.pairwise_cons.mp h).2
    have hx : ∀ y ∈ l, before x y = true := (List.pairwise_cons.mp h).1
    unfold place
    by_cases c1 : before r x = true
    · rw [if_pos c1]
      have e : others r (x :: l) = x :: l := others_id fun y hy => by
        rcases List.mem_cons.mp hy with e | hy
        · subst e; exact fun z => before_ne c1 z.symm
        · exact fun z => before_ne (before_trans c1 (hx y hy)) z.symm
      rw [e]
    · rw [if_neg c1]
      by_cases c2 : before x r = true
      · rw [if_pos c2]
        have e : others r (x :: l) = x :: others r l := List.filter_cons_of_pos (decide_eq_true (before_ne c2))
        rw [e]
        exact ((place_perm r hl).cons x).trans (List.Perm.swap r x _)
      · rw [if_neg c2]
        have e : kb x = kb r := by
          rw [before_iff] at c1 c2
          rw [kb_iff]
          omega
        have e1 : others r (x :: l) = others r l := List.filter_cons_of_neg (by simp [e])
        rw [e1, others_id fun y hy => ?_]
        rw [← e]
        exact fun z => before_ne (hx y hy) z.symm
theorem place_srt (r : Rt) : ∀ {l : List Rt}, Srt l → Srt (place r l)
  | [], _ => List.pairwise_singleton ..
  | x :: l, h => by
    have hl : Srt l := (List.pairwise_cons.mp h).2
    have hx : ∀ y ∈ l, before x y = true := (List.pairwise_cons.mp h).1
    unfold place
    by_cases c1 : before r x = true
    · rw [if_pos c1]
      refine List.pairwise_cons.mpr ⟨fun y hy => ?_, h⟩
      rcases List.mem_cons.mp hy with e | hy
      · subst e; exact c1
      · exact before_trans c1 (hx y hy)
    · rw [if_neg c1]
      by_cases c2 : before x r = true
      · rw [if_pos c2]
        refine List.pairwise_cons.mpr ⟨fun y hy => ?_, place_srt r hl⟩
        rcases List.mem_cons.mp ((place_perm r hl).mem_iff.mp hy) with e | hy
        · subst e; exact c2
        · exact hx y (List.mem_filter.mp hy).1
      · rw [if_neg c2]
        have e : kb x = kb r := by
          rw [before_iff] at c1 c2
          rw [kb_iff]
          omega
        refine List.pairwise_cons.mpr ⟨fun y hy => ?_, hl⟩
        have z := hx y hy
        rw [before_iff] at z ⊢
        rw [kb_iff] at e
        omega
/-- put into a list in any order: in the place of what there was, or behind -/
def putR (l : List Rt) (r : Rt) : List Rt := if (l.any fun x => decide (kb x = kb r)) = true then l.map fun x => if kb x = kb r then r else x else l ++ [r]
theorem putR_perm {r : Rt} : ∀ {l : List Rt}, (l.map kb).Nodup → (putR l r).Perm (r :: others r l)
  | [], _ => List.Perm.refl _
  | x :: l, h => by
    rw [List.map_cons, List.nodup_cons] at h
    by_cases c : kb x = kb r
    · have a : (∀ y ∈ l, kb y ≠ kb r) := fun y hy z => h.1 (List.mem_map.mpr ⟨y, hy, z.trans c.symm⟩)
      have e0 : ((x :: l).any fun x => decide (kb x = kb r)) = true := by simp [c]
      have e1 : (x :: l).map (fun x => if kb x = kb r then r else x) = r :: l := by
        rw [List.map_cons, if_pos c]
        congr 1
        refine (List.map_congr_left fun y hy => if_neg (a y hy)).trans (List.map_id _)
      have e2 : others r (x :: l) = l := (List.filter_cons_of_neg (by simp [c])).trans (others_id a)
      unfold putR
      rw [if_pos e0, e1, e2]
    · have e2 : others r (x :: l) = x :: others r l := List.filter_cons_of_pos (decide_eq_true c)
      have e3 : putR (x :: l) r = x :: putR l r := by
        unfold putR
        have e0 : ((x :: l).any fun x => decide (kb x = kb r)) = (l.any fun x => decide (kb x = kb r)) := by simp [c]
        rw [e0]
        by_cases q : (l.any fun x => decide (kb x = kb r)) = true
        · rw [if_pos q, if_pos q, List.map_cons, if_neg c]
        · rw [if_neg q, if_neg q]
          rfl
      rw [e2, e3]
      exact ((putR_perm h.2).cons x).trans (List.Perm.swap r x _)
/-- a list in any order and the same in order -/
structure PermS (m l : List Rt) : Prop where
  perm : m.Perm l
  srt : Srt l
theorem PermS.nodup {m l : List Rt} (h : PermS m l) : (m.map kb).Nodup := (h.perm.map kb).nodup_iff.mpr h.srt.nodup
theorem PermS.len {m l : List Rt} (h : PermS m l) : m.length = l.length := h.perm.length_eq
theorem PermS.mem {m l : List Rt} (h : PermS m l) {r : Rt} : r ∈ m ↔ r ∈ l := h.perm.mem_iff
theorem PermS.put {m l : List Rt} (h : PermS m l) (r : Rt) : PermS (putR m r) (place r l) :=
  ⟨((putR_perm h.nodup).trans ((h.perm.filter _).cons r)).trans (place_perm r h.srt).symm, place_srt r h.srt⟩
/-- at most one is found -/
theorem find_perm {α : Type} {p : α → Bool} {l m : List α} (u : ∀ a b, a ∈ l → b ∈ l → p a = true → p b = true → a = b) (h : l.Perm m) : l.find? p = m.find? p := by
  cases e : l.find? p with
  | none =>
    rw [List.find?_eq_none] at e
    symm
    rw [List.find?_eq_none]
    exact fun x hx => e x (h.mem_iff.mpr hx)
  | some a =>
    cases e2 : m.find? p with
    | none =>
      rw [List.find?_eq_none] at e2
      exact absurd (List.find?_some e) (e2 a (h.mem_iff.mp (List.mem_of_find?_eq_some e)))
    | some b =>
      rw [u a b (List.mem_of_find?_eq_some e) (h.mem_iff.mpr (List.mem_of_find?_eq_some e2)) (List.find?_some e) (List.find?_some e2)]
theorem route_test {r : Rt} {n b : Nat} : (r.net == n && r.bits == b) = decide (kb r = (n, b)) := by
  unfold kb
  by_cases h1 : r.net = n <;> by_cases h2 : r.bits = b <;> simp [h1, h2]
theorem routeOf_eq (l : List Rt) (n b : Nat) : routeOf l n b = l.find? fun r => decide (kb r = (n, b)) := by
  unfold routeOf
  congr 1
  funext r
  exact route_test
theorem PermS.find {m l : List Rt} (h : PermS m l) (n b : Nat) : routeOf m n b = routeOf l n b := by
  rw [routeOf_eq, routeOf_eq]
  refine find_perm (fun x y hx hy e1 e2 => ?_) h.perm
  exact uniq_of h.nodup hx hy ((of_decide_eq_true e1).trans (of_decide_eq_true e2).symm)
theorem routeOf_some {l : List Rt} {n b : Nat} {r : Rt} (h : routeOf l n b = some r) : r ∈ l ∧ r.net = n ∧ r.bits = b := by
  rw [routeOf_eq] at h
  have e : kb r = (n, b) := of_decide_eq_true (List.find?_some (p := fun r => decide (kb r = (n, b))) h)
  refine ⟨List.mem_of_find?_eq_some h, ?_⟩
  exact ⟨congrArg Prod.fst e, congrArg Prod.snd e⟩
theorem routeOf_none {l : List Rt} {n b : Nat} (h : routeOf l n b = none) : ∀ r ∈ l, kb r ≠ (n, b) := by
  rw [routeOf_eq, List.find?_eq_none] at h
  exact fun r hr e => h r hr (decide_eq_true e)
theorem routeOf_mem {l : List Rt} (hn : (l.map kb).Nodup) {r : Rt} (h : r ∈ l) : routeOf l r.net r.bits = some r := by
  cases e : routeOf l r.net r.bits with
  | none => exact absurd rfl (routeOf_none e r h)
  | some q =>
    obtain ⟨h1, h2, h3⟩ := routeOf_some e
    rw [uniq_of hn h1 h (kb_iff.mpr ⟨h2, h3⟩)]
/-- every route changed, none its network -/
theorem srt_map {f : Rt → Rt} (hf : ∀ r, kb (f r) = kb r) {l : List Rt} (h : Srt l) : Srt (l.map f) := by
  unfold Srt at *
  rw [List.pairwise_map]
  refine h.imp fun {a b} q => ?_
  have e1 := kb_iff.mp (hf a)
  have e2 := kb_iff.mp (hf b)
  rw [before_iff] at *
  omega
theorem PermS.map {m l : List Rt} (h : PermS m l) {f : Rt → Rt} (hf : ∀ r, kb (f r) = kb r) : PermS (m.map f) (l.map f) := ⟨h.perm.map f, srt_map hf h.srt⟩
theorem PermS.filter {m l : List Rt} (h : PermS m l) (p : Rt → Bool) : PermS (m.filter p) (l.filter p) := ⟨h.perm.filter p, List.Pairwise.filter p h.srt⟩
/-- a sorted list is told by its routes -/
theorem srt_uniq : ∀ {l m : List Rt}, Srt l → Srt m → l.Perm m → l = m
  | [], m, _, _, h => (List.Perm.eq_nil h.symm).symm
  | x :: l, [], _, _, h => absurd h.length_eq (by simp)
  | x :: l, y :: m, hl, hm, h => by
    have h1 : x = y := by
      rcases List.mem_cons.mp (h.mem_iff.mp (List.mem_cons_self (a := x) (l := l))) with e | hx
      · exact e
      · rcases List.mem_cons.mp (h.mem_iff.mpr (List.mem_cons_self (a := y) (l := m))) with e | hy
        · exact e.symm
        · have a := (List.pairwise_cons.mp hm).1 x hx
          have b := (List.pairwise_cons.mp hl).1 y hy
          rw [before_iff] at a b
          omega
    subst h1
    rw [srt_uniq (List.pairwise_cons.mp hl).2 (List.pairwise_cons.mp hm).2 h.cons_inv]
/-! ### what holds of every route -/
structure RtOk (r : Rt) : Prop where
  bits : r.bits ≤ 32
  dist : r.dist ≤ 16
  own : r.dist = 0 → r.via = 0
structure TbOk (l : List Rt) : Prop where
  srt : Srt l
  all : ∀ r ∈ l, RtOk r
  few : l.length ≤ 256
theorem place_mem {r x : Rt} {l : List Rt} (h : Srt l) (hx : x ∈ place r l) : x = r ∨ x ∈ l := by
  rcases List.mem_cons.mp ((place_perm r h).mem_iff.mp hx) with e | hx
  · exact .inl e
  · exact .inr (List.mem_filter.mp hx).1
theorem place_len (r : Rt) {l : List Rt} (h : Srt l) : (place r l).length ≤ l.length + 1 := by
  rw [(place_perm r h).length_eq, List.length_cons]
  exact Nat.succ_le_succ (List.length_filter_le _ _)
/-- in the place of one that is there -/
theorem place_len_old {r q : Rt} {l : List Rt} (h : Srt l) (hq : q ∈ l) (e : kb q = kb r) : (place r l).length ≤ l.length := by
  rw [(place_perm r h).length_eq, List.length_cons]
  have : (others r l).length < l.length := by
    unfold others
    exact List.length_filter_lt_length_iff_exists.mpr ⟨q, hq, by simp [e]⟩
  omega
theorem TbOk.put {l : List Rt} (h : TbOk l) {r : Rt} (hr : RtOk r) (hl : l.length < 256 ∨ ∃ q ∈ l, kb q = kb r) : TbOk (place r l) where
  srt := place_srt r h.srt
  all := fun x hx => by
    rcases place_mem h.srt hx with e | hx
    · rw [e]; exact hr
    · exact h.all x hx
  few := by
    rcases hl with hl | ⟨q, hq, e⟩
    · have := place_len r h.srt
      omega
    · exact Nat.le_trans (place_len_old h.srt hq e) h.few
end Nr
namespace Nr
open Ra54
/-! ### messages read -/
theorem number_snoc' (l : List UInt8) (b : UInt8) : Ra54.number (l ++ [b]) = 256 * Ra54.number l + b.toNat := by
  unfold Ra54.number
  rw [List.foldl_append]
  rfl
theorem number_one (b : UInt8) : Ra54.number [b] = b.toNat := by
  show 256 * 0 + b.toNat = b.toNat
  omega
theorem number_lt : ∀ (n : Nat) (l : List UInt8), l.length = n → Ra54.number l < 256 ^ n
  | 0, l, h => by
    rw [List.eq_nil_of_length_eq_zero h]
    exact Nat.one_pos
  | n + 1, l, h => by
    have hne : l ≠ [] := fun e => by rw [e] at h; cases h
    have e := List.dropLast_concat_getLast hne
    have ih := number_lt n l.dropLast (by rw [List.length_dropLast, h]; rfl)
    rw [← e, number_snoc', Nat.pow_succ]
    have := UInt8.toNat_lt (l.getLast hne)
    omega
theorem two_zero {l : List UInt8} (h : l.length = 2) : l = [0, 0] ↔ Ra54.number l = 0 := by
  match l, h with
  | [x, y], _ =>
    have e : Ra54.number [x, y] = 256 * x.toNat + y.toNat := by
      show 256 * (256 * 0 + x.toNat) + y.toNat = _
      omega
    rw [e]
    constructor
    · intro q
      injection q with q1 q2
      injection q2 with q2 _
      subst q1 q2
      rfl
    · intro q
      have h1 : x.toNat = 0 := by omega
      have h2 : y.toNat = 0 := by omega
      have e1 : x = 0 := UInt8.toNat_inj.mp (by rw [h1]; rfl)
      have e2 : y = 0 := UInt8.toNat_inj.mp (by rw [h2]; rfl)
      rw [e1, e2]
/-- what is told at a place of the bytes -/
def entAt (bs : List UInt8) (at_ : Nat) : Entry := ⟨number ((bs.drop at_).take 4), number ((bs.drop (at_ + 4)).take 1), number ((bs.drop (at_ + 5)).take 1)⟩
theorem one_at {bs : List UInt8} {i : Nat} {b : UInt8} (h : bs[i]? = some b) : number ((bs.drop i).take 1) = b.toNat := by
  have hi := (List.getElem?_eq_some_iff.mp h).1
  have e : bs.drop i = b :: bs.drop (i + 1) := by
    rw [List.drop_eq_getElem_cons hi]
    rw [(List.getElem?_eq_some_iff.mp h).2]
  rw [e]
  exact number_one b
theorem readEntry_at {bs : List UInt8} {at_ : Nat} (h : at_ + 8 ≤ bs.length) : readEntry ((bs.drop at_).take 8) =
    if (entAt bs at_).bits ≤ 32 ∧ (1 ≤ (entAt bs at_).dist ∧ (entAt bs at_).dist ≤ 16) ∧ number ((bs.drop (at_ + 6)).take 2) = 0 ∧ netOf (entAt bs at_).bits (entAt bs at_).net = (entAt bs at_).net then some (entAt bs at_) else none := by
  have l8 : ((bs.drop at_).take 8).length = 8 := by rw [List.length_take, List.length_drop]; omega
  have e1 : ((bs.drop at_).take 8).take 4 = (bs.drop at_).take 4 := by rw [List.take_take]; rfl
  have e2 : (((bs.drop at_).take 8).drop 4).take 1 = (bs.drop (at_ + 4)).take 1 := by rw [List.drop_take, List.drop_drop, List.take_take]; rfl
  have e3 : (((bs.drop at_).take 8).drop 5).take 1 = (bs.drop (at_ + 5)).take 1 := by rw [List.drop_take, List.drop_drop, List.take_take]; rfl
  have e4 : ((bs.drop at_).take 8).drop 6 = (bs.drop (at_ + 6)).take 2 := by rw [List.drop_take, List.drop_drop]
  have l2 : ((bs.drop (at_ + 6)).take 2).length = 2 := by rw [List.length_take, List.length_drop]; omega
  have e5 : (⟨number (((bs.drop at_).take 8).take 4), number ((((bs.drop at_).take 8).drop 4).take 1), number ((((bs.drop at_).take 8).drop 5).take 1)⟩ : Entry) = entAt bs at_ := by
    rw [e1, e2, e3]; rfl
  have key : ∀ (b : List UInt8) (E : Entry), E = ⟨number (b.take 4), number ((b.drop 4).take 1), number ((b.drop 5).take 1)⟩ →
      readEntry b = if b.length = 8 ∧ E.bits ≤ 32 ∧ netOf E.bits E.net = E.net ∧ 1 ≤ E.dist ∧ E.dist ≤ FAR ∧ b.drop 6 = [0, 0] then some E else none := fun b E h => by rw [h]; rfl
  rw [key _ _ e5.symm, e4]
  by_cases c : (entAt bs at_).bits ≤ 32 ∧ (1 ≤ (entAt bs at_).dist ∧ (entAt bs at_).dist ≤ 16) ∧ number ((bs.drop (at_ + 6)).take 2) = 0 ∧ netOf (entAt bs at_).bits (entAt bs at_).net = (entAt bs at_).net
  · rw [if_pos c, if_pos ⟨l8, c.1, c.2.2.2, c.2.1.1, c.2.1.2, (two_zero l2).mpr c.2.2.1⟩]
  · rw [if_neg c, if_neg fun z => c ⟨z.2.1, ⟨z.2.2.2.1, z.2.2.2.2.1⟩, (two_zero l2).mp z.2.2.2.2.2, z.2.2.1⟩]
/-- entries that are all there, or none -/
def allSome {α : Type} : List (Option α) → Option (List α)
  | [] => some []
  | none :: _ => none
  | some x :: r => (allSome r).map fun l => x :: l
theorem readEntries_eq : ∀ (n : Nat) (b : List UInt8), b.length = 8 * n → readEntries n b = allSome ((List.range n).map fun k => readEntry ((b.drop (8 * k)).take 8))
  | 0, b, h => by
    unfold readEntries
    rw [List.eq_nil_of_length_eq_zero h]
    rfl
  | n + 1, b, h => by
    have ih := readEntries_eq n (b.drop 8) (by rw [List.length_drop]; omega)
    unfold readEntries
    rw [ih, List.range_succ_eq_map, List.map_cons, List.map_map]
    have e : (List.range n).map (fun k => readEntry (((b.drop 8).drop (8 * k)).take 8)) = (List.range n).map ((fun k => readEntry ((b.drop (8 * k)).take 8)) ∘ Nat.succ) := by
      refine List.map_congr_left fun k _ => ?_
      show readEntry _ = readEntry _
      rw [List.drop_drop]
      rw [show 8 + 8 * k = 8 * Nat.succ k from by rw [Nat.mul_succ, Nat.add_comm]]
    rw [e]
    show (readEntry (b.take 8)).bind _ = allSome (readEntry ((b.drop 0).take 8) :: _)
    rw [List.drop_zero]
    cases readEntry (b.take 8) with
    | none => rfl
    | some x => rfl
theorem readEntries_len : ∀ {n : Nat} {b : List UInt8} {l : List Entry}, readEntries n b = some l → b.length = 8 * n ∧ l.length = n
  | 0, b, l, h => by
    unfold readEntries at h
    by_cases c : b = []
    · rw [if_pos c] at h
      rw [c, ← Option.some.inj h]
      exact ⟨rfl, rfl⟩
    · rw [if_neg c] at h; cases h
  | n + 1, b, l, h => by
    unfold readEntries at h
    cases e1 : readEntry (b.take 8) with
    | none => rw [e1] at h; cases h
    | some x =>
      rw [e1] at h
      cases e2 : readEntries n (b.drop 8) with
      | none =>
        have h' : Option.map (fun l => x :: l) (readEntries n (b.drop 8)) = some l := h
        rw [e2] at h'
        cases h'
      | some r =>
        have h' : Option.map (fun l => x :: l) (readEntries n (b.drop 8)) = some l := h
        rw [e2] at h'
        have e3 := readEntries_len e2
        have e4 : (b.take 8).length = 8 := by
          unfold readEntry at e1
          by_cases c : (b.take 8).length = 8
          · exact c
          · rw [if_neg fun z => c z.1] at e1; cases e1
        rw [List.length_drop] at e3
        rw [List.length_take] at e4
        rw [← Option.some.inj h', List.length_cons]
        omega
/-- a message, as the program reads it -/
theorem read_eq {bs : List UInt8} (h : 2 ≤ bs.length) : Ra54.read bs = if (1 ≤ number (bs.take 2) ∧ number (bs.take 2) ≤ 64) ∧ bs.length = 2 + 8 * number (bs.take 2) then
    allSome ((List.range (number (bs.take 2))).map fun k => readEntry ((bs.drop (2 + 8 * k)).take 8)) else none := by
  unfold Ra54.read
  by_cases c : (1 ≤ number (bs.take 2) ∧ number (bs.take 2) ≤ 64) ∧ bs.length = 2 + 8 * number (bs.take 2)
  · rw [if_pos c]
    have e := readEntries_eq (number (bs.take 2)) (bs.drop 2) (by rw [List.length_drop]; omega)
    simp only
    rw [if_pos ⟨h, c.1.1, c.1.2⟩, e]
    refine congrArg allSome (List.map_congr_left fun k _ => ?_)
    rw [List.drop_drop]
  · rw [if_neg c]
    simp only
    by_cases d : 2 ≤ bs.length ∧ 1 ≤ number (bs.take 2) ∧ number (bs.take 2) ≤ 64
    · rw [if_pos d]
      cases e : readEntries (number (bs.take 2)) (bs.drop 2) with
      | none => rfl
      | some l =>
        have z := (readEntries_len e).1
        rw [List.length_drop] at z
        exact absurd ⟨⟨d.2.1, d.2.2⟩, by omega⟩ c
    · rw [if_neg d]
theorem read_short {bs : List UInt8} (h : bs.length < 2) : Ra54.read bs = none := by
  unfold Ra54.read
  simp only
  rw [if_neg fun z => by omega]
theorem readEntry_ok {b : List UInt8} {e : Entry} (h : readEntry b = some e) : e.bits ≤ 32 ∧ 1 ≤ e.dist ∧ e.dist ≤ 16 := by
  unfold readEntry at h
  simp only at h
  split at h
  · rename_i c
    rw [← Option.some.inj h]
    exact ⟨c.2.1, c.2.2.2.1, c.2.2.2.2.1⟩
  · cases h
theorem readEntries_ok : ∀ {n : Nat} {b : List UInt8} {l : List Entry}, readEntries n b = some l → ∀ e ∈ l, e.bits ≤ 32 ∧ 1 ≤ e.dist ∧ e.dist ≤ 16
  | 0, b, l, h => by
    unfold readEntries at h
    by_cases c : b = []
    · rw [if_pos c] at h
      rw [← Option.some.inj h]
      intro e he
      cases he
    · rw [if_neg c] at h; cases h
  | n + 1, b, l, h => by
    unfold readEntries at h
    cases e1 : readEntry (b.take 8) with
    | none => rw [e1] at h; cases h
    | some x =>
      rw [e1] at h
      have h' : Option.map (fun l => x :: l) (readEntries n (b.drop 8)) = some l := h
      cases e2 : readEntries n (b.drop 8) with
      | none =>
        rw [e2] at h'
        cases h'
      | some r =>
        rw [e2] at h'
        rw [← Option.some.inj h']
        intro e he
        rcases List.mem_cons.mp he with q | he
        · rw [q]; exact readEntry_ok e1
        · exact readEntries_ok e2 e he
theorem read_ok {bs : List UInt8} {l : List Entry} (h : Ra54.read bs = some l) : ∀ e ∈ l, e.bits ≤ 32 ∧ 1 ≤ e.dist ∧ e.dist ≤ 16 := by
  unfold Ra54.read at h
  simp only at h
  split at h
  · exact readEntries_ok h
  · cases h
end Nr
namespace Nr
open Ra54
/-! ### what does not hang on the order -/
def cand (a : Nat) (r : Rt) : Prop := r.dist < FAR ∧ netOf r.bits a = r.net
instance (a : Nat) (r : Rt) : Decidable (cand a r) := inferInstanceAs (Decidable (_ ∧ _))
def bestStep (a : Nat) (m : Option Rt) (r : Rt) : Option Rt := if cand a r then (match m with
  | some q => if q.bits < r.bits then some r else some q
  | none => some r) else m
theorem best_eq (l : List Rt) (a : Nat) : best l a = l.foldl (bestStep a) none := rfl
/-- the best of a list -/
def IsBest (a : Nat) (l : List Rt) : Option Rt → Prop
  | none => ∀ r ∈ l, ¬ cand a r
  | some r => r ∈ l ∧ cand a r ∧ ∀ q ∈ l, cand a q → q.bits ≤ r.bits
theorem isBest_snoc {a : Nat} {l : List Rt} {o : Option Rt} (r : Rt) (h : IsBest a l o) : IsBest a (l ++ [r]) (bestStep a o r) := by
  unfold bestStep
  by_cases c : cand a r
  · rw [if_pos c]
    cases o with
    | none =>
      refine ⟨by simp, c, fun q hq hc => ?_⟩
      rcases List.mem_append.mp hq with hq | hq
      · exact absurd hc (h q hq)
      · rw [List.mem_singleton.mp hq]; exact Nat.le_refl _
    | some b =>
      obtain ⟨h1, h2, h3⟩ := h
      show IsBest a _ (if b.bits < r.bits then some r else some b)
      by_cases e : b.bits < r.bits
      · rw [if_pos e]
        refine ⟨by simp, c, fun q hq hc => ?_⟩
        rcases List.mem_append.mp hq with hq | hq
        · have := h3 q hq hc; omega
        · rw [List.mem_singleton.mp hq]; exact Nat.le_refl _
      · rw [if_neg e]
        refine ⟨List.mem_append.mpr (.inl h1), h2, fun q hq hc => ?_⟩
        rcases List.mem_append.mp hq with hq | hq
        · exact h3 q hq hc
        · rw [List.mem_singleton.mp hq]; omega
  · rw [if_neg c]
    cases o with
    | none =>
      intro q hq
      rcases List.mem_append.mp hq with hq | hq
      · exact h q hq
      · rw [List.mem_singleton.mp hq]; exact c
    | some b =>
      obtain ⟨h1, h2, h3⟩ := h
      refine ⟨List.mem_append.mpr (.inl h1), h2, fun q hq hc => ?_⟩
      rcases List.mem_append.mp hq with hq | hq
      · exact h3 q hq hc
      · rw [List.mem_singleton.mp hq] at hc; exact absurd hc c
theorem best_fold (a : Nat) : ∀ (l m : List Rt) (o : Option Rt), IsBest a m o → IsBest a (m ++ l) (l.foldl (bestStep a) o)
  | [], m, o, h => by rw [List.append_nil]; exact h
  | r :: l, m, o, h => by
    have := best_fold a l (m ++ [r]) (bestStep a o r) (isBest_snoc r h)
    rw [List.append_assoc] at this
    exact this
theorem best_is (l : List Rt) (a : Nat) : IsBest a l (best l a) := by
  have := best_fold a l [] none (fun r hr => by cases hr)
  exact this
theorem isBest_uniq {a : Nat} {l m : List Rt} (h : PermS m l) {o o' : Option Rt} (h1 : IsBest a m o) (h2 : IsBest a l o') : o = o' := by
  cases o with
  | none =>
    cases o' with
    | none => rfl
    | some r => exact absurd h2.2.1 (h1 r (h.mem.mpr h2.1))
  | some r =>
    cases o' with
    | none => exact absurd h1.2.1 (h2 r (h.mem.mp h1.1))
    | some q =>
      obtain ⟨a1, a2, a3⟩ := h1
      obtain ⟨b1, b2, b3⟩ := h2
      have e1 := a3 q (h.mem.mpr b1) b2
      have e2 := b3 r (h.mem.mp a1) a2
      have e : r.bits = q.bits := by omega
      have en : r.net = q.net := by rw [← a2.2, ← b2.2, e]
      rw [uniq_of h.nodup a1 (h.mem.mpr b1) (kb_iff.mpr ⟨en, e⟩)]
theorem best_perm {m l : List Rt} (h : PermS m l) (a : Nat) : best m a = best l a := isBest_uniq h (best_is m a) (best_is l a)
/-- whether a route is another than it was -/
def isOther (l : List Rt) (r : Rt) : Bool := match routeOf l r.net r.bits with
  | some q => !(q.dist == r.dist && (q.link == r.link && q.via == r.via))
  | none => true
theorem differ_eq (a b : List Rt) : differ a b = (b.filter (isOther a)).length := rfl
theorem differ_perm {m l m' l' : List Rt} (h : PermS m l) (h' : PermS m' l') : differ m m' = differ l l' := by
  rw [differ_eq, differ_eq]
  have e : isOther m = isOther l := by
    funext r
    unfold isOther
    rw [h.find]
  rw [e]
  exact (h'.perm.filter _).length_eq
/-! ### when a tick is wanted -/
/-- the times that a route gives -/
def dueOf (now soon : Nat) (r : Rt) : List Nat := (if r.changed = true then [max soon now] else []) ++ (if r.dist = FAR then [r.gone] else if 0 < r.via then [r.good] else [])
def IsLeast (l : List Nat) (n : Nat) : Prop := n ∈ l ∧ ∀ x ∈ l, n ≤ x
theorem isLeast_uniq {l m : List Nat} {a b : Nat} (h : ∀ x, x ∈ l ↔ x ∈ m) (ha : IsLeast l a) (hb : IsLeast m b) : a = b := Nat.le_antisymm (ha.2 b ((h b).mpr hb.1)) (hb.2 a ((h a).mp ha.1))
theorem isLeast_snoc {l : List Nat} {n x : Nat} (h : IsLeast l n) : IsLeast (l ++ [x]) (min n x) := by
  refine ⟨?_, fun y hy => ?_⟩
  · rcases Nat.le_total n x with e | e
    · rw [Nat.min_eq_left e]; exact List.mem_append.mpr (.inl h.1)
    · rw [Nat.min_eq_right e]; simp
  · rcases List.mem_append.mp hy with hy | hy
    · exact Nat.le_trans (Nat.min_le_left _ _) (h.2 y hy)
    · rw [List.mem_singleton.mp hy]; exact Nat.min_le_right _ _
def dueStep (s : St) (t : Nat) (r : Rt) : Nat :=
  let t := if r.changed = true then min t (max s.now s.soon) else t
  if r.dist = FAR then min t r.gone else if 0 < r.via then min t r.good else t
theorem dueAt_eq (s : St) : dueAt s = s.routes.foldl (dueStep s) s.full := rfl
theorem dueStep_least {s : St} {l : List Nat} {n : Nat} (r : Rt) (h : IsLeast l n) : IsLeast (l ++ dueOf s.now s.soon r) (dueStep s n r) := by
  unfold dueOf dueStep
  rw [Nat.max_comm s.soon s.now]
  have h1 : IsLeast (l ++ (if r.changed = true then [max s.now s.soon] else [])) (if r.changed = true then min n (max s.now s.soon) else n) := by
    by_cases c : r.changed = true
    · rw [if_pos c, if_pos c]; exact isLeast_snoc h
    · rw [if_neg c, if_neg c, List.append_nil]; exact h
  rw [← List.append_assoc]
  simp only
  by_cases c : r.dist = FAR
  · rw [if_pos c, if_pos c]; exact isLeast_snoc h1
  · rw [if_neg c, if_neg c]
    by_cases d : 0 < r.via
    · rw [if_pos d, if_pos d]; exact isLeast_snoc h1
    · rw [if_neg d, if_neg d, List.append_nil]; exact h1
theorem due_fold (s : St) : ∀ (rs : List Rt) (l : List Nat) (n : Nat), IsLeast l n → IsLeast (l ++ rs.flatMap (dueOf s.now s.soon)) (rs.foldl (dueStep s) n)
  | [], l, n, h => by rw [List.flatMap_nil, List.append_nil]; exact h
  | r :: rs, l, n, h => by
    have := due_fold s rs _ _ (dueStep_least (s := s) r h)
    rw [List.append_assoc] at this
    exact this
theorem dueAt_least (s : St) : IsLeast (s.full :: s.routes.flatMap (dueOf s.now s.soon)) (dueAt s) := by
  have := due_fold s s.routes [s.full] s.full ⟨List.mem_singleton.mpr rfl, fun x hx => by rw [List.mem_singleton.mp hx]; exact Nat.le_refl _⟩
  exact this
/-! ### offered -/
theorem RtOk.new {e : Entry} {i x g : Nat} (h : e.bits ≤ 32 ∧ 1 ≤ e.dist ∧ e.dist ≤ 16) : RtOk ⟨e.net, e.bits, e.dist, i, x, g, 0, 0, true⟩ := ⟨h.1, h.2.2, fun z => by
  have z' : e.dist = 0 := z
  omega⟩
theorem RtOk.lost {r : Rt} (h : RtOk r) (now : Nat) : RtOk (lost now r) := ⟨h.bits, (by show 16 ≤ 16; omega), fun z => (by
  have z' : (16 : Nat) = 0 := z
  omega)⟩
theorem RtOk.good {r : Rt} (h : RtOk r) (g : Nat) : RtOk { r with good := g } := ⟨h.bits, h.dist, h.own⟩
theorem lost_kb (now : Nat) (r : Rt) : kb (lost now r) = kb r := rfl
theorem offered_ok {now i x : Nat} {l : List Rt} {e : Entry} (h : TbOk l) (he : e.bits ≤ 32 ∧ 1 ≤ e.dist ∧ e.dist ≤ 16) : TbOk (offered now i x l e) := by
  unfold offered
  simp only
  have hn : RtOk ⟨e.net, e.bits, e.dist, i, x, now + GOOD, 0, 0, true⟩ := RtOk.new he
  cases q : routeOf l e.net e.bits with
  | none =>
    simp only
    split
    · rename_i c
      exact h.put hn (.inl c.2)
    · exact h
  | some r =>
    obtain ⟨h1, h2, h3⟩ := routeOf_some q
    have ho := h.all r h1
    have hk : kb r = kb ⟨e.net, e.bits, e.dist, i, x, now + GOOD, 0, 0, true⟩ := kb_iff.mpr ⟨h2, h3⟩
    simp only
    split
    · exact h
    · split
      · split
        · split
          · exact h.put (ho.good _) (.inr ⟨r, h1, rfl⟩)
          · exact h
        · split
          · exact h.put (ho.lost _) (.inr ⟨r, h1, rfl⟩)
          · exact h.put hn (.inr ⟨r, h1, hk⟩)
      · split
        · split
          · exact h
          · exact h.put hn (.inr ⟨r, h1, hk⟩)
        · split
          · exact h.put hn (.inr ⟨r, h1, hk⟩)
          · exact h
theorem offers_ok {now i x : Nat} : ∀ {es : List Entry} {l : List Rt}, TbOk l → (∀ e ∈ es, e.bits ≤ 32 ∧ 1 ≤ e.dist ∧ e.dist ≤ 16) → TbOk (es.foldl (offered now i x) l)
  | [], l, h, _ => h
  | e :: es, l, h, he => offers_ok (es := es) (l := offered now i x l e) (offered_ok h (he e (List.mem_cons_self ..))) fun y hy => he y (List.mem_cons_of_mem _ hy)
/-! ### lists by place -/
theorem ne_take {m : List Rt} (h : (m.map kb).Nodup) {i : Nat} {r : Rt} (hr : m[i]? = some r) : ∀ q ∈ m.take i, kb q ≠ kb r := by
  intro q hq e
  have hm : m = m.take i ++ r :: m.drop (i + 1) := by
    have hi := (List.getElem?_eq_some_iff.mp hr).1
    have e2 : m.drop i = r :: m.drop (i + 1) := by
      rw [List.drop_eq_getElem_cons hi]
      rw [(List.getElem?_eq_some_iff.mp hr).2]
    rw [← e2, List.take_append_drop]
  rw [hm, List.map_append, List.map_cons] at h
  have := (List.nodup_append.mp h).2.2 (kb q) (List.mem_map.mpr ⟨q, hq, rfl⟩) (kb r) (List.mem_cons_self ..)
  exact this e
theorem routeOf_take {m : List Rt} (h : (m.map kb).Nodup) {i : Nat} {r : Rt} (hr : m[i]? = some r) : routeOf (m.take i) r.net r.bits = none := by
  cases e : routeOf (m.take i) r.net r.bits with
  | none => rfl
  | some q =>
    obtain ⟨h1, h2, h3⟩ := routeOf_some e
    exact absurd (kb_iff.mpr ⟨h2, h3⟩) (ne_take h hr q h1)
/-! ### time goes on -/
def isGone (now : Nat) (r : Rt) : Bool := r.dist == FAR && decide (r.gone ≤ now)
def ageOne (now : Nat) (r : Rt) : Rt := if 0 < r.via ∧ r.dist < FAR ∧ r.good ≤ now then lost now r else r
theorem aged_eq (now : Nat) (l : List Rt) : aged now l = (l.filter fun r => !isGone now r).map (ageOne now) := rfl
theorem ageOne_kb (now : Nat) (r : Rt) : kb (ageOne now r) = kb r := by
  unfold ageOne
  split
  · rfl
  · rfl
theorem ageOne_ok {now : Nat} {r : Rt} (h : RtOk r) : RtOk (ageOne now r) := by
  unfold ageOne
  split
  · exact h.lost now
  · exact h
theorem TbOk.filter {l : List Rt} (h : TbOk l) (p : Rt → Bool) : TbOk (l.filter p) := ⟨List.Pairwise.filter p h.srt, fun r hr => h.all r (List.mem_filter.mp hr).1, Nat.le_trans (List.length_filter_le _ _) h.few⟩
theorem TbOk.map {l : List Rt} (h : TbOk l) {f : Rt → Rt} (hk : ∀ r, kb (f r) = kb r) (ho : ∀ r, RtOk r → RtOk (f r)) : TbOk (l.map f) := ⟨srt_map hk h.srt, fun r hr => (by
  obtain ⟨q, hq, rfl⟩ := List.mem_map.mp hr
  exact ho q (h.all q hq)), by rw [List.length_map]; exact h.few⟩
theorem aged_ok {now : Nat} {l : List Rt} (h : TbOk l) : TbOk (aged now l) := by
  rw [aged_eq]
  exact (h.filter _).map (ageOne_kb now) fun r hr => ageOne_ok hr
theorem PermS.aged {m l : List Rt} (h : PermS m l) (now : Nat) : PermS (Ra54.aged now m) (Ra54.aged now l) := by
  rw [aged_eq, aged_eq]
  exact (h.filter _).map (ageOne_kb now)
end Nr
namespace Nr
open Ra54
/-! ### what is told -/
/-- how many messages tell so many -/
def chunks (n : Nat) : Nat := (n + 63) / 64
theorem chunks_zero : chunks 0 = 0 := rfl
theorem chunks_succ {n : Nat} (h : 0 < n) : chunks n = chunks (n - 64) + 1 := by
  unfold chunks
  omega
theorem split_eq : ∀ (f : Nat) (l : List Entry), l.length < f → split f l = (List.range (chunks l.length)).map fun k => message ((l.drop (64 * k)).take 64)
  | 0, l, h => by omega
  | f + 1, l, h => by
    unfold split
    by_cases c : l = []
    · rw [if_pos c, c]
      rfl
    · rw [if_neg c]
      have hl : 0 < l.length := List.length_pos_iff.mpr c
      have ih := split_eq f (l.drop 64) (by rw [List.length_drop]; omega)
      rw [ih, chunks_succ hl, List.length_drop, List.range_succ_eq_map, List.map_cons, List.map_map]
      show message (l.take 64) :: _ = message ((l.drop (64 * 0)).take 64) :: _
      rw [Nat.mul_zero, List.drop_zero]
      refine congrArg _ (List.map_congr_left fun k _ => ?_)
      show message (((l.drop 64).drop (64 * k)).take 64) = message ((l.drop (64 * (k + 1))).take 64)
      rw [List.drop_drop, show 64 + 64 * k = 64 * (k + 1) from by omega]
/-- told on one link -/
def toldLink (s : St) (l : List Rt) (i : Nat) : List (Nat × Bytes) := match linkAt s i with
  | some _ => (List.range (chunks l.length)).map fun k => (i, message (((l.drop (64 * k)).take 64).map (toldOn i)))
  | none => []
theorem telling_eq (s : St) (l : List Rt) : telling s l = (List.range 4).flatMap (toldLink s l) := by
  unfold telling
  congr 1
  funext i
  unfold toldLink
  cases linkAt s i with
  | none => rfl
  | some _ =>
    show List.map _ (split _ _) = _
    rw [split_eq _ _ (by rw [List.length_map]; omega), List.length_map, List.map_map]
    refine List.map_congr_left fun k _ => ?_
    show (i, _) = (i, _)
    rw [List.map_take, List.map_drop]
theorem range4_more {α : Type} (f : Nat → List α) (i : Nat) : (List.range (i + 1)).flatMap f = (List.range i).flatMap f ++ f i := by
  rw [List.range_succ, List.flatMap_append]
  simp
theorem range_more {α : Type} (f : Nat → α) (i : Nat) : (List.range (i + 1)).map f = (List.range i).map f ++ [f i] := by
  rw [List.range_succ, List.map_append]
  rfl
theorem toldOn_ok {i : Nat} {r : Rt} (h : RtOk r) : (toldOn i r).bits ≤ 32 ∧ (toldOn i r).dist ≤ 16 := by
  refine ⟨h.bits, ?_⟩
  show (if r.link = i then FAR else min FAR (r.dist + 1)) ≤ 16
  split
  · exact Nat.le_refl _
  · exact Nat.min_le_left _ _
/-! ### a tick -/
def quiet (r : Rt) : Rt := { r with changed := false }
def tickOf (s : St) (now : Nat) : St × List (Nat × Bytes) :=
  let rs := aged now s.routes
  let s1 : St := { s with now := now, routes := rs }
  if s.full ≤ now then ({ s1 with routes := rs.map quiet, full := now + 30000, soon := now + 1000 }, telling s1 rs)
  else if s.soon ≤ now ∧ (rs.any fun r => r.changed) = true then ({ s1 with routes := rs.map quiet, soon := now + 1000 }, telling s1 (rs.filter fun r => r.changed))
  else (s1, [])
theorem step_tick (s : St) (now : Nat) (h : ¬ (now < s.now ∨ 2 ^ 62 ≤ now)) : Ra54.step (some s) (.tick now) = (some (tickOf s now).1, { value := ((tickOf s now).2.length : Nat), sent := (tickOf s now).2 }) := by
  show (if now < s.now ∨ 2 ^ 62 ≤ now then _ else _) = _
  rw [if_neg h]
  unfold tickOf
  simp only
  by_cases c1 : s.full ≤ now
  · rw [if_pos c1, if_pos c1]
    rfl
  · rw [if_neg c1, if_neg c1]
    by_cases c2 : s.soon ≤ now ∧ ((aged now s.routes).any fun r => r.changed) = true
    · rw [if_pos c2, if_pos c2]
      rfl
    · rw [if_neg c2, if_neg c2]
      rfl
theorem quiet_kb (r : Rt) : kb (quiet r) = kb r := rfl
theorem quiet_ok {r : Rt} (h : RtOk r) : RtOk (quiet r) := ⟨h.bits, h.dist, h.own⟩
theorem any_filter {l : List Rt} : (l.any fun r => r.changed) = true ↔ (l.filter fun r => r.changed) ≠ [] := by
  rw [List.any_eq_true]
  constructor
  · rintro ⟨r, hr, h⟩ e
    have : r ∈ l.filter fun r => r.changed := List.mem_filter.mpr ⟨hr, h⟩
    rw [e] at this
    cases this
  · intro h
    cases e : l.filter fun r => r.changed with
    | nil => exact absurd e h
    | cons r t =>
      have : r ∈ l.filter fun r => r.changed := by rw [e]; exact List.mem_cons_self ..
      exact ⟨r, (List.mem_filter.mp this).1, (List.mem_filter.mp this).2⟩
end Nr
namespace Nr
open PySem PySem.Spec PyProof.Rows L2
/-! ### how things lie in the heap -/
theorem lk_here {k : Str} {v : V} {r : List (Str × V)} : List.lookup k ((k, v) :: r) = some v := by
  have e : (k == k) = true := beq_self_eq_true k
  simp only [List.lookup, e]
theorem lk_past {k g : Str} {v : V} {r : List (Str × V)} (h : (k == g) = false) : List.lookup k ((g, v) :: r) = List.lookup k r := by
  simp only [List.lookup, h]
theorem put_here {f : Str} {v x : V} {r : List (Str × V)} : putF f v ((f, x) :: r) = (f, v) :: r := if_pos rfl
theorem put_past {f g : Str} {v x : V} {r : List (Str × V)} (h : ¬ g = f) : putF f v ((g, x) :: r) = (g, x) :: putF f v r := if_neg h
theorem put_nil {f : Str} {v : V} : putF f v [] = [(f, v)] := rfl
abbrev nV (n : Nat) : V := .int (n : Int)
abbrev u8V (b : UInt8) : V := .int (b.toNat : Int)
def toldF (e : Ra54.Entry) : List (Str × V) := [("address", nV e.net), ("bits", nV e.bits), ("far", nV e.dist)]
def rF (r : Rt) : List (Str × V) := [("far", nV r.dist), ("link", nV r.link), ("neighbour", nV r.via), ("good", nV r.good), ("others", nV r.held), ("forgotten", nV r.gone), ("has_changed", .bl r.changed)]
def ToldAt (C : Addr) (H : Hp) (p : Addr) (e : Ra54.Entry) : Prop := ∃ dx, H p = some (.ins C dx (toldF e))
def RtAt (C : Addr) (H : Hp) (p : Addr) (r : Rt) : Prop := ∃ dx, H p = some (.ins C dx (rF r))
section
variable (e : Ra54.Entry) (r : Rt)
theorem toldF_address : (toldF e).lookup ("address" : Str) = some (nV e.net) := lk_here
theorem toldF_bits : (toldF e).lookup ("bits" : Str) = some (nV e.bits) := (lk_past (by decide +kernel)).trans lk_here
theorem toldF_far : (toldF e).lookup ("far" : Str) = some (nV e.dist) := (lk_past (by decide +kernel)).trans ((lk_past (by decide +kernel)).trans lk_here)
theorem rF_far : (rF r).lookup ("far" : Str) = some (nV r.dist) := lk_here
theorem rF_link : (rF r).lookup ("link" : Str) = some (nV r.link) := (lk_past (by decide +kernel)).trans lk_here
theorem rF_neighbour : (rF r).lookup ("neighbour" : Str) = some (nV r.via) := (lk_past (by decide +kernel)).trans ((lk_past (by decide +kernel)).trans lk_here)
theorem rF_good : (rF r).lookup ("good" : Str) = some (nV r.good) := (lk_past (by decide +kernel)).trans ((lk_past (by decide +kernel)).trans ((lk_past (by decide +kernel)).trans lk_here))
theorem rF_others : (rF r).lookup ("others" : Str) = some (nV r.held) := (lk_past (by decide +kernel)).trans ((lk_past (by decide +kernel)).trans ((lk_past (by decide +kernel)).trans ((lk_past (by decide +kernel)).trans lk_here)))
theorem rF_forgotten : (rF r).lookup ("forgotten" : Str) = some (nV r.gone) := (lk_past (by decide +kernel)).trans ((lk_past (by decide +kernel)).trans ((lk_past (by decide +kernel)).trans ((lk_past (by decide +kernel)).trans ((lk_past (by decide +kernel)).trans lk_here))))
theorem rF_has_changed : (rF r).lookup ("has_changed" : Str) = some (.bl r.changed) := (lk_past (by decide +kernel)).trans ((lk_past (by decide +kernel)).trans ((lk_past (by decide +kernel)).trans ((lk_past (by decide +kernel)).trans ((lk_past (by decide +kernel)).trans ((lk_past (by decide +kernel)).trans lk_here)))))
theorem rF_meth1 : (rF r).lookup ("is_in_reach" : Str) = none := (lk_past (by decide +kernel)).trans ((lk_past (by decide +kernel)).trans ((lk_past (by decide +kernel)).trans ((lk_past (by decide +kernel)).trans ((lk_past (by decide +kernel)).trans ((lk_past (by decide +kernel)).trans ((lk_past (by decide +kernel)).trans rfl))))))
theorem rF_meth2 : (rF r).lookup ("sight" : Str) = none := (lk_past (by decide +kernel)).trans ((lk_past (by decide +kernel)).trans ((lk_past (by decide +kernel)).trans ((lk_past (by decide +kernel)).trans ((lk_past (by decide +kernel)).trans ((lk_past (by decide +kernel)).trans ((lk_past (by decide +kernel)).trans rfl))))))
theorem rF_set_good (n : Nat) : putF "good" (nV n) (rF r) = rF { r with good := n } := (put_past (by decide +kernel)).trans (congrArg _ ((put_past (by decide +kernel)).trans (congrArg _ ((put_past (by decide +kernel)).trans (congrArg _ put_here)))))
theorem rF_set_changed (b : Bool) : putF "has_changed" (.bl b) (rF r) = rF { r with changed := b } := (put_past (by decide +kernel)).trans (congrArg _ ((put_past (by decide +kernel)).trans (congrArg _ ((put_past (by decide +kernel)).trans (congrArg _ ((put_past (by decide +kernel)).trans (congrArg _ ((put_past (by decide +kernel)).trans (congrArg _ ((put_past (by decide +kernel)).trans (congrArg _ put_here)))))))))))
theorem rF_set_far (n : Nat) : putF "far" (nV n) (rF r) = rF { r with dist := n } := put_here
theorem rF_set_others (n : Nat) : putF "others" (nV n) (rF r) = rF { r with held := n } := (put_past (by decide +kernel)).trans (congrArg _ ((put_past (by decide +kernel)).trans (congrArg _ ((put_past (by decide +kernel)).trans (congrArg _ ((put_past (by decide +kernel)).trans (congrArg _ put_here)))))))
theorem rF_set_forgotten (n : Nat) : putF "forgotten" (nV n) (rF r) = rF { r with gone := n } := (put_past (by decide +kernel)).trans (congrArg _ ((put_past (by decide +kernel)).trans (congrArg _ ((put_past (by decide +kernel)).trans (congrArg _ ((put_past (by decide +kernel)).trans (congrArg _ ((put_past (by decide +kernel)).trans (congrArg _ put_here)))))))))
end
/-- new objects beside, all that was tracked stands -/
theorem same_new {H H' : Hp} {p : Addr} {o : HO} (e : Same H H') (h : H' p = none) : Same H (upd H' p o) := fun b u q => by
  rw [upd_ne (ne_of_none (e b u q) h)]
  exact e b u q
theorem same_new0 {H : Hp} {p : Addr} {o : HO} (h : H p = none) : Same H (upd H p o) := same_new (Same.refl H) h
/-- an object that H does not know may change -/
theorem same_mut {H H' : Hp} {p : Addr} {o : HO} (e : Same H H') (h : H p = none) : Same H (upd H' p o) := fun b u q => by
  rw [upd_ne (ne_of_none q h)]
  exact e b u q
theorem ToldAt.same {C : Addr} {H H' : Hp} {p : Addr} {e : Ra54.Entry} (h : ToldAt C H p e) (s : Same H H') : ToldAt C H' p e := let ⟨dx, q⟩ := h; ⟨dx, s _ _ q⟩
theorem RtAt.same {C : Addr} {H H' : Hp} {p : Addr} {r : Rt} (h : RtAt C H p r) (s : Same H H') : RtAt C H' p r := let ⟨dx, q⟩ := h; ⟨dx, s _ _ q⟩
theorem sz {n : Nat} (h : n ≤ 16777216) : n ≤ sizeLine := by rw [sizeLine_eq]; exact h
end Nr
namespace Nr
open PySem PySem.Spec PyProof.Rows L2
theorem rel_int {i : Int} {t : Tok} : RelV (.int i) (.int i t) := ⟨t, rfl⟩
end Nr
namespace Nr
open PySem PySem.Spec PyProof.Rows L2
theorem few_put {f : Str} {v : V} : ∀ {fs : List (Str × V)} {n : Nat}, fs.length ≤ n → (putF f v fs).length ≤ n + 1
  | [], n, _ => Nat.succ_le_succ (Nat.zero_le n)
  | (g, x) :: r, 0, h => absurd h (by simp)
  | (g, x) :: r, n + 1, h => by
    unfold putF
    have h' : r.length ≤ n := Nat.le_of_succ_le_succ h
    split
    · exact Nat.succ_le_succ (Nat.le_succ_of_le h')
    · exact Nat.succ_le_succ (few_put h')
theorem few {fs : List (Str × V)} (n : Nat) (h : fs.length ≤ n) (hn : n < 1000 := by decide) : fs.length < 1000 := Nat.lt_of_le_of_lt h hn
theorem few0 {n : Nat} : ([] : List (Str × V)).length ≤ n := Nat.zero_le n
end Nr
namespace Nr
open PySem PySem.Spec PyProof.Rows L2
def rNotN1 : R2 := fun x y H Q => y = .non ∧ Q (.bl (!decide (x = .non))) H
end Nr
namespace Nr
open PySem PySem.Spec PyProof.Rows L2
section
variable {P : Program} {w : World} {K : PySem.W.Frag} {mg : Str → Option Value} {base : Heap} {a : Ad}
/-! ### Told -/
def sp_Told_init (K : PySem.W.Frag) (a : Ad) : Sp := fun vs H Q _ => ∃ (p dx : Addr) (x b f : V), vs = [.ref p, x, b, f] ∧ H p = some (.ins a.c_Told dx []) ∧ Q .non (upd H p (.ins a.c_Told dx [("address", x), ("bits", b), ("far", f)]))
theorem len_Told_init {vs : List V} {H : Hp} {Q : VK} {E : XK} (h : sp_Told_init K a vs H Q E) : vs.length = 4 := by
  obtain ⟨_, _, _, _, _, rfl, _⟩ := h
  rfl
theorem ok_Told_init (T : Txt K mg a) : FnOk P w K mg base CX0 1 a.f_Told_init a.d_Told_init ["self", "address", "bits", "far"] (sp_Told_init K a) := by
  refine T.F_Told_init.ok sc_Told_init (fun vs H Q E h => len_Told_init h) (fun cdv A outer s H vs Q E hr h => ?_)
  refine ⟨_, (pss_cons (ps_fld (pv 0) (pv 1) rfl)
      (pss_cons (ps_fld (pv 0) (pv 2) rfl)
      (pss_one (ps_fld (pv 0) (pv 3) rfl)))), ?_⟩
  obtain ⟨p, dx, x, b, f, rfl, hp, q⟩ := h
  refine ⟨_, rfl, _, rfl, p, _, dx, _, rfl, hp, T.cl_Told, T.n_Told_address, by decide, ?_⟩
  refine ⟨_, rfl, _, rfl, p, _, dx, _, rfl, upd_same, T.cl_Told, T.n_Told_bits, few 1 (few_put few0), ?_⟩
  refine ⟨_, rfl, _, rfl, p, _, dx, _, rfl, upd_same, T.cl_Told, T.n_Told_far, few 2 (few_put (few_put few0)), ?_⟩
  rw [upd_upd, upd_upd]
  exact q
/-! ### network_of -/
def sp_network_of (K : PySem.W.Frag) (a : Ad) : Sp := fun vs H Q _ => ∃ (x b : Nat), vs = [nV x, nV b] ∧ x < 2 ^ 64 ∧ b ≤ 32 ∧ Q (nV (Ra54.netOf b x)) H
theorem len_network_of {vs : List V} {H : Hp} {Q : VK} {E : XK} (h : sp_network_of K a vs H Q E) : vs.length = 2 := by
  obtain ⟨_, _, rfl, _⟩ := h
  rfl
theorem netOf_int {b x : Nat} (hb : b ≤ 32) : ((x : Int) / 2 ^ ((32 : Int) - b).toNat) * 2 ^ ((32 : Int) - b).toNat = ((Ra54.netOf b x : Nat) : Int) := by
  have e : ((32 : Int) - b).toNat = 32 - b := by omega
  rw [e]
  unfold Ra54.netOf
  rw [Int.natCast_mul, Int.natCast_ediv, Int.natCast_pow]
  rfl
theorem ok_network_of (T : Txt K mg a) : FnOk P w K mg base CX0 1 a.f_network_of a.d_network_of ["address", "bits"] (sp_network_of K a) := by
  refine T.F_network_of.ok sc_network_of (fun vs H Q E h => len_network_of h) (fun cdv A outer s H vs Q E hr h => ?_)
  refine ⟨_, (pss_cons (ps_set (i := 2) sc_network_of.nd rfl (by first | exact Or.inl rfl | exact Or.inr rfl) (pe_op op_sub (pe_glob rfl T.k_ADDRESS_BITS rel_int) (pv 1)))
      (pss_one (ps_ret (pe_op op_shl (pe_op op_shr (pv 0) (pv 2)) (pv 2))))), ?_⟩
  obtain ⟨x, b, rfl, hx, hb, q⟩ := h
  refine ⟨_, rfl, _, _, rfl, rfl, ?_⟩
  refine ⟨_, rfl, _, rfl, _, _, rfl, rfl, (by omega), _, rfl, _, _, rfl, rfl, ⟨by omega, by omega, ?_⟩, ?_⟩
  · have : ((x : Int) / 2 ^ ((32 : Int) - b).toNat) ≤ x := Int.ediv_le_self _ (by omega)
    have : 0 ≤ ((x : Int) / 2 ^ ((32 : Int) - b).toNat) := Int.ediv_nonneg (by omega) (Int.le_of_lt (Int.pow_pos (by omega)))
    omega
  · show Q (.int (((x : Int) / 2 ^ ((32 : Int) - b).toNat) * 2 ^ ((32 : Int) - b).toNat)) H
    rw [netOf_int hb]
    exact q
/-! ### bytes_of -/
def byteV (n many j : Nat) : V := nV (n / 2 ^ (8 * (many - 1 - j)) % 256)
def sp_bytes_of (K : PySem.W.Frag) (a : Ad) : Sp := fun vs H Q _ => ∃ (n many : Nat), vs = [nV n, nV many] ∧ many ≤ 4 ∧ ∀ p, H p = none → Q (.ref p) (upd H p (.lst ((List.range many).map (byteV n many))))
theorem len_bytes_of {vs : List V} {H : Hp} {Q : VK} {E : XK} (h : sp_bytes_of K a vs H Q E) : vs.length = 2 := by
  obtain ⟨_, _, rfl, _⟩ := h
  rfl
theorem byte_eq {n many i : Nat} (hi : i < many) : V.int (Builtin.bitAnd ((n : Int) / 2 ^ (8 * (((many : Int) - 1) + (i : Nat) * -1)).toNat) 255) = byteV n many i := by
  rw [bitAnd_m8]
  have e : (8 * (((many : Int) - 1) + (i : Nat) * -1)).toNat = 8 * (many - 1 - i) := by omega
  rw [e]
  show V.int _ = V.int _
  congr 1
theorem ok_bytes_of (T : Txt K mg a) : FnOk P w K mg base CX0 1 a.f_bytes_of a.d_bytes_of ["number", "many"] (sp_bytes_of K a) := by
  refine T.F_bytes_of.ok sc_bytes_of (fun vs H Q E h => len_bytes_of h) (fun cdv A outer s H vs Q E hr h => ?_)
  refine ⟨_, (pss_one (ps_ret (pe_lc (own := [("k", 2)]) (tt := tYes) rfl sc_bytes_of.nd (pi_range3 (by rfl) T.z_range (pa_cons (pe_op op_sub (pv 1) pe_int) (pa_cons (pe_un un_neg pe_int) (pa_cons (pe_un un_neg pe_int) pa_nil)))) (blkOk_by (own := [("k", 2)]) (N := ["number", "many", "k"]) (sc := defScope s_bytes_of) (by decide +kernel)) (fun _ _ _ _ _ => (pg_name (i := 2) sc_bytes_of.nd rfl (by first | exact Or.inl rfl | exact Or.inr rfl))) (fun _ _ _ _ _ => pts_nil) (fun _ _ _ _ _ => (pe_op op_and (pe_op op_shr (pv 0) (pe_op op_mul pe_int (pv 2))) pe_int))))), ?_⟩
  obtain ⟨n, many, rfl, hm, q⟩ := h
  refine ⟨_, rfl, _, _, rfl, rfl, _, rfl, _, rfl, (many : Int) - 1, -1, -1, many, rfl, ?_, fun D hD => ?_⟩
  · have e := RgC.neg (i := (many : Int) - 1) (j := -1) (by omega) (by omega) (by omega) (by omega)
    have e2 : ((many : Int) - 1 - -1).toNat = many := by omega
    rw [e2] at e
    exact e
  refine lc_it walk_rangeC (fun i H' => H' = upd H D (.lst ((List.range i).map (byteV n many)))) rfl (fun _ _ _ _ => trivial) ?_ ?_
  · rintro i x H1 H2 hi rfl ⟨rfl, rfl⟩
    refine ⟨rfl, ?_⟩
    refine ⟨_, rfl, _, rfl, _, _, rfl, rfl, .inl ⟨by omega, by omega⟩, _, _, rfl, rfl, by omega, _, _, rfl, rfl, _, upd_same, ?_, ?_⟩
    · rw [List.length_map, List.length_range]
      exact Nat.lt_of_lt_of_le (Nat.lt_of_lt_of_le hi hm) (sz (by omega))
    · rw [upd_upd, List.range_succ, List.map_append]
      refine congrArg _ (congrArg HO.lst (congrArg _ ?_))
      exact congrArg (fun x => [x]) (byte_eq hi)
  · rintro H1 rfl
    exact q D hD
/-! ### number_at -/
def sp_number_at (K : PySem.W.Frag) (a : Ad) : Sp := fun vs H Q _ => ∃ (r : Addr) (at_ many : Nat) (bs : List UInt8), vs = [.ref r, nV at_, nV many] ∧ SqL K H r (bs.map u8V) ∧ at_ + many ≤ bs.length ∧ many ≤ 4 ∧ Q (nV (Ra54.number ((bs.drop at_).take many))) H
theorem len_number_at {vs : List V} {H : Hp} {Q : VK} {E : XK} (h : sp_number_at K a vs H Q E) : vs.length = 3 := by
  obtain ⟨_, _, _, _, rfl, _⟩ := h
  rfl
theorem number_snoc (l : List UInt8) (b : UInt8) : Ra54.number (l ++ [b]) = 256 * Ra54.number l + b.toNat := by
  unfold Ra54.number
  rw [List.foldl_append]
  rfl
theorem take_more {α : Type} : ∀ {l : List α} {i : Nat} {x : α}, l[i]? = some x → l.take (i + 1) = l.take i ++ [x]
  | [], i, x, h => by simp at h
  | a :: l, 0, x, h => by
    have e : a = x := Option.some.inj h
    subst e
    rfl
  | a :: l, i + 1, x, h => by
    have ih := take_more (l := l) (i := i) (x := x) h
    show a :: l.take (i + 1) = a :: l.take i ++ [x]
    rw [ih]
    rfl
theorem map_get {α β : Type} {f : α → β} {l : List α} {i : Nat} {x : α} (h : l[i]? = some x) : (l.map f)[i]? = some (f x) := by
  rw [List.getElem?_map, h]
  rfl
theorem get_map {α β : Type} {f : α → β} {l : List α} {i : Nat} {y : β} (h : (l.map f)[i]? = some y) : ∃ x, l[i]? = some x ∧ y = f x := by
  rw [List.getElem?_map] at h
  cases e : l[i]? with
  | none =>
    rw [e] at h
    cases h
  | some z =>
    rw [e] at h
    exact ⟨z, rfl, (Option.some.inj h).symm⟩
theorem get_lt {α : Type} {l : List α} {i : Nat} (h : i < l.length) : ∃ x, l[i]? = some x := ⟨l[i], List.getElem?_eq_getElem h⟩
theorem ok_number_at (T : Txt K mg a) : FnOk P w K mg base CX0 1 a.f_number_at a.d_number_at ["row", "at", "many"] (sp_number_at K a) := by
  refine T.F_number_at.ok sc_number_at (fun vs H Q E h => len_number_at h) (fun cdv A outer s H vs Q E hr h => ?_)
  refine ⟨_, (pss_cons (ps_set (i := 3) sc_number_at.nd rfl (by first | exact Or.inl rfl | exact Or.inr rfl) pe_int)
      (pss_cons (ps_for PassesOwn.never rfl (pi_range1 (by rfl) T.z_range (pa_cons (pv 2) pa_nil)) (pg_name (i := 4) sc_number_at.nd rfl (by first | exact Or.inl rfl | exact Or.inr rfl))
        (pss_one (ps_set (i := 3) sc_number_at.nd rfl (by first | exact Or.inl rfl | exact Or.inr rfl) (pe_op op_add (pe_op op_mul pe_int (pv 3)) (pe_ix ix_list (pv 0) (pe_op op_add (pv 1) (pv 4)) (fun _ _ => rfl))))))
      (pss_one (ps_ret (pv 3))))), ?_⟩
  obtain ⟨r, at_, many, bs, rfl, hr', hl, hm, q⟩ := h
  refine ⟨_, rfl, _, rfl, by omega, by omega, ?_⟩
  refine for_range (lo := 0) (n := many) (fun i σ H' => H' = H ∧ ∃ v, σ = [some (.ref r), some (nV at_), some (nV many), some (nV (Ra54.number ((bs.drop at_).take i))), v]) ⟨rfl, none, rfl⟩ ?_ ?_
  · rintro i σ H' hi ⟨rfl, v, rfl⟩
    obtain ⟨b, hb⟩ := get_lt (l := bs) (i := at_ + i) (by omega)
    refine ⟨_, rfl, _, _, rfl, rfl, .inl ⟨by omega, by omega⟩, _, rfl, _, rfl, _, rfl, _, _, rfl, rfl, r, bs.map u8V, ((at_ + i : Nat) : Int), u8V b, rfl, ?_, hr', atI_nat (map_get hb), _, _, rfl, rfl, rfl, some (V.int (0 + i)), ?_⟩
    · show V.int _ = V.int _
      congr 1
      omega
    · have hb2 : (bs.drop at_)[i]? = some b := by rw [List.getElem?_drop]; exact hb
      rw [take_more hb2, number_snoc]
      show [_, _, _, some (V.int _), _] = _
      refine congrArg (fun z => [some (V.ref r), some (nV at_), some (nV many), some (V.int z), some (V.int (0 + (i : Int)))]) ?_
      rw [Int.natCast_add, Int.natCast_mul]
      rfl
  · rintro σ H' ⟨rfl, v, rfl⟩
    exact ⟨_, rfl, q⟩
/-! ### message_of -/
theorem u8_ofNat (n : Nat) : u8V (UInt8.ofNat n) = nV (n % 256) := by
  show V.int _ = V.int _
  rw [UInt8.toNat_ofNat']
theorem bytes2 (n : Nat) : (List.range 2).map (byteV n 2) = (Ra54.two n).map u8V := by
  show [byteV n 2 0, byteV n 2 1] = [u8V _, u8V _]
  rw [u8_ofNat, u8_ofNat, Nat.mod_mod]
  show [nV (n / 256 % 256), nV (n / 1 % 256)] = _
  rw [Nat.div_one]
theorem bytes4 (n : Nat) : (List.range 4).map (byteV n 4) = (Ra54.four n).map u8V := by
  show [byteV n 4 0, byteV n 4 1, byteV n 4 2, byteV n 4 3] = [u8V _, u8V _, u8V _, u8V _]
  rw [u8_ofNat, u8_ofNat, u8_ofNat, u8_ofNat, Nat.mod_mod, Nat.mod_mod, Nat.mod_mod]
  show [nV (n / 2 ^ 24 % 256), nV (n / 2 ^ 16 % 256), nV (n / 256 % 256), nV (n / 1 % 256)] = _
  rw [Nat.div_one]
/-- a list of Told objects -/
def ToldsAt (C : Addr) (H : Hp) (tp : List (Addr × Ra54.Entry)) : Prop := ∀ x ∈ tp, ToldAt C H x.1 x.2
def EntOk (e : Ra54.Entry) : Prop := e.bits ≤ 32 ∧ e.dist ≤ 16
def sp_message_of (K : PySem.W.Frag) (a : Ad) : Sp := fun vs H Q _ => ∃ (t : Addr) (tp : List (Addr × Ra54.Entry)), vs = [.ref t] ∧ SqL K H t (tp.map fun x => .ref x.1) ∧ ToldsAt a.c_Told H tp ∧ tp.length ≤ 64 ∧ (∀ x ∈ tp, EntOk x.2) ∧
  ∀ p H', H p = none → Same H H' → H' p = some (.lst ((Ra54.message (tp.map (·.2))).map u8V)) → Q (.ref p) H'
theorem len_message_of {vs : List V} {H : Hp} {Q : VK} {E : XK} (h : sp_message_of K a vs H Q E) : vs.length = 1 := by
  obtain ⟨_, _, rfl, _⟩ := h
  rfl
theorem ent_bytes {e : Ra54.Entry} (h : EntOk e) : (List.range 4).map (byteV e.net 4) ++ [nV e.bits, nV e.dist, .int 0, .int 0] = (Ra54.entryBytes e).map u8V := by
  unfold Ra54.entryBytes
  rw [List.map_append, bytes4]
  refine congrArg _ ?_
  show _ = [u8V _, u8V _, u8V _, u8V _]
  rw [u8_ofNat, u8_ofNat, u8_ofNat, Nat.mod_eq_of_lt (a := e.bits) (by have := h.1; omega), Nat.mod_eq_of_lt (a := e.dist) (by have := h.2; omega)]
  rfl
theorem ent_len (e : Ra54.Entry) : (Ra54.entryBytes e).length = 8 := rfl
theorem ents_len : ∀ l : List Ra54.Entry, (l.flatMap Ra54.entryBytes).length = 8 * l.length
  | [] => rfl
  | e :: l => by rw [List.flatMap_cons, List.length_append, ents_len l, List.length_cons, ent_len]; omega
theorem fresh_back {H H' : Hp} {p : Addr} (e : Same H H') (h : H' p = none) : H p = none := e.free h
theorem ok_message_of (T : Txt K mg a) : FnOk P w K mg base CX0 2 a.f_message_of a.d_message_of ["told"] (sp_message_of K a) := by
  have G_bytes_of := ok_bytes_of (P := P) (w := w) (base := base) T
  refine T.F_message_of.ok sc_message_of (fun vs H Q E h => len_message_of h) (fun cdv A outer s H vs Q E hr h => ?_)
  have r1 : Room 1 _ := hr.mono (by decide)
  refine ⟨_, (pss_cons (ps_set (i := 1) sc_message_of.nd rfl (by first | exact Or.inl rfl | exact Or.inr rfl) (pe_call G_bytes_of r1 rfl T.g_bytes_of T.F_bytes_of.kp (b_bytes_of T) .nil pass0 (pa_cons (pe_callB call_len_seq (by rfl) T.z_len PySem.boot_len (pa_cons (pv 0) pa_nil)) (pa_cons (pe_glob rfl T.k_HEAD rel_int) pa_nil))))
      (pss_cons (ps_for PassesOwn.never rfl (pi_list (pv 0)) (pg_name (i := 2) sc_message_of.nd rfl (by first | exact Or.inl rfl | exact Or.inr rfl))
        (pss_one (ps_set (i := 1) sc_message_of.nd rfl (by first | exact Or.inl rfl | exact Or.inr rfl) (pe_op op_cat (pe_op op_cat (pv 1) (pe_call G_bytes_of r1 rfl T.g_bytes_of T.F_bytes_of.kp (b_bytes_of T) .nil pass0 (pa_cons (pe_fld (pv 2) rfl) (pa_cons pe_int pa_nil)))) (pe_lst (pa_cons (pe_fld (pv 2) rfl) (pa_cons (pe_fld (pv 2) rfl) (pa_cons pe_int (pa_cons pe_int pa_nil)))))))))
      (pss_one (ps_ret (pv 1))))), ?_⟩
  obtain ⟨t, tp, rfl, ht, hT, hl, hE, q⟩ := h
  refine ⟨_, rfl, t, _, rfl, .inl ht, tp.length, 2, ?_, by omega, fun p0 hp0 => ?_⟩
  · show [V.int _, V.int 2] = [V.int _, V.int 2]
    rw [List.length_map]
  have s0 : Same H (upd H p0 (.lst ((List.range 2).map (byteV tp.length 2)))) := same_new0 hp0
  refine ⟨_, rfl, t, rfl, ⟨_, s0.seq ht⟩, ?_⟩
  refine for_list (K := K) (a := t) (xs := tp.map fun x => V.ref x.1) (fun i σ H' => Same H H' ∧ ∃ p v, σ = [some (.ref t), some (.ref p), v] ∧ H p = none ∧
    H' p = some (.lst ((Ra54.two tp.length ++ ((tp.take i).map (·.2)).flatMap Ra54.entryBytes).map u8V))) ?_ (fun i σ H' _ h => h.1.seq ht) ?_ ?_
  · refine ⟨s0, p0, none, rfl, hp0, ?_⟩
    rw [upd_same, bytes2]
    simp
  · rintro i x σ H' hx ⟨s1, p, v, rfl, hp, hq⟩
    obtain ⟨y, hy, rfl⟩ := get_map hx
    have hm : y ∈ tp := List.mem_of_getElem? hy
    have hi : i < tp.length := (List.getElem?_eq_some_iff.mp hy).1
    obtain ⟨dx, ho⟩ := (hT y hm).same s1
    have np : y.1 ≠ p := fun z => by rw [z, hq] at ho; cases ho
    have l0 : ((Ra54.two tp.length ++ ((tp.take i).map (·.2)).flatMap Ra54.entryBytes).map u8V).length = 2 + 8 * i := by
      rw [List.length_map, List.length_append, ents_len, List.length_map, List.length_take, Nat.min_eq_left (Nat.le_of_lt hi)]
      rfl
    refine ⟨_, rfl, _, rfl, y.1, _, dx, _, _, rfl, ho, T.cl_Told, T.n_Told_address, toldF_address _, y.2.net, 4, rfl, by omega, fun p1 hp1 => ?_⟩
    have s2 := same_new (o := .lst ((List.range 4).map (byteV y.2.net 4))) s1 hp1
    have np1 : p ≠ p1 := ne_of_none hq hp1
    refine ⟨p, p1, _, _, rfl, rfl, (by rw [upd_ne np1]; exact hq), upd_same, ?_, fun p2 hp2 => ?_⟩
    · rw [l0, List.length_map, List.length_range]
      exact sz (by omega)
    have s3 := same_new (o := .lst ((Ra54.two tp.length ++ ((tp.take i).map (·.2)).flatMap Ra54.entryBytes).map u8V ++ (List.range 4).map (byteV y.2.net 4))) s2 hp2
    obtain ⟨dx3, ho3⟩ := (hT y hm).same s3
    refine ⟨_, rfl, y.1, _, dx3, _, _, rfl, ho3, T.cl_Told, T.n_Told_bits, toldF_bits _, ?_⟩
    refine ⟨_, rfl, y.1, _, dx3, _, _, rfl, ho3, T.cl_Told, T.n_Told_far, toldF_far _, (by show 4 ≤ sizeLine; exact sz (by omega)), fun p3 hp3 => ?_⟩
    have s4 := same_new (o := .lst [nV y.2.bits, nV y.2.dist, .int 0, .int 0]) s3 hp3
    have np3 : p2 ≠ p3 := ne_of_none upd_same hp3
    refine ⟨p2, p3, _, _, rfl, rfl, (by rw [upd_ne np3]; exact upd_same), upd_same, ?_, fun p4 hp4 => ?_⟩
    · rw [List.length_append, l0, List.length_map, List.length_range]
      show 2 + 8 * i + 4 + 4 ≤ sizeLine
      exact sz (by omega)
    refine ⟨same_new s4 hp4, p4, _, rfl, fresh_back s4 hp4, ?_⟩
    rw [upd_same, take_more hy, List.append_assoc, ent_bytes (hE y hm)]
    simp
  · rintro σ H' ⟨s1, p, v, rfl, hp, hq⟩
    refine ⟨_, rfl, q p H' hp s1 ?_⟩
    rw [hq, List.length_map, List.take_length]
    unfold Ra54.message
    rw [List.length_map]
end
end Nr
namespace Nr
open PySem PySem.Spec PyProof.Rows L2
section
variable {P : Program} {w : World} {K : PySem.W.Frag} {mg : Str → Option Value} {base : Heap} {a : Ad}
/-! ### read_one -/
def sp_read_one (K : PySem.W.Frag) (a : Ad) : Sp := fun vs H Q _ => ∃ (r : Addr) (at_ : Nat) (bs : List UInt8), vs = [.ref r, nV at_] ∧ SqL K H r (bs.map u8V) ∧ at_ + 8 ≤ bs.length ∧
  (∀ H', Same H H' → Ra54.readEntry ((bs.drop at_).take 8) = none → Q .non H') ∧
  ∀ e p H', Ra54.readEntry ((bs.drop at_).take 8) = some e → Same H H' → H p = none → ToldAt a.c_Told H' p e → Q (.ref p) H'
theorem len_read_one {vs : List V} {H : Hp} {Q : VK} {E : XK} (h : sp_read_one K a vs H Q E) : vs.length = 2 := by
  obtain ⟨_, _, _, rfl, _⟩ := h
  rfl
theorem ok_read_one (T : Txt K mg a) : FnOk P w K mg base CX0 3 a.f_read_one a.d_read_one ["row", "at"] (sp_read_one K a) := by
  have G_Told_init := ok_Told_init (P := P) (w := w) (base := base) T
  have G_number_at := ok_number_at (P := P) (w := w) (base := base) T
  have G_network_of := ok_network_of (P := P) (w := w) (base := base) T
  refine T.F_read_one.ok sc_read_one (fun vs H Q E h => len_read_one h) (fun cdv A outer s H vs Q E hr h => ?_)
  have r1 : Room 1 _ := hr.mono (by decide)
  have r2 : Room 2 _ := hr.mono (by decide)
  refine ⟨_, (pss_cons (ps_set (i := 2) sc_read_one.nd rfl (by first | exact Or.inl rfl | exact Or.inr rfl) (pe_make T.m_Told G_Told_init r2 rfl T.g_Told (b_Told_init T) .nil pass0 (pa_cons (pe_call G_number_at r1 rfl T.g_number_at T.F_number_at.kp (b_number_at T) .nil pass0 (pa_cons (pv 0) (pa_cons (pv 1) (pa_cons pe_int pa_nil)))) (pa_cons (pe_ix ix_list (pv 0) (pe_op op_add (pv 1) pe_int) (fun _ _ => rfl)) (pa_cons (pe_ix ix_list (pv 0) (pe_op op_add (pv 1) pe_int) (fun _ _ => rfl)) pa_nil)))))
      (pss_cons (ps_if (PW.pt (pw_or (pt_cmpR op_gt (pe_fld (pv 2) rfl) (pe_glob rfl T.k_ADDRESS_BITS rel_int) (nomark _)) (pw_or (pt_not (pt_chain op_le op_le pe_int (pe_fld (pv 2) rfl) (pe_glob rfl T.k_OUT_OF_REACH rel_int))) (pw_or1 (pt_cmpR op_ne (pe_call G_number_at r1 rfl T.g_number_at T.F_number_at.kp (b_number_at T) .nil pass0 (pa_cons (pv 0) (pa_cons (pe_op op_add (pv 1) pe_int) (pa_cons pe_int pa_nil)))) pe_int (nomark _))))))
        (pss_one (ps_ret pe_non))
        pss_nil)
      (pss_cons (ps_if (pt_cmpR op_ne (pe_call G_network_of r1 rfl T.g_network_of T.F_network_of.kp (b_network_of T) .nil pass0 (pa_cons (pe_fld (pv 2) rfl) (pa_cons (pe_fld (pv 2) rfl) pa_nil))) (pe_fld (pv 2) rfl) (nomark _))
        (pss_one (ps_ret pe_non))
        pss_nil)
      (pss_one (ps_ret (pv 2)))))), ?_⟩
  obtain ⟨r, at_, bs, rfl, hr', hl, qn, qs⟩ := h
  obtain ⟨b4, hb4⟩ := get_lt (l := bs) (i := at_ + 4) (by omega)
  obtain ⟨b5, hb5⟩ := get_lt (l := bs) (i := at_ + 5) (by omega)
  have ev := readEntry_at hl
  refine ⟨_, rfl, _, rfl, r, at_, 4, bs, rfl, hr', by omega, by omega, ?_⟩
  refine ⟨_, rfl, _, rfl, _, _, rfl, rfl, r, _, ((at_ + 4 : Nat) : Int), u8V b4, rfl, (by show V.int _ = V.int _; congr 1), hr', atI_nat (map_get hb4), ?_⟩
  refine ⟨_, rfl, _, rfl, _, _, rfl, rfl, r, _, ((at_ + 5 : Nat) : Int), u8V b5, rfl, (by show V.int _ = V.int _; congr 1), hr', atI_nat (map_get hb5), fun p dx hp hdx hne => ?_⟩
  refine ⟨p, dx, _, _, _, rfl, upd_same, rfl, ?_⟩
  rw [upd_upd]
  have et : HO.ins a.c_Told dx [(("address" : Str), nV (Ra54.number ((bs.drop at_).take 4))), ("bits", u8V b4), ("far", u8V b5)] = HO.ins a.c_Told dx (toldF (entAt bs at_)) := by
    unfold toldF entAt
    rw [one_at hb4, one_at hb5]
  rw [et]
  have s1 : Same H (upd (upd H dx (.own p)) p (.ins a.c_Told dx (toldF (entAt bs at_)))) := same_new (same_new0 hdx) (by rw [upd_ne (Ne.symm hne)]; exact hp)
  generalize hH1 : upd (upd H dx (.own p)) p (.ins a.c_Told dx (toldF (entAt bs at_))) = H1 at s1
  have hp1 : H1 p = some (.ins a.c_Told dx (toldF (entAt bs at_))) := by rw [← hH1]; exact upd_same
  have hn : (entAt bs at_).net < 2 ^ 64 := by
    have := number_lt 4 ((bs.drop at_).take 4) (by rw [List.length_take, List.length_drop]; omega)
    show Ra54.number _ < _
    omega
  -- the tests
  refine ⟨_, rfl, p, _, dx, _, _, rfl, hp1, T.cl_Told, T.n_Told_bits, toldF_bits _, _, _, rfl, rfl, _, rfl, ?_⟩
  by_cases c1 : (32 : Int) < ((entAt bs at_).bits : Int)
  · refine if_true_of (decide_eq_true c1) ?_
    refine qn H1 s1 ?_
    rw [ev, if_neg fun z => by omega]
  refine if_false_of (decide_eq_false c1) ?_
  refine ⟨_, rfl, p, _, dx, _, _, rfl, hp1, T.cl_Told, T.n_Told_far, toldF_far _, _, _, rfl, rfl, _, rfl, ?_⟩
  have no2 : ¬ (1 ≤ (entAt bs at_).dist ∧ (entAt bs at_).dist ≤ 16) → Q V.non H1 := fun z => qn H1 s1 (by rw [ev, if_neg fun y => z y.2.1])
  by_cases c2 : (1 : Int) ≤ ((entAt bs at_).dist : Int)
  · refine if_true_of (decide_eq_true c2) ?_
    refine ⟨_, _, rfl, rfl, _, rfl, ?_⟩
    by_cases c3 : ((entAt bs at_).dist : Int) ≤ 16
    · rw [decide_eq_true c3]
      refine ⟨_, rfl, _, rfl, _, _, rfl, rfl, r, at_ + 6, 2, bs, rfl, s1.seq hr', by omega, by omega, rfl, _, rfl, ?_⟩
      by_cases c4 : Ra54.number ((bs.drop (at_ + 6)).take 2) = 0
      · have c4' : V.int ((Ra54.number ((bs.drop (at_ + 6)).take 2) : Nat) : Int) = V.int 0 := by rw [c4]; rfl
        rw [decide_eq_true c4']
        refine ⟨_, rfl, p, _, dx, _, _, rfl, hp1, T.cl_Told, T.n_Told_address, toldF_address _, ?_⟩
        refine ⟨_, rfl, p, _, dx, _, _, rfl, hp1, T.cl_Told, T.n_Told_bits, toldF_bits _, (entAt bs at_).net, (entAt bs at_).bits, rfl, hn, by omega, ?_⟩
        refine ⟨_, rfl, p, _, dx, _, _, rfl, hp1, T.cl_Told, T.n_Told_address, toldF_address _, rfl, _, rfl, ?_⟩
        by_cases c5 : Ra54.netOf (entAt bs at_).bits (entAt bs at_).net = (entAt bs at_).net
        · have c5' : nV (Ra54.netOf (entAt bs at_).bits (entAt bs at_).net) = nV (entAt bs at_).net := by rw [c5]
          rw [decide_eq_true c5']
          refine ⟨_, rfl, qs _ p H1 ?_ s1 hp ⟨dx, hp1⟩⟩
          rw [ev, if_pos ⟨by omega, ⟨by omega, by omega⟩, c4, c5⟩]
        · have c5' : ¬ nV (Ra54.netOf (entAt bs at_).bits (entAt bs at_).net) = nV (entAt bs at_).net := fun z => c5 (Int.ofNat.inj (V.int.inj z))
          rw [decide_eq_false c5']
          exact qn H1 s1 (by rw [ev, if_neg fun z => c5 z.2.2.2])
      · have c4' : ¬ V.int ((Ra54.number ((bs.drop (at_ + 6)).take 2) : Nat) : Int) = V.int 0 := fun z => c4 (Int.ofNat.inj (V.int.inj z))
        rw [decide_eq_false c4']
        exact qn H1 s1 (by rw [ev, if_neg fun z => c4 z.2.2.1])
    · rw [decide_eq_false c3]
      exact no2 (fun z => by omega)
  · refine if_false_of (decide_eq_false c2) ?_
    exact ⟨_, rfl, no2 (fun z => by omega)⟩
/-! ### read_message -/
def sp_read_message (K : PySem.W.Frag) (a : Ad) : Sp := fun vs H Q _ => ∃ (r : Addr) (bs : List UInt8), vs = [.ref r] ∧ SqL K H r (bs.map u8V) ∧ bs.length ≤ 2048 ∧
  (∀ H', Same H H' → Ra54.read bs = none → Q .non H') ∧
  ∀ (tp : List (Addr × Ra54.Entry)) l H', Ra54.read bs = some (tp.map (·.2)) → Same H H' → H l = none → H' l = some (.lst (tp.map fun x => .ref x.1)) → ToldsAt a.c_Told H' tp → Q (.ref l) H'
theorem len_read_message {vs : List V} {H : Hp} {Q : VK} {E : XK} (h : sp_read_message K a vs H Q E) : vs.length = 1 := by
  obtain ⟨_, _, rfl, _⟩ := h
  rfl
/-- how an entry that may be there lies -/
def OptAt (C : Addr) (H : Hp) : V → Option Ra54.Entry → Prop
  | .non, none => True
  | .ref p, some e => ToldAt C H p e
  | _, _ => False
theorem OptAt.same {C : Addr} {H H' : Hp} (s : Same H H') : ∀ {v : V} {o : Option Ra54.Entry}, OptAt C H v o → OptAt C H' v o
  | .non, none, _ => trivial
  | .ref p, some e, h => ToldAt.same h s
theorem opts_cons {C : Addr} {H : Hp} : ∀ {vs : List V} {os : List (Option Ra54.Entry)}, Paired (OptAt C H) vs os → (vs.any isNon = true → allSome os = none) ∧ (vs.any isNon = false → ∃ tp : List (Addr × Ra54.Entry), vs = tp.map (fun x => V.ref x.1) ∧ allSome os = some (tp.map (·.2)) ∧ ToldsAt C H tp)
  | _, _, .nil => ⟨fun h => (by cases h), fun _ => ⟨[], rfl, rfl, fun x hx => (by cases hx)⟩⟩
  | v :: vs, o :: os, .cons h t => by
    have ih := opts_cons t
    match v, o, h with
    | .non, none, _ => exact ⟨fun _ => rfl, fun h => (by cases h)⟩
    | .ref p, some e, h =>
      refine ⟨fun q => ?_, fun q => ?_⟩
      · have q' : vs.any isNon = true := q
        show (allSome os).map _ = none
        rw [ih.1 q']
        rfl
      · have q' : vs.any isNon = false := q
        obtain ⟨tp, e1, e2, e3⟩ := ih.2 q'
        refine ⟨(p, e) :: tp, by rw [e1]; rfl, ?_, fun x hx => ?_⟩
        · show (allSome os).map _ = _
          rw [e2]
          rfl
        · rcases List.mem_cons.mp hx with z | hx
          · rw [z]; exact h
          · exact e3 x hx
theorem paired_snoc {α β : Type} {F : α → β → Prop} {x : α} {y : β} (h : F x y) : ∀ {l : List α} {m : List β}, Paired F l m → Paired F (l ++ [x]) (m ++ [y])
  | _, _, .nil => .cons h .nil
  | _, _, .cons a t => .cons a (paired_snoc h t)
theorem paired_mono {α β : Type} {F G : α → β → Prop} (h : ∀ x y, F x y → G x y) : ∀ {l : List α} {m : List β}, Paired F l m → Paired G l m
  | _, _, .nil => .nil
  | _, _, .cons a t => .cons (h _ _ a) (paired_mono h t)
theorem paired_len {α β : Type} {F : α → β → Prop} : ∀ {l : List α} {m : List β}, Paired F l m → l.length = m.length
  | _, _, .nil => rfl
  | _, _, .cons _ t => by rw [List.length_cons, List.length_cons, paired_len t]
theorem none_or {K : PySem.W.Frag} {mg : Str → Option Value} {a : Ad} (T : Txt K mg a) {H : Hp} : ∀ {v : V} {o : Option Ra54.Entry}, OptAt a.c_Told H v o → NoneOr K H v
  | .non, none, _ => .inl rfl
  | .ref p, some e, ⟨dx, h⟩ => .inr ⟨p, _, dx, _, rfl, h, T.o_Told, T.e_Told⟩
theorem paired_mem {α β : Type} {F : α → β → Prop} : ∀ {l : List α} {m : List β} {x : α}, Paired F l m → x ∈ l → ∃ y, F x y
  | _, _, _, .nil, h => by cases h
  | _, _, x, .cons a t, h => by
    rcases List.mem_cons.mp h with e | h
    · rw [e]; exact ⟨_, a⟩
    · exact paired_mem t h
theorem ok_read_message (T : Txt K mg a) : FnOk P w K mg base CX0 4 a.f_read_message a.d_read_message ["row"] (sp_read_message K a) := by
  have G_number_at := ok_number_at (P := P) (w := w) (base := base) T
  have G_read_one := ok_read_one (P := P) (w := w) (base := base) T
  refine T.F_read_message.ok sc_read_message (fun vs H Q E h => len_read_message h) (fun cdv A outer s H vs Q E hr h => ?_)
  have r1 : Room 1 _ := hr.mono (by decide)
  have r3 : Room 3 _ := hr.mono (by decide)
  refine ⟨_, (pss_cons (ps_if (pt_cmpR op_lt (pe_callB call_len_seq (by rfl) T.z_len PySem.boot_len (pa_cons (pv 0) pa_nil)) (pe_glob rfl T.k_HEAD rel_int) (nomark _))
        (pss_one (ps_ret pe_non))
        pss_nil)
      (pss_cons (ps_set (i := 1) sc_read_message.nd rfl (by first | exact Or.inl rfl | exact Or.inr rfl) (pe_call G_number_at r1 rfl T.g_number_at T.F_number_at.kp (b_number_at T) .nil pass0 (pa_cons (pv 0) (pa_cons pe_int (pa_cons (pe_glob rfl T.k_HEAD rel_int) pa_nil)))))
      (pss_cons (ps_if (PW.pt (pw_or (pt_not (pt_chain op_le op_le pe_int (pv 1) (pe_glob rfl T.k_MOST_TOLD rel_int))) (pw_or1 (pt_cmpR op_ne (pe_callB call_len_seq (by rfl) T.z_len PySem.boot_len (pa_cons (pv 0) pa_nil)) (pe_op op_add (pe_glob rfl T.k_HEAD rel_int) (pe_op op_mul (pe_glob rfl T.k_EACH rel_int) (pv 1))) (nomark _)))))
        (pss_one (ps_ret pe_non))
        pss_nil)
      (pss_cons (ps_setLc (i := 2) (own := [("k", 3)]) (tt := tYes) rfl sc_read_message.nd rfl rfl (sw_true rfl rfl rfl (by decide +kernel)) (pi_range1 (by rfl) T.z_range (pa_cons (pv 1) pa_nil)) (blkOk_by (own := [("k", 3)]) (N := ["row", "many", "found", "k"]) (sc := defScope s_read_message) (by decide +kernel)) (fun _ _ _ _ _ => (pg_name (i := 3) sc_read_message.nd rfl (by first | exact Or.inl rfl | exact Or.inr rfl))) (fun _ _ _ _ _ => pts_nil) (fun _ _ _ _ _ => (pe_call G_read_one r3 rfl T.g_read_one T.F_read_one.kp (b_read_one T) .nil pass0 (pa_cons (pv 0) (pa_cons (pe_op op_add (pe_glob rfl T.k_HEAD rel_int) (pe_op op_mul (pe_glob rfl T.k_EACH rel_int) (pv 3))) pa_nil)))))
      (pss_cons (ps_if (pt_cmpR (op_noneIn hr.units) pe_non (pv 2) (by rfl))
        (pss_one (ps_ret pe_non))
        pss_nil)
      (pss_one (ps_ret (pv 2)))))))), ?_⟩
  obtain ⟨r, bs, rfl, hr', hl, qn, qs⟩ := h
  refine ⟨_, rfl, r, _, rfl, .inl hr', _, _, rfl, rfl, _, rfl, ?_⟩
  by_cases c1 : (((bs.map u8V).length : Nat) : Int) < 2
  · refine if_true_of (decide_eq_true c1) ?_
    rw [List.length_map] at c1
    exact qn H (Same.refl H) (read_short (by omega))
  refine if_false_of (decide_eq_false c1) ?_
  rw [List.length_map] at c1
  have ev := read_eq (bs := bs) (by omega)
  refine ⟨_, rfl, r, 0, 2, bs, rfl, hr', by omega, by omega, ?_⟩
  rw [List.drop_zero]
  generalize hm : Ra54.number (bs.take 2) = many at ev
  refine ⟨_, rfl, _, _, rfl, rfl, _, rfl, ?_⟩
  by_cases c2 : many < 1
  · refine if_false_of (decide_eq_false (by omega)) ?_
    exact ⟨_, rfl, qn H (Same.refl H) (by rw [ev, if_neg fun z => by omega])⟩
  refine if_true_of (decide_eq_true (by omega)) ?_
  refine ⟨_, _, rfl, rfl, _, rfl, ?_⟩
  by_cases c3 : 64 < many
  · rw [decide_eq_false (show ¬ (many : Int) ≤ 64 by omega)]
    exact qn H (Same.refl H) (by rw [ev, if_neg fun z => by omega])
  rw [decide_eq_true (show (many : Int) ≤ 64 by omega)]
  refine ⟨_, rfl, r, _, rfl, .inl hr', _, rfl, _, _, rfl, rfl, .inl ⟨by omega, by omega⟩, _, _, rfl, rfl, rfl, _, rfl, ?_⟩
  by_cases c4 : ¬ bs.length = 2 + 8 * many
  · have c4' : ¬ V.int (((bs.map u8V).length : Nat) : Int) = V.int (2 + 8 * (many : Int)) := fun z => c4 (by have := V.int.inj z; rw [List.length_map] at this; omega)
    rw [decide_eq_false c4']
    exact qn H (Same.refl H) (by rw [ev, if_neg fun z => c4 z.2])
  have c4 := Decidable.not_not.mp c4
  have c4' : V.int (((bs.map u8V).length : Nat) : Int) = V.int (2 + 8 * (many : Int)) := by rw [List.length_map, c4]; congr 1
  rw [decide_eq_true c4']
  rw [if_pos ⟨⟨by omega, by omega⟩, c4⟩] at ev
  refine ⟨_, rfl, many, rfl, by omega, by omega, fun D hD => ?_⟩
  refine lc_range (lo := 0) (n := many) (fun i H' => Same H H' ∧ ∃ vs, H' D = some (.lst vs) ∧ Paired (OptAt a.c_Told H') vs ((List.range i).map fun k => Ra54.readEntry ((bs.drop (2 + 8 * k)).take 8))) ⟨same_new0 hD, [], upd_same, .nil⟩ ?_ ?_
  · rintro i H1 hi ⟨s1, vs, hv, hP⟩
    have hlv : vs.length = i := by rw [paired_len hP, List.length_map, List.length_range]
    have fin : ∀ (v : V) (H2 : Hp), Same H H2 → H2 D = some (.lst vs) → Paired (OptAt a.c_Told H2) vs ((List.range i).map fun k => Ra54.readEntry ((bs.drop (2 + 8 * k)).take 8)) → OptAt a.c_Told H2 v (Ra54.readEntry ((bs.drop (2 + 8 * i)).take 8)) →
        ∃ acc, H2 D = some (.lst acc) ∧ acc.length < sizeLine ∧ Same H (upd H2 D (.lst (acc ++ [v]))) ∧ ∃ vs, upd H2 D (.lst (acc ++ [v])) D = some (.lst vs) ∧ Paired (OptAt a.c_Told (upd H2 D (.lst (acc ++ [v])))) vs ((List.range (i + 1)).map fun k => Ra54.readEntry ((bs.drop (2 + 8 * k)).take 8)) := by
      intro v H2 s2 h2 hP2 hO
      have sd : ∀ {u : V} {o : Option Ra54.Entry}, OptAt a.c_Told H2 u o → OptAt a.c_Told (upd H2 D (.lst (vs ++ [v]))) u o := fun {u o} h => by
        match u, o, h with
        | .non, none, _ => trivial
        | .ref p, some e, ⟨dx, h⟩ => exact ⟨dx, by rw [upd_ne (ne_of h h2 (fun z => by cases z))]; exact h⟩
      refine ⟨vs, h2, Nat.lt_of_lt_of_le (by omega) (sz (Nat.le_refl _)), same_mut s2 hD, vs ++ [v], upd_same, ?_⟩
      rw [List.range_succ, List.map_append]
      exact paired_snoc (sd hO) (paired_mono (fun _ _ h => sd h) hP2)
    refine ⟨rfl, ?_⟩
    refine ⟨_, rfl, _, rfl, _, _, rfl, rfl, .inl ⟨by omega, by omega⟩, _, _, rfl, rfl, r, 2 + 8 * i, bs, ?_, s1.seq hr', by omega, fun H2 s2 e => ?_, fun e p H2 he s2 hp ht => ?_⟩
    · show [_, V.int _] = [_, V.int _]
      refine congrArg (fun z => [V.ref r, V.int z]) ?_
      omega
    · exact fin .non H2 (s1.trans s2) (s2 _ _ hv) (paired_mono (fun _ _ h => OptAt.same s2 h) hP) (by rw [e]; trivial)
    · exact fin (.ref p) H2 (s1.trans s2) (s2 _ _ hv) (paired_mono (fun _ _ h => OptAt.same s2 h) hP) (by rw [he]; exact ht)
  · rintro H1 ⟨s1, vs, hv, hP⟩
    have ho := opts_cons hP
    refine ⟨_, rfl, D, vs, rfl, rfl, SqL.of hv, fun z hz => (let ⟨_, h⟩ := paired_mem hP hz; none_or T h), _, rfl, ?_⟩
    cases hc : vs.any isNon with
    | true => exact qn H1 s1 (by rw [ev, ho.1 hc])
    | false =>
      obtain ⟨tp, e1, e2, e3⟩ := ho.2 hc
      refine ⟨_, rfl, qs tp D H1 (by rw [ev, e2]) s1 hD (by rw [hv, e1]) e3⟩
end
end Nr
namespace Nr
open PySem PySem.Spec PyProof.Rows L2
/-! ### the table in the heap -/
def keyOf (r : Rt) : List Key := [.inl (r.net : Int), .inl (r.bits : Int)]
def kvsOf (es : List (Addr × Rt)) : List (List Key × V) := es.map fun e => (keyOf e.2, V.ref e.1)
def TblAt (C : Addr) (H : Hp) (t d : Addr) : Prop := ∃ dx, H t = some (.ins C dx [("routes", .ref d)])
structure RtsAt (C : Addr) (H : Hp) (es : List (Addr × Rt)) : Prop where
  at_ : ∀ e ∈ es, RtAt C H e.1 e.2
  nd : (es.map (·.1)).Nodup
abbrev rts (es : List (Addr × Rt)) : List Rt := es.map (·.2)
/-- tuples of networks, in order -/
def NetAt (H : Hp) (t : Addr) (r : Rt) : Prop := H t = some (.tup [nV r.net, nV r.bits])
def NetsAt (H : Hp) (ts : List Addr) (rs : List Rt) : Prop := Paired (NetAt H) ts rs
theorem NetsAt.same {H H' : Hp} {ts : List Addr} {rs : List Rt} (h : NetsAt H ts rs) (s : Same H H') : NetsAt H' ts rs := paired_mono (fun _ _ q => s _ _ q) h
theorem TblAt.same {C : Addr} {H H' : Hp} {t d : Addr} (h : TblAt C H t d) (s : Same H H') : TblAt C H' t d := let ⟨dx, q⟩ := h; ⟨dx, s _ _ q⟩
theorem RtsAt.same {C : Addr} {H H' : Hp} {es : List (Addr × Rt)} (h : RtsAt C H es) (s : Same H H') : RtsAt C H' es := ⟨fun e he => (h.at_ e he).same s, h.nd⟩
theorem key_inj {r q : Rt} : keyOf r = keyOf q ↔ kb r = kb q := by
  unfold keyOf
  rw [kb_iff]
  constructor
  · intro h
    injection h with h1 h2
    injection h2 with h2 _
    exact ⟨Int.ofNat.inj (Sum.inl.inj h1), Int.ofNat.inj (Sum.inl.inj h2)⟩
  · rintro ⟨h1, h2⟩
    rw [h1, h2]
theorem same_unlock {H H' : Hp} {d : Addr} {u : HO} {od : Obj} (h : H d = some u) (s : Same (upd H d (.frz od u)) H') : Same H (upd H' d u) := fun b o q => by
  by_cases e : b = d
  · rw [e] at q ⊢
    rw [upd_same]
    rw [h] at q
    exact q
  · rw [upd_ne e]
    exact s b o (by rw [upd_ne e]; exact q)
section
variable {P : Program} {w : World} {K : PySem.W.Frag} {mg : Str → Option Value} {base : Heap} {a : Ad}
/-! ### Route -/
def newF (far link nb good : V) : List (Str × V) := [("far", far), ("link", link), ("neighbour", nb), ("good", good), ("others", .int 0), ("forgotten", .int 0), ("has_changed", .bl true)]
def sp_Route_init (K : PySem.W.Frag) (a : Ad) : Sp := fun vs H Q _ => ∃ (p dx : Addr) (far link nb good : V), vs = [.ref p, far, link, nb, good] ∧ H p = some (.ins a.c_Route dx []) ∧ Q .non (upd H p (.ins a.c_Route dx (newF far link nb good)))
theorem len_Route_init {vs : List V} {H : Hp} {Q : VK} {E : XK} (h : sp_Route_init K a vs H Q E) : vs.length = 5 := by
  obtain ⟨_, _, _, _, _, _, rfl, _⟩ := h
  rfl
theorem ok_Route_init (T : Txt K mg a) : FnOk P w K mg base CX0 1 a.f_Route_init a.d_Route_init ["self", "far", "link", "neighbour", "good"] (sp_Route_init K a) := by
  refine T.F_Route_init.ok sc_Route_init (fun vs H Q E h => len_Route_init h) (fun cdv A outer s H vs Q E hr h => ?_)
  refine ⟨_, (pss_cons (ps_fld (pv 0) (pv 1) rfl)
      (pss_cons (ps_fld (pv 0) (pv 2) rfl)
      (pss_cons (ps_fld (pv 0) (pv 3) rfl)
      (pss_cons (ps_fld (pv 0) (pv 4) rfl)
      (pss_cons (ps_fld (pv 0) pe_int rfl)
      (pss_cons (ps_fld (pv 0) pe_int rfl)
      (pss_one (ps_fld (pv 0) pe_bl rfl)))))))), ?_⟩
  obtain ⟨p, dx, x, b, f, g, rfl, hp, q⟩ := h
  refine ⟨_, rfl, _, rfl, p, _, dx, _, rfl, hp, T.cl_Route, T.n_Route_far, by decide, ?_⟩
  refine ⟨_, rfl, _, rfl, p, _, dx, _, rfl, upd_same, T.cl_Route, T.n_Route_link, few 1 (few_put few0), ?_⟩
  refine ⟨_, rfl, _, rfl, p, _, dx, _, rfl, upd_same, T.cl_Route, T.n_Route_neighbour, few 2 (few_put (few_put few0)), ?_⟩
  refine ⟨_, rfl, _, rfl, p, _, dx, _, rfl, upd_same, T.cl_Route, T.n_Route_good, few 3 (few_put (few_put (few_put few0))), ?_⟩
  refine ⟨_, rfl, p, _, dx, _, rfl, upd_same, T.cl_Route, T.n_Route_others, few 4 (few_put (few_put (few_put (few_put few0)))), ?_⟩
  refine ⟨_, rfl, p, _, dx, _, rfl, upd_same, T.cl_Route, T.n_Route_forgotten, few 5 (few_put (few_put (few_put (few_put (few_put few0))))), ?_⟩
  refine ⟨_, rfl, p, _, dx, _, rfl, upd_same, T.cl_Route, T.n_Route_has_changed, few 6 (few_put (few_put (few_put (few_put (few_put (few_put few0)))))), ?_⟩
  rw [upd_upd, upd_upd, upd_upd, upd_upd, upd_upd, upd_upd]
  exact q
def sp_Route_is_in_reach (K : PySem.W.Frag) (a : Ad) : Sp := fun vs H Q _ => ∃ (p : Addr) (r : Rt), vs = [.ref p] ∧ RtAt a.c_Route H p r ∧ Q (.bl (decide (r.dist < 16))) H
theorem len_Route_is_in_reach {vs : List V} {H : Hp} {Q : VK} {E : XK} (h : sp_Route_is_in_reach K a vs H Q E) : vs.length = 1 := by
  obtain ⟨_, _, rfl, _⟩ := h
  rfl
theorem dec_cast {i j : Nat} : decide ((i : Int) < (j : Int)) = decide (i < j) := by
  by_cases h : i < j
  · rw [decide_eq_true h, decide_eq_true (Int.ofNat_lt.mpr h)]
  · rw [decide_eq_false h, decide_eq_false (fun z => h (Int.ofNat_lt.mp z))]
theorem ok_Route_is_in_reach (T : Txt K mg a) : FnOk P w K mg base CX0 1 a.f_Route_is_in_reach a.d_Route_is_in_reach ["self"] (sp_Route_is_in_reach K a) := by
  refine T.F_Route_is_in_reach.ok sc_Route_is_in_reach (fun vs H Q E h => len_Route_is_in_reach h) (fun cdv A outer s H vs Q E hr h => ?_)
  refine ⟨_, (pss_one (ps_ret (pe_cmpR op_lt (pe_fld (pv 0) rfl) (pe_glob rfl T.k_OUT_OF_REACH rel_int) (nomark _)))), ?_⟩
  obtain ⟨p, r, rfl, ⟨dx, hp⟩, q⟩ := h
  refine ⟨_, rfl, p, _, dx, _, _, rfl, hp, T.cl_Route, T.n_Route_far, rF_far r, _, _, rfl, rfl, ?_⟩
  show Q (.bl (decide ((r.dist : Int) < ((16 : Nat) : Int)))) H
  rw [dec_cast]
  exact q
def sightV (r : Rt) : List V := [nV r.dist, nV r.link, nV r.via]
def sp_Route_sight (K : PySem.W.Frag) (a : Ad) : Sp := fun vs H Q _ => ∃ (p : Addr) (r : Rt), vs = [.ref p] ∧ RtAt a.c_Route H p r ∧ ∀ t, H t = none → Q (.ref t) (upd H t (.tup (sightV r)))
theorem len_Route_sight {vs : List V} {H : Hp} {Q : VK} {E : XK} (h : sp_Route_sight K a vs H Q E) : vs.length = 1 := by
  obtain ⟨_, _, rfl, _⟩ := h
  rfl
theorem ok_Route_sight (T : Txt K mg a) : FnOk P w K mg base CX0 1 a.f_Route_sight a.d_Route_sight ["self"] (sp_Route_sight K a) := by
  refine T.F_Route_sight.ok sc_Route_sight (fun vs H Q E h => len_Route_sight h) (fun cdv A outer s H vs Q E hr h => ?_)
  refine ⟨_, (pss_one (ps_ret (pe_tup (pa_cons (pe_fld (pv 0) rfl) (pa_cons (pe_fld (pv 0) rfl) (pa_cons (pe_fld (pv 0) rfl) pa_nil)))))), ?_⟩
  obtain ⟨p, r, rfl, ⟨dx, hp⟩, q⟩ := h
  refine ⟨_, rfl, p, _, dx, _, _, rfl, hp, T.cl_Route, T.n_Route_far, rF_far r, ?_⟩
  refine ⟨_, rfl, p, _, dx, _, _, rfl, hp, T.cl_Route, T.n_Route_link, rF_link r, ?_⟩
  refine ⟨_, rfl, p, _, dx, _, _, rfl, hp, T.cl_Route, T.n_Route_neighbour, rF_neighbour r, (by show 3 ≤ sizeLine; exact sz (by omega)), fun t ht => q t ht⟩
/-! ### Table -/
def sp_Table_init (K : PySem.W.Frag) (a : Ad) : Sp := fun vs H Q _ => ∃ (p dx : Addr), vs = [.ref p] ∧ H p = some (.ins a.c_Table dx []) ∧ ∀ d, H d = none → Q .non (upd (upd H d (.dT [])) p (.ins a.c_Table dx [("routes", .ref d)]))
theorem len_Table_init {vs : List V} {H : Hp} {Q : VK} {E : XK} (h : sp_Table_init K a vs H Q E) : vs.length = 1 := by
  obtain ⟨_, _, rfl, _⟩ := h
  rfl
theorem ok_Table_init (T : Txt K mg a) : FnOk P w K mg base CX0 1 a.f_Table_init a.d_Table_init ["self"] (sp_Table_init K a) := by
  refine T.F_Table_init.ok sc_Table_init (fun vs H Q E h => len_Table_init h) (fun cdv A outer s H vs Q E hr h => ?_)
  refine ⟨_, (pss_one (ps_fld (pv 0) pe_dnewT rfl)), ?_⟩
  obtain ⟨p, dx, rfl, hp, q⟩ := h
  intro d hd
  exact ⟨_, rfl, p, _, dx, [], rfl, (by rw [upd_ne (ne_of_none hp hd)]; exact hp), T.cl_Table, T.n_Table_routes, by decide, q d hd⟩
def kbI (r : Rt) : Int × Int := ((r.net : Int), (r.bits : Int))
/-- the two ints of a tuple -/
def pairIn (H : Hp) : V → Int × Int
  | .ref b => match H b with
    | some (.tup [.int i, .int j]) => (i, j)
    | _ => (0, 0)
  | _ => (0, 0)
theorem pairIn_at {H : Hp} {b : Addr} {r : Rt} (h : NetAt H b r) : pairIn H (.ref b) = kbI r := by
  unfold NetAt at h
  show (match H b with
    | some (.tup [.int i, .int j]) => ((i, j) : Int × Int)
    | _ => (0, 0)) = kbI r
  rw [h]
  rfl
theorem lexI {a b : Rt} : SrtO.lexB (kbI a) (kbI b) = true ↔ Ra54.before a b = true := by
  rw [SrtO.lexB_iff, before_iff]
  unfold kbI
  simp only
  omega
theorem lex_uniq : ∀ {l : List (Int × Int)} {m : List Rt}, (l.Pairwise fun x y => SrtO.lexB y x = false) → Srt m → l.Perm (m.map kbI) → l = m.map kbI
  | [], m, _, _, h => (List.Perm.eq_nil h.symm).symm
  | x :: l, [], _, _, h => absurd h.length_eq (by simp)
  | x :: l, y :: m, hl, hm, h => by
    have h1 : x = kbI y := by
      rcases List.mem_cons.mp (h.mem_iff.mp (List.mem_cons_self (a := x) (l := l))) with e | hx
      · exact e
      · rcases List.mem_cons.mp (h.mem_iff.mpr (List.mem_cons_self (a := kbI y) (l := m.map kbI))) with e | hy
        · exact e.symm
        · obtain ⟨z, hz, rfl⟩ := List.mem_map.mp hx
          have a := (List.pairwise_cons.mp hm).1 z hz
          have b := (List.pairwise_cons.mp hl).1 _ hy
          rw [lexI.mpr a] at b
          cases b
    subst h1
    have h' : (kbI y :: l).Perm (kbI y :: m.map kbI) := h
    rw [List.map_cons, lex_uniq (List.pairwise_cons.mp hl).2 (List.pairwise_cons.mp hm).2 h'.cons_inv]
theorem isKeys_nets {H : Hp} : ∀ {es : List (Addr × Rt)} {bs : List Addr}, IsKeys H (kvsOf es) bs → NetsAt H bs (rts es)
  | [], _, h => by
    cases h
    exact .nil
  | e :: es, _, h => by
    cases h with
    | cons h t => exact .cons h (isKeys_nets t)
theorem nets_pairs {H : Hp} : ∀ {bs : List Addr} {rs : List Rt}, NetsAt H bs rs → (bs.map V.ref).map (pairIn H) = rs.map kbI
  | _, _, .nil => rfl
  | _, _, .cons h t => by
    rw [List.map_cons, List.map_cons, List.map_cons, pairIn_at h, nets_pairs t]
theorem nets_mem {H : Hp} : ∀ {bs : List Addr} {rs : List Rt} {x : V}, NetsAt H bs rs → x ∈ bs.map V.ref → ∃ b r, x = .ref b ∧ NetAt H b r
  | _, _, x, .nil, h => by cases h
  | b :: _, r :: _, x, .cons h t, hx => by
    rcases List.mem_cons.mp hx with e | hx
    · exact ⟨b, r, e, h⟩
    · exact nets_mem t hx
/-- what is sorted is a list of tuples of the networks in order -/
theorem nets_of {H : Hp} : ∀ {ys : List V} {rs : List Rt}, (∀ x ∈ ys, ∃ b r, x = .ref b ∧ NetAt H b r) → ys.map (pairIn H) = rs.map kbI → ∃ ts : List Addr, ys = ts.map V.ref ∧ NetsAt H ts rs
  | [], [], _, _ => ⟨[], rfl, .nil⟩
  | [], _ :: _, _, h => by cases h
  | _ :: _, [], _, h => by cases h
  | y :: ys, r :: rs, hm, h => by
    rw [List.map_cons, List.map_cons] at h
    injection h with h1 h2
    obtain ⟨ts, e1, e2⟩ := nets_of (fun x hx => hm x (List.mem_cons_of_mem _ hx)) h2
    obtain ⟨b, q, rfl, hb⟩ := hm y (List.mem_cons_self ..)
    refine ⟨b :: ts, by rw [e1]; rfl, .cons ?_ e2⟩
    rw [pairIn_at hb] at h1
    have h3 : (q.net : Int) = (r.net : Int) := congrArg Prod.fst h1
    have h4 : (q.bits : Int) = (r.bits : Int) := congrArg Prod.snd h1
    show H b = some (.tup [V.int _, V.int _])
    rw [← h3, ← h4]
    exact hb
def sp_Table_in_order (K : PySem.W.Frag) (a : Ad) : Sp := fun vs H Q _ => ∃ (t d : Addr) (es : List (Addr × Rt)) (rs : List Rt), vs = [.ref t] ∧ TblAt a.c_Table H t d ∧ H d = some (.dT (kvsOf es)) ∧ PermS (rts es) rs ∧
  ∀ l ts H', Same H H' → H l = none → H' l = some (.lst (ts.map V.ref)) → NetsAt H' ts rs → Q (.ref l) H'
theorem len_Table_in_order {vs : List V} {H : Hp} {Q : VK} {E : XK} (h : sp_Table_in_order K a vs H Q E) : vs.length = 1 := by
  obtain ⟨_, _, _, _, rfl, _⟩ := h
  rfl
theorem ok_Table_in_order (T : Txt K mg a) : FnOk P w K mg base CX0 1 a.f_Table_in_order a.d_Table_in_order ["self"] (sp_Table_in_order K a) := by
  refine T.F_Table_in_order.ok sc_Table_in_order (fun vs H Q E h => len_Table_in_order h) (fun cdv A outer s H vs Q E hr h => ?_)
  refine ⟨_, (pss_one (ps_ret (pe_callB cr_sortedPO (by rfl) T.z_sorted (by decide +kernel) (pa_cons (pe_callTy (call_list_dT rfl) (by rfl) T.z_list (by decide +kernel) (pa_cons (pe_fld (pv 0) rfl) pa_nil)) pa_nil)))), ?_⟩
  obtain ⟨t, d, es, rs, rfl, ⟨dx, ht⟩, hd, hP, q⟩ := h
  refine ⟨_, rfl, t, _, dx, _, _, rfl, ht, T.cl_Table, T.n_Table_routes, lk_here, d, _, rfl, .inl hd, fun p bs hp hk => ?_⟩
  have s1 : Same H (upd H p (.lst (bs.map V.ref))) := same_new0 hp
  have hn := isKeys_nets hk
  have hn1 := hn.same s1
  refine ⟨p, bs.map V.ref, pairIn (upd H p (.lst (bs.map V.ref))), rfl, SqL.of upd_same, fun x hx => ?_, fun ys l hs hst hl => ?_⟩
  · obtain ⟨b, r, rfl, hb⟩ := nets_mem hn1 hx
    exact ⟨b, rfl, by rw [pairIn_at hb]; exact hb⟩
  · have pm : (ys.map (pairIn (upd H p (.lst (bs.map V.ref))))).Perm (rs.map kbI) := by
      refine (hst.perm.map _).trans ?_
      rw [nets_pairs hn1]
      exact hP.perm.map kbI
    have e := lex_uniq (List.pairwise_map.mpr hs) hP.srt pm
    obtain ⟨ts, e1, e2⟩ := nets_of (fun x hx => nets_mem hn1 (hst.perm.mem_iff.mp hx)) e
    rw [e1]
    have s2 := same_new (o := .lst (ts.map V.ref)) s1 hl
    exact q l ts _ s2 (fresh_back s1 hl) upd_same (e2.same (same_new0 hl))
/-! ### lose -/
def sp_lose (K : PySem.W.Frag) (a : Ad) : Sp := fun vs H Q _ => ∃ (p dx : Addr) (r : Rt) (now : Nat), vs = [.ref p, nV now] ∧ H p = some (.ins a.c_Route dx (rF r)) ∧ Q .non (upd H p (.ins a.c_Route dx (rF (Ra54.lost now r))))
theorem len_lose {vs : List V} {H : Hp} {Q : VK} {E : XK} (h : sp_lose K a vs H Q E) : vs.length = 2 := by
  obtain ⟨_, _, _, _, rfl, _⟩ := h
  rfl
theorem rF_few (r : Rt) : (rF r).length < 1000 := by show 7 < 1000; decide
theorem ok_lose (T : Txt K mg a) : FnOk P w K mg base CX0 1 a.f_lose a.d_lose ["route", "now"] (sp_lose K a) := by
  refine T.F_lose.ok sc_lose (fun vs H Q E h => len_lose h) (fun cdv A outer s H vs Q E hr h => ?_)
  refine ⟨_, (pss_cons (ps_fld (pv 0) (pe_glob rfl T.k_OUT_OF_REACH rel_int) rfl)
      (pss_cons (ps_fld (pv 0) (pe_op op_add (pv 1) (pe_glob rfl T.k_MISTRUSTED rel_int)) rfl)
      (pss_cons (ps_fld (pv 0) (pe_op op_add (pv 1) (pe_glob rfl T.k_KEPT rel_int)) rfl)
      (pss_one (ps_fld (pv 0) pe_bl rfl))))), ?_⟩
  obtain ⟨p, dx, r, now, rfl, hp, q⟩ := h
  refine ⟨_, rfl, p, _, dx, _, rfl, hp, T.cl_Route, T.n_Route_far, rF_few r, ?_⟩
  have e1 : putF "far" (V.int 16) (rF r) = rF { r with dist := 16 } := rF_set_far r 16
  rw [e1]
  refine ⟨_, rfl, _, _, rfl, rfl, _, rfl, p, _, dx, _, rfl, upd_same, T.cl_Route, T.n_Route_others, rF_few _, ?_⟩
  have e2 : putF "others" (V.int ((now : Int) + 60000)) (rF { r with dist := 16 }) = rF { r with dist := 16, held := now + 60000 } := rF_set_others _ (now + 60000)
  rw [upd_upd, e2]
  refine ⟨_, rfl, _, _, rfl, rfl, _, rfl, p, _, dx, _, rfl, upd_same, T.cl_Route, T.n_Route_forgotten, rF_few _, ?_⟩
  have e3 : putF "forgotten" (V.int ((now : Int) + 120000)) (rF { r with dist := 16, held := now + 60000 }) = rF { r with dist := 16, held := now + 60000, gone := now + 120000 } := rF_set_forgotten _ (now + 120000)
  rw [upd_upd, e3]
  refine ⟨_, rfl, p, _, dx, _, rfl, upd_same, T.cl_Route, T.n_Route_has_changed, rF_few _, ?_⟩
  rw [upd_upd, rF_set_changed]
  exact q
end
end Nr
namespace Nr
open PySem PySem.Spec PyProof.Rows L2
/-- all but what stands at d is as it was -/
def SameX (d : Addr) (H H' : Hp) : Prop := ∀ b o, H b = some o → b ≠ d → H' b = some o
theorem sameX_new {d : Addr} {H H' : Hp} {p : Addr} {o : HO} (e : SameX d H H') (h : H' p = none) : SameX d H (upd H' p o) := fun b u q n => by
  rw [upd_ne (ne_of_none (e b u q n) h)]
  exact e b u q n
theorem sameX_mut {d : Addr} {H H' : Hp} {p : Addr} {o : HO} (e : SameX d H H') (h : H p = none) : SameX d H (upd H' p o) := fun b u q n => by
  rw [upd_ne (ne_of_none q h)]
  exact e b u q n
theorem sameX_frz {d : Addr} {H H' : Hp} {o : HO} (e : Same H H') : SameX d H (upd H' d o) := fun b u q n => by
  rw [upd_ne n]
  exact e b u q
theorem sameX_off {d : Addr} {H H' : Hp} {u : HO} (h : H d = some u) (e : SameX d H H') : Same H (upd H' d u) := fun b o q => by
  by_cases z : b = d
  · rw [z] at q ⊢
    rw [upd_same, ← h]
    exact q
  · rw [upd_ne z]
    exact e b o q z
theorem sameX_same {d : Addr} {H H' H'' : Hp} (e : SameX d H H') (s : Same H' H'') : SameX d H H'' := fun b o q n => s b o (e b o q n)
/-- what the tuples of sights say -/
def SightAt (H : Hp) (kv : List Key × V) (r : Rt) : Prop := kv.1 = keyOf r ∧ ∃ t, kv.2 = .ref t ∧ H t = some (.tup (sightV r))
def SightsAt (H : Hp) (kvs : List (List Key × V)) (m : List Rt) : Prop := Paired (SightAt H) kvs m
theorem SightsAt.same {H H' : Hp} {kvs : List (List Key × V)} {m : List Rt} (h : SightsAt H kvs m) (s : Same H H') : SightsAt H' kvs m := paired_mono (fun _ _ ⟨e, t, e2, q⟩ => ⟨e, t, e2, s _ _ q⟩) h
theorem route_cons (r : Rt) (m : List Rt) (n b : Nat) : Ra54.routeOf (r :: m) n b = if kb r = (n, b) then some r else Ra54.routeOf m n b := by
  rw [routeOf_eq, routeOf_eq, List.find?_cons]
  by_cases c : kb r = (n, b)
  · rw [if_pos c, decide_eq_true c]
  · rw [if_neg c, decide_eq_false c]
theorem sights_val {H : Hp} (q : Rt) : ∀ {kvs : List (List Key × V)} {m : List Rt}, SightsAt H kvs m → (Ra54.routeOf m q.net q.bits = none → valV kvs (keyOf q) = none) ∧ ∀ r, Ra54.routeOf m q.net q.bits = some r → ∃ t, valV kvs (keyOf q) = some (.ref t) ∧ H t = some (.tup (sightV r))
  | _, _, .nil => ⟨fun _ => rfl, fun r h => by cases h⟩
  | kv :: kvs, r :: m, .cons ⟨h1, t, h2, h3⟩ tl => by
    have ih := sights_val q tl
    rw [route_cons]
    by_cases c : kb r = kb q
    · have c' : kb r = (q.net, q.bits) := c
      rw [if_pos c']
      refine ⟨fun h => (by cases h), fun r' h => ?_⟩
      cases h
      refine ⟨t, ?_, h3⟩
      rw [valV_pos (h1.trans (key_inj.mpr c)), h2]
    · have c' : ¬ kb r = (q.net, q.bits) := c
      rw [if_neg c']
      have e : ¬ kv.1 = keyOf q := fun z => c (key_inj.mp (h1.symm.trans z))
      rw [valV_neg e]
      exact ih
theorem kvs_get {es : List (Addr × Rt)} {i : Nat} {k : List Key} {v : V} (h : (kvsOf es)[i]? = some (k, v)) : ∃ e, es[i]? = some e ∧ k = keyOf e.2 ∧ v = .ref e.1 := by
  obtain ⟨e, he, h2⟩ := get_map h
  injection h2 with h2 h3
  exact ⟨e, he, h2, h3⟩
theorem rts_get {es : List (Addr × Rt)} {i : Nat} {e : Addr × Rt} (h : es[i]? = some e) : (rts es)[i]? = some e.2 := map_get h
theorem keyV (r : Rt) : (keyOf r).map kV = [nV r.net, nV r.bits] := rfl
section
variable {P : Program} {w : World} {K : PySem.W.Frag} {mg : Str → Option Value} {base : Heap} {a : Ad}
def sp_Table_sights (K : PySem.W.Frag) (a : Ad) : Sp := fun vs H Q _ => ∃ (t d : Addr) (es : List (Addr × Rt)), vs = [.ref t] ∧ TblAt a.c_Table H t d ∧ H d = some (.dT (kvsOf es)) ∧ RtsAt a.c_Route H es ∧ ((rts es).map kb).Nodup ∧ es.length ≤ 256 ∧
  ∀ f kvs H', Same H H' → H f = none → H' f = some (.dT kvs) → SightsAt H' kvs (rts es) → Q (.ref f) H'
theorem len_Table_sights {vs : List V} {H : Hp} {Q : VK} {E : XK} (h : sp_Table_sights K a vs H Q E) : vs.length = 1 := by
  obtain ⟨_, _, _, rfl, _⟩ := h
  rfl
theorem ok_Table_sights (T : Txt K mg a) : FnOk P w K mg base CX0 2 a.f_Table_sights a.d_Table_sights ["self"] (sp_Table_sights K a) := by
  have G_Route_sight := ok_Route_sight (P := P) (w := w) (base := base) T
  refine T.F_Table_sights.ok sc_Table_sights (fun vs H Q E h => len_Table_sights h) (fun cdv A outer s H vs Q E hr h => ?_)
  have r1 : Room 1 _ := hr.mono (by decide)
  refine ⟨_, (pss_cons (ps_set (i := 1) sc_Table_sights.nd rfl (by first | exact Or.inl rfl | exact Or.inr rfl) pe_dnewT)
      (pss_cons (ps_lock (ps_for PassesOwn.never rfl (pi_itemsT (pe_fld (pv 0) rfl)) (pg_tup (by rfl) (pgs_cons (pg_name (i := 2) sc_Table_sights.nd rfl (by first | exact Or.inl rfl | exact Or.inr rfl)) (pgs_cons (pg_name (i := 3) sc_Table_sights.nd rfl (by first | exact Or.inl rfl | exact Or.inr rfl)) pgs_nil)))
        (pss_one (ps_dput (hu_of hr) (pv 1) (pv 2) (pe_meth0 (pv 3) T.cl_Route T.M_Route_sight G_Route_sight r1 (b_Route_sight T) .nil pass0) rfl))))
      (pss_one (ps_ret (pv 1))))), ?_⟩
  obtain ⟨t, d, es, rfl, ⟨dx, ht⟩, hd, hR, hn, hl, q⟩ := h
  intro f hf
  have s0 : Same H (upd H f (.dT [])) := same_new0 hf
  have ndf : d ≠ f := ne_of_none hd hf
  have ntd : t ≠ d := fun z => by rw [z, hd] at ht; cases ht
  refine ⟨d, .dT (kvsOf es), s0 _ _ hd, True.intro, fun od => ?_⟩
  refine ⟨_, rfl, t, _, dx, _, _, rfl, (by rw [upd_ne ntd]; exact s0 _ _ ht), T.cl_Table, T.n_Table_routes, lk_here, d, od, _, rfl, upd_same, ?_⟩
  refine for_it walk_itemsT (fun i σ H' => ∃ v2 v3 kvs, σ = [some (.ref t), some (.ref f), v2, v3] ∧ H' d = some (.frz od (.dT (kvsOf es))) ∧ SameX d H H' ∧ H' f = some (.dT kvs) ∧ SightsAt H' kvs ((rts es).take i)) ?_ (fun i σ H' _ ⟨_, _, _, _, h, _⟩ => h) ?_ ?_
  · exact ⟨none, none, [], rfl, upd_same, sameX_frz s0, by rw [upd_ne (Ne.symm ndf)]; exact upd_same, .nil⟩
  · rintro i x σ H1 H2 hi ⟨v2, v3, kvs, rfl, hd1, s1, hf1, hS⟩ ⟨T', k, v, qa, hkv, rfl, hT, hqa, rfl⟩
    obtain ⟨e, he, rfl, rfl⟩ := kvs_get hkv
    have hm : e ∈ es := List.mem_of_getElem? he
    refine ⟨T', _, rfl, SqT.of upd_same, rfl, _, _, rfl, _, _, rfl, rfl, ?_⟩
    obtain ⟨dxe, hoe⟩ := hR.at_ e hm
    have ned : e.1 ≠ d := fun z => by rw [z, hd] at hoe; cases hoe
    have s2 := sameX_new (o := .tup [.ref qa, .ref e.1]) s1 hT
    have st2 : Same H1 (upd H1 T' (.tup [.ref qa, .ref e.1])) := same_new0 hT
    refine ⟨_, rfl, e.1, dxe, _, rfl, s2 _ _ hoe ned, rF_meth2 _, e.1, e.2, rfl, ⟨dxe, s2 _ _ hoe ned⟩, fun tt htt => ?_⟩
    have st3 : Same H1 (upd (upd H1 T' (.tup [.ref qa, .ref e.1])) tt (.tup (sightV e.2))) := same_new st2 htt
    have s3 := sameX_same s1 st3
    generalize hH3 : upd (upd H1 T' (.tup [.ref qa, .ref e.1])) tt (.tup (sightV e.2)) = H3 at st3 s3
    have htt3 : H3 tt = some (.tup (sightV e.2)) := by rw [← hH3]; exact upd_same
    have hS3 := hS.same st3
    have hnone : valV kvs (keyOf e.2) = none := (sights_val e.2 hS).1 (routeOf_take hn (rts_get he))
    have hlen : kvs.length = i := by
      rw [paired_len hS, List.length_take, List.length_map]
      have := (List.getElem?_eq_some_iff.mp he).1
      omega
    refine ⟨_, rfl, _, rfl, f, _, rfl, DPut.t (k := keyOf e.2) (st3 _ _ hf1) (st3 _ _ hqa) (Nat.lt_of_lt_of_le (by have := (List.getElem?_eq_some_iff.mp he).1; omega) (sz (Nat.le_refl _))), ?_⟩
    rw [putK_new _ hnone]
    have mt : ∀ {b : Addr} {xs : List V} {o : HO}, H3 b = some (.tup xs) → upd H3 f o b = some (.tup xs) := fun {b xs o} h => by
      rw [upd_ne (ne_of h (st3 _ _ hf1) (fun z => by cases z))]
      exact h
    refine ⟨_, _, _, rfl, ?_, sameX_mut s3 hf, upd_same, ?_⟩
    · rw [upd_ne ndf]
      exact st3 _ _ hd1
    · rw [take_more (rts_get he)]
      refine paired_snoc ⟨rfl, tt, rfl, mt htt3⟩ (paired_mono (fun _ _ ⟨e1, t1, e2, q1⟩ => ⟨e1, t1, e2, mt q1⟩) hS3)
  · rintro σ H1 ⟨v2, v3, kvs, rfl, hd1, s1, hf1, hS⟩
    refine ⟨hd1, _, rfl, q f kvs _ (sameX_off hd s1) hf (by rw [upd_ne (Ne.symm ndf)]; exact hf1) ?_⟩
    have e : (kvsOf es).length = (rts es).length := by unfold kvsOf; rw [List.length_map, List.length_map]
    rw [e, List.take_length] at hS
    refine paired_mono (fun _ _ ⟨e1, t1, e2, q1⟩ => ⟨e1, t1, e2, ?_⟩) hS
    rw [upd_ne (ne_of q1 hd1 (fun z => by cases z))]
    exact q1
/-! ### other_ones -/
def sightD (r : Rt) : PyData := .tuple [.int r.dist, .int r.link, .int r.via]
theorem sightD_at {K : PySem.W.Frag} {H : Hp} {t : Addr} {r : Rt} (h : H t = some (.tup (sightV r))) : Dp K H (.ref t) (sightD r) := .tup (SqT.of h) (.cons (.int _) (.cons (.int _) (.cons (.int _) .nil)))
theorem sightD_shaped (r : Rt) : SeqAt.shaped (sightD r) = true := rfl
theorem beq_cast {i j : Nat} : ((i : Int) == (j : Int)) = (i == j) := by
  by_cases h : i = j
  · rw [h, beq_self_eq_true, beq_self_eq_true]
  · rw [beq_eq_false_iff_ne.mpr h]
    exact beq_eq_false_iff_ne.mpr (fun z => h (Int.ofNat.inj z))
theorem sightD_eqv (q r : Rt) : PyData.eqv (sightD q) (sightD r) = (q.dist == r.dist && (q.link == r.link && q.via == r.via)) := by
  show ((q.dist : Int) == (r.dist : Int) && ((q.link : Int) == (r.link : Int) && ((q.via : Int) == (r.via : Int) && true))) = _
  rw [beq_cast, beq_cast, beq_cast, Bool.and_true]
def sp_other_ones (K : PySem.W.Frag) (a : Ad) : Sp := fun vs H Q _ => ∃ (f1 f2 : Addr) (k1 k2 : List (List Key × V)) (m1 m2 : List Rt), vs = [.ref f1, .ref f2] ∧ f1 ≠ f2 ∧ H f1 = some (.dT k1) ∧ H f2 = some (.dT k2) ∧ SightsAt H k1 m1 ∧ SightsAt H k2 m2 ∧ m2.length ≤ 256 ∧
  ∀ H', Same H H' → Q (nV (Ra54.differ m1 m2)) H'
theorem len_other_ones {vs : List V} {H : Hp} {Q : VK} {E : XK} (h : sp_other_ones K a vs H Q E) : vs.length = 2 := by
  obtain ⟨_, _, _, _, _, _, rfl, _⟩ := h
  rfl
theorem sights_get {H : Hp} : ∀ {kvs : List (List Key × V)} {m : List Rt} {i : Nat} {k : List Key} {v : V}, SightsAt H kvs m → kvs[i]? = some (k, v) → ∃ r t, m[i]? = some r ∧ k = keyOf r ∧ v = .ref t ∧ H t = some (.tup (sightV r))
  | _, _, i, k, v, .nil, h => by simp at h
  | kv :: _, r :: _, 0, k, v, .cons ⟨h1, t, h2, h3⟩ tl, h => by
    have e : kv = (k, v) := Option.some.inj h
    subst e
    exact ⟨r, t, rfl, h1, h2, h3⟩
  | _ :: _, r :: _, i + 1, k, v, .cons _ tl, h => sights_get (i := i) tl (by simpa using h)
theorem ok_other_ones (T : Txt K mg a) : FnOk P w K mg base CX0 1 a.f_other_ones a.d_other_ones ["before", "behind"] (sp_other_ones K a) := by
  refine T.F_other_ones.ok sc_other_ones (fun vs H Q E h => len_other_ones h) (fun cdv A outer s H vs Q E hr h => ?_)
  refine ⟨_, (pss_one (ps_ret (pe_callB call_len_seq (by rfl) T.z_len PySem.boot_len (by exact (pa_cons (pe_lock (pe_lc (own := [("network", 2), ("sight", 3)]) (g := gTup K 2 (gCons (gName 2) (gCons (gName 3) gNil))) (tt := tTest (tOp (rNeD K) (tDGet2 (tVar 0) (tVar 2) (tC .non)) (tVar 3))) rfl sc_other_ones.nd (pi_itemsT (pv 1)) (blkOk_by (own := [("network", 2), ("sight", 3)]) (N := ["before", "behind", "network", "sight"]) (sc := defScope s_other_ones) (by decide +kernel)) (fun _ _ _ _ _ => (pg_tup (by rfl) (pgs_cons (pg_name (i := 2) sc_other_ones.nd rfl (by first | exact Or.inl rfl | exact Or.inr rfl)) (pgs_cons (pg_name (i := 3) sc_other_ones.nd rfl (by first | exact Or.inl rfl | exact Or.inr rfl)) pgs_nil)))) (fun _ _ _ _ _ => (pts_one (pt_cmpR (op_neD hr.units) (pe_dget2 (hu_of hr) (pv 0) (pv 2) pe_non ⟨rfl, rfl, rfl, rfl⟩) (pv 3) (nomark _)))) (fun _ _ _ _ _ => (pv 2)))) pa_nil))))), ?_⟩
  obtain ⟨f1, f2, k1, k2, m1, m2, rfl, nf, h1, h2, hS1, hS2, hl, q⟩ := h
  refine ⟨f2, .dT k2, h2, True.intro, fun od => ?_⟩
  refine ⟨_, rfl, f2, od, k2, rfl, upd_same, fun D hD => ?_⟩
  have hDn : H D = none := by
    by_cases z : D = f2
    · rw [z, upd_same] at hD; cases hD
    · rw [upd_ne z] at hD; exact hD
  have nD : f2 ≠ D := ne_of_none h2 hDn
  refine lc_it walk_itemsT (fun i H' => ∃ vs, H' f2 = some (.frz od (.dT k2)) ∧ SameX f2 H H' ∧ H' D = some (.lst vs) ∧ vs.length = ((m2.take i).filter (isOther m1)).length) ?_ (fun i H' _ ⟨_, h, _⟩ => h) ?_ ?_
  · refine ⟨[], by rw [upd_ne nD]; exact upd_same, sameX_mut (sameX_frz (Same.refl H)) hDn, upd_same, rfl⟩
  · rintro i x H1 H2 hi ⟨vs, hf, s1, hv, hlen⟩ ⟨T', k, v, qa, hkv, rfl, hT, hqa, rfl⟩
    have s2 := sameX_new (o := .tup [.ref qa, v]) s1 hT
    have st2 : Same H1 (upd H1 T' (.tup [.ref qa, v])) := same_new0 hT
    obtain ⟨r, tr, hr, rfl, rfl, htr⟩ := sights_get hS2 hkv
    refine ⟨T', _, rfl, SqT.of upd_same, rfl, _, _, rfl, _, _, rfl, rfl, rfl, ?_⟩
    have hf1 := s2 _ _ h1 nf
    have htr2 := s2 _ _ htr (fun z => by rw [z, h2] at htr; cases htr)
    have hi' : i < m2.length := (List.getElem?_eq_some_iff.mp hr).1
    have hle : ((m2.take i).filter (isOther m1)).length ≤ 256 := Nat.le_trans (List.length_filter_le _ _) (by rw [List.length_take]; omega)
    have fin : ∀ b : Bool, b = isOther m1 r → if b = true then tVar 2 (((L2.start [("before" : Str), "behind", "network", "sight"] [V.ref f1, .ref f2]).set 2 (some (.ref qa))).set 3 (some (.ref tr))) (upd H1 T' (.tup [.ref qa, .ref tr])) (fun y H4 => ∃ acc, H4 D = some (.lst acc) ∧ acc.length < sizeLine ∧
        ∃ vs, (upd H4 D (.lst (acc ++ [y]))) f2 = some (.frz od (.dT k2)) ∧ SameX f2 H (upd H4 D (.lst (acc ++ [y]))) ∧ (upd H4 D (.lst (acc ++ [y]))) D = some (.lst vs) ∧ vs.length = ((m2.take (i + 1)).filter (isOther m1)).length)
        else ∃ vs, (upd H1 T' (.tup [.ref qa, .ref tr])) f2 = some (.frz od (.dT k2)) ∧ SameX f2 H (upd H1 T' (.tup [.ref qa, .ref tr])) ∧ (upd H1 T' (.tup [.ref qa, .ref tr])) D = some (.lst vs) ∧ vs.length = ((m2.take (i + 1)).filter (isOther m1)).length := by
      rintro b rfl
      rw [take_more hr, List.filter_append]
      cases hb : isOther m1 r with
      | true =>
        refine ⟨_, rfl, vs, st2 _ _ hv, by rw [hlen]; exact Nat.lt_of_le_of_lt hle (by rw [sizeLine_eq]; decide), vs ++ [.ref qa], ?_, sameX_mut s2 hDn, upd_same, ?_⟩
        · rw [upd_ne nD]; exact st2 _ _ hf
        · rw [List.length_append, List.length_append, hlen, List.filter_cons_of_pos (by exact hb)]
          rfl
      | false =>
        refine ⟨vs, st2 _ _ hf, s2, st2 _ _ hv, ?_⟩
        rw [List.length_append, hlen, List.filter_cons_of_neg (by rw [hb]; exact Bool.false_ne_true)]
        rfl
    refine ⟨_, rfl, f1, rfl, .inr ⟨k1, .inl hf1⟩, _, rfl, _, DGet.t (k := keyOf r) hf1 (st2 _ _ hqa), _, rfl, ?_⟩
    have hv1 := sights_val r hS1
    cases hq : Ra54.routeOf m1 r.net r.bits with
    | none =>
      rw [hv1.1 hq]
      refine ⟨.none, sightD r, .non, sightD_at htr2, rfl, sightD_shaped r, _, rfl, fin _ ?_⟩
      unfold isOther
      rw [hq]
      rfl
    | some q' =>
      obtain ⟨t', e1, e2⟩ := hv1.2 q' hq
      rw [e1]
      refine ⟨sightD q', sightD r, sightD_at (s2 _ _ e2 (fun z => by rw [z, h2] at e2; cases e2)), sightD_at htr2, sightD_shaped q', sightD_shaped r, _, rfl, fin _ ?_⟩
      unfold isOther
      rw [hq, sightD_eqv]
  · rintro H1 ⟨vs, hf, s1, hv, hlen⟩
    refine ⟨hf, D, vs, rfl, .inl (SqL.of (by rw [upd_ne (Ne.symm nD)]; exact hv)), ?_⟩
    rw [hlen]
    have e : k2.length = m2.length := paired_len hS2
    rw [e, List.take_length]
    exact q _ (sameX_off h2 s1)
/-! ### way_to -/
def sp_way_to (K : PySem.W.Frag) (a : Ad) : Sp := fun vs H Q _ => ∃ (t d adr : Nat) (es : List (Addr × Rt)) (rs : List Rt), vs = [.ref t, nV adr] ∧ TblAt a.c_Table H t d ∧ H d = some (.dT (kvsOf es)) ∧ RtsAt a.c_Route H es ∧ PermS (rts es) rs ∧ TbOk rs ∧ adr < 2 ^ 32 ∧
  (∀ H', Same H H' → Ra54.best rs adr = none → Q .non H') ∧ ∀ p r H', Same H H' → Ra54.best rs adr = some r → RtAt a.c_Route H' p r → Q (.ref p) H'
theorem len_way_to {vs : List V} {H : Hp} {Q : VK} {E : XK} (h : sp_way_to K a vs H Q E) : vs.length = 2 := by
  obtain ⟨_, _, _, _, _, rfl, _⟩ := h
  rfl
/-- how the best so far lies in the slots -/
def BestV (es : List (Addr × Rt)) (v m : V) : Option Rt → Prop
  | none => v = .non ∧ m = .int (-1)
  | some r => ∃ p, (p, r) ∈ es ∧ v = .ref p ∧ m = nV r.bits
theorem ok_way_to (T : Txt K mg a) : FnOk P w K mg base CX0 2 a.f_way_to a.d_way_to ["table", "address"] (sp_way_to K a) := by
  have G_network_of := ok_network_of (P := P) (w := w) (base := base) T
  have G_Route_is_in_reach := ok_Route_is_in_reach (P := P) (w := w) (base := base) T
  refine T.F_way_to.ok sc_way_to (fun vs H Q E h => len_way_to h) (fun cdv A outer s H vs Q E hr h => ?_)
  have r1 : Room 1 _ := hr.mono (by decide)
  refine ⟨_, (pss_cons (ps_set (i := 2) sc_way_to.nd rfl (by first | exact Or.inl rfl | exact Or.inr rfl) pe_non)
      (pss_cons (ps_set (i := 3) sc_way_to.nd rfl (by first | exact Or.inl rfl | exact Or.inr rfl) (pe_un un_neg pe_int))
      (pss_cons (ps_lock (ps_for PassesOwn.never rfl (pi_itemsT (pe_fld (pv 0) rfl)) (pg_tup (by rfl) (pgs_cons (pg_name (i := 4) sc_way_to.nd rfl (by first | exact Or.inl rfl | exact Or.inr rfl)) (pgs_cons (pg_name (i := 5) sc_way_to.nd rfl (by first | exact Or.inl rfl | exact Or.inr rfl)) pgs_nil)))
        (pss_one (ps_if (PW.pt (pw_and (pt_val (pe_meth0 (pv 5) T.cl_Route T.M_Route_is_in_reach G_Route_is_in_reach r1 (b_Route_is_in_reach T) .nil pass0)) (pw_and (pt_cmpR op_eq (pe_call G_network_of r1 rfl T.g_network_of T.F_network_of.kp (b_network_of T) .nil pass0 (pa_cons (pv 1) (pa_cons (pe_ix ix_tup (pv 4) pe_int (fun _ _ => rfl)) pa_nil))) (pe_ix ix_tup (pv 4) pe_int (fun _ _ => rfl)) (nomark _)) (pw_and1 (pt_cmpR op_gt (pe_ix ix_tup (pv 4) pe_int (fun _ _ => rfl)) (pv 3) (nomark _))))))
          (pss_cons (ps_set (i := 2) sc_way_to.nd rfl (by first | exact Or.inl rfl | exact Or.inr rfl) (pv 5))
          (pss_one (ps_set (i := 3) sc_way_to.nd rfl (by first | exact Or.inl rfl | exact Or.inr rfl) (pe_ix ix_tup (pv 4) pe_int (fun _ _ => rfl)))))
          pss_nil))))
      (pss_one (ps_ret (pv 2)))))), ?_⟩
  obtain ⟨t, d, adr, es, rs, rfl, ⟨dx, ht⟩, hd, hR, hP, hO, ha, qn, qs⟩ := h
  have hl : es.length ≤ 256 := by
    have e := hP.len
    rw [List.length_map] at e
    rw [e]
    exact hO.few
  have ntd : t ≠ d := fun z => by rw [z, hd] at ht; cases ht
  have hb := best_perm hP adr
  refine ⟨_, rfl, ?_⟩
  refine ⟨d, .dT (kvsOf es), hd, True.intro, fun od => ?_⟩
  refine ⟨_, rfl, t, _, dx, _, _, rfl, (by rw [upd_ne ntd]; exact ht), T.cl_Table, T.n_Table_routes, lk_here, d, od, _, rfl, upd_same, ?_⟩
  refine for_it walk_itemsT (fun i σ H' => ∃ fv mv v4 v5, σ = [some (.ref t), some (nV adr), some fv, some mv, v4, v5] ∧ H' d = some (.frz od (.dT (kvsOf es))) ∧ SameX d H H' ∧ BestV es fv mv (Ra54.best ((rts es).take i) adr)) ?_ (fun i σ H' _ ⟨_, _, _, _, _, h, _⟩ => h) ?_ ?_
  · exact ⟨.non, .int (-1), none, none, rfl, upd_same, sameX_frz (Same.refl H), rfl, rfl⟩
  · rintro i x σ H1 H2 hi ⟨fv, mv, v4, v5, rfl, hd1, s1, hB⟩ ⟨T', k, v, qa, hkv, rfl, hT, hqa, rfl⟩
    obtain ⟨e, he, rfl, rfl⟩ := kvs_get hkv
    have hm : e ∈ es := List.mem_of_getElem? he
    obtain ⟨dxe, hoe⟩ := hR.at_ e hm
    have ned : e.1 ≠ d := fun z => by rw [z, hd] at hoe; cases hoe
    have s2 := sameX_new (o := .tup [.ref qa, .ref e.1]) s1 hT
    have st2 : Same H1 (upd H1 T' (.tup [.ref qa, .ref e.1])) := same_new0 hT
    refine ⟨T', _, rfl, SqT.of upd_same, rfl, _, _, rfl, _, _, rfl, rfl, ?_⟩
    have hqa2 := st2 _ _ hqa
    rw [keyV] at hqa2
    have hd2 := st2 _ _ hd1
    generalize hH3 : upd H1 T' (.tup [.ref qa, .ref e.1]) = H3 at s2 st2 hqa2 hd2
    have hok : RtOk e.2 := hO.all e.2 (hP.mem.mp (List.mem_map.mpr ⟨e, hm, rfl⟩))
    have step : Ra54.best ((rts es).take (i + 1)) adr = bestStep adr (Ra54.best ((rts es).take i) adr) e.2 := by
      rw [take_more (rts_get he), best_eq, best_eq, List.foldl_append]
      rfl
    have keep : bestStep adr (Ra54.best ((rts es).take i) adr) e.2 = Ra54.best ((rts es).take i) adr → ∃ fv' mv' v4' v5', [some (V.ref t), some (nV adr), some fv, some mv, some (V.ref qa), some (V.ref e.1)] = [some (V.ref t), some (nV adr), some fv', some mv', v4', v5'] ∧ H3 d = some (.frz od (.dT (kvsOf es))) ∧ SameX d H H3 ∧ BestV es fv' mv' (Ra54.best ((rts es).take (i + 1)) adr) := fun z =>
      ⟨fv, mv, _, _, rfl, hd2, s2, by rw [step, z]; exact hB⟩
    refine ⟨_, rfl, e.1, dxe, _, rfl, s2 _ _ hoe ned, rF_meth1 _, e.1, e.2, rfl, ⟨dxe, s2 _ _ hoe ned⟩, _, rfl, ?_⟩
    by_cases c1 : ¬ e.2.dist < 16
    · refine if_false_of (decide_eq_false c1) ?_
      exact keep (if_neg fun z => c1 z.1)
    have c1 := Decidable.not_not.mp c1
    refine if_true_of (decide_eq_true c1) ?_
    refine ⟨_, rfl, _, rfl, qa, _, ((1 : Nat) : Int), nV e.2.bits, rfl, rfl, SqT.of hqa2, atI_nat rfl, adr, e.2.bits, rfl, by omega, hok.bits, ?_⟩
    refine ⟨_, rfl, qa, _, ((0 : Nat) : Int), nV e.2.net, rfl, rfl, SqT.of hqa2, atI_nat rfl, rfl, _, rfl, ?_⟩
    by_cases c2 : ¬ Ra54.netOf e.2.bits adr = e.2.net
    · refine if_false_of (decide_eq_false (fun z => c2 (Int.ofNat.inj (V.int.inj z)))) ?_
      exact keep (if_neg fun z => c2 z.2)
    have c2 := Decidable.not_not.mp c2
    refine if_true_of (decide_eq_true (congrArg nV c2)) ?_
    refine ⟨_, rfl, qa, _, ((1 : Nat) : Int), nV e.2.bits, rfl, rfl, SqT.of hqa2, atI_nat rfl, ?_⟩
    have cd : cand adr e.2 := ⟨c1, c2⟩
    have take : bestStep adr (Ra54.best ((rts es).take i) adr) e.2 = some e.2 → ∃ fv' mv' v4' v5', [some (V.ref t), some (nV adr), some (V.ref e.1), some (nV e.2.bits), some (V.ref qa), some (V.ref e.1)] = [some (V.ref t), some (nV adr), some fv', some mv', v4', v5'] ∧ H3 d = some (.frz od (.dT (kvsOf es))) ∧ SameX d H H3 ∧ BestV es fv' mv' (Ra54.best ((rts es).take (i + 1)) adr) := fun z =>
      ⟨_, _, _, _, rfl, hd2, s2, by rw [step, z]; exact ⟨e.1, hm, rfl, rfl⟩⟩
    cases hbest : Ra54.best ((rts es).take i) adr with
    | none =>
      rw [hbest] at hB keep take
      obtain ⟨rfl, rfl⟩ := hB
      refine ⟨_, rfl, _, _, rfl, rfl, _, rfl, ?_⟩
      refine if_true_of (decide_eq_true (by omega)) ?_
      refine ⟨_, rfl, _, rfl, qa, _, ((1 : Nat) : Int), nV e.2.bits, rfl, rfl, SqT.of hqa2, atI_nat rfl, ?_⟩
      exact take (if_pos cd)
    | some b =>
      rw [hbest] at hB keep take
      obtain ⟨p, hp, rfl, rfl⟩ := hB
      refine ⟨_, rfl, _, _, rfl, rfl, _, rfl, ?_⟩
      by_cases c3 : b.bits < e.2.bits
      · refine if_true_of (decide_eq_true (by omega)) ?_
        refine ⟨_, rfl, _, rfl, qa, _, ((1 : Nat) : Int), nV e.2.bits, rfl, rfl, SqT.of hqa2, atI_nat rfl, ?_⟩
        exact take ((if_pos cd).trans (if_pos c3))
      · refine if_false_of (decide_eq_false (by omega)) ?_
        exact keep ((if_pos cd).trans (if_neg c3))
  · rintro σ H1 ⟨fv, mv, v4, v5, rfl, hd1, s1, hB⟩
    refine ⟨hd1, _, rfl, ?_⟩
    have e : (kvsOf es).length = (rts es).length := by unfold kvsOf; rw [List.length_map, List.length_map]
    rw [e, List.take_length, hb] at hB
    cases hbest : Ra54.best rs adr with
    | none =>
      rw [hbest] at hB
      obtain ⟨rfl, rfl⟩ := hB
      exact qn _ (sameX_off hd s1) hbest
    | some b =>
      rw [hbest] at hB
      obtain ⟨p, hp, rfl, rfl⟩ := hB
      exact qs p b _ (sameX_off hd s1) hbest ((hR.at_ _ hp).same (sameX_off hd s1))
end
end Nr
namespace Nr
open PySem PySem.Spec PyProof.Rows L2
/-- what is touched: F before, F' behind -/
structure Fr (H H' : Hp) (F F' : List Addr) : Prop where
  keep : ∀ b o, H b = some o → b ∉ F → H' b = some o
  new : ∀ b ∈ F', b ∈ F ∨ H b = none
theorem Fr.refl (H : Hp) (F : List Addr) : Fr H H F F := ⟨fun _ _ h _ => h, fun _ h => .inl h⟩
theorem Fr.of_same {H H' : Hp} (s : Same H H') (F : List Addr) : Fr H H' F F := ⟨fun b o h _ => s b o h, fun _ h => .inl h⟩
theorem Fr.trans {H H1 H2 : Hp} {F F1 F2 : List Addr} (x : Fr H H1 F F1) (y : Fr H1 H2 F1 F2) : Fr H H2 F F2 := by
  refine ⟨fun b o h n => ?_, fun b hb => ?_⟩
  · refine y.keep b o (x.keep b o h n) fun z => ?_
    rcases x.new b z with z | z
    · exact n z
    · rw [z] at h; cases h
  · rcases y.new b hb with z | z
    · exact x.new b z
    · by_cases n : b ∈ F
      · exact .inl n
      · cases q : H b with
        | none => exact .inr rfl
        | some o =>
          rw [x.keep b o q n] at z
          cases z
theorem Fr.sub {H H' : Hp} {F F' F'' : List Addr} (x : Fr H H' F F') (h : ∀ b ∈ F'', b ∈ F') : Fr H H' F F'' := ⟨x.keep, fun b hb => x.new b (h b hb)⟩
theorem Fr.sub1 {H H' : Hp} {F F' F1 : List Addr} (x : Fr H H' F F') (h : ∀ b ∈ F, b ∈ F1) : Fr H H' F1 F' := ⟨fun b o q n => x.keep b o q fun z => n (h b z), fun b hb => by
  rcases x.new b hb with z | z
  · exact .inl (h b z)
  · exact .inr z⟩
abbrev ads (es : List (Addr × Rt)) : List Addr := es.map (·.1)
/-- a table as a list of routes in order -/
structure Tab (C : Addr) (H : Hp) (d : Addr) (es : List (Addr × Rt)) (rs : List Rt) : Prop where
  dict : H d = some (.dT (kvsOf es))
  rt : RtsAt C H es
  ps : PermS (rts es) rs
  ok : TbOk rs
section
variable {C : Addr} {H H' : Hp} {d : Addr} {es : List (Addr × Rt)} {rs : List Rt}
theorem Tab.same (h : Tab C H d es rs) (s : Same H H') : Tab C H' d es rs := ⟨s _ _ h.dict, h.rt.same s, h.ps, h.ok⟩
theorem Tab.nd (h : Tab C H d es rs) : ((rts es).map kb).Nodup := h.ps.nodup
theorem Tab.len (h : Tab C H d es rs) : es.length = rs.length := by
  have e := h.ps.len
  rw [List.length_map] at e
  exact e
theorem Tab.few (h : Tab C H d es rs) : es.length ≤ 256 := by rw [h.len]; exact h.ok.few
theorem Tab.okOf (h : Tab C H d es rs) {e : Addr × Rt} (he : e ∈ es) : RtOk e.2 := h.ok.all e.2 (h.ps.mem.mp (List.mem_map.mpr ⟨e, he, rfl⟩))
theorem Tab.ne (h : Tab C H d es rs) {e : Addr × Rt} (he : e ∈ es) : e.1 ≠ d := fun z => by
  obtain ⟨dx, q⟩ := h.rt.at_ e he
  rw [z, h.dict] at q
  cases q
theorem kvs_val (q : Rt) : ∀ {es : List (Addr × Rt)}, (Ra54.routeOf (rts es) q.net q.bits = none → valV (kvsOf es) (keyOf q) = none) ∧ ∀ r, Ra54.routeOf (rts es) q.net q.bits = some r → ∃ p, (p, r) ∈ es ∧ valV (kvsOf es) (keyOf q) = some (.ref p)
  | [] => ⟨fun _ => rfl, fun r h => (by cases h)⟩
  | e :: es => by
    have ih := kvs_val q (es := es)
    show (Ra54.routeOf (e.2 :: rts es) q.net q.bits = none → valV ((keyOf e.2, V.ref e.1) :: kvsOf es) (keyOf q) = none) ∧ ∀ r, Ra54.routeOf (e.2 :: rts es) q.net q.bits = some r → ∃ p, (p, r) ∈ e :: es ∧ valV ((keyOf e.2, V.ref e.1) :: kvsOf es) (keyOf q) = some (.ref p)
    rw [route_cons]
    by_cases c : kb e.2 = kb q
    · have c' : kb e.2 = (q.net, q.bits) := c
      rw [if_pos c']
      refine ⟨fun h => (by cases h), fun r' h => ?_⟩
      cases h
      exact ⟨e.1, List.mem_cons_self .., valV_pos (key_inj.mpr c)⟩
    · have c' : ¬ kb e.2 = (q.net, q.bits) := c
      rw [if_neg c', valV_neg (fun z => c (key_inj.mp z))]
      refine ⟨ih.1, fun r h => ?_⟩
      obtain ⟨p, h1, h2⟩ := ih.2 r h
      exact ⟨p, List.mem_cons_of_mem _ h1, h2⟩
/-- put into the dict -/
def putE (es : List (Addr × Rt)) (x : Addr × Rt) : List (Addr × Rt) := if (es.any fun e => decide (kb e.2 = kb x.2)) = true then es.map fun e => if kb e.2 = kb x.2 then x else e else es ++ [x]
theorem any_eq (es : List (Addr × Rt)) (x : Addr × Rt) : ((kvsOf es).any fun kv => decide (kv.1 = keyOf x.2)) = (es.any fun e => decide (kb e.2 = kb x.2)) := by
  unfold kvsOf
  rw [List.any_map]
  congr 1
  funext e
  show decide (keyOf e.2 = keyOf x.2) = _
  by_cases c : kb e.2 = kb x.2
  · rw [decide_eq_true c, decide_eq_true (key_inj.mpr c)]
  · rw [decide_eq_false c, decide_eq_false (fun z => c (key_inj.mp z))]
theorem kvs_put (es : List (Addr × Rt)) (x : Addr × Rt) : kvsOf (putE es x) = putK (kvsOf es) (keyOf x.2) (.ref x.1) := by
  unfold putE putK
  rw [any_eq]
  by_cases c : (es.any fun e => decide (kb e.2 = kb x.2)) = true
  · rw [if_pos c, if_pos c]
    unfold kvsOf
    rw [List.map_map, List.map_map]
    refine List.map_congr_left fun e _ => ?_
    show (keyOf (if kb e.2 = kb x.2 then x else e).2, V.ref (if kb e.2 = kb x.2 then x else e).1) = if keyOf e.2 = keyOf x.2 then (keyOf e.2, V.ref x.1) else (keyOf e.2, V.ref e.1)
    by_cases q : kb e.2 = kb x.2
    · rw [if_pos q, if_pos (key_inj.mpr q), key_inj.mpr q]
    · rw [if_neg q, if_neg fun z => q (key_inj.mp z)]
  · rw [if_neg c, if_neg c]
    unfold kvsOf
    rw [List.map_append]
    rfl
theorem rts_put (es : List (Addr × Rt)) (x : Addr × Rt) : rts (putE es x) = putR (rts es) x.2 := by
  unfold putE putR
  have e : ((rts es).any fun y => decide (kb y = kb x.2)) = (es.any fun e => decide (kb e.2 = kb x.2)) := by rw [List.any_map]; rfl
  rw [e]
  unfold rts
  by_cases c : (es.any fun e => decide (kb e.2 = kb x.2)) = true
  · rw [if_pos c, if_pos c, List.map_map, List.map_map]
    refine List.map_congr_left fun e _ => ?_
    show (if kb e.2 = kb x.2 then x else e).2 = if kb e.2 = kb x.2 then x.2 else e.2
    split <;> rfl
  · rw [if_neg c, if_neg c, List.map_append]
    rfl
theorem put_mem {es : List (Addr × Rt)} {x e : Addr × Rt} (h : e ∈ putE es x) : e = x ∨ e ∈ es := by
  unfold putE at h
  split at h
  · obtain ⟨y, hy, rfl⟩ := List.mem_map.mp h
    split
    · exact .inl rfl
    · exact .inr hy
  · rcases List.mem_append.mp h with h | h
    · exact .inr h
    · exact .inl (List.mem_singleton.mp h)
theorem put_nd {x : Addr × Rt} : ∀ {es : List (Addr × Rt)}, (ads es).Nodup → ((rts es).map kb).Nodup → x.1 ∉ ads es → (ads (putE es x)).Nodup
  | [], _, _, _ => List.pairwise_singleton ..
  | e :: es, h, g, n => by
    have h' := List.nodup_cons.mp h
    have g' := List.nodup_cons.mp g
    have n1 : x.1 ≠ e.1 := fun z => n (by rw [z]; exact List.mem_cons_self ..)
    have n2 : x.1 ∉ ads es := fun z => n (List.mem_cons_of_mem _ z)
    by_cases c : kb e.2 = kb x.2
    · have a : ∀ y ∈ es, kb y.2 ≠ kb x.2 := fun y hy z => g'.1 (List.mem_map.mpr ⟨y.2, List.mem_map.mpr ⟨y, hy, rfl⟩, z.trans c.symm⟩)
      have e0 : ((e :: es).any fun e => decide (kb e.2 = kb x.2)) = true := by simp [c]
      have e1 : putE (e :: es) x = x :: es := by
        unfold putE
        rw [if_pos e0, List.map_cons, if_pos c]
        congr 1
        exact (List.map_congr_left fun y hy => if_neg (a y hy)).trans (List.map_id _)
      rw [e1]
      exact List.nodup_cons.mpr ⟨n2, h'.2⟩
    · have e3 : putE (e :: es) x = e :: putE es x := by
        unfold putE
        have e0 : ((e :: es).any fun e => decide (kb e.2 = kb x.2)) = (es.any fun e => decide (kb e.2 = kb x.2)) := by simp [c]
        rw [e0]
        by_cases q : (es.any fun e => decide (kb e.2 = kb x.2)) = true
        · rw [if_pos q, if_pos q, List.map_cons, if_neg c]
        · rw [if_neg q, if_neg q]
          rfl
      rw [e3]
      refine List.nodup_cons.mpr ⟨fun z => ?_, put_nd h'.2 g'.2 n2⟩
      obtain ⟨y, hy, hz⟩ := List.mem_map.mp z
      rcases put_mem hy with q | q
      · rw [q] at hz; exact n1 hz
      · exact h'.1 (List.mem_map.mpr ⟨y, q, hz⟩)
theorem Tab.put (h : Tab C H d es rs) {p : Addr} {r : Rt} (hp : RtAt C H p r) (n : p ∉ ads es) (hr : RtOk r) (hl : rs.length < 256 ∨ ∃ q ∈ rs, kb q = kb r) :
    Tab C (upd H d (.dT (putK (kvsOf es) (keyOf r) (.ref p)))) d (putE es (p, r)) (Ra54.place r rs) := by
  refine ⟨by rw [upd_same, kvs_put], ⟨fun e he => ?_, put_nd h.rt.nd h.nd n⟩, by rw [rts_put]; exact h.ps.put r, h.ok.put hr hl⟩
  have k : RtAt C H e.1 e.2 := by
    rcases put_mem he with q | q
    · rw [q]; exact hp
    · exact h.rt.at_ e q
  obtain ⟨dx, q⟩ := k
  exact ⟨dx, by rw [upd_ne (ne_of q h.dict (fun z => by cases z))]; exact q⟩
theorem Fr.put {H : Hp} {d p : Addr} {r : Rt} {es : List (Addr × Rt)} {o : HO} (hp : H p = none ∨ p ∈ d :: ads es) : Fr H (upd H d o) (d :: ads es) (d :: ads (putE es (p, r))) := by
  refine ⟨fun b u q n => ?_, fun b hb => ?_⟩
  · rw [upd_ne fun z => n (by rw [z]; exact List.mem_cons_self ..)]
    exact q
  · rcases List.mem_cons.mp hb with e | hb
    · rw [e]; exact .inl (List.mem_cons_self ..)
    · obtain ⟨y, hy, rfl⟩ := List.mem_map.mp hb
      rcases put_mem hy with q | q
      · rw [q]
        rcases hp with hp | hp
        · exact .inr hp
        · exact .inl hp
      · exact .inl (List.mem_cons_of_mem _ (List.mem_map.mpr ⟨y, q, rfl⟩))
/-- one route changed where it stands -/
def modE (es : List (Addr × Rt)) (p : Addr) (r : Rt) : List (Addr × Rt) := es.map fun e => if e.1 = p then (p, r) else e
theorem ads_mod (es : List (Addr × Rt)) (p : Addr) (r : Rt) : ads (modE es p r) = ads es := by
  unfold modE ads
  rw [List.map_map]
  refine List.map_congr_left fun e _ => ?_
  show (if e.1 = p then (p, r) else e).1 = e.1
  split
  · rename_i c; exact c.symm
  · rfl
theorem mem_one {es : List (Addr × Rt)} (h : (ads es).Nodup) {p : Addr} {r q : Rt} (h1 : (p, r) ∈ es) (h2 : (p, q) ∈ es) : r = q := by
  induction es with
  | nil => cases h1
  | cons e es ih =>
    have h' := List.nodup_cons.mp h
    rcases List.mem_cons.mp h1 with e1 | h1
    · rcases List.mem_cons.mp h2 with e2 | h2
      · rw [← e1] at e2; exact (congrArg Prod.snd e2).symm
      · rw [← e1] at h'; exact absurd (List.mem_map.mpr ⟨_, h2, rfl⟩) h'.1
    · rcases List.mem_cons.mp h2 with e2 | h2
      · rw [← e2] at h'; exact absurd (List.mem_map.mpr ⟨_, h1, rfl⟩) h'.1
      · exact ih h'.2 h1 h2
theorem mod_iff (h : Tab C H d es rs) {p : Addr} {r : Rt} (hm : (p, r) ∈ es) {e : Addr × Rt} (he : e ∈ es) : e.1 = p ↔ kb e.2 = kb r := by
  constructor
  · intro z
    have : (p, e.2) ∈ es := by rw [← z]; exact he
    rw [mem_one h.rt.nd this hm]
  · intro z
    have e1 := uniq_of h.nd (List.mem_map.mpr ⟨e, he, rfl⟩) (List.mem_map.mpr ⟨(p, r), hm, rfl⟩) z
    -- two entries of one route
    have : ∀ {es : List (Addr × Rt)}, ((rts es).map kb).Nodup → e ∈ es → (p, r) ∈ es → e = (p, r) := by
      intro es
      induction es with
      | nil => intro _ h; cases h
      | cons x es ih =>
        intro g h1 h2
        have g' := List.nodup_cons.mp g
        rcases List.mem_cons.mp h1 with q1 | h1
        · rcases List.mem_cons.mp h2 with q2 | h2
          · rw [q1, q2]
          · rw [← q1] at g'
            exact absurd (List.mem_map.mpr ⟨r, List.mem_map.mpr ⟨_, h2, rfl⟩, z.symm⟩) g'.1
        · rcases List.mem_cons.mp h2 with q2 | h2
          · rw [← q2] at g'
            exact absurd (List.mem_map.mpr ⟨e.2, List.mem_map.mpr ⟨_, h1, rfl⟩, z⟩) g'.1
          · exact ih g'.2 h1 h2
    rw [this h.nd he hm]
theorem Tab.mod (h : Tab C H d es rs) {p dx : Addr} {r r' : Rt} (hm : (p, r) ∈ es) (hk : kb r' = kb r) (hr : RtOk r') :
    Tab C (upd H p (.ins C dx (rF r'))) d (modE es p r') (Ra54.place r' rs) := by
  have hpd : p ≠ d := h.ne hm
  have kv : kvsOf (modE es p r') = kvsOf es := by
    unfold kvsOf modE
    rw [List.map_map]
    refine List.map_congr_left fun e he => ?_
    show (keyOf (if e.1 = p then (p, r') else e).2, V.ref (if e.1 = p then (p, r') else e).1) = (keyOf e.2, V.ref e.1)
    by_cases c : e.1 = p
    · rw [if_pos c, c]
      exact congrArg (fun z => (z, V.ref p)) (key_inj.mpr (hk.trans ((mod_iff h hm he).mp c).symm))
    · rw [if_neg c]
  have rt : rts (modE es p r') = putR (rts es) r' := by
    unfold putR
    have an : ((rts es).any fun x => decide (kb x = kb r')) = true := List.any_eq_true.mpr ⟨r, List.mem_map.mpr ⟨_, hm, rfl⟩, decide_eq_true hk.symm⟩
    rw [if_pos an]
    unfold modE rts
    rw [List.map_map, List.map_map]
    refine List.map_congr_left fun e he => ?_
    show (if e.1 = p then (p, r') else e).2 = if kb e.2 = kb r' then r' else e.2
    by_cases c : e.1 = p
    · rw [if_pos c, if_pos (((mod_iff h hm he).mp c).trans hk.symm)]
    · rw [if_neg c, if_neg fun z => c ((mod_iff h hm he).mpr (z.trans hk))]
  refine ⟨by rw [kv, upd_ne (Ne.symm hpd)]; exact h.dict, ⟨fun e he => ?_, by rw [show (modE es p r').map (·.1) = ads es from ads_mod es p r']; exact h.rt.nd⟩, by rw [rt]; exact h.ps.put r', h.ok.put hr (.inr ⟨r, h.ps.mem.mp (List.mem_map.mpr ⟨_, hm, rfl⟩), hk.symm⟩)⟩
  obtain ⟨y, hy, rfl⟩ := List.mem_map.mp he
  by_cases c : y.1 = p
  · rw [if_pos c]
    exact ⟨dx, upd_same⟩
  · rw [if_neg c]
    obtain ⟨dy, q⟩ := h.rt.at_ y hy
    exact ⟨dy, by rw [upd_ne c]; exact q⟩
theorem Fr.mod {H : Hp} {d p : Addr} {r : Rt} {es : List (Addr × Rt)} {o : HO} (hp : p ∈ ads es) : Fr H (upd H p o) (d :: ads es) (d :: ads (modE es p r)) := by
  rw [ads_mod]
  refine ⟨fun b u q n => ?_, fun b hb => .inl hb⟩
  rw [upd_ne fun z => n (by rw [z]; exact List.mem_cons_of_mem _ hp)]
  exact q
end
end Nr
namespace Nr
open PySem PySem.Spec PyProof.Rows L2
section
variable {P : Program} {w : World} {K : PySem.W.Frag} {mg : Str → Option Value} {base : Heap} {a : Ad}
/-- offered by whom its route is -/
def again (now : Nat) (r rn : Rt) (rs : List Rt) : List Rt :=
  if rn.dist = r.dist then (if rn.dist < 16 then Ra54.place { r with good := rn.good } rs else rs) else if rn.dist < 16 then Ra54.place rn rs else Ra54.place (Ra54.lost now r) rs
def sp_offer_again (K : PySem.W.Frag) (a : Ad) : Sp := fun vs H Q _ => ∃ (t d nw p q : Addr) (now : Nat) (es : List (Addr × Rt)) (rs : List Rt) (r rn : Rt), vs = [.ref t, nV now, .ref nw, .ref p] ∧ TblAt a.c_Table H t d ∧ Tab a.c_Route H d es rs ∧ NetAt H nw rn ∧ RtAt a.c_Route H p rn ∧ p ∉ ads es ∧ RtOk rn ∧ (q, r) ∈ es ∧ kb r = kb rn ∧
  ∀ es' H', Tab a.c_Route H' d es' (again now r rn rs) → (∀ b o, H b = some o → b ∉ d :: ads es → H' b = some o) → (∀ b ∈ ads es', b = p ∨ b ∈ ads es) → Q .non H'
theorem len_offer_again {vs : List V} {H : Hp} {Q : VK} {E : XK} (h : sp_offer_again K a vs H Q E) : vs.length = 4 := by
  obtain ⟨_, _, _, _, _, _, _, _, _, _, rfl, _⟩ := h
  rfl
theorem nV_inj {i j : Nat} : nV i = nV j ↔ i = j := ⟨fun z => Int.ofNat.inj (V.int.inj z), fun z => by rw [z]⟩
theorem Tab.val {C : Addr} {H : Hp} {d : Addr} {es : List (Addr × Rt)} {rs : List Rt} (h : Tab C H d es rs) {q : Addr} {r k : Rt} (hm : (q, r) ∈ es) (e : kb r = kb k) : valV (kvsOf es) (keyOf k) = some (.ref q) := by
  have h1 : Ra54.routeOf (rts es) k.net k.bits = some r := by
    have e' := kb_iff.mp e
    rw [← e'.1, ← e'.2]
    exact routeOf_mem h.nd (List.mem_map.mpr ⟨_, hm, rfl⟩)
  obtain ⟨p, h2, h3⟩ := (kvs_val k).2 r h1
  rw [h3]
  have : (p, r) = (q, r) := by
    have i1 := (mod_iff h hm h2).mpr rfl
    have i1' : p = q := i1
    rw [i1']
  have e2 : p = q := congrArg Prod.fst this
  rw [e2]
theorem ok_offer_again (T : Txt K mg a) : FnOk P w K mg base CX0 2 a.f_offer_again a.d_offer_again ["table", "now", "network", "new"] (sp_offer_again K a) := by
  have G_Route_is_in_reach := ok_Route_is_in_reach (P := P) (w := w) (base := base) T
  have G_lose := ok_lose (P := P) (w := w) (base := base) T
  refine T.F_offer_again.ok sc_offer_again (fun vs H Q E h => len_offer_again h) (fun cdv A outer s H vs Q E hr h => ?_)
  have r1 : Room 1 _ := hr.mono (by decide)
  refine ⟨_, (pss_cons (ps_set (i := 4) sc_offer_again.nd rfl (by first | exact Or.inl rfl | exact Or.inr rfl) (pe_dget (hu_of hr) (pe_fld (pv 0) rfl) (pv 2) (fun _ _ => rfl)))
      (pss_one (ps_if (pt_cmpR op_eq (pe_fld (pv 3) rfl) (pe_fld (pv 4) rfl) (nomark _))
        (pss_one (ps_if (pt_val (pe_meth0 (pv 3) T.cl_Route T.M_Route_is_in_reach G_Route_is_in_reach r1 (b_Route_is_in_reach T) .nil pass0))
          (pss_one (ps_fld (pv 4) (pe_fld (pv 3) rfl) rfl))
          pss_nil))
        (pss_one (ps_if (pt_val (pe_meth0 (pv 3) T.cl_Route T.M_Route_is_in_reach G_Route_is_in_reach r1 (b_Route_is_in_reach T) .nil pass0))
          (pss_one (ps_dput (hu_of hr) (pe_fld (pv 0) rfl) (pv 2) (pv 3) rfl))
          (pss_one (ps_expr (pe_call G_lose r1 rfl T.g_lose T.F_lose.kp (b_lose T) .nil pass0 (pa_cons (pv 4) (pa_cons (pv 1) pa_nil)))))))))), ?_⟩
  obtain ⟨t, d, nw, p, q, now, es, rs, r, rn, rfl, ⟨dxt, ht⟩, hT, hnw, ⟨dxp, hp⟩, hpn, hrn, hm, hk, fin⟩ := h
  obtain ⟨dxq, hq⟩ := hT.rt.at_ _ hm
  have hg : DGet H d (.ref nw) (some (.ref q)) := by
    rw [← hT.val hm hk]
    exact DGet.t (k := keyOf rn) hT.dict hnw
  have hr0 := hT.okOf hm
  refine ⟨_, rfl, t, _, dxt, _, _, rfl, ht, T.cl_Table, T.n_Table_routes, lk_here, _, rfl, d, .ref q, rfl, hg, ?_⟩
  refine ⟨_, rfl, p, _, dxp, _, _, rfl, hp, T.cl_Route, T.n_Route_far, rF_far rn, _, rfl, q, _, dxq, _, _, rfl, hq, T.cl_Route, T.n_Route_far, rF_far r, rfl, _, rfl, ?_⟩
  by_cases c1 : rn.dist = r.dist
  · refine if_true_of (decide_eq_true (nV_inj.mpr c1)) ?_
    refine ⟨_, rfl, p, dxp, _, rfl, hp, rF_meth1 _, p, rn, rfl, ⟨dxp, hp⟩, _, rfl, ?_⟩
    by_cases c2 : rn.dist < 16
    · refine if_true_of (decide_eq_true c2) ?_
      refine ⟨_, rfl, p, _, dxp, _, _, rfl, hp, T.cl_Route, T.n_Route_good, rF_good rn, _, rfl, q, _, dxq, _, rfl, hq, T.cl_Route, T.n_Route_good, rF_few r, ?_⟩
      rw [rF_set_good]
      refine fin (modE es q { r with good := rn.good }) _ ?_ (fun b o h n => ?_) (fun b hb => .inr ?_)
      · unfold again
        rw [if_pos c1, if_pos c2]
        exact hT.mod hm rfl (hr0.good _)
      · rw [upd_ne fun z => n (by rw [z]; exact List.mem_cons_of_mem _ (List.mem_map.mpr ⟨_, hm, rfl⟩))]
        exact h
      · rw [ads_mod] at hb; exact hb
    · refine if_false_of (decide_eq_false c2) ?_
      refine fin es H ?_ (fun b o h n => h) (fun b hb => .inr hb)
      unfold again
      rw [if_pos c1, if_neg c2]
      exact hT
  · refine if_false_of (decide_eq_false (fun z => c1 (nV_inj.mp z))) ?_
    refine ⟨_, rfl, p, dxp, _, rfl, hp, rF_meth1 _, p, rn, rfl, ⟨dxp, hp⟩, _, rfl, ?_⟩
    by_cases c2 : rn.dist < 16
    · refine if_true_of (decide_eq_true c2) ?_
      refine ⟨_, rfl, _, rfl, t, _, dxt, _, _, rfl, ht, T.cl_Table, T.n_Table_routes, lk_here, _, rfl, d, _, rfl, DPut.t (k := keyOf rn) hT.dict hnw ?_, ?_⟩
      · unfold kvsOf
        rw [List.length_map]
        have := hT.few
        rw [sizeLine_eq]
        omega
      refine fin (putE es (p, rn)) _ ?_ (fun b o h n => ?_) (fun b hb => ?_)
      · unfold again
        rw [if_neg c1, if_pos c2]
        exact hT.put ⟨dxp, hp⟩ hpn hrn (.inr ⟨r, hT.ps.mem.mp (List.mem_map.mpr ⟨_, hm, rfl⟩), hk⟩)
      · rw [upd_ne fun z => n (by rw [z]; exact List.mem_cons_self ..)]
        exact h
      · obtain ⟨y, hy, rfl⟩ := List.mem_map.mp hb
        rcases put_mem hy with z | z
        · rw [z]; exact .inl rfl
        · exact .inr (List.mem_map.mpr ⟨y, z, rfl⟩)
    · refine if_false_of (decide_eq_false c2) ?_
      refine ⟨_, rfl, _, rfl, q, dxq, r, now, rfl, hq, ?_⟩
      refine fin (modE es q (Ra54.lost now r)) _ ?_ (fun b o h n => ?_) (fun b hb => .inr ?_)
      · unfold again
        rw [if_neg c1, if_neg c2]
        exact hT.mod hm rfl (hr0.lost _)
      · rw [upd_ne fun z => n (by rw [z]; exact List.mem_cons_of_mem _ (List.mem_map.mpr ⟨_, hm, rfl⟩))]
        exact h
      · rw [ads_mod] at hb; exact hb
theorem ads_put {es : List (Addr × Rt)} {x : Addr × Rt} {b : Addr} (h : b ∈ ads (putE es x)) : b = x.1 ∨ b ∈ ads es := by
  obtain ⟨y, hy, rfl⟩ := List.mem_map.mp h
  rcases put_mem hy with z | z
  · rw [z]; exact .inl rfl
  · exact .inr (List.mem_map.mpr ⟨y, z, rfl⟩)
/-! ### offer -/
def sp_offer (K : PySem.W.Frag) (a : Ad) : Sp := fun vs H Q _ => ∃ (t d p0 : Addr) (now i x : Nat) (e : Ra54.Entry) (es : List (Addr × Rt)) (rs : List Rt), vs = [.ref t, nV now, nV i, nV x, .ref p0] ∧ TblAt a.c_Table H t d ∧ Tab a.c_Route H d es rs ∧ ToldAt a.c_Told H p0 e ∧ (e.bits ≤ 32 ∧ 1 ≤ e.dist ∧ e.dist ≤ 16) ∧
  ∀ es' H', Tab a.c_Route H' d es' (Ra54.offered now i x rs e) → Fr H H' (d :: ads es) (d :: ads es') → Q .non H'
theorem len_offer {vs : List V} {H : Hp} {Q : VK} {E : XK} (h : sp_offer K a vs H Q E) : vs.length = 5 := by
  obtain ⟨_, _, _, _, _, _, _, _, _, rfl, _⟩ := h
  rfl
theorem ok_offer (T : Txt K mg a) : FnOk P w K mg base CX0 3 a.f_offer a.d_offer ["table", "now", "link", "neighbour", "told"] (sp_offer K a) := by
  have G_Route_init := ok_Route_init (P := P) (w := w) (base := base) T
  have G_Route_is_in_reach := ok_Route_is_in_reach (P := P) (w := w) (base := base) T
  have G_offer_again := ok_offer_again (P := P) (w := w) (base := base) T
  refine T.F_offer.ok sc_offer (fun vs H Q E h => len_offer h) (fun cdv A outer s H vs Q E hr h => ?_)
  have r1 : Room 1 _ := hr.mono (by decide)
  have r2 : Room 2 _ := hr.mono (by decide)
  refine ⟨_, (pss_cons (ps_set (i := 5) sc_offer.nd rfl (by first | exact Or.inl rfl | exact Or.inr rfl) (pe_tup (pa_cons (pe_fld (pv 4) rfl) (pa_cons (pe_fld (pv 4) rfl) pa_nil))))
      (pss_cons (ps_set (i := 6) sc_offer.nd rfl (by first | exact Or.inl rfl | exact Or.inr rfl) (pe_make T.m_Route G_Route_init r2 rfl T.g_Route (b_Route_init T) .nil pass0 (pa_cons (pe_fld (pv 4) rfl) (pa_cons (pv 2) (pa_cons (pv 3) (pa_cons (pe_op op_add (pv 1) (pe_glob rfl T.k_GOOD_FOR rel_int)) pa_nil))))))
      (pss_cons (ps_if (pt_cmp (pc_dnotin (hu_of hr) (pv 5) (pe_fld (pv 0) rfl)))
        (pss_cons (ps_if (PW.pt (pw_and (pt_val (pe_meth0 (pv 6) T.cl_Route T.M_Route_is_in_reach G_Route_is_in_reach r1 (b_Route_is_in_reach T) .nil pass0)) (pw_and1 (pt_cmpR op_lt (pe_callB call_len_dT (by rfl) T.z_len PySem.boot_len (by exact (pa_cons (pe_fld (pv 0) rfl) pa_nil))) (pe_glob rfl T.k_MOST_ROUTES rel_int) (nomark _)))))
          (pss_one (ps_dput (hu_of hr) (pe_fld (pv 0) rfl) (pv 5) (pv 6) rfl))
          pss_nil)
        (pss_one ps_retN))
        pss_nil)
      (pss_cons (ps_set (i := 7) sc_offer.nd rfl (by first | exact Or.inl rfl | exact Or.inr rfl) (pe_dget (hu_of hr) (pe_fld (pv 0) rfl) (pv 5) (fun _ _ => rfl)))
      (pss_cons (ps_if (pt_cmpR op_eq (pe_fld (pv 7) rfl) pe_int (nomark _))
        (pss_one ps_retN)
        pss_nil)
      (pss_one (ps_if (PW.pt (pw_and (pt_cmpR op_eq (pe_fld (pv 7) rfl) (pv 2) (nomark _)) (pw_and1 (pt_cmpR op_eq (pe_fld (pv 7) rfl) (pv 3) (nomark _)))))
        (pss_one (ps_expr (pe_call G_offer_again r2 rfl T.g_offer_again T.F_offer_again.kp (b_offer_again T) .nil pass0 (pa_cons (pv 0) (pa_cons (pv 1) (pa_cons (pv 5) (pa_cons (pv 6) pa_nil)))))))
        (pss_one (ps_if (pt_not (pt_val (pe_meth0 (pv 7) T.cl_Route T.M_Route_is_in_reach G_Route_is_in_reach r1 (b_Route_is_in_reach T) .nil pass0)))
          (pss_one (ps_if (PW.pt (pw_and (pt_val (pe_meth0 (pv 6) T.cl_Route T.M_Route_is_in_reach G_Route_is_in_reach r1 (b_Route_is_in_reach T) .nil pass0)) (pw_and1 (pt_cmpR op_ge (pv 1) (pe_fld (pv 7) rfl) (nomark _)))))
            (pss_one (ps_dput (hu_of hr) (pe_fld (pv 0) rfl) (pv 5) (pv 6) rfl))
            pss_nil))
          (pss_one (ps_if (pt_cmpR op_lt (pe_fld (pv 6) rfl) (pe_fld (pv 7) rfl) (nomark _))
            (pss_one (ps_dput (hu_of hr) (pe_fld (pv 0) rfl) (pv 5) (pv 6) rfl))
            pss_nil))))))))))), ?_⟩
  obtain ⟨t, d, p0, now, i, x, e, es, rs, rfl, ⟨dxt, ht⟩, hT, ⟨dx0, h0⟩, he, fin⟩ := h
  refine ⟨_, rfl, p0, _, dx0, _, _, rfl, h0, T.cl_Told, T.n_Told_address, toldF_address e, ?_⟩
  refine ⟨_, rfl, p0, _, dx0, _, _, rfl, h0, T.cl_Told, T.n_Told_bits, toldF_bits e, (by show 2 ≤ sizeLine; exact sz (by omega)), fun nw hnw => ?_⟩
  have s1 : Same H (upd H nw (.tup [nV e.net, nV e.bits])) := same_new0 hnw
  refine ⟨_, rfl, p0, _, dx0, _, _, rfl, s1 _ _ h0, T.cl_Told, T.n_Told_far, toldF_far e, _, rfl, _, rfl, _, rfl, _, _, rfl, rfl, fun p dxp hp hdxp hne => ?_⟩
  refine ⟨p, dxp, _, _, _, _, rfl, upd_same, rfl, ?_⟩
  rw [upd_upd]
  -- the new route
  generalize hrn : (⟨e.net, e.bits, e.dist, i, x, now + 180000, 0, 0, true⟩ : Rt) = rn
  have ef : newF (nV e.dist) (nV i) (nV x) (V.int ((now : Int) + 180000)) = rF rn := by rw [← hrn]; rfl
  rw [ef]
  have s2 : Same H (upd (upd (upd H nw (.tup [nV e.net, nV e.bits])) dxp (.own p)) p (.ins a.c_Route dxp (rF rn))) := same_new (same_new s1 hdxp) (by rw [upd_ne (Ne.symm hne)]; exact hp)
  have hnw1 : (upd (upd (upd H nw (.tup [nV e.net, nV e.bits])) dxp (.own p)) p (.ins a.c_Route dxp (rF rn))) nw = some (.tup [nV e.net, nV e.bits]) := by
    have n1 : nw ≠ p := fun z => by rw [z, upd_same] at hp; cases hp
    have n2 : nw ≠ dxp := fun z => by rw [z, upd_same] at hdxp; cases hdxp
    rw [upd_ne n1, upd_ne n2, upd_same]
  have hpH : H p = none := fresh_back s1 hp
  generalize hH1 : upd (upd (upd H nw (.tup [nV e.net, nV e.bits])) dxp (.own p)) p (.ins a.c_Route dxp (rF rn)) = H1 at s2 hnw1
  have hp1 : H1 p = some (.ins a.c_Route dxp (rF rn)) := by rw [← hH1]; exact upd_same
  have ht1 := s2 _ _ ht
  have hT1 := hT.same s2
  have rnk : kb rn = (e.net, e.bits) := by rw [← hrn]; rfl
  have rnd : rn.dist = e.dist := by rw [← hrn]
  have rno : RtOk rn := by rw [← hrn]; exact RtOk.new he
  have hnw2 : NetAt H1 nw rn := by rw [← hrn]; exact hnw1
  have pn : p ∉ ads es := fun z => by
    obtain ⟨y, hy, hz⟩ := List.mem_map.mp z
    obtain ⟨dy, q⟩ := hT.rt.at_ y hy
    rw [hz, hpH] at q
    cases q
  have frS : Fr H H1 (d :: ads es) (d :: ads es) := Fr.of_same s2 _
  have stay : Ra54.offered now i x rs e = rs → Q .non H1 := fun z => fin es H1 (by rw [z]; exact hT1) frS
  have put : Ra54.offered now i x rs e = Ra54.place rn rs → (rs.length < 256 ∨ ∃ q ∈ rs, kb q = kb rn) → Q .non (upd H1 d (.dT (putK (kvsOf es) (keyOf rn) (.ref p)))) := fun z hl => by
    refine fin (putE es (p, rn)) _ (by rw [z]; exact hT1.put ⟨dxp, hp1⟩ pn rno hl) ⟨fun b o h n => ?_, fun b hb => ?_⟩
    · rw [upd_ne fun z => n (by rw [z]; exact List.mem_cons_self ..)]
      exact s2 _ _ h
    · rcases List.mem_cons.mp hb with z | hb
      · rw [z]; exact .inl (List.mem_cons_self ..)
      · rcases ads_put hb with z | hb
        · rw [z]; exact .inr hpH
        · exact .inl (List.mem_cons_of_mem _ hb)
  have hkv := kvs_val rn (es := es)
  have hfind : Ra54.routeOf (rts es) rn.net rn.bits = Ra54.routeOf rs e.net e.bits := by
    rw [hT.ps.find]
    have e' := kb_iff.mp (show kb rn = kb ⟨e.net, e.bits, 0, 0, 0, 0, 0, 0, true⟩ from rnk)
    rw [e'.1, e'.2]
  have few : (kvsOf es).length < sizeLine := by
    unfold kvsOf
    rw [List.length_map]
    have := hT.few
    rw [sizeLine_eq]
    omega
  have hg : DGet H1 d (.ref nw) (valV (kvsOf es) (keyOf rn)) := DGet.t hT1.dict hnw2
  refine ⟨_, rfl, _, rfl, t, _, dxt, _, _, rfl, ht1, T.cl_Table, T.n_Table_routes, lk_here, d, _, rfl, hg, _, rfl, ?_⟩
  have off : Ra54.offered now i x rs e = (match Ra54.routeOf rs e.net e.bits with
    | none => if e.dist < 16 ∧ rs.length < 256 then Ra54.place rn rs else rs
    | some r => if r.via = 0 ∧ r.dist = 0 then rs
      else if r.link = i ∧ r.via = x then
        (if e.dist = r.dist then (if e.dist < 16 then Ra54.place { r with good := now + 180000 } rs else rs)
         else if e.dist = 16 then Ra54.place (Ra54.lost now r) rs else Ra54.place rn rs)
      else if r.dist = 16 then (if now < r.held ∨ e.dist = 16 then rs else Ra54.place rn rs)
      else if e.dist < r.dist then Ra54.place rn rs
      else rs) := by rw [← hrn]; rfl
  cases hq : Ra54.routeOf rs e.net e.bits with
  | none =>
    rw [hq] at off
    have off' : Ra54.offered now i x rs e = if e.dist < 16 ∧ rs.length < 256 then Ra54.place rn rs else rs := off
    rw [hkv.1 (hfind.trans hq)]
    refine ⟨_, rfl, p, dxp, _, rfl, hp1, rF_meth1 _, p, rn, rfl, ⟨dxp, hp1⟩, _, rfl, ?_⟩
    by_cases c1 : rn.dist < 16
    · refine if_true_of (decide_eq_true c1) ?_
      refine ⟨_, rfl, t, _, dxt, _, _, rfl, ht1, T.cl_Table, T.n_Table_routes, lk_here, d, _, rfl, hT1.dict, _, _, rfl, rfl, _, rfl, ?_⟩
      have el : (kvsOf es).length = rs.length := by unfold kvsOf; rw [List.length_map, hT.len]
      by_cases c2 : rs.length < 256
      · refine if_true_of (decide_eq_true (by rw [el]; omega)) ?_
        refine ⟨_, rfl, _, rfl, t, _, dxt, _, _, rfl, ht1, T.cl_Table, T.n_Table_routes, lk_here, _, rfl, d, _, rfl, DPut.t (k := keyOf rn) hT1.dict hnw2 few, ?_⟩
        exact put (by rw [off', if_pos ⟨by omega, c2⟩]) (.inl c2)
      · refine if_false_of (decide_eq_false (by rw [el]; omega)) ?_
        exact stay (by rw [off', if_neg fun z => c2 z.2])
    · refine if_false_of (decide_eq_false c1) ?_
      exact stay (by rw [off', if_neg fun z => c1 (by omega)])
  | some r =>
    rw [hq] at off
    have off' : Ra54.offered now i x rs e = if r.via = 0 ∧ r.dist = 0 then rs
      else if r.link = i ∧ r.via = x then
        (if e.dist = r.dist then (if e.dist < 16 then Ra54.place { r with good := now + 180000 } rs else rs)
         else if e.dist = 16 then Ra54.place (Ra54.lost now r) rs else Ra54.place rn rs)
      else if r.dist = 16 then (if now < r.held ∨ e.dist = 16 then rs else Ra54.place rn rs)
      else if e.dist < r.dist then Ra54.place rn rs
      else rs := off
    obtain ⟨q, hm, hv⟩ := hkv.2 r (hfind.trans hq)
    obtain ⟨hr1, hr2, hr3⟩ := routeOf_some hq
    have hk : kb r = kb rn := by rw [rnk]; unfold kb; rw [hr2, hr3]
    have hro : RtOk r := hT.okOf hm
    have hex : ∃ q ∈ rs, kb q = kb rn := ⟨r, hr1, hk⟩
    rw [hv]
    rw [hv] at hg
    obtain ⟨dxq, hq1⟩ := hT1.rt.at_ _ hm
    have hq1' : H1 q = some (.ins a.c_Route dxq (rF r)) := hq1
    refine ⟨_, rfl, t, _, dxt, _, _, rfl, ht1, T.cl_Table, T.n_Table_routes, lk_here, _, rfl, d, .ref q, rfl, hg, ?_⟩
    refine ⟨_, rfl, q, _, dxq, _, _, rfl, hq1', T.cl_Route, T.n_Route_far, rF_far r, rfl, _, rfl, ?_⟩
    by_cases c1 : r.dist = 0
    · refine if_true_of (decide_eq_true (nV_inj.mpr c1)) ?_
      exact stay (by rw [off', if_pos ⟨hro.own c1, c1⟩])
    refine if_false_of (decide_eq_false (fun z => c1 (nV_inj.mp z))) ?_
    have off2 := off'.trans (if_neg fun z => c1 z.2)
    refine ⟨_, rfl, q, _, dxq, _, _, rfl, hq1', T.cl_Route, T.n_Route_link, rF_link r, _, rfl, rfl, _, rfl, ?_⟩
    by_cases c2 : r.link = i ∧ r.via = x
    · refine if_true_of (decide_eq_true (nV_inj.mpr c2.1)) ?_
      refine ⟨_, rfl, q, _, dxq, _, _, rfl, hq1', T.cl_Route, T.n_Route_neighbour, rF_neighbour r, _, rfl, rfl, _, rfl, ?_⟩
      refine if_true_of (decide_eq_true (nV_inj.mpr c2.2)) ?_
      refine ⟨_, rfl, _, rfl, _, rfl, _, rfl, t, d, nw, p, q, now, es, rs, r, rn, rfl, ⟨dxt, ht1⟩, hT1, hnw2, ⟨dxp, hp1⟩, pn, rno, hm, hk, fun es' H' hT' kp nw' => ?_⟩
      refine fin es' H' ?_ ⟨fun b o h n => kp b o (s2 _ _ h) n, fun b hb => ?_⟩
      · rw [off2.trans (if_pos c2)]
        have e : again now r rn rs = (if e.dist = r.dist then (if e.dist < 16 then Ra54.place { r with good := now + 180000 } rs else rs)
         else if e.dist = 16 then Ra54.place (Ra54.lost now r) rs else Ra54.place rn rs) := by
          unfold again
          rw [rnd, show rn.good = now + 180000 from by rw [← hrn]]
          by_cases z : e.dist = r.dist
          · rw [if_pos z, if_pos z]
          · rw [if_neg z, if_neg z]
            by_cases z2 : e.dist < 16
            · rw [if_pos z2, if_neg (by omega)]
            · rw [if_neg z2, if_pos (by omega)]
        rw [← e]
        exact hT'
      · rcases List.mem_cons.mp hb with z | hb
        · rw [z]; exact .inl (List.mem_cons_self ..)
        · rcases nw' b hb with z | hb
          · rw [z]; exact .inr hpH
          · exact .inl (List.mem_cons_of_mem _ hb)
    · have off3 := off2.trans (if_neg c2)
      have c3 : ¬ r.link = i ∨ (r.link = i ∧ ¬ r.via = x) := by
        by_cases z : r.link = i
        · exact .inr ⟨z, fun y => c2 ⟨z, y⟩⟩
        · exact .inl z
      rcases c3 with c3 | ⟨c3, c4⟩
      all_goals first
        | refine if_false_of (decide_eq_false (fun z => c3 (nV_inj.mp z))) ?_
        | (refine if_true_of (decide_eq_true (nV_inj.mpr c3)) ?_
           refine ⟨_, rfl, q, _, dxq, _, _, rfl, hq1', T.cl_Route, T.n_Route_neighbour, rF_neighbour r, _, rfl, rfl, _, rfl, ?_⟩
           refine if_false_of (decide_eq_false (fun z => c4 (nV_inj.mp z))) ?_)
      all_goals
        refine ⟨_, rfl, q, dxq, _, rfl, hq1', rF_meth1 _, q, r, rfl, ⟨dxq, hq1'⟩, _, rfl, ?_⟩
        by_cases c5 : r.dist < 16
        · rw [decide_eq_true c5]
          refine ⟨_, rfl, p, _, dxp, _, _, rfl, hp1, T.cl_Route, T.n_Route_far, rF_far rn, _, rfl, q, _, dxq, _, _, rfl, hq1', T.cl_Route, T.n_Route_far, rF_far r, _, _, rfl, rfl, _, rfl, ?_⟩
          have off4 := off3.trans (if_neg (show ¬ r.dist = 16 by omega))
          by_cases c6 : rn.dist < r.dist
          · refine if_true_of (decide_eq_true (by omega)) ?_
            refine ⟨_, rfl, _, rfl, t, _, dxt, _, _, rfl, ht1, T.cl_Table, T.n_Table_routes, lk_here, _, rfl, d, _, rfl, DPut.t (k := keyOf rn) hT1.dict hnw2 few, ?_⟩
            exact put (by rw [off4, if_pos (by omega)]) (.inr hex)
          · refine if_false_of (decide_eq_false (by omega)) ?_
            exact stay (by rw [off4, if_neg (by omega)])
        · rw [decide_eq_false c5]
          have rd : r.dist = 16 := by have := hro.dist; omega
          have off4 := off3.trans (if_pos rd)
          refine ⟨_, rfl, p, dxp, _, rfl, hp1, rF_meth1 _, p, rn, rfl, ⟨dxp, hp1⟩, _, rfl, ?_⟩
          by_cases c6 : rn.dist < 16
          · refine if_true_of (decide_eq_true c6) ?_
            refine ⟨_, rfl, _, rfl, q, _, dxq, _, _, rfl, hq1', T.cl_Route, T.n_Route_others, rF_others r, _, _, rfl, rfl, _, rfl, ?_⟩
            by_cases c7 : r.held ≤ now
            · refine if_true_of (decide_eq_true (by omega)) ?_
              refine ⟨_, rfl, _, rfl, t, _, dxt, _, _, rfl, ht1, T.cl_Table, T.n_Table_routes, lk_here, _, rfl, d, _, rfl, DPut.t (k := keyOf rn) hT1.dict hnw2 few, ?_⟩
              exact put (by rw [off4, if_neg (by omega)]) (.inr hex)
            · refine if_false_of (decide_eq_false (by omega)) ?_
              exact stay (by rw [off4, if_pos (by omega)])
          · refine if_false_of (decide_eq_false c6) ?_
            exact stay (by rw [off4, if_pos (by omega)])
end
end Nr
namespace Nr
open PySem PySem.Spec PyProof.Rows L2
def Keep (H H' : Hp) (F : List Addr) : Prop := ∀ b o, H b = some o → b ∉ F → H' b = some o
theorem Keep.mut {H H' : Hp} {F : List Addr} {p : Addr} {o : HO} (k : Keep H H' F) (hp : p ∈ F) : Keep H (upd H' p o) F := fun b u q n => by
  rw [upd_ne fun z => n (by rw [z]; exact hp)]
  exact k b u q n
theorem Keep.same {H H1 H' : Hp} {F : List Addr} (k : Keep H1 H' F) (s : Same H H1) : Keep H H' F := fun b o q n => k b o (s b o q) n
theorem Keep.then {H H1 H' : Hp} {F : List Addr} (k : Keep H H1 F) (s : Same H1 H') : Keep H H' F := fun b o q n => s b o (k b o q n)
theorem ads_ix {es : List (Addr × Rt)} (h : (ads es).Nodup) {i j : Nat} {e e' : Addr × Rt} (h1 : es[i]? = some e) (h2 : es[j]? = some e') (h3 : e.1 = e'.1) : i = j := by
  have l1 : (ads es)[i]? = some e.1 := map_get h1
  have l2 : (ads es)[j]? = some e'.1 := map_get h2
  have hi : i < (ads es).length := (List.getElem?_eq_some_iff.mp l1).1
  exact (List.getElem?_inj hi h).mp (by rw [l1, l2, h3])
theorem map_pair {es : List (Addr × Rt)} {f : Rt → Rt} : (es.map fun e => (e.1, f e.2)).map (·.1) = ads es := by
  rw [List.map_map]
  rfl
theorem rts_pair {es : List (Addr × Rt)} {f : Rt → Rt} : rts (es.map fun e => (e.1, f e.2)) = (rts es).map f := by
  unfold rts
  rw [List.map_map, List.map_map]
  rfl
theorem kvs_pair {es : List (Addr × Rt)} {f : Rt → Rt} (hk : ∀ r, kb (f r) = kb r) : kvsOf (es.map fun e => (e.1, f e.2)) = kvsOf es := by
  unfold kvsOf
  rw [List.map_map]
  refine List.map_congr_left fun e _ => ?_
  show (keyOf (f e.2), V.ref e.1) = (keyOf e.2, V.ref e.1)
  rw [key_inj.mpr (hk e.2)]
/-- every route of the locked dict is gone through and may be changed -/
theorem for_all {C d : Addr} {od : Obj} {es : List (Addr × Rt)} {f : Rt → Rt} {H H1 : Hp} {tb : TS} {D : Ends} (σ0 : L2.St) (j : Nat) (v0 : Option V)
    (hf : H1 d = some (.frz od (.dT (kvsOf es)))) (hR : RtsAt C H1 es) (hk : Keep H H1 (d :: ads es))
    (body : ∀ (e : Addr × Rt) (dx : Addr) (H' : Hp) (D' : Ends), e ∈ es → H' e.1 = some (.ins C dx (rF e.2)) → Keep H H' (d :: ads es) → D'.nx (σ0.set j (some (.ref e.1))) (upd H' e.1 (.ins C dx (rF (f e.2)))) →
      (f e.2 = e.2 → D'.nx (σ0.set j (some (.ref e.1))) H') → tb D' (σ0.set j (some (.ref e.1))) H')
    (done : ∀ v H', H' d = some (.frz od (.dT (kvsOf es))) → RtsAt C H' (es.map fun e => (e.1, f e.2)) → Keep H H' (d :: ads es) → D.nx (σ0.set j v) H') :
    ∃ W : Nat → Nat → L2.St → Hp → Prop, (∃ m, W 0 m (σ0.set j v0) H1) ∧ ∀ i m σ H, W i m σ H →
      ((ItdT d od (kvsOf es)).stop i H ∧ D.nx σ H) ∨ ((ItdT d od (kvsOf es)).go i H ∧ ∃ N : L2.St → Hp → Prop, (∀ σ' H', N σ' H' → ∃ m', m' < m ∧ W (i + 1) m' σ' H') ∧ ∀ x H', (ItdT d od (kvsOf es)).yld i H x H' → gName j x σ H' fun σ2 H2 => tb { D with nx := N, ct := N, bk := D.nx } σ2 H2) := by
  refine for_it walk_valuesT (fun i σ H' => (∃ v, σ = σ0.set j v) ∧ H' d = some (.frz od (.dT (kvsOf es))) ∧ (∀ k e, es[k]? = some e → RtAt C H' e.1 (if k < i then f e.2 else e.2)) ∧ Keep H H' (d :: ads es)) ?_ (fun i σ H' _ h => h.2.1) ?_ ?_
  · refine ⟨⟨v0, rfl⟩, hf, fun k e he => ?_, hk⟩
    rw [if_neg (Nat.not_lt_zero k)]
    exact hR.at_ e (List.mem_of_getElem? he)
  · rintro i x σ H3 H2 hi ⟨⟨v, rfl⟩, hd, hr, k⟩ ⟨rfl, key, hkv⟩
    obtain ⟨e, he, rfl, rfl⟩ := kvs_get hkv
    have hm : e ∈ es := List.mem_of_getElem? he
    show tb _ ((σ0.set j v).set j (some (.ref e.1))) H2
    rw [List.set_set]
    have ho := hr i e he
    rw [if_neg (Nat.lt_irrefl i)] at ho
    obtain ⟨dx, ho⟩ := ho
    have hmem : e.1 ∈ d :: ads es := List.mem_cons_of_mem _ (List.mem_map.mpr ⟨e, hm, rfl⟩)
    have ned : d ≠ e.1 := fun z => by rw [← z, hd] at ho; cases ho
    refine body e dx H2 _ hm ho k ⟨⟨_, rfl⟩, by rw [upd_ne ned]; exact hd, fun k' e' he' => ?_, k.mut hmem⟩ fun hfe => ⟨⟨_, rfl⟩, hd, fun k' e' he' => ?_, k⟩
    · by_cases z : k' = i
      · subst z
        rw [he] at he'
        cases he'
        rw [if_pos (Nat.lt_succ_self _)]
        exact ⟨dx, upd_same⟩
      · obtain ⟨dy, q⟩ := hr k' e' he'
        have ne : e'.1 ≠ e.1 := fun y => z (ads_ix hR.nd he' he y)
        refine ⟨dy, ?_⟩
        rw [upd_ne ne, q]
        by_cases y : k' < i
        · rw [if_pos y, if_pos (Nat.lt_succ_of_lt y)]
        · rw [if_neg y, if_neg (by omega)]
    · have q := hr k' e' he'
      by_cases z : k' = i
      · subst z
        rw [he] at he'
        cases he'
        rw [if_pos (Nat.lt_succ_self _), hfe]
        rw [if_neg (Nat.lt_irrefl _)] at q
        exact q
      · by_cases y : k' < i
        · rw [if_pos (Nat.lt_succ_of_lt y)]
          rw [if_pos y] at q
          exact q
        · rw [if_neg (by omega)]
          rw [if_neg y] at q
          exact q
  · rintro σ H2 ⟨⟨v, rfl⟩, hd, hr, k⟩
    refine done v H2 hd ⟨fun e he => ?_, by rw [map_pair]; exact hR.nd⟩ k
    obtain ⟨y, hy, rfl⟩ := List.mem_map.mp he
    obtain ⟨i, hi⟩ := List.getElem?_of_mem hy
    have q := hr i y hi
    have hlt : i < (kvsOf es).length := by
      unfold kvsOf
      rw [List.length_map]
      exact (List.getElem?_eq_some_iff.mp hi).1
    rw [if_pos hlt] at q
    exact q
theorem Tab.all {C : Addr} {H H' : Hp} {d : Addr} {es : List (Addr × Rt)} {rs : List Rt} (h : Tab C H d es rs) {f : Rt → Rt} (hk : ∀ r, kb (f r) = kb r) (ho : ∀ r, RtOk r → RtOk (f r)) (hR : RtsAt C H' (es.map fun e => (e.1, f e.2))) (hd : H' d = some (.dT (kvsOf es))) :
    Tab C H' d (es.map fun e => (e.1, f e.2)) (rs.map f) := ⟨by rw [kvs_pair hk]; exact hd, hR, by rw [rts_pair]; exact h.ps.map hk, h.ok.map hk ho⟩
theorem rts_upd {C : Addr} {H : Hp} {d : Addr} {u : HO} {es : List (Addr × Rt)} (h : RtsAt C H es) (hd : ∀ e ∈ es, e.1 ≠ d) : RtsAt C (upd H d u) es := ⟨fun e he => (by
  obtain ⟨dx, q⟩ := h.at_ e he
  exact ⟨dx, by rw [upd_ne (hd e he)]; exact q⟩), h.nd⟩
theorem lock_ne {C : Addr} {H : Hp} {d : Addr} {o : Obj} {u : HO} {es : List (Addr × Rt)} (h : RtsAt C H es) (hd : H d = some (.frz o u)) : ∀ e ∈ es, e.1 ≠ d := fun e he z => by
  obtain ⟨dx, q⟩ := h.at_ e he
  rw [z, hd] at q
  cases q
section
variable {P : Program} {w : World} {K : PySem.W.Frag} {mg : Str → Option Value} {base : Heap} {a : Ad}
def sp_forget (K : PySem.W.Frag) (a : Ad) : Sp := fun vs H Q _ => ∃ (t d : Addr) (now : Nat) (es : List (Addr × Rt)) (rs : List Rt), vs = [.ref t, nV now] ∧ TblAt a.c_Table H t d ∧ Tab a.c_Route H d es rs ∧
  ∀ es' H', Tab a.c_Route H' d es' (Ra54.aged now rs) → Fr H H' (d :: ads es) (d :: ads es') → Q .non H'
theorem len_forget {vs : List V} {H : Hp} {Q : VK} {E : XK} (h : sp_forget K a vs H Q E) : vs.length = 2 := by
  obtain ⟨_, _, _, _, _, rfl, _⟩ := h
  rfl
/-- what is left behind i networks -/
def leftE (now : Nat) (rs : List Rt) (i : Nat) (es : List (Addr × Rt)) : List (Addr × Rt) := es.filter fun e => !(isGone now e.2 && (rs.take i).any fun r => decide (kb r = kb e.2))
theorem kvs_filter (es : List (Addr × Rt)) (p : Rt → Bool) (q : List Key × V → Bool) (h : ∀ e ∈ es, q (keyOf e.2, V.ref e.1) = p e.2) : (kvsOf es).filter q = kvsOf (es.filter fun e => p e.2) := by
  unfold kvsOf
  rw [List.filter_map]
  congr 1
  exact List.filter_congr fun e he => h e he
theorem left_step {C : Addr} {H : Hp} {d : Addr} {es : List (Addr × Rt)} {rs : List Rt} (h : Tab C H d es rs) (now : Nat) {i : Nat} {r : Rt} (hr : rs[i]? = some r) :
    (isGone now r = true → dropK (kvsOf (leftE now rs i es)) (keyOf r) = kvsOf (leftE now rs (i + 1) es)) ∧ (isGone now r = false → leftE now rs (i + 1) es = leftE now rs i es) := by
  have hmr : r ∈ rts es := h.ps.mem.mpr (List.mem_of_getElem? hr)
  have one : ∀ e ∈ es, kb r = kb e.2 → e.2 = r := fun e he z => uniq_of h.nd (List.mem_map.mpr ⟨e, he, rfl⟩) hmr z.symm
  constructor
  · intro g
    unfold dropK
    rw [kvs_filter _ (fun x => decide (kb x ≠ kb r)) _ (fun e _ => ?_)]
    · congr 1
      unfold leftE
      rw [List.filter_filter]
      refine List.filter_congr fun e he => ?_
      rw [take_more hr, List.any_append]
      by_cases z : kb r = kb e.2
      · have ee := one e he z
        simp [ee, g]
      · have z' : ¬ kb e.2 = kb r := fun y => z y.symm
        simp [z, z']
    · show decide (keyOf e.2 ≠ keyOf r) = decide (kb e.2 ≠ kb r)
      by_cases z : kb e.2 = kb r
      · rw [decide_eq_false (fun y => y (key_inj.mpr z)), decide_eq_false (fun y => y z)]
      · rw [decide_eq_true z]
        exact decide_eq_true (fun y => z (key_inj.mp y))
  · intro g
    unfold leftE
    refine List.filter_congr fun e he => ?_
    rw [take_more hr, List.any_append]
    by_cases z : kb r = kb e.2
    · have ee := one e he z
      simp [ee, g]
    · simp [z]
theorem left_mem {C : Addr} {H : Hp} {d : Addr} {es : List (Addr × Rt)} {rs : List Rt} (h : Tab C H d es rs) (now : Nat) {i : Nat} {r : Rt} (hr : rs[i]? = some r) : ∃ q, (q, r) ∈ leftE now rs i es ∧ (q, r) ∈ es := by
  obtain ⟨e, he, e2⟩ := List.mem_map.mp (h.ps.mem.mpr (List.mem_of_getElem? hr))
  have e3 : (e.1, r) = e := by rw [← e2]
  refine ⟨e.1, ?_, by rw [e3]; exact he⟩
  rw [e3]
  refine List.mem_filter.mpr ⟨he, ?_⟩
  have : ((rs.take i).any fun x => decide (kb x = kb e.2)) = false := by
    rw [e2]
    refine List.any_eq_false.mpr fun x hx => ?_
    have := ne_take h.ps.srt.nodup hr x hx
    simpa using this
  rw [this, Bool.and_false]
  rfl
theorem left_all {C : Addr} {H : Hp} {d : Addr} {es : List (Addr × Rt)} {rs : List Rt} (h : Tab C H d es rs) (now : Nat) : leftE now rs rs.length es = es.filter fun e => !isGone now e.2 := by
  unfold leftE
  refine List.filter_congr fun e he => ?_
  have : ((rs.take rs.length).any fun x => decide (kb x = kb e.2)) = true := by
    rw [List.take_length]
    exact List.any_eq_true.mpr ⟨e.2, h.ps.mem.mp (List.mem_map.mpr ⟨e, he, rfl⟩), decide_eq_true rfl⟩
  rw [this, Bool.and_true]
theorem nets_get {H : Hp} : ∀ {ts : List Addr} {rs : List Rt} {i : Nat} {x : V}, NetsAt H ts rs → (ts.map V.ref)[i]? = some x → ∃ b r, x = .ref b ∧ rs[i]? = some r ∧ NetAt H b r
  | _, _, i, x, .nil, h => by simp at h
  | b :: _, r :: _, 0, x, .cons h1 _, h => by
    have e : V.ref b = x := Option.some.inj h
    exact ⟨b, r, e.symm, rfl, h1⟩
  | _ :: _, r :: _, i + 1, x, .cons _ tl, h => nets_get (i := i) tl (by simpa using h)
theorem ok_forget (T : Txt K mg a) : FnOk P w K mg base CX0 2 a.f_forget a.d_forget ["table", "now"] (sp_forget K a) := by
  have G_Table_in_order := ok_Table_in_order (P := P) (w := w) (base := base) T
  have G_Route_is_in_reach := ok_Route_is_in_reach (P := P) (w := w) (base := base) T
  have G_lose := ok_lose (P := P) (w := w) (base := base) T
  refine T.F_forget.ok sc_forget (fun vs H Q E h => len_forget h) (fun cdv A outer s H vs Q E hr h => ?_)
  have r1 : Room 1 _ := hr.mono (by decide)
  refine ⟨_, (pss_cons (ps_for PassesOwn.never rfl (pi_list (pe_meth0 (pv 0) T.cl_Table T.M_Table_in_order G_Table_in_order r1 (b_Table_in_order T) .nil pass0)) (pg_name (i := 2) sc_forget.nd rfl (by first | exact Or.inl rfl | exact Or.inr rfl))
        (pss_cons (ps_set (i := 3) sc_forget.nd rfl (by first | exact Or.inl rfl | exact Or.inr rfl) (pe_dget (hu_of hr) (pe_fld (pv 0) rfl) (pv 2) (fun _ _ => rfl)))
        (pss_one (ps_if (PW.pt (pw_and (pt_not (pt_val (pe_meth0 (pv 3) T.cl_Route T.M_Route_is_in_reach G_Route_is_in_reach r1 (b_Route_is_in_reach T) .nil pass0))) (pw_and1 (pt_cmpR op_ge (pv 1) (pe_fld (pv 3) rfl) (nomark _)))))
          (pss_one (ps_expr (pe_popT (hu_of hr) (pe_fld (pv 0) rfl) (pv 2) ⟨rfl, rfl, rfl, rfl⟩)))
          pss_nil))))
      (pss_one (ps_lock (ps_for PassesOwn.never rfl (pi_valuesT (pe_fld (pv 0) rfl)) (pg_name (i := 3) sc_forget.nd rfl (by first | exact Or.inl rfl | exact Or.inr rfl))
        (pss_one (ps_if (PW.pt (pw_and (pt_cmpR op_ne (pe_fld (pv 3) rfl) pe_int (nomark _)) (pw_and (pt_val (pe_meth0 (pv 3) T.cl_Route T.M_Route_is_in_reach G_Route_is_in_reach r1 (b_Route_is_in_reach T) .nil pass0)) (pw_and1 (pt_cmpR op_ge (pv 1) (pe_fld (pv 3) rfl) (nomark _))))))
          (pss_one (ps_expr (pe_call G_lose r1 rfl T.g_lose T.F_lose.kp (b_lose T) .nil pass0 (pa_cons (pv 3) (pa_cons (pv 1) pa_nil)))))
          pss_nil)))))), ?_⟩
  obtain ⟨t, d, now, es, rs, rfl, ⟨dxt, ht⟩, hT, fin⟩ := h
  refine ⟨_, rfl, t, dxt, _, rfl, ht, (lk_past (by decide +kernel)).trans rfl, t, d, es, rs, rfl, ⟨dxt, ht⟩, hT.dict, hT.ps, fun l ts H1 s1 hl hl1 hN => ?_⟩
  have ntd : t ≠ d := fun z => by rw [z, hT.dict] at ht; cases ht
  have nld : l ≠ d := fun z => by rw [z, hT.dict] at hl; cases hl
  refine ⟨l, rfl, ⟨_, SqL.of hl1⟩, for_list (K := K) (a := l) (xs := ts.map V.ref) (fun i σ H' => ∃ v2 v3, σ = [some (.ref t), some (nV now), v2, v3] ∧ H' d = some (.dT (kvsOf (leftE now rs i es))) ∧ SameX d H1 H') ?_ (fun i σ H' _ ⟨_, _, _, _, s2⟩ => SqL.of (s2 _ _ hl1 nld)) ?_ ?_⟩
  · refine ⟨none, none, rfl, ?_, fun b o q _ => q⟩
    have e : leftE now rs 0 es = es := List.filter_eq_self.mpr fun e _ => by simp
    rw [e]
    exact s1 _ _ hT.dict
  · rintro i x σ H2 hx ⟨v2, v3, rfl, hd, s2⟩
    obtain ⟨b, r, rfl, hr, hb⟩ := nets_get hN hx
    obtain ⟨q, hq, hqe⟩ := left_mem hT now hr
    obtain ⟨dxq, ho⟩ := hT.rt.at_ _ hqe
    have nq : q ≠ d := hT.ne hqe
    have nb : b ≠ d := fun z => by rw [NetAt, z, s1 _ _ hT.dict] at hb; cases hb
    have ht2 := s2 _ _ (s1 _ _ ht) ntd
    have hb2 : NetAt H2 b r := s2 _ _ hb nb
    have ho2 : H2 q = some (.ins a.c_Route dxq (rF r)) := s2 _ _ (s1 _ _ ho) nq
    have hv : valV (kvsOf (leftE now rs i es)) (keyOf r) = some (.ref q) := by
      have hn2 : ((rts (leftE now rs i es)).map kb).Nodup := by
        have : ((rts (leftE now rs i es)).map kb).Sublist ((rts es).map kb) := ((List.filter_sublist (l := es)).map _).map _
        exact hT.nd.sublist this
      obtain ⟨p, h2, h3⟩ := (kvs_val r (es := leftE now rs i es)).2 r (routeOf_mem hn2 (List.mem_map.mpr ⟨_, hq, rfl⟩))
      rw [h3]
      have e1 : p = q := (mod_iff hT hqe (List.mem_filter.mp h2).1).mpr rfl
      rw [e1]
    have hg : DGet H2 d (.ref b) (some (.ref q)) := by
      rw [← hv]
      exact DGet.t (k := keyOf r) hd hb2
    refine ⟨_, rfl, t, _, dxt, _, _, rfl, ht2, T.cl_Table, T.n_Table_routes, lk_here, _, rfl, d, .ref q, rfl, hg, ?_⟩
    refine ⟨_, rfl, q, dxq, _, rfl, ho2, rF_meth1 _, q, r, rfl, ⟨dxq, ho2⟩, _, rfl, ?_⟩
    have hst := left_step hT now hr
    have hrd : r.dist ≤ 16 := (hT.ok.all r (List.mem_of_getElem? hr)).dist
    have stay : isGone now r = false → ∃ v2 v3, [some (V.ref t), some (nV now), some (V.ref b), some (V.ref q)] = [some (.ref t), some (nV now), v2, v3] ∧ H2 d = some (.dT (kvsOf (leftE now rs (i + 1) es))) ∧ SameX d H1 H2 := fun g => ⟨_, _, rfl, by rw [hst.2 g]; exact hd, s2⟩
    by_cases c1 : r.dist < 16
    · rw [decide_eq_true c1]
      refine stay ?_
      unfold isGone
      rw [beq_eq_false_iff_ne.mpr (show r.dist ≠ Ra54.FAR from Nat.ne_of_lt c1), Bool.false_and]
    rw [decide_eq_false c1]
    have er : (r.dist == Ra54.FAR) = true := beq_iff_eq.mpr (show r.dist = 16 by omega)
    refine ⟨_, rfl, _, rfl, q, _, dxq, _, _, rfl, ho2, T.cl_Route, T.n_Route_forgotten, rF_forgotten r, _, _, rfl, rfl, _, rfl, ?_⟩
    by_cases c2 : r.gone ≤ now
    · refine if_true_of (decide_eq_true (by omega)) ?_
      have g : isGone now r = true := by
        unfold isGone
        rw [er, decide_eq_true c2]
        rfl
      refine ⟨_, rfl, t, _, dxt, _, _, rfl, ht2, T.cl_Table, T.n_Table_routes, lk_here, d, rfl, .inr ⟨_, .inl hd⟩, _, rfl, _, keyOf r, b, .ref q, hd, rfl, hb2, hv, ?_⟩
      refine ⟨_, _, rfl, ?_, fun b' o q' n => ?_⟩
      · rw [upd_same, hst.1 g]
      · rw [upd_ne n]
        exact s2 _ _ q' n
    · refine if_false_of (decide_eq_false (by omega)) ?_
      refine stay ?_
      unfold isGone
      rw [decide_eq_false c2, Bool.and_false]
  · rintro σ H2 ⟨v2, v3, rfl, hd, s2⟩
    have el : (ts.map V.ref).length = rs.length := by rw [List.length_map, paired_len hN]
    rw [el, left_all hT now] at hd
    have hR2 : RtsAt a.c_Route H2 (es.filter fun e => !isGone now e.2) := by
      refine ⟨fun e he => ?_, hT.rt.nd.sublist ((List.filter_sublist (l := es)).map _)⟩
      have he' := (List.mem_filter.mp he).1
      obtain ⟨dx, q⟩ := hT.rt.at_ e he'
      exact ⟨dx, s2 _ _ (s1 _ _ q) (hT.ne he')⟩
    have hT2 : Tab a.c_Route H2 d (es.filter fun e => !isGone now e.2) (rs.filter fun r => !isGone now r) := by
      refine ⟨hd, hR2, ?_, hT.ok.filter _⟩
      have e : rts (es.filter fun e => !isGone now e.2) = (rts es).filter fun r => !isGone now r := by
        unfold rts
        rw [List.filter_map]
        rfl
      rw [e]
      exact hT.ps.filter _
    generalize hes : (es.filter fun e => !isGone now e.2) = es2 at hd hR2 hT2
    have sub : ∀ b ∈ d :: ads es2, b ∈ d :: ads es := fun b hb => by
      rcases List.mem_cons.mp hb with z | hb
      · rw [z]; exact List.mem_cons_self ..
      · obtain ⟨y, hy, rfl⟩ := List.mem_map.mp hb
        rw [← hes] at hy
        exact List.mem_cons_of_mem _ (List.mem_map.mpr ⟨y, (List.mem_filter.mp hy).1, rfl⟩)
    have ht2 := s2 _ _ (s1 _ _ ht) ntd
    refine ⟨d, .dT (kvsOf es2), hd, True.intro, fun od => ?_⟩
    refine ⟨_, rfl, t, _, dxt, _, _, rfl, (by rw [upd_ne ntd]; exact ht2), T.cl_Table, T.n_Table_routes, lk_here, d, od, _, rfl, upd_same, ?_⟩
    refine for_all (C := a.c_Route) (es := es2) (f := ageOne now) (H := H2) [some (.ref t), some (nV now), v2, v3] 3 v3 upd_same (rts_upd hR2 (fun e he => hT2.ne he)) (fun b o q n => by rw [upd_ne fun z => n (by rw [z]; exact List.mem_cons_self ..)]; exact q) ?_ ?_
    · intro e dx H3 D' he ho kp yes no
      have unch : ¬ (0 < e.2.via ∧ e.2.dist < 16 ∧ e.2.good ≤ now) → ageOne now e.2 = e.2 := fun z => if_neg z
      have ch : 0 < e.2.via ∧ e.2.dist < 16 ∧ e.2.good ≤ now → ageOne now e.2 = Ra54.lost now e.2 := fun z => if_pos z
      refine ⟨_, rfl, e.1, _, dx, _, _, rfl, ho, T.cl_Route, T.n_Route_neighbour, rF_neighbour e.2, rfl, _, rfl, ?_⟩
      by_cases c1 : e.2.via = 0
      · have c1' : nV e.2.via = V.int 0 := congrArg nV c1
        rw [decide_eq_true c1']
        exact no (unch fun z => by omega)
      have c1' : ¬ nV e.2.via = V.int 0 := fun z => c1 (nV_inj.mp z)
      rw [decide_eq_false c1']
      refine ⟨_, rfl, e.1, dx, _, rfl, ho, rF_meth1 _, e.1, e.2, rfl, ⟨dx, ho⟩, _, rfl, ?_⟩
      by_cases c2 : e.2.dist < 16
      · refine if_true_of (decide_eq_true c2) ?_
        refine ⟨_, rfl, _, rfl, e.1, _, dx, _, _, rfl, ho, T.cl_Route, T.n_Route_good, rF_good e.2, _, _, rfl, rfl, _, rfl, ?_⟩
        by_cases c3 : e.2.good ≤ now
        · refine if_true_of (decide_eq_true (by omega)) ?_
          refine ⟨_, rfl, _, rfl, e.1, dx, e.2, now, rfl, ho, ?_⟩
          rw [ch ⟨by omega, c2, c3⟩] at yes
          exact yes
        · refine if_false_of (decide_eq_false (by omega)) ?_
          exact no (unch fun z => c3 z.2.2)
      · refine if_false_of (decide_eq_false c2) ?_
        exact no (unch fun z => c2 z.2.1)
    · intro v H3 hd3 hR3 kp
      refine ⟨hd3, ?_⟩
      have ne3 := lock_ne hR3 hd3
      refine fin (es2.map fun e => (e.1, ageOne now e.2)) _ (hT2.all (ageOne_kb now) (fun r hr => ageOne_ok hr) (rts_upd hR3 ne3) upd_same) ⟨fun b o q n => ?_, fun b hb => .inl (sub b ?_)⟩
      · have nd : b ≠ d := fun z => n (by rw [z]; exact List.mem_cons_self ..)
        rw [upd_ne nd]
        exact kp b o (s2 _ _ (s1 _ _ q) nd) fun z => n (sub b z)
      · rw [show ads (es2.map fun e => (e.1, ageOne now e.2)) = ads es2 from map_pair] at hb
        exact hb
end
end Nr
namespace Nr
open PySem PySem.Spec PyProof.Rows L2
/-! ### the machine in the heap -/
def linkF (ln : Ra54.Link) : List (Str × V) := [("address", nV ln.address), ("bits", nV ln.bits)]
def LinkAt (C : Addr) (H : Hp) (p : Addr) (ln : Ra54.Link) : Prop := ∃ dx, H p = some (.ins C dx (linkF ln))
theorem LinkAt.same {C : Addr} {H H' : Hp} {p : Addr} {ln : Ra54.Link} (h : LinkAt C H p ln) (s : Same H H') : LinkAt C H' p ln := let ⟨dx, q⟩ := h; ⟨dx, s _ _ q⟩
theorem linkF_address (ln : Ra54.Link) : (linkF ln).lookup ("address" : Str) = some (nV ln.address) := lk_here
theorem linkF_bits (ln : Ra54.Link) : (linkF ln).lookup ("bits" : Str) = some (nV ln.bits) := (lk_past (by decide +kernel)).trans lk_here
theorem linkF_meth (ln : Ra54.Link) : (linkF ln).lookup ("network" : Str) = none := (lk_past (by decide +kernel)).trans ((lk_past (by decide +kernel)).trans rfl)
/-- where a machine's parts stand -/
structure Gh where
  l : Addr
  t : Addr
  d : Addr
  ks : List (Option Addr)
  es : List (Addr × Rt)
def linkV : Option Addr → V
  | none => .non
  | some p => .ref p
def LinkO (C : Addr) (H : Hp) : Option Addr → Option Ra54.Link → Prop
  | none, none => True
  | some p, some ln => LinkAt C H p ln
  | _, _ => False
theorem LinkO.same {C : Addr} {H H' : Hp} (s : Same H H') : ∀ {k : Option Addr} {o : Option Ra54.Link}, LinkO C H k o → LinkO C H' k o
  | none, none, _ => trivial
  | some _, some _, h => LinkAt.same h s
def machF (g : Gh) (s : Ra54.St) : List (Str × V) := [("links", .ref g.l), ("table", .ref g.t), ("now", nV s.now), ("all_at", nV s.full), ("changes_at", nV s.soon)]
theorem machF_links (g : Gh) (s : Ra54.St) : (machF g s).lookup ("links" : Str) = some (.ref g.l) := lk_here
theorem machF_table (g : Gh) (s : Ra54.St) : (machF g s).lookup ("table" : Str) = some (.ref g.t) := (lk_past (by decide +kernel)).trans lk_here
theorem machF_now (g : Gh) (s : Ra54.St) : (machF g s).lookup ("now" : Str) = some (nV s.now) := (lk_past (by decide +kernel)).trans ((lk_past (by decide +kernel)).trans lk_here)
theorem machF_all_at (g : Gh) (s : Ra54.St) : (machF g s).lookup ("all_at" : Str) = some (nV s.full) := (lk_past (by decide +kernel)).trans ((lk_past (by decide +kernel)).trans ((lk_past (by decide +kernel)).trans lk_here))
theorem machF_changes_at (g : Gh) (s : Ra54.St) : (machF g s).lookup ("changes_at" : Str) = some (nV s.soon) := (lk_past (by decide +kernel)).trans ((lk_past (by decide +kernel)).trans ((lk_past (by decide +kernel)).trans ((lk_past (by decide +kernel)).trans lk_here)))
structure MachAt (a : Ad) (H : Hp) (m : Addr) (g : Gh) (s : Ra54.St) : Prop where
  ob : ∃ dx, H m = some (.ins a.c_Machine dx (machF g s))
  links : H g.l = some (.lst (g.ks.map linkV))
  lk : Paired (LinkO a.c_Link H) g.ks s.links
  four : s.links.length = 4
  lok : ∀ ln, some ln ∈ s.links → ln.address < 2 ^ 32 ∧ ln.bits ≤ 31
  tbl : TblAt a.c_Table H g.t g.d
  tab : Tab a.c_Route H g.d g.es s.routes
abbrev foot (m : Addr) (g : Gh) : List Addr := m :: g.l :: g.d :: ads g.es
theorem MachAt.same {a : Ad} {H H' : Hp} {m : Addr} {g : Gh} {s : Ra54.St} (h : MachAt a H m g s) (e : Same H H') : MachAt a H' m g s :=
  ⟨let ⟨dx, q⟩ := h.ob; ⟨dx, e _ _ q⟩, e _ _ h.links, paired_mono (fun _ _ q => LinkO.same e q) h.lk, h.four, h.lok, h.tbl.same e, h.tab.same e⟩
theorem paired_get {α β : Type} {F : α → β → Prop} : ∀ {l : List α} {m : List β} {i : Nat} {y : β}, Paired F l m → m[i]? = some y → ∃ x, l[i]? = some x ∧ F x y
  | _, _, i, y, .nil, h => by simp at h
  | x :: _, _ :: _, 0, y, .cons a _, h => by
    have e := Option.some.inj h
    subst e
    exact ⟨x, rfl, a⟩
  | _ :: _, _ :: _, i + 1, y, .cons _ t, h => paired_get (i := i) t (by simpa using h)
theorem paired_set {α β : Type} {F : α → β → Prop} {x : α} {y : β} (h : F x y) : ∀ {l : List α} {m : List β} (i : Nat), Paired F l m → Paired F (l.set i x) (m.set i y)
  | _, _, _, .nil => .nil
  | _, _, 0, .cons _ t => .cons h t
  | _, _, i + 1, .cons a t => .cons a (paired_set h i t)
section
variable {P : Program} {w : World} {K : PySem.W.Frag} {mg : Str → Option Value} {base : Heap} {a : Ad}
/-! ### Link -/
def sp_Link_init (K : PySem.W.Frag) (a : Ad) : Sp := fun vs H Q _ => ∃ (p dx : Addr) (x b : V), vs = [.ref p, x, b] ∧ H p = some (.ins a.c_Link dx []) ∧ Q .non (upd H p (.ins a.c_Link dx [("address", x), ("bits", b)]))
theorem len_Link_init {vs : List V} {H : Hp} {Q : VK} {E : XK} (h : sp_Link_init K a vs H Q E) : vs.length = 3 := by
  obtain ⟨_, _, _, _, rfl, _⟩ := h
  rfl
theorem ok_Link_init (T : Txt K mg a) : FnOk P w K mg base CX0 1 a.f_Link_init a.d_Link_init ["self", "address", "bits"] (sp_Link_init K a) := by
  refine T.F_Link_init.ok sc_Link_init (fun vs H Q E h => len_Link_init h) (fun cdv A outer s H vs Q E hr h => ?_)
  refine ⟨_, (pss_cons (ps_fld (pv 0) (pv 1) rfl)
      (pss_one (ps_fld (pv 0) (pv 2) rfl))), ?_⟩
  obtain ⟨p, dx, x, b, rfl, hp, q⟩ := h
  refine ⟨_, rfl, _, rfl, p, _, dx, _, rfl, hp, T.cl_Link, T.n_Link_address, by decide, ?_⟩
  refine ⟨_, rfl, _, rfl, p, _, dx, _, rfl, upd_same, T.cl_Link, T.n_Link_bits, few 1 (few_put few0), ?_⟩
  rw [upd_upd]
  exact q
def sp_Link_network (K : PySem.W.Frag) (a : Ad) : Sp := fun vs H Q _ => ∃ (p : Addr) (ln : Ra54.Link), vs = [.ref p] ∧ LinkAt a.c_Link H p ln ∧ ln.address < 2 ^ 32 ∧ ln.bits ≤ 31 ∧ ∀ t, H t = none → Q (.ref t) (upd H t (.tup [nV (Ra54.netOf ln.bits ln.address), nV ln.bits]))
theorem len_Link_network {vs : List V} {H : Hp} {Q : VK} {E : XK} (h : sp_Link_network K a vs H Q E) : vs.length = 1 := by
  obtain ⟨_, _, rfl, _⟩ := h
  rfl
theorem ok_Link_network (T : Txt K mg a) : FnOk P w K mg base CX0 2 a.f_Link_network a.d_Link_network ["self"] (sp_Link_network K a) := by
  have G_network_of := ok_network_of (P := P) (w := w) (base := base) T
  refine T.F_Link_network.ok sc_Link_network (fun vs H Q E h => len_Link_network h) (fun cdv A outer s H vs Q E hr h => ?_)
  have r1 : Room 1 _ := hr.mono (by decide)
  refine ⟨_, (pss_one (ps_ret (pe_tup (pa_cons (pe_call G_network_of r1 rfl T.g_network_of T.F_network_of.kp (b_network_of T) .nil pass0 (pa_cons (pe_fld (pv 0) rfl) (pa_cons (pe_fld (pv 0) rfl) pa_nil))) (pa_cons (pe_fld (pv 0) rfl) pa_nil))))), ?_⟩
  obtain ⟨p, ln, rfl, ⟨dx, hp⟩, h1, h2, q⟩ := h
  refine ⟨_, rfl, p, _, dx, _, _, rfl, hp, T.cl_Link, T.n_Link_address, linkF_address ln, ?_⟩
  refine ⟨_, rfl, p, _, dx, _, _, rfl, hp, T.cl_Link, T.n_Link_bits, linkF_bits ln, ln.address, ln.bits, rfl, by omega, by omega, ?_⟩
  exact ⟨_, rfl, p, _, dx, _, _, rfl, hp, T.cl_Link, T.n_Link_bits, linkF_bits ln, (by show 2 ≤ sizeLine; exact sz (by omega)), q⟩
/-! ### Machine -/
def sp_Machine_init (K : PySem.W.Frag) (a : Ad) : Sp := fun vs H Q _ => ∃ (p dx : Addr) (now : Nat), vs = [.ref p, nV now] ∧ H p = some (.ins a.c_Machine dx []) ∧
  ∀ g H', MachAt a H' p g (Ra54.begun now) → (∀ b o, H b = some o → b ≠ p → H' b = some o) → (∀ b ∈ foot p g, b = p ∨ H b = none) → Q .non H'
theorem len_Machine_init {vs : List V} {H : Hp} {Q : VK} {E : XK} (h : sp_Machine_init K a vs H Q E) : vs.length = 2 := by
  obtain ⟨_, _, _, rfl, _⟩ := h
  rfl
theorem ok_Machine_init (T : Txt K mg a) : FnOk P w K mg base CX0 3 a.f_Machine_init a.d_Machine_init ["self", "now"] (sp_Machine_init K a) := by
  have G_Table_init := ok_Table_init (P := P) (w := w) (base := base) T
  refine T.F_Machine_init.ok sc_Machine_init (fun vs H Q E h => len_Machine_init h) (fun cdv A outer s H vs Q E hr h => ?_)
  have r2 : Room 2 _ := hr.mono (by decide)
  refine ⟨_, (pss_cons (ps_fld (pv 0) (pe_lc (own := [("k", 2)]) (tt := tYes) rfl sc_Machine_init.nd (pi_range1 (by rfl) T.z_range (pa_cons (pe_glob rfl T.k_LINKS rel_int) pa_nil)) (blkOk_by (own := [("k", 2)]) (N := ["self", "now", "k"]) (sc := defScope s_Machine_init) (by decide +kernel)) (fun _ _ _ _ _ => (pg_name (i := 2) sc_Machine_init.nd rfl (by first | exact Or.inl rfl | exact Or.inr rfl))) (fun _ _ _ _ _ => pts_nil) (fun _ _ _ _ _ => pe_non)) rfl)
      (pss_cons (ps_fld (pv 0) (pe_make0 T.m_Table G_Table_init r2 rfl T.g_Table (b_Table_init T) .nil pass0) rfl)
      (pss_cons (ps_fld (pv 0) (pv 1) rfl)
      (pss_cons (ps_fld (pv 0) (pe_op op_add (pv 1) (pe_glob rfl T.k_ALL_EACH rel_int)) rfl)
      (pss_one (ps_fld (pv 0) (pv 1) rfl)))))), ?_⟩
  obtain ⟨p, dx, now, rfl, hp, fin⟩ := h
  refine ⟨_, rfl, by omega, by omega, fun D hD => ?_⟩
  refine lc_range (lo := 0) (n := 4) (fun i H' => H' = upd H D (.lst (List.replicate i .non))) rfl ?_ ?_
  · rintro i H1 hi rfl
    refine ⟨rfl, _, upd_same, ?_, ?_⟩
    · rw [List.length_replicate]
      exact Nat.lt_of_lt_of_le (by omega) (sz (Nat.le_refl _))
    · rw [upd_upd, List.replicate_succ']
  · rintro H1 rfl
    have n1 : p ≠ D := ne_of_none hp hD
    refine ⟨_, rfl, p, _, dx, [], rfl, (by rw [upd_ne n1]; exact hp), T.cl_Machine, T.n_Machine_links, by decide, ?_⟩
    intro t dxt ht hdxt hne
    have n2 : p ≠ t := fun z => by rw [← z, upd_same] at ht; cases ht
    have n3 : p ≠ dxt := fun z => by rw [← z, upd_same] at hdxt; cases hdxt
    refine ⟨t, dxt, rfl, upd_same, fun d hd => ⟨rfl, ?_⟩⟩
    have n4 : p ≠ d := fun z => by rw [← z, upd_ne n2, upd_ne n3, upd_same] at hd; cases hd
    have n5 : D ≠ t := fun z => by rw [← z, upd_ne (Ne.symm n1), upd_same] at ht; cases ht
    have n6 : D ≠ dxt := fun z => by rw [← z, upd_ne (Ne.symm n1), upd_same] at hdxt; cases hdxt
    have n7 : D ≠ d := fun z => by rw [← z, upd_ne n5, upd_ne n6, upd_ne (Ne.symm n1), upd_same] at hd; cases hd
    have n8 : d ≠ t := fun z => by rw [z, upd_same] at hd; cases hd
    have htH : H t = none := by
      rw [upd_ne (Ne.symm n2), upd_ne (Ne.symm n5)] at ht
      exact ht
    have hdxtH : H dxt = none := by
      rw [upd_ne (Ne.symm n3), upd_ne (Ne.symm n6)] at hdxt
      exact hdxt
    have n9 : d ≠ dxt := fun z => by rw [z, upd_ne hne, upd_same] at hd; cases hd
    have hdH : H d = none := by
      rw [upd_ne n8, upd_ne n9, upd_ne (Ne.symm n4), upd_ne (Ne.symm n7)] at hd
      exact hd
    generalize hHT : upd (upd (upd (upd (upd (upd H D (.lst (List.replicate 4 .non))) p (.ins a.c_Machine dx (putF "links" (.ref D) []))) dxt (.own t)) t (.ins a.c_Table dxt [])) d (.dT [])) t (.ins a.c_Table dxt [("routes", .ref d)]) = HT
    have f1 : HT p = some (.ins a.c_Machine dx [("links", .ref D)]) := by
      rw [← hHT, upd_ne n2, upd_ne n4, upd_ne n2, upd_ne n3, upd_same]
      rfl
    have f2 : HT D = some (.lst (List.replicate 4 .non)) := by rw [← hHT, upd_ne n5, upd_ne n7, upd_ne n5, upd_ne n6, upd_ne (Ne.symm n1), upd_same]
    have f3 : HT t = some (.ins a.c_Table dxt [("routes", .ref d)]) := by rw [← hHT, upd_same]
    have f4 : HT d = some (.dT []) := by rw [← hHT, upd_ne n8, upd_same]
    have kp : ∀ b o, H b = some o → b ≠ p → HT b = some o := fun b o q n => by
      rw [← hHT, upd_ne (ne_of_none q htH), upd_ne (ne_of_none q hdH), upd_ne (ne_of_none q htH), upd_ne (ne_of_none q hdxtH), upd_ne n, upd_ne (ne_of_none q hD)]
      exact q
    refine ⟨_, rfl, p, _, dx, _, rfl, f1, T.cl_Machine, T.n_Machine_table, few 1 (Nat.le_refl _), ?_⟩
    refine ⟨_, rfl, _, rfl, p, _, dx, _, rfl, upd_same, T.cl_Machine, T.n_Machine_now, few 2 (few_put (Nat.le_refl _)), ?_⟩
    refine ⟨_, rfl, _, _, rfl, rfl, _, rfl, p, _, dx, _, rfl, upd_same, T.cl_Machine, T.n_Machine_all_at, few 3 (few_put (few_put (Nat.le_refl _))), ?_⟩
    refine ⟨_, rfl, _, rfl, p, _, dx, _, rfl, upd_same, T.cl_Machine, T.n_Machine_changes_at, few 4 (few_put (few_put (few_put (Nat.le_refl _)))), ?_⟩
    rw [upd_upd, upd_upd, upd_upd]
    have ef : putF "changes_at" (nV now) (putF "all_at" (V.int ((now : Int) + 30000)) (putF "now" (nV now) (putF "table" (.ref t) [("links", .ref D)]))) = machF ⟨D, t, d, [none, none, none, none], []⟩ (Ra54.begun now) := rfl
    rw [ef]
    refine fin ⟨D, t, d, [none, none, none, none], []⟩ _ ⟨⟨dx, upd_same⟩, ?_, ?_, rfl, ?_, ⟨dxt, ?_⟩, ⟨?_, ⟨fun e he => (by cases he), List.nodup_nil⟩, ⟨List.Perm.refl _, List.Pairwise.nil⟩, ⟨List.Pairwise.nil, fun r hr => (by cases hr), Nat.zero_le _⟩⟩⟩ (fun b o q n => ?_) (fun b hb => ?_)
    · rw [upd_ne (Ne.symm n1)]; exact f2
    · exact .cons trivial (.cons trivial (.cons trivial (.cons trivial .nil)))
    · intro ln h
      have h' : some ln ∈ List.replicate 4 (none : Option Ra54.Link) := h
      have := List.eq_of_mem_replicate h'
      cases this
    · rw [upd_ne (Ne.symm n2)]; exact f3
    · rw [upd_ne (Ne.symm n4)]; exact f4
    · rw [upd_ne n]; exact kp b o q n
    · rcases List.mem_cons.mp hb with z | hb
      · exact .inl z
      rcases List.mem_cons.mp hb with z | hb
      · rw [z]; exact .inr hD
      rcases List.mem_cons.mp hb with z | hb
      · rw [z]; exact .inr hdH
      · cases hb
/-! ### has_network, can_come_up -/
def upHas (s : Ra54.St) (net bits : Nat) : Bool := s.links.any fun l => match l with
  | some l => l.bits == bits && Ra54.netOf bits l.address == net
  | none => false
def linkHas (net bits : Nat) : Option Ra54.Link → Bool
  | some l => l.bits == bits && Ra54.netOf bits l.address == net
  | none => false
theorem upHas_eq (s : Ra54.St) (net bits : Nat) : upHas s net bits = s.links.any (linkHas net bits) := by
  unfold upHas
  congr 1
def sp_has_network (K : PySem.W.Frag) (a : Ad) : Sp := fun vs H Q _ => ∃ (m nw : Addr) (g : Gh) (s : Ra54.St) (net bits : Nat), vs = [.ref m, .ref nw] ∧ MachAt a H m g s ∧ H nw = some (.tup [nV net, nV bits]) ∧ ∀ H', Same H H' → Q (.bl (upHas s net bits)) H'
theorem len_has_network {vs : List V} {H : Hp} {Q : VK} {E : XK} (h : sp_has_network K a vs H Q E) : vs.length = 2 := by
  obtain ⟨_, _, _, _, _, _, rfl, _⟩ := h
  rfl
def netD (n b : Nat) : PyData := .tuple [.int n, .int b]
theorem netD_at {K : PySem.W.Frag} {H : Hp} {t : Addr} {n b : Nat} (h : H t = some (.tup [nV n, nV b])) : Dp K H (.ref t) (netD n b) := .tup (SqT.of h) (.cons (.int _) (.cons (.int _) .nil))
theorem netD_eqv (n b n' b' : Nat) : PyData.eqv (netD n b) (netD n' b') = (n == n' && b == b') := by
  show ((n : Int) == (n' : Int) && ((b : Int) == (b' : Int) && true)) = _
  rw [beq_cast, beq_cast, Bool.and_true]
theorem link_has {ln : Ra54.Link} {net bits : Nat} : (Ra54.netOf ln.bits ln.address == net && ln.bits == bits) = linkHas net bits (some ln) := by
  show _ = (ln.bits == bits && Ra54.netOf bits ln.address == net)
  by_cases h : ln.bits = bits
  · rw [h, Bool.and_comm]
  · rw [beq_eq_false_iff_ne.mpr h, Bool.and_false, Bool.false_and]
theorem any_take {α : Type} {p : α → Bool} {l : List α} {i : Nat} {x : α} (h : l[i]? = some x) : (l.take (i + 1)).any p = ((l.take i).any p || p x) := by
  rw [take_more h, List.any_append]
  simp
theorem ok_has_network (T : Txt K mg a) : FnOk P w K mg base CX0 3 a.f_has_network a.d_has_network ["machine", "network"] (sp_has_network K a) := by
  have G_Link_network := ok_Link_network (P := P) (w := w) (base := base) T
  refine T.F_has_network.ok sc_has_network (fun vs H Q E h => len_has_network h) (fun cdv A outer s H vs Q E hr h => ?_)
  have r2 : Room 2 _ := hr.mono (by decide)
  refine ⟨_, (pss_one (ps_ret (pe_cmpR op_gt (pe_callB call_len_seq (by rfl) T.z_len PySem.boot_len (by exact (pa_cons (pe_lc (own := [("link", 2)]) (tt := tAnd (tTest (tOp rNotN1 (tVar 2) (tC .non))) (tTest (tOp (rEqD K) (tMeth a.c_Link "network" (sp_Link_network K a) [] E0 (tVar 2) tNil) (tVar 1)))) rfl sc_has_network.nd (pi_list (pe_fld (pv 0) rfl)) (blkOk_by (own := [("link", 2)]) (N := ["machine", "network", "link"]) (sc := defScope s_has_network) (by decide +kernel)) (fun _ _ _ _ _ => (pg_name (i := 2) sc_has_network.nd rfl (by first | exact Or.inl rfl | exact Or.inr rfl))) (fun _ _ _ _ _ => (pts_one (PW.pt (pw_and (pt_cmpR op_notN (pv 2) pe_non (nomark _)) (pw_and1 (pt_cmpR (op_eqD hr.units) (pe_meth0 (pv 2) T.cl_Link T.M_Link_network G_Link_network r2 (b_Link_network T) .nil pass0) (pv 1) (nomark _))))))) (fun _ _ _ _ _ => (pv 2))) pa_nil))) pe_int (nomark _)))), ?_⟩
  obtain ⟨m, nw, g, s', net, bits, rfl, hM, hnw, fin⟩ := h
  obtain ⟨dxm, hm⟩ := hM.ob
  refine ⟨_, rfl, m, _, dxm, _, _, rfl, hm, T.cl_Machine, T.n_Machine_links, machF_links g s', g.l, rfl, ⟨_, SqL.of hM.links⟩, fun D hD => ?_⟩
  refine lc_list (K := K) (a := g.l) (xs := g.ks.map linkV) (fun i H' => Same H H' ∧ ∃ vs, H' D = some (.lst vs) ∧ vs.length ≤ i ∧ (decide (0 < vs.length) = (s'.links.take i).any (linkHas net bits))) ⟨same_new0 hD, [], upd_same, Nat.zero_le _, rfl⟩ (fun i H' _ h => SqL.of (h.1 _ _ hM.links)) ?_ ?_
  · rintro i x H1 hx ⟨s1, vs, hv, hl, he⟩
    obtain ⟨k, hk, rfl⟩ := get_map hx
    have hi : i < g.ks.length := (List.getElem?_eq_some_iff.mp hk).1
    have h4 : g.ks.length = 4 := by rw [paired_len hM.lk, hM.four]
    obtain ⟨o, ho⟩ := get_lt (l := s'.links) (i := i) (by rw [hM.four]; omega)
    obtain ⟨k', hk', hko⟩ := paired_get hM.lk ho
    rw [hk] at hk'
    cases hk'
    refine ⟨rfl, ?_⟩
    refine ⟨_, rfl, rfl, _, rfl, ?_⟩
    match k, o, hko with
    | none, none, _ =>
      refine ⟨s1, vs, hv, Nat.le_succ_of_le hl, ?_⟩
      rw [any_take ho, he]
      exact (Bool.or_false _).symm
    | some p, some ln, hln =>
      have hln1 := LinkAt.same (show LinkAt a.c_Link H p ln from hln) s1
      obtain ⟨dxl, hob⟩ := hln1
      have hlok := hM.lok ln (List.mem_of_getElem? ho)
      refine ⟨_, rfl, p, dxl, _, rfl, hob, linkF_meth ln, p, ln, rfl, ⟨dxl, hob⟩, hlok.1, hlok.2, fun t ht => ?_⟩
      have s2 : Same H1 (upd H1 t (.tup [nV (Ra54.netOf ln.bits ln.address), nV ln.bits])) := same_new0 ht
      refine ⟨_, rfl, netD _ _, netD net bits, netD_at upd_same, netD_at (s2 _ _ (s1 _ _ hnw)), rfl, rfl, _, rfl, ?_⟩
      rw [netD_eqv, link_has]
      cases hc : linkHas net bits (some ln) with
      | true =>
        refine ⟨_, rfl, vs, s2 _ _ hv, Nat.lt_of_lt_of_le (by omega) (sz (Nat.le_refl _)), same_mut (s1.trans s2) hD, vs ++ [.ref p], upd_same, ?_, ?_⟩
        · rw [List.length_append]; exact Nat.succ_le_succ hl
        · rw [any_take ho, hc, Bool.or_true, List.length_append]
          exact decide_eq_true (Nat.succ_pos _)
      | false =>
        refine ⟨s1.trans s2, vs, s2 _ _ hv, Nat.le_succ_of_le hl, ?_⟩
        rw [any_take ho, hc, Bool.or_false]
        exact he
  · rintro H1 ⟨s1, vs, hv, hl, he⟩
    refine ⟨D, vs, rfl, .inl (SqL.of hv), _, _, rfl, rfl, ?_⟩
    have h4 : (g.ks.map linkV).length = s'.links.length := by rw [List.length_map, paired_len hM.lk]
    rw [h4, List.take_length, ← upHas_eq] at he
    have e : decide ((0 : Int) < ((vs.length : Nat) : Int)) = upHas s' net bits := by
      rw [← he]
      exact dec_cast (i := 0)
    show Q (.bl (decide ((0 : Int) < ((vs.length : Nat) : Int)))) H1
    rw [e]
    exact fin H1 s1
def sp_can_come_up (K : PySem.W.Frag) (a : Ad) : Sp := fun vs H Q _ => ∃ (m nw : Addr) (g : Gh) (s : Ra54.St) (net bits : Nat), vs = [.ref m, .ref nw] ∧ MachAt a H m g s ∧ H nw = some (.tup [nV net, nV bits]) ∧
  Q (.bl ((Ra54.routeOf s.routes net bits).isSome || decide (s.routes.length < 256))) H
theorem len_can_come_up {vs : List V} {H : Hp} {Q : VK} {E : XK} (h : sp_can_come_up K a vs H Q E) : vs.length = 2 := by
  obtain ⟨_, _, _, _, _, _, rfl, _⟩ := h
  rfl
theorem val_isSome (es : List (Addr × Rt)) (k : Rt) : (valV (kvsOf es) (keyOf k)).isSome = (Ra54.routeOf (rts es) k.net k.bits).isSome := by
  have h := kvs_val k (es := es)
  cases e : Ra54.routeOf (rts es) k.net k.bits with
  | none =>
    rw [h.1 e]
    rfl
  | some r =>
    obtain ⟨p, _, h2⟩ := h.2 r e
    rw [h2]
    rfl
theorem ok_can_come_up (T : Txt K mg a) : FnOk P w K mg base CX0 1 a.f_can_come_up a.d_can_come_up ["machine", "network"] (sp_can_come_up K a) := by
  refine T.F_can_come_up.ok sc_can_come_up (fun vs H Q E h => len_can_come_up h) (fun cdv A outer s H vs Q E hr h => ?_)
  refine ⟨_, (pss_one (ps_ret (pe_or (pe_cmp (pc_din (hu_of hr) (pv 1) (pe_fld (pe_fld (pv 0) rfl) rfl))) (pe_one (pe_cmpR op_lt (pe_callB call_len_dT (by rfl) T.z_len PySem.boot_len (by exact (pa_cons (pe_fld (pe_fld (pv 0) rfl) rfl) pa_nil))) (pe_glob rfl T.k_MOST_ROUTES rel_int) (nomark _)))))), ?_⟩
  obtain ⟨m, nw, g, s', net, bits, rfl, hM, hnw, q⟩ := h
  obtain ⟨dxm, hm⟩ := hM.ob
  obtain ⟨dxt, ht⟩ := hM.tbl
  refine ⟨_, rfl, _, rfl, m, _, dxm, _, _, rfl, hm, T.cl_Machine, T.n_Machine_table, machF_table g s', g.t, _, dxt, _, _, rfl, ht, T.cl_Table, T.n_Table_routes, lk_here, g.d, _, rfl, DGet.t (k := keyOf ⟨net, bits, 0, 0, 0, 0, 0, 0, true⟩) hM.tab.dict hnw, _, rfl, ?_⟩
  have e1 : (valV (kvsOf g.es) (keyOf ⟨net, bits, 0, 0, 0, 0, 0, 0, true⟩)).isSome = (Ra54.routeOf s'.routes net bits).isSome := by rw [val_isSome, hM.tab.ps.find]
  rw [e1]
  cases hc : (Ra54.routeOf s'.routes net bits).isSome with
  | true =>
    rw [hc] at q
    exact q
  | false =>
    rw [hc] at q
    refine ⟨_, rfl, m, _, dxm, _, _, rfl, hm, T.cl_Machine, T.n_Machine_table, machF_table g s', g.t, _, dxt, _, _, rfl, ht, T.cl_Table, T.n_Table_routes, lk_here, g.d, _, rfl, hM.tab.dict, _, _, rfl, rfl, ?_⟩
    have e2 : (kvsOf g.es).length = s'.routes.length := by unfold kvsOf; rw [List.length_map, hM.tab.len]
    show Q (.bl (decide (((kvsOf g.es).length : Int) < ((256 : Nat) : Int)))) H
    rw [dec_cast, e2]
    exact q
end
end Nr
namespace Nr
open PySem PySem.Spec PyProof.Rows L2
theorem ixN_nat {n j : Nat} (h : j < n) : ixN n (j : Int) = some j := by
  unfold ixN
  rw [if_pos (by omega), if_pos (by omega), Int.toNat_natCast]
theorem not_route {C C' dx : Addr} {fs : List (Str × V)} (h : fs.length ≠ 7) : ∀ dx' r, HO.ins C' dx fs ≠ .ins C dx' (rF r) := fun dx' r z => by
  injection z with _ _ z
  exact h (by rw [z]; rfl)
theorem Tab.notin {C : Addr} {H : Hp} {d : Addr} {es : List (Addr × Rt)} {rs : List Rt} (h : Tab C H d es rs) {b : Addr} {o : HO} (hb : H b = some o) (h1 : ∀ kvs, o ≠ .dT kvs) (h2 : ∀ dx r, o ≠ .ins C dx (rF r)) : b ∉ d :: ads es := fun z => by
  rcases List.mem_cons.mp z with e | z
  · rw [e, h.dict] at hb
    exact h1 _ (Option.some.inj hb).symm
  · obtain ⟨y, hy, e⟩ := List.mem_map.mp z
    obtain ⟨dx, q⟩ := h.rt.at_ y hy
    rw [e, hb] at q
    exact h2 _ _ (Option.some.inj q)
theorem linkO_keep {C : Addr} {H H' : Hp} (s : ∀ p ln, LinkAt C H p ln → LinkAt C H' p ln) : ∀ {k : Option Addr} {o : Option Ra54.Link}, LinkO C H k o → LinkO C H' k o
  | none, none, _ => trivial
  | some p, some ln, h => s p ln h
/-- the table goes on, the rest stands -/
theorem MachAt.tab_upd {a : Ad} {H H' : Hp} {m : Addr} {g : Gh} {s : Ra54.St} (h : MachAt a H m g s) (k : Keep H H' (g.d :: ads g.es)) {es' : List (Addr × Rt)} {rs' : List Rt} (hT : Tab a.c_Route H' g.d es' rs') :
    MachAt a H' m { g with es := es' } { s with routes := rs' } := by
  have kk : ∀ {b : Addr} {o : HO}, H b = some o → (∀ kvs, o ≠ .dT kvs) → (∀ dx r, o ≠ .ins a.c_Route dx (rF r)) → H' b = some o := fun hb h1 h2 => k _ _ hb (h.tab.notin hb h1 h2)
  obtain ⟨dxm, hm⟩ := h.ob
  obtain ⟨dxt, ht⟩ := h.tbl
  refine ⟨⟨dxm, kk hm (fun _ z => (by cases z)) (not_route (show 5 ≠ 7 by decide))⟩, kk h.links (fun _ z => (by cases z)) (fun _ _ z => (by cases z)), paired_mono (fun _ _ q => linkO_keep (fun p ln hl => ?_) q) h.lk, h.four, h.lok, ⟨dxt, kk ht (fun _ z => (by cases z)) (not_route (show 1 ≠ 7 by decide))⟩, hT⟩
  obtain ⟨dx, hl⟩ := hl
  exact ⟨dx, kk hl (fun _ z => (by cases z)) (not_route (show 2 ≠ 7 by decide))⟩
/-- a link's place is set -/
theorem MachAt.links_upd {a : Ad} {H : Hp} {m : Addr} {g : Gh} {s : Ra54.St} (h : MachAt a H m g s) (i : Nat) {k : Option Addr} {o : Option Ra54.Link} (hk : LinkO a.c_Link H k o) (ho : ∀ ln, o = some ln → ln.address < 2 ^ 32 ∧ ln.bits ≤ 31) :
    MachAt a (upd H g.l (.lst ((g.ks.map linkV).set i (linkV k)))) m { g with ks := g.ks.set i k } { s with links := s.links.set i o } := by
  have kk : ∀ {b : Addr} {u : HO}, H b = some u → (∀ xs, u ≠ .lst xs) → (upd H g.l (.lst ((g.ks.map linkV).set i (linkV k)))) b = some u := fun hb h1 => by
    rw [upd_ne (ne_of hb h.links (h1 _))]
    exact hb
  obtain ⟨dxm, hm⟩ := h.ob
  obtain ⟨dxt, ht⟩ := h.tbl
  have kl : ∀ p ln, LinkAt a.c_Link H p ln → LinkAt a.c_Link (upd H g.l (.lst ((g.ks.map linkV).set i (linkV k)))) p ln := fun p ln ⟨dx, hl⟩ => ⟨dx, kk hl (fun _ z => (by cases z))⟩
  refine ⟨⟨dxm, kk hm (fun _ z => (by cases z))⟩, ?_, paired_set (linkO_keep kl hk) i (paired_mono (fun _ _ q => linkO_keep kl q) h.lk), by rw [List.length_set]; exact h.four, fun ln hl => ?_, ⟨dxt, kk ht (fun _ z => (by cases z))⟩, ⟨kk h.tab.dict (fun _ z => (by cases z)), ⟨fun e he => ?_, h.tab.rt.nd⟩, h.tab.ps, h.tab.ok⟩⟩
  · rw [upd_same, ← List.map_set]
  · rcases List.mem_or_eq_of_mem_set hl with q | q
    · exact h.lok ln q
    · exact ho ln q.symm
  · obtain ⟨dx, q⟩ := h.tab.rt.at_ e he
    exact ⟨dx, kk q (fun _ z => (by cases z))⟩
theorem Fr.links {H : Hp} {m : Addr} {g : Gh} {i : Nat} {k : Option Addr} {o : HO} : Fr H (upd H g.l o) (foot m g) (foot m { g with ks := g.ks.set i k }) := by
  refine ⟨fun b u q n => ?_, fun b hb => .inl hb⟩
  rw [upd_ne fun z => n (by rw [z]; exact List.mem_cons_of_mem _ (List.mem_cons_self ..))]
  exact q
/-- only the table's part is touched -/
theorem Fr.tab {H H' : Hp} {m : Addr} {g : Gh} {es' : List (Addr × Rt)} (f : Fr H H' (g.d :: ads g.es) (g.d :: ads es')) : Fr H H' (foot m g) (foot m { g with es := es' }) := by
  refine ⟨fun b o q n => f.keep b o q fun z => n (List.mem_cons_of_mem _ (List.mem_cons_of_mem _ z)), fun b hb => ?_⟩
  rcases List.mem_cons.mp hb with z | hb
  · rw [z]; exact .inl (List.mem_cons_self ..)
  rcases List.mem_cons.mp hb with z | hb
  · rw [z]; exact .inl (List.mem_cons_of_mem _ (List.mem_cons_self ..))
  rcases f.new b hb with z | z
  · exact .inl (List.mem_cons_of_mem _ (List.mem_cons_of_mem _ z))
  · exact .inr z
section
variable {P : Program} {w : World} {K : PySem.W.Frag} {mg : Str → Option Value} {base : Heap} {a : Ad}
def ownRt (i : Nat) (ln : Ra54.Link) : Rt := ⟨Ra54.netOf ln.bits ln.address, ln.bits, 0, i, 0, 0, 0, 0, true⟩
def sp_come_up (K : PySem.W.Frag) (a : Ad) : Sp := fun vs H Q _ => ∃ (m pl : Addr) (i : Nat) (g : Gh) (s : Ra54.St) (ln : Ra54.Link), vs = [.ref m, nV i, .ref pl] ∧ MachAt a H m g s ∧ LinkAt a.c_Link H pl ln ∧ (ln.address < 2 ^ 32 ∧ ln.bits ≤ 31) ∧ i < 4 ∧
  (s.routes.length < 256 ∨ ∃ q ∈ s.routes, kb q = kb (ownRt i ln)) ∧
  ∀ g' H', MachAt a H' m g' { s with links := s.links.set i (some ln), routes := Ra54.place (ownRt i ln) s.routes } → Fr H H' (foot m g) (foot m g') → Q .non H'
theorem len_come_up {vs : List V} {H : Hp} {Q : VK} {E : XK} (h : sp_come_up K a vs H Q E) : vs.length = 3 := by
  obtain ⟨_, _, _, _, _, _, rfl, _⟩ := h
  rfl
theorem ok_come_up (T : Txt K mg a) : FnOk P w K mg base CX0 3 a.f_come_up a.d_come_up ["machine", "i", "link"] (sp_come_up K a) := by
  have G_Link_network := ok_Link_network (P := P) (w := w) (base := base) T
  have G_Route_init := ok_Route_init (P := P) (w := w) (base := base) T
  refine T.F_come_up.ok sc_come_up (fun vs H Q E h => len_come_up h) (fun cdv A outer s H vs Q E hr h => ?_)
  have r2 : Room 2 _ := hr.mono (by decide)
  refine ⟨_, (pss_cons (ps_asg (pv 2) (pg_sub (pe_fld (pv 0) rfl) (pv 1) set_list))
      (pss_cons (ps_set (i := 3) sc_come_up.nd rfl (by first | exact Or.inl rfl | exact Or.inr rfl) (pe_fld (pe_fld (pv 0) rfl) rfl))
      (pss_one (ps_dput (hu_of hr) (pv 3) (pe_meth0 (pv 2) T.cl_Link T.M_Link_network G_Link_network r2 (b_Link_network T) .nil pass0) (pe_make T.m_Route G_Route_init r2 rfl T.g_Route (b_Route_init T) .nil pass0 (pa_cons pe_int (pa_cons (pv 1) (pa_cons pe_int (pa_cons pe_int pa_nil))))) rfl)))), ?_⟩
  obtain ⟨m, pl, i, g, s', ln, rfl, hM, hln, hlo, hi, hroom, fin⟩ := h
  obtain ⟨dxm, hm⟩ := hM.ob
  have h4 : (g.ks.map linkV).length = 4 := by rw [List.length_map, paired_len hM.lk, hM.four]
  refine ⟨_, rfl, _, rfl, m, _, dxm, _, _, rfl, hm, T.cl_Machine, T.n_Machine_links, machF_links g s', _, rfl, g.l, _, _, i, rfl, rfl, hM.links, ixN_nat (by omega), ?_⟩
  have hM1 := hM.links_upd i (k := some pl) (o := some ln) hln (fun l z => by cases z; exact hlo)
  have fr1 : Fr H (upd H g.l (.lst ((g.ks.map linkV).set i (.ref pl)))) (foot m g) (foot m { g with ks := g.ks.set i (some pl) }) := Fr.links
  have hln1 : LinkAt a.c_Link (upd H g.l (.lst ((g.ks.map linkV).set i (.ref pl)))) pl ln := by
    obtain ⟨dx, q⟩ := hln
    exact ⟨dx, by rw [upd_ne (ne_of q hM.links (fun z => by cases z))]; exact q⟩
  generalize hH1 : upd H g.l (.lst ((g.ks.map linkV).set i (.ref pl))) = H1 at fr1 hln1
  have hM1 : MachAt a H1 m { g with ks := g.ks.set i (some pl) } { s' with links := s'.links.set i (some ln) } := by rw [← hH1]; exact hM1
  obtain ⟨dxm1, hm1⟩ := hM1.ob
  obtain ⟨dxt, ht⟩ := hM1.tbl
  refine ⟨_, rfl, m, _, dxm1, _, _, rfl, hm1, T.cl_Machine, T.n_Machine_table, machF_table _ _, g.t, _, dxt, _, _, rfl, ht, T.cl_Table, T.n_Table_routes, lk_here, ?_⟩
  refine ⟨_, rfl, fun p dxp hp hdxp hne => ?_⟩
  refine ⟨p, dxp, _, _, _, _, rfl, upd_same, rfl, ?_⟩
  rw [upd_upd]
  have ef : newF (V.int 0) (nV i) (V.int 0) (V.int 0) = rF (ownRt i ln) := rfl
  rw [ef]
  have s2 : Same H1 (upd (upd H1 dxp (.own p)) p (.ins a.c_Route dxp (rF (ownRt i ln)))) := same_new (same_new0 hdxp) (by rw [upd_ne (Ne.symm hne)]; exact hp)
  generalize hH2 : upd (upd H1 dxp (.own p)) p (.ins a.c_Route dxp (rF (ownRt i ln))) = H2 at s2
  have hp2 : H2 p = some (.ins a.c_Route dxp (rF (ownRt i ln))) := by rw [← hH2]; exact upd_same
  obtain ⟨dxl, ho⟩ := hln1.same s2
  refine ⟨_, rfl, _, rfl, pl, dxl, _, rfl, ho, linkF_meth ln, pl, ln, rfl, ⟨dxl, ho⟩, hlo.1, hlo.2, fun nt hnt => ?_⟩
  have s3 : Same H1 (upd H2 nt (.tup [nV (Ra54.netOf ln.bits ln.address), nV ln.bits])) := same_new s2 hnt
  have s23 : Same H2 (upd H2 nt (.tup [nV (Ra54.netOf ln.bits ln.address), nV ln.bits])) := same_new0 hnt
  have hM3 := hM1.same s3
  have pn : p ∉ ads g.es := fun z => by
    obtain ⟨y, hy, hz⟩ := List.mem_map.mp z
    obtain ⟨dy, q⟩ := hM1.tab.rt.at_ y hy
    rw [hz, hp] at q
    cases q
  have few : (kvsOf g.es).length < sizeLine := by
    unfold kvsOf
    rw [List.length_map]
    have := hM.tab.few
    rw [sizeLine_eq]
    omega
  refine ⟨g.d, _, rfl, DPut.t (k := keyOf (ownRt i ln)) hM3.tab.dict upd_same few, ?_⟩
  have hT4 := hM3.tab.put (r := ownRt i ln) ⟨dxp, s23 _ _ hp2⟩ pn ⟨(by show ln.bits ≤ 32; omega), Nat.zero_le _, fun _ => rfl⟩ hroom
  have kp : Keep (upd H2 nt (.tup [nV (Ra54.netOf ln.bits ln.address), nV ln.bits])) (upd (upd H2 nt (.tup [nV (Ra54.netOf ln.bits ln.address), nV ln.bits])) g.d (.dT (putK (kvsOf g.es) (keyOf (ownRt i ln)) (.ref p)))) (g.d :: ads g.es) := fun b o q n => by
    rw [upd_ne fun z => n (by rw [z]; exact List.mem_cons_self ..)]
    exact q
  refine fin { g with ks := g.ks.set i (some pl), es := putE g.es (p, ownRt i ln) } _ (hM3.tab_upd kp hT4) (Fr.trans fr1 (Fr.tab (g := { g with ks := g.ks.set i (some pl) }) ⟨fun b o q n => kp b o (s3 _ _ q) n, fun b hb => ?_⟩))
  rcases List.mem_cons.mp hb with z | hb
  · rw [z]; exact .inl (List.mem_cons_self ..)
  · rcases ads_put hb with z | hb
    · rw [z]; exact .inr hp
    · exact .inl (List.mem_cons_of_mem _ hb)
/-! ### go_down -/
def downOne (now i : Nat) (r : Rt) : Rt := if r.link = i ∧ r.dist < Ra54.FAR then Ra54.lost now r else r
theorem downOne_kb (now i : Nat) (r : Rt) : kb (downOne now i r) = kb r := by
  unfold downOne
  split <;> rfl
theorem downOne_ok {now i : Nat} {r : Rt} (h : RtOk r) : RtOk (downOne now i r) := by
  unfold downOne
  split
  · exact h.lost now
  · exact h
def sp_go_down (K : PySem.W.Frag) (a : Ad) : Sp := fun vs H Q _ => ∃ (m : Addr) (i : Nat) (g : Gh) (s : Ra54.St), vs = [.ref m, nV i] ∧ MachAt a H m g s ∧ i < 4 ∧
  ∀ g' H', MachAt a H' m g' { s with links := s.links.set i none, routes := s.routes.map (downOne s.now i) } → Fr H H' (foot m g) (foot m g') → Q .non H'
theorem len_go_down {vs : List V} {H : Hp} {Q : VK} {E : XK} (h : sp_go_down K a vs H Q E) : vs.length = 2 := by
  obtain ⟨_, _, _, _, rfl, _⟩ := h
  rfl
theorem ok_go_down (T : Txt K mg a) : FnOk P w K mg base CX0 2 a.f_go_down a.d_go_down ["machine", "i"] (sp_go_down K a) := by
  have G_Route_is_in_reach := ok_Route_is_in_reach (P := P) (w := w) (base := base) T
  have G_lose := ok_lose (P := P) (w := w) (base := base) T
  refine T.F_go_down.ok sc_go_down (fun vs H Q E h => len_go_down h) (fun cdv A outer s H vs Q E hr h => ?_)
  have r1 : Room 1 _ := hr.mono (by decide)
  refine ⟨_, (pss_cons (ps_asg pe_non (pg_sub (pe_fld (pv 0) rfl) (pv 1) set_list))
      (pss_one (ps_lock (ps_for PassesOwn.never rfl (pi_valuesT (pe_fld (pe_fld (pv 0) rfl) rfl)) (pg_name (i := 2) sc_go_down.nd rfl (by first | exact Or.inl rfl | exact Or.inr rfl))
        (pss_one (ps_if (PW.pt (pw_and (pt_cmpR op_eq (pe_fld (pv 2) rfl) (pv 1) (nomark _)) (pw_and1 (pt_val (pe_meth0 (pv 2) T.cl_Route T.M_Route_is_in_reach G_Route_is_in_reach r1 (b_Route_is_in_reach T) .nil pass0)))))
          (pss_one (ps_expr (pe_call G_lose r1 rfl T.g_lose T.F_lose.kp (b_lose T) .nil pass0 (pa_cons (pv 2) (pa_cons (pe_fld (pv 0) rfl) pa_nil)))))
          pss_nil)))))), ?_⟩
  obtain ⟨m, i, g, s', rfl, hM, hi, fin⟩ := h
  obtain ⟨dxm, hm⟩ := hM.ob
  have h4 : (g.ks.map linkV).length = 4 := by rw [List.length_map, paired_len hM.lk, hM.four]
  refine ⟨_, rfl, m, _, dxm, _, _, rfl, hm, T.cl_Machine, T.n_Machine_links, machF_links g s', _, rfl, g.l, _, _, i, rfl, rfl, hM.links, ixN_nat (by omega), ?_⟩
  have hM1 := hM.links_upd i (k := none) (o := none) trivial (fun l z => by cases z)
  have fr1 : Fr H (upd H g.l (.lst ((g.ks.map linkV).set i .non))) (foot m g) (foot m { g with ks := g.ks.set i none }) := Fr.links
  generalize hH1 : upd H g.l (.lst ((g.ks.map linkV).set i .non)) = H1 at fr1
  have hM1 : MachAt a H1 m { g with ks := g.ks.set i none } { s' with links := s'.links.set i none } := by rw [← hH1]; exact hM1
  obtain ⟨dxm1, hm1⟩ := hM1.ob
  obtain ⟨dxt, ht⟩ := hM1.tbl
  have hT1 := hM1.tab
  have nm : m ∉ g.d :: ads g.es := hT1.notin hm1 (fun _ z => (by cases z)) (not_route (show 5 ≠ 7 by decide))
  have nt : g.t ∉ g.d :: ads g.es := hT1.notin ht (fun _ z => (by cases z)) (not_route (show 1 ≠ 7 by decide))
  have nmd : m ≠ g.d := fun z => nm (by rw [z]; exact List.mem_cons_self ..)
  have ntd : g.t ≠ g.d := fun z => nt (by rw [z]; exact List.mem_cons_self ..)
  refine ⟨g.d, .dT (kvsOf g.es), hT1.dict, True.intro, fun od => ?_⟩
  refine ⟨_, rfl, m, _, dxm1, _, _, rfl, (by rw [upd_ne nmd]; exact hm1), T.cl_Machine, T.n_Machine_table, machF_table _ _, g.t, _, dxt, _, _, rfl, (by rw [upd_ne ntd]; exact ht), T.cl_Table, T.n_Table_routes, lk_here, g.d, od, _, rfl, upd_same, ?_⟩
  refine for_all (C := a.c_Route) (es := g.es) (f := downOne s'.now i) (H := H1) [some (.ref m), some (nV i), none] 2 none upd_same (rts_upd hT1.rt (fun e he => hT1.ne he)) (fun b o q n => by rw [upd_ne fun z => n (by rw [z]; exact List.mem_cons_self ..)]; exact q) ?_ ?_
  · intro e dx H3 D' he ho kp yes no
    refine ⟨_, rfl, e.1, _, dx, _, _, rfl, ho, T.cl_Route, T.n_Route_link, rF_link e.2, _, rfl, rfl, _, rfl, ?_⟩
    by_cases c1 : e.2.link = i
    · refine if_true_of (decide_eq_true (nV_inj.mpr c1)) ?_
      refine ⟨_, rfl, e.1, dx, _, rfl, ho, rF_meth1 _, e.1, e.2, rfl, ⟨dx, ho⟩, _, rfl, ?_⟩
      by_cases c2 : e.2.dist < 16
      · refine if_true_of (decide_eq_true c2) ?_
        refine ⟨_, rfl, _, rfl, m, _, dxm1, _, _, rfl, kp _ _ hm1 nm, T.cl_Machine, T.n_Machine_now, machF_now _ _, e.1, dx, e.2, s'.now, rfl, ho, ?_⟩
        have e1 : downOne s'.now i e.2 = Ra54.lost s'.now e.2 := if_pos ⟨c1, c2⟩
        rw [e1] at yes
        exact yes
      · refine if_false_of (decide_eq_false c2) ?_
        exact no (if_neg fun z => c2 z.2)
    · refine if_false_of (decide_eq_false (fun z => c1 (nV_inj.mp z))) ?_
      exact no (if_neg fun z => c1 z.1)
  · intro v H3 hd3 hR3 kp
    refine ⟨hd3, ?_⟩
    have ne3 := lock_ne hR3 hd3
    have kp3 : Keep H1 (upd H3 g.d (.dT (kvsOf g.es))) (g.d :: ads g.es) := kp.mut (List.mem_cons_self ..)
    have hT3 := hT1.all (downOne_kb s'.now i) (fun r hr => downOne_ok hr) (rts_upd hR3 ne3) upd_same
    refine fin { g with ks := g.ks.set i none, es := g.es.map fun e => (e.1, downOne s'.now i e.2) } _ (hM1.tab_upd kp3 hT3) (Fr.trans fr1 (Fr.tab (g := { g with ks := g.ks.set i none }) ⟨kp3, fun b hb => .inl ?_⟩))
    rw [show ads (g.es.map fun e => (e.1, downOne s'.now i e.2)) = ads g.es from map_pair] at hb
    exact hb
end
end Nr
namespace Nr
open PySem PySem.Spec PyProof.Rows L2
section
variable {P : Program} {w : World} {K : PySem.W.Frag} {mg : Str → Option Value} {base : Heap} {a : Ad}
def sp_told_on (K : PySem.W.Frag) (a : Ad) : Sp := fun vs H Q _ => ∃ (m nw : Addr) (i : Nat) (g : Gh) (s : Ra54.St) (r : Rt), vs = [.ref m, nV i, .ref nw] ∧ MachAt a H m g s ∧ r ∈ s.routes ∧ NetAt H nw r ∧
  ∀ p H', Same H H' → H p = none → ToldAt a.c_Told H' p (Ra54.toldOn i r) → Q (.ref p) H'
theorem len_told_on {vs : List V} {H : Hp} {Q : VK} {E : XK} (h : sp_told_on K a vs H Q E) : vs.length = 3 := by
  obtain ⟨_, _, _, _, _, _, rfl, _⟩ := h
  rfl
theorem Tab.getR {C : Addr} {H : Hp} {d : Addr} {es : List (Addr × Rt)} {rs : List Rt} (h : Tab C H d es rs) {r : Rt} (hr : r ∈ rs) {nw : Addr} (hn : NetAt H nw r) : ∃ q, (q, r) ∈ es ∧ DGet H d (.ref nw) (some (.ref q)) := by
  obtain ⟨e, he, e2⟩ := List.mem_map.mp (h.ps.mem.mpr hr)
  have e3 : (e.1, r) = e := by rw [← e2]
  have hm : (e.1, r) ∈ es := by rw [e3]; exact he
  refine ⟨e.1, hm, ?_⟩
  rw [← h.val hm rfl]
  exact DGet.t (k := keyOf r) h.dict hn
theorem ok_told_on (T : Txt K mg a) : FnOk P w K mg base CX0 3 a.f_told_on a.d_told_on ["machine", "i", "network"] (sp_told_on K a) := by
  have G_Told_init := ok_Told_init (P := P) (w := w) (base := base) T
  refine T.F_told_on.ok sc_told_on (fun vs H Q E h => len_told_on h) (fun cdv A outer s H vs Q E hr h => ?_)
  have r2 : Room 2 _ := hr.mono (by decide)
  refine ⟨_, (pss_cons (ps_set (i := 3) sc_told_on.nd rfl (by first | exact Or.inl rfl | exact Or.inr rfl) (pe_dget (hu_of hr) (pe_fld (pe_fld (pv 0) rfl) rfl) (pv 2) (fun _ _ => rfl)))
      (pss_cons (ps_set (i := 4) sc_told_on.nd rfl (by first | exact Or.inl rfl | exact Or.inr rfl) (pe_callB (call_min2 rfl) (by rfl) T.z_min (by decide +kernel) (pa_cons (pe_glob rfl T.k_OUT_OF_REACH rel_int) (pa_cons (pe_op op_add (pe_fld (pv 3) rfl) pe_int) pa_nil))))
      (pss_cons (ps_if (pt_cmpR op_eq (pe_fld (pv 3) rfl) (pv 1) (nomark _))
        (pss_one (ps_set (i := 4) sc_told_on.nd rfl (by first | exact Or.inl rfl | exact Or.inr rfl) (pe_glob rfl T.k_OUT_OF_REACH rel_int)))
        pss_nil)
      (pss_one (ps_ret (pe_make T.m_Told G_Told_init r2 rfl T.g_Told (b_Told_init T) .nil pass0 (pa_cons (pe_ix ix_tup (pv 2) pe_int (fun _ _ => rfl)) (pa_cons (pe_ix ix_tup (pv 2) pe_int (fun _ _ => rfl)) (pa_cons (pv 4) pa_nil))))))))), ?_⟩
  obtain ⟨m, nw, i, g, s', r, rfl, hM, hr0, hnw, fin⟩ := h
  obtain ⟨dxm, hm⟩ := hM.ob
  obtain ⟨dxt, ht⟩ := hM.tbl
  obtain ⟨q, hq, hg⟩ := hM.tab.getR hr0 hnw
  obtain ⟨dxq, ho⟩ := hM.tab.rt.at_ _ hq
  have hd := (hM.tab.ok.all r hr0).dist
  refine ⟨_, rfl, m, _, dxm, _, _, rfl, hm, T.cl_Machine, T.n_Machine_table, machF_table g s', g.t, _, dxt, _, _, rfl, ht, T.cl_Table, T.n_Table_routes, lk_here, _, rfl, g.d, .ref q, rfl, hg, ?_⟩
  refine ⟨_, rfl, q, _, dxq, _, _, rfl, ho, T.cl_Route, T.n_Route_far, rF_far r, _, _, rfl, rfl, _, _, rfl, ?_⟩
  have e1 : V.int (if (r.dist : Int) + 1 < 16 then (r.dist : Int) + 1 else 16) = nV (min 16 (r.dist + 1)) := by
    show V.int _ = V.int _
    congr 1
    by_cases c : r.dist + 1 < 16
    · rw [if_pos (by omega), Nat.min_eq_right (by omega)]; rfl
    · rw [if_neg (by omega), Nat.min_eq_left (by omega)]; rfl
  rw [e1]
  refine ⟨_, rfl, q, _, dxq, _, _, rfl, ho, T.cl_Route, T.n_Route_link, rF_link r, _, rfl, rfl, _, rfl, ?_⟩
  -- the new Told
  have last : ∀ f : Nat, f = (Ra54.toldOn i r).dist → ∀ p dxp, H p = none → H dxp = none → dxp ≠ p → sp_Told_init K a [.ref p, nV r.net, nV r.bits, nV f] (upd (upd H dxp (.own p)) p (.ins a.c_Told dxp [])) (fun v H2 => v = .non ∧ Q (.ref p) H2) (fun _ _ _ => False) := by
    intro f hf p dxp hp hdxp hne
    refine ⟨p, dxp, _, _, _, rfl, upd_same, rfl, ?_⟩
    rw [upd_upd]
    refine fin p _ (same_new (same_new0 hdxp) (by rw [upd_ne (Ne.symm hne)]; exact hp)) hp ⟨dxp, ?_⟩
    rw [upd_same, hf]
    rfl
  by_cases c : r.link = i
  · refine if_true_of (decide_eq_true (nV_inj.mpr c)) ?_
    refine ⟨_, rfl, nw, _, ((0 : Nat) : Int), nV r.net, rfl, rfl, SqT.of hnw, atI_nat rfl, ?_⟩
    refine ⟨_, rfl, nw, _, ((1 : Nat) : Int), nV r.bits, rfl, rfl, SqT.of hnw, atI_nat rfl, ?_⟩
    refine ⟨_, rfl, last 16 ?_⟩
    show 16 = if r.link = i then 16 else _
    rw [if_pos c]
  · refine if_false_of (decide_eq_false (fun z => c (nV_inj.mp z))) ?_
    refine ⟨_, rfl, nw, _, ((0 : Nat) : Int), nV r.net, rfl, rfl, SqT.of hnw, atI_nat rfl, ?_⟩
    refine ⟨_, rfl, nw, _, ((1 : Nat) : Int), nV r.bits, rfl, rfl, SqT.of hnw, atI_nat rfl, ?_⟩
    refine ⟨_, rfl, last (min 16 (r.dist + 1)) ?_⟩
    show _ = if r.link = i then _ else min 16 (r.dist + 1)
    rw [if_neg c]
/-! ### changed_networks -/
def sp_changed_networks (K : PySem.W.Frag) (a : Ad) : Sp := fun vs H Q _ => ∃ (m : Addr) (g : Gh) (s : Ra54.St), vs = [.ref m] ∧ MachAt a H m g s ∧
  ∀ l ts H', Same H H' → H l = none → H' l = some (.lst (ts.map V.ref)) → NetsAt H' ts (s.routes.filter fun r => r.changed) → Q (.ref l) H'
theorem len_changed_networks {vs : List V} {H : Hp} {Q : VK} {E : XK} (h : sp_changed_networks K a vs H Q E) : vs.length = 1 := by
  obtain ⟨_, _, _, rfl, _⟩ := h
  rfl
theorem ok_changed_networks (T : Txt K mg a) : FnOk P w K mg base CX0 2 a.f_changed_networks a.d_changed_networks ["machine"] (sp_changed_networks K a) := by
  have G_Table_in_order := ok_Table_in_order (P := P) (w := w) (base := base) T
  refine T.F_changed_networks.ok sc_changed_networks (fun vs H Q E h => len_changed_networks h) (fun cdv A outer s H vs Q E hr h => ?_)
  have r1 : Room 1 _ := hr.mono (by decide)
  refine ⟨_, (pss_one (ps_ret (pe_lc (own := [("network", 1)]) (tt := tB (tFld K (tDGet (tFld K (tFld K (tVar 0) "table") "routes") (tVar 1)) "has_changed")) rfl sc_changed_networks.nd (pi_list (pe_meth0 (pe_fld (pv 0) rfl) T.cl_Table T.M_Table_in_order G_Table_in_order r1 (b_Table_in_order T) .nil pass0)) (blkOk_by (own := [("network", 1)]) (N := ["machine", "network"]) (sc := defScope s_changed_networks) (by decide +kernel)) (fun _ _ _ _ _ => (pg_name (i := 1) sc_changed_networks.nd rfl (by first | exact Or.inl rfl | exact Or.inr rfl))) (fun _ _ _ _ _ => (pts_one (pt_val (pe_fld (pe_dget (hu_of hr) (pe_fld (pe_fld (pv 0) rfl) rfl) (pv 1) (fun _ _ => rfl)) rfl)))) (fun _ _ _ _ _ => (pv 1))))), ?_⟩
  obtain ⟨m, g, s', rfl, hM, fin⟩ := h
  obtain ⟨dxm, hm⟩ := hM.ob
  obtain ⟨dxt, ht⟩ := hM.tbl
  refine ⟨_, rfl, m, _, dxm, _, _, rfl, hm, T.cl_Machine, T.n_Machine_table, machF_table g s', g.t, dxt, _, rfl, ht, (lk_past (by decide +kernel)).trans rfl, g.t, g.d, g.es, s'.routes, rfl, ⟨dxt, ht⟩, hM.tab.dict, hM.tab.ps, fun l0 ts0 H1 s1 hl0 hl1 hN => ?_⟩
  refine ⟨l0, rfl, ⟨_, SqL.of hl1⟩, fun D hD => ?_⟩
  have hDH : H D = none := fresh_back s1 hD
  refine lc_list (K := K) (a := l0) (xs := ts0.map V.ref) (fun i H' => Same H1 H' ∧ ∃ ts : List Addr, H' D = some (.lst (ts.map V.ref)) ∧ NetsAt H' ts ((s'.routes.take i).filter fun r => r.changed)) ⟨same_new0 hD, [], upd_same, .nil⟩ (fun i H' _ h => SqL.of (h.1 _ _ hl1)) ?_ ?_
  · rintro i x H2 hx ⟨s2, ts, hts, hN2⟩
    obtain ⟨b, r, rfl, hr, hb⟩ := nets_get hN hx
    have hM2 := hM.same (s1.trans s2)
    have hb2 : NetAt H2 b r := s2 _ _ hb
    have hrm : r ∈ s'.routes := List.mem_of_getElem? hr
    obtain ⟨q, hq, hg⟩ := hM2.tab.getR hrm hb2
    obtain ⟨dxq, ho⟩ := hM2.tab.rt.at_ _ hq
    obtain ⟨dxm2, hm2⟩ := hM2.ob
    obtain ⟨dxt2, ht2⟩ := hM2.tbl
    refine ⟨rfl, ?_⟩
    refine ⟨_, rfl, m, _, dxm2, _, _, rfl, hm2, T.cl_Machine, T.n_Machine_table, machF_table g s', g.t, _, dxt2, _, _, rfl, ht2, T.cl_Table, T.n_Table_routes, lk_here, _, rfl, g.d, .ref q, rfl, hg, q, _, dxq, _, _, rfl, ho, T.cl_Route, T.n_Route_has_changed, rF_has_changed r, _, rfl, ?_⟩
    have el : ts.length ≤ 256 := by
      rw [paired_len hN2]
      exact Nat.le_trans (List.length_filter_le _ _) (Nat.le_trans (by rw [List.length_take]; exact Nat.min_le_right _ _) hM.tab.ok.few)
    rw [take_more hr, List.filter_append]
    cases hc : r.changed with
    | true =>
      refine ⟨_, rfl, _, hts, by rw [List.length_map]; exact Nat.lt_of_le_of_lt el (by rw [sizeLine_eq]; decide), same_mut s2 hD, ts ++ [b], ?_, ?_⟩
      · rw [upd_same, List.map_append]
        rfl
      · rw [List.filter_cons_of_pos (by exact hc)]
        have mt : ∀ {b : Addr} {r : Rt} {o : HO}, NetAt H2 b r → NetAt (upd H2 D o) b r := fun {b r o} h => by
          unfold NetAt
          rw [upd_ne (ne_of h hts (fun z => by cases z))]
          exact h
        exact paired_snoc (mt hb2) (paired_mono (fun _ _ h => mt h) hN2)
    | false =>
      refine ⟨s2, ts, hts, ?_⟩
      rw [List.filter_cons_of_neg (by rw [hc]; exact Bool.false_ne_true), List.filter_nil, List.append_nil]
      exact hN2
  · rintro H2 ⟨s2, ts, hts, hN2⟩
    have e : (ts0.map V.ref).length = s'.routes.length := by rw [List.length_map, paired_len hN]
    rw [e, List.take_length] at hN2
    exact fin D ts H2 (s1.trans s2) hDH hts hN2
end
end Nr
namespace Nr
open PySem PySem.Spec PyProof.Rows L2
/-- messages as they lie -/
def MsgAt (H : Hp) (p : Addr) (m : Nat × List UInt8) : Prop := ∃ b, H p = some (.tup [nV m.1, .ref b]) ∧ H b = some (.lst (m.2.map u8V))
def SentAt (H : Hp) (f : Addr) (ms : List (Nat × List UInt8)) : Prop := ∃ ps : List Addr, H f = some (.lst (ps.map V.ref)) ∧ Paired (MsgAt H) ps ms
theorem MsgAt.same {H H' : Hp} (s : Same H H') {p : Addr} {m : Nat × List UInt8} (h : MsgAt H p m) : MsgAt H' p m := let ⟨b, h1, h2⟩ := h; ⟨b, s _ _ h1, s _ _ h2⟩
/-- the same, its bytes not the list at f -/
def MsgX (f : Addr) (H : Hp) (p : Addr) (m : Nat × List UInt8) : Prop := ∃ b, b ≠ f ∧ H p = some (.tup [nV m.1, .ref b]) ∧ H b = some (.lst (m.2.map u8V))
theorem MsgX.same {f : Addr} {H H' : Hp} (s : Same H H') {p : Addr} {m : Nat × List UInt8} (h : MsgX f H p m) : MsgX f H' p m := let ⟨b, h0, h1, h2⟩ := h; ⟨b, h0, s _ _ h1, s _ _ h2⟩
theorem MsgX.mut {f : Addr} {H : Hp} {xs : List V} {o : HO} (hf : H f = some (.lst xs)) {p : Addr} {m : Nat × List UInt8} (h : MsgX f H p m) : MsgX f (upd H f o) p m :=
  let ⟨b, h0, h1, h2⟩ := h
  ⟨b, h0, by rw [upd_ne (ne_of h1 hf (fun z => by cases z))]; exact h1, by rw [upd_ne h0]; exact h2⟩
theorem MsgX.at_ {f : Addr} {H : Hp} {p : Addr} {m : Nat × List UInt8} (h : MsgX f H p m) : MsgAt H p m := let ⟨b, _, h1, h2⟩ := h; ⟨b, h1, h2⟩
theorem paired_app {α β : Type} {F : α → β → Prop} : ∀ {l l' : List α} {m m' : List β}, Paired F l m → Paired F l' m' → Paired F (l ++ l') (m ++ m')
  | _, _, _, _, .nil, h => h
  | _, _, _, _, .cons a t, h => .cons a (paired_app t h)
theorem cut_chunk (xs : List V) (k : Nat) : cutV xs (some ((64 * k : Nat) : Int)) (some ((64 * k + 64 : Nat) : Int)) = (xs.drop (64 * k)).take 64 := by
  unfold cutV
  rw [HT.sIx_nat, HT.sIx_nat]
  by_cases c : 64 * k ≤ xs.length
  · rw [Nat.min_eq_left c]
    by_cases d : 64 * k + 64 ≤ xs.length
    · rw [Nat.min_eq_left d, show 64 * k + 64 - 64 * k = 64 from by omega]
    · rw [Nat.min_eq_right (by omega)]
      have e : (xs.drop (64 * k)).length ≤ 64 := by rw [List.length_drop]; omega
      rw [List.take_of_length_le e, List.take_of_length_le (by rw [List.length_drop]; omega)]
  · rw [List.drop_eq_nil_of_le (show xs.length ≤ 64 * k by omega), List.drop_eq_nil_of_le (by omega), List.take_nil, List.take_nil]
theorem chunk_range {n : Nat} (h : n ≤ 256) : RgC 0 (n : Int) 64 (chunks n) := by
  have e : Builtin.Range.rangeSize 0 (n : Int) 64 = (chunks n : Nat) := by
    rw [PyProof.Rows.rangeSize_pos (by omega) (by omega)]
    unfold chunks
    omega
  refine ⟨by decide, by decide, ?_, e⟩
  unfold Builtin.Range.small
  rw [e]
  have hc : chunks n ≤ 4 := by unfold chunks; omega
  have fit : ∀ x : Int, 0 ≤ x → x < 1000 → Builtin.Range.rangeFitsLong x = true := fun x h1 h2 => by
    unfold Builtin.Range.rangeFitsLong
    rw [Bool.and_eq_true]
    exact ⟨decide_eq_true (by omega), decide_eq_true (by omega)⟩
  rw [fit 0 (by omega) (by omega), fit n (by omega) (by omega), fit 64 (by omega) (by omega), fit (chunks n : Nat) (by omega) (by omega), if_pos (by decide), fit ((n : Int) + (64 - 1)) (by omega) (by omega), Bool.or_true]
  rfl
theorem nets_drop {H : Hp} : ∀ {ts : List Addr} {rs : List Rt} (n : Nat), NetsAt H ts rs → NetsAt H (ts.drop n) (rs.drop n)
  | _, _, 0, h => h
  | _, _, n + 1, .nil => .nil
  | _, _, n + 1, .cons _ t => nets_drop n t
theorem nets_take {H : Hp} : ∀ {ts : List Addr} {rs : List Rt} (n : Nat), NetsAt H ts rs → NetsAt H (ts.take n) (rs.take n)
  | _, _, 0, h => .nil
  | _, _, n + 1, .nil => .nil
  | _, _, n + 1, .cons a t => .cons a (nets_take n t)
section
variable {P : Program} {w : World} {K : PySem.W.Frag} {mg : Str → Option Value} {base : Heap} {a : Ad}
def sp_tell (K : PySem.W.Frag) (a : Ad) : Sp := fun vs H Q _ => ∃ (m l : Addr) (g : Gh) (s : Ra54.St) (ts : List Addr) (rs : List Rt), vs = [.ref m, .ref l] ∧ MachAt a H m g s ∧ H l = some (.lst (ts.map V.ref)) ∧ NetsAt H ts rs ∧ (∀ r ∈ rs, r ∈ s.routes) ∧ rs.length ≤ 256 ∧
  ∀ f H', Same H H' → H f = none → SentAt H' f (Ra54.telling s rs) → Q (.ref f) H'
theorem len_tell {vs : List V} {H : Hp} {Q : VK} {E : XK} (h : sp_tell K a vs H Q E) : vs.length = 2 := by
  obtain ⟨_, _, _, _, _, _, rfl, _⟩ := h
  rfl
theorem link_len {s : Ra54.St} {rs : List Rt} (h : rs.length ≤ 256) (i : Nat) : (toldLink s rs i).length ≤ 4 := by
  unfold toldLink
  split
  · rw [List.length_map, List.length_range]
    unfold chunks
    omega
  · exact Nat.zero_le _
theorem links_len {s : Ra54.St} {rs : List Rt} (h : rs.length ≤ 256) : ∀ i : Nat, ((List.range i).flatMap (toldLink s rs)).length ≤ 4 * i
  | 0 => Nat.le_refl _
  | i + 1 => by
    rw [range4_more, List.length_append]
    have := links_len h (s := s) i
    have := link_len h (s := s) i
    omega
theorem ok_tell (T : Txt K mg a) : FnOk P w K mg base CX0 4 a.f_tell a.d_tell ["machine", "networks"] (sp_tell K a) := by
  have G_told_on := ok_told_on (P := P) (w := w) (base := base) T
  have G_message_of := ok_message_of (P := P) (w := w) (base := base) T
  refine T.F_tell.ok sc_tell (fun vs H Q E h => len_tell h) (fun cdv A outer s H vs Q E hr h => ?_)
  have r2 : Room 2 _ := hr.mono (by decide)
  have r3 : Room 3 _ := hr.mono (by decide)
  refine ⟨_, (pss_cons (ps_set (i := 2) sc_tell.nd rfl (by first | exact Or.inl rfl | exact Or.inr rfl) (pe_lst pa_nil))
      (pss_cons (ps_for PassesOwn.never rfl (pi_enum (by rfl) T.z_enumerate (pa_cons (pe_fld (pv 0) rfl) pa_nil)) (pg_tup (by rfl) (pgs_cons (pg_name (i := 3) sc_tell.nd rfl (by first | exact Or.inl rfl | exact Or.inr rfl)) (pgs_cons (pg_name (i := 4) sc_tell.nd rfl (by first | exact Or.inl rfl | exact Or.inr rfl)) pgs_nil)))
        (pss_one (ps_if (pt_cmpR op_notN (pv 4) pe_non (nomark _))
          (pss_one (ps_for PassesOwn.never rfl (pi_range3 (by rfl) T.z_range (pa_cons pe_int (pa_cons (pe_callB call_len_seq (by rfl) T.z_len PySem.boot_len (by exact (pa_cons (pv 1) pa_nil))) (pa_cons (pe_glob rfl T.k_MOST_TOLD rel_int) pa_nil)))) (pg_name (i := 5) sc_tell.nd rfl (by first | exact Or.inl rfl | exact Or.inr rfl))
            (pss_cons (ps_setLc (i := 6) (own := [("network", 7)]) (tt := tYes) rfl sc_tell.nd rfl rfl (sw_true rfl rfl rfl (by decide +kernel)) (pi_list (pe_slice sl_list (pv 1) (po_some (pv 5)) (po_some (pe_op op_add (pv 5) (pe_glob rfl T.k_MOST_TOLD rel_int))))) (blkOk_by (own := [("network", 7)]) (N := ["machine", "networks", "found", "i", "link", "at", "told", "network"]) (sc := defScope s_tell) (by decide +kernel)) (fun _ _ _ _ _ => (pg_name (i := 7) sc_tell.nd rfl (by first | exact Or.inl rfl | exact Or.inr rfl))) (fun _ _ _ _ _ => pts_nil) (fun _ _ _ _ _ => (pe_call G_told_on r3 rfl T.g_told_on T.F_told_on.kp (b_told_on T) .nil pass0 (pa_cons (pv 0) (pa_cons (pv 3) (pa_cons (pv 7) pa_nil))))))
            (pss_one (ps_expr (pe_bm PySem.F.plainAttrs_list PySem.F.slot_list_append PySem.F.type_list_append mt_append (pv 2) (pa_cons (pe_tup (pa_cons (pv 3) (pa_cons (pe_call G_message_of r2 rfl T.g_message_of T.F_message_of.kp (b_message_of T) .nil pass0 (pa_cons (pv 6) pa_nil)) pa_nil))) pa_nil)))))))
          pss_nil)))
      (pss_one (ps_ret (pv 2))))), ?_⟩
  obtain ⟨m, l, g, s', ts, rs, rfl, hM, hl, hN, hsub, hlen, fin⟩ := h
  obtain ⟨dxm, hm⟩ := hM.ob
  refine ⟨sz (by show 0 ≤ _; omega), fun f hf => ?_⟩
  have s0 : Same H (upd H f (.lst [])) := same_new0 hf
  refine ⟨_, rfl, m, _, dxm, _, _, rfl, s0 _ _ hm, T.cl_Machine, T.n_Machine_links, machF_links g s', g.l, _, rfl, SqL.of (s0 _ _ hM.links), ?_⟩
  refine for_it (walk_enum (xs := g.ks.map linkV)) (fun i σ H' => ∃ v3 v4 v5 v6 v7 ps, σ = [some (.ref m), some (.ref l), some (.ref f), v3, v4, v5, v6, v7] ∧ Same H H' ∧ H' f = some (.lst (ps.map V.ref)) ∧ Paired (MsgX f H') ps ((List.range i).flatMap (toldLink s' rs))) ?_ (fun i σ H' _ ⟨_, _, _, _, _, _, _, h, _⟩ => SqL.of (h _ _ hM.links)) ?_ ?_
  · exact ⟨none, none, none, none, none, [], rfl, s0, upd_same, .nil⟩
  · rintro i x σ H1 H2 hi ⟨v3, v4, v5, v6, v7, ps, rfl, s1, hfl, hP⟩ ⟨T', x1, y1, rfl, hT', rfl, hx1, hy1⟩
    cases hx1
    obtain ⟨k, hk, rfl⟩ := get_map hy1
    have h4 : g.ks.length = 4 := by rw [paired_len hM.lk, hM.four]
    have hi4 : i < 4 := by rw [List.length_map, h4] at hi; exact hi
    obtain ⟨o, ho⟩ := get_lt (l := s'.links) (i := i) (by rw [hM.four]; exact hi4)
    obtain ⟨k', hk', hko⟩ := paired_get hM.lk ho
    rw [hk] at hk'
    cases hk'
    have hla : Ra54.linkAt s' i = o := by unfold Ra54.linkAt; rw [ho]; rfl
    have st2 : Same H1 (upd H1 T' (.tup [.int (i : Nat), linkV k])) := same_new0 hT'
    refine ⟨T', _, rfl, SqT.of upd_same, rfl, _, _, rfl, _, _, rfl, rfl, ?_⟩
    have s2 := s1.trans st2
    have hfl2 := st2 _ _ hfl
    have hP2 : Paired (MsgX f (upd H1 T' (.tup [.int (i : Nat), linkV k]))) ps ((List.range i).flatMap (toldLink s' rs)) := paired_mono (fun _ _ h => MsgX.same st2 h) hP
    generalize hH2 : upd H1 T' (.tup [.int (i : Nat), linkV k]) = H2 at s2 hfl2 hP2
    refine ⟨_, rfl, rfl, _, rfl, ?_⟩
    match k, o, hko with
    | none, none, _ =>
      refine ⟨_, _, _, _, _, ps, rfl, s2, hfl2, ?_⟩
      rw [range4_more]
      have e : toldLink s' rs i = [] := by unfold toldLink; rw [hla]
      rw [e, List.append_nil]
      exact hP2
    | some pl, some ln, hln =>
      have e : toldLink s' rs i = (List.range (chunks rs.length)).map fun k => (i, Ra54.message (((rs.drop (64 * k)).take 64).map (Ra54.toldOn i))) := by unfold toldLink; rw [hla]
      refine ⟨_, rfl, l, _, rfl, .inl (SqL.of (s2 _ _ hl)), 0, ((ts.map V.ref).length : Int), 64, chunks rs.length, rfl, ?_, ?_⟩
      · rw [List.length_map, paired_len hN]
        exact chunk_range hlen
      refine for_rangeC (fun k σ H' => ∃ v5 v6 v7 ps, σ = [some (.ref m), some (.ref l), some (.ref f), some (.int (i : Nat)), some (.ref pl), v5, v6, v7] ∧ Same H H' ∧ H' f = some (.lst (ps.map V.ref)) ∧
        Paired (MsgX f H') ps ((List.range i).flatMap (toldLink s' rs) ++ (List.range k).map fun k => (i, Ra54.message (((rs.drop (64 * k)).take 64).map (Ra54.toldOn i))))) ?_ ?_ ?_
      · refine ⟨_, _, _, ps, rfl, s2, hfl2, ?_⟩
        rw [List.range_zero, List.map_nil, List.append_nil]
        exact hP2
      · rintro k σ H3 hk3 ⟨v5, v6, v7, ps, rfl, s3, hf3, hP3⟩
        -- the part of the networks
        refine ⟨_, rfl, _, rfl, ((64 * k : Nat) : Int), ?_, _, rfl, _, _, rfl, rfl, ((64 * k + 64 : Nat) : Int), ?_, l, ts.map V.ref, rfl, SqL.of (s3 _ _ hl), fun p hp => ?_⟩
        · show V.int _ = V.int _
          congr 1
          omega
        · show V.int _ = V.int _
          congr 1
          omega
        rw [cut_chunk, ← List.map_drop, ← List.map_take]
        generalize hc : (ts.drop (64 * k)).take 64 = cs
        generalize hcr : (rs.drop (64 * k)).take 64 = cr
        have hNc : NetsAt H cs cr := by rw [← hc, ← hcr]; exact nets_take _ (nets_drop _ hN)
        have hcl : cr.length ≤ 64 := by rw [← hcr, List.length_take]; omega
        have hsubc : ∀ r ∈ cr, r ∈ s'.routes := fun r hr => hsub r (by rw [← hcr] at hr; exact List.mem_of_mem_drop (List.mem_of_mem_take hr))
        have s4 := same_new (o := .lst (cs.map V.ref)) s3 hp
        have st4 : Same H3 (upd H3 p (.lst (cs.map V.ref))) := same_new0 hp
        refine ⟨p, rfl, ⟨_, SqL.of upd_same⟩, fun D hD => ?_⟩
        have hDH : H D = none := fresh_back s4 hD
        have hDH3 : H3 D = none := fresh_back st4 hD
        refine lc_list (K := K) (a := p) (xs := cs.map V.ref) (fun j H' => Same (upd H3 p (.lst (cs.map V.ref))) H' ∧ ∃ tp : List (Addr × Ra54.Entry), H' D = some (.lst (tp.map fun x => V.ref x.1)) ∧ ToldsAt a.c_Told H' tp ∧ tp.map (·.2) = (cr.take j).map (Ra54.toldOn i)) ⟨same_new0 hD, [], upd_same, fun x hx => (by cases hx), rfl⟩ (fun j H' _ h => SqL.of (h.1 _ _ upd_same)) ?_ ?_
        · rintro j x H5 hx ⟨s5, tp, hD5, hTs, he⟩
          obtain ⟨b, r, rfl, hr, hb⟩ := nets_get hNc hx
          have s5' := s4.trans s5
          refine ⟨rfl, _, rfl, _, rfl, _, rfl, m, b, i, g, s', r, rfl, hM.same s5', hsubc r (List.mem_of_getElem? hr), s5' _ _ hb, fun pt H6 s6 hpt hTa => ?_⟩
          have hlt : tp.length ≤ 64 := by
            have := congrArg List.length he
            rw [List.length_map, List.length_map, List.length_take] at this
            omega
          refine ⟨_, s6 _ _ hD5, by rw [List.length_map]; exact Nat.lt_of_le_of_lt hlt (by rw [sizeLine_eq]; decide), same_mut (s5.trans s6) hD, tp ++ [(pt, Ra54.toldOn i r)], ?_, ?_, ?_⟩
          · rw [upd_same, List.map_append]
            rfl
          · have mt : ∀ {q : Addr} {e : Ra54.Entry} {o : HO}, ToldAt a.c_Told H6 q e → ToldAt a.c_Told (upd H6 D o) q e := fun {q e o} ⟨dx, h⟩ => ⟨dx, by rw [upd_ne (ne_of h (s6 _ _ hD5) (fun z => by cases z))]; exact h⟩
            intro y hy
            rcases List.mem_append.mp hy with hy | hy
            · exact mt ((hTs y hy).same s6)
            · rw [List.mem_singleton.mp hy]
              exact mt hTa
          · rw [List.map_append, he, take_more hr, List.map_append]
            rfl
        · rintro H5 ⟨s5, tp, hD5, hTs, he⟩
          have ecl : (cs.map V.ref).length = cr.length := by rw [List.length_map, paired_len hNc]
          rw [ecl, List.take_length] at he
          have s5' := s4.trans s5
          have st5 := st4.trans s5
          have hf5 := st5 _ _ hf3
          have hlt : tp.length ≤ 64 := by
            have := congrArg List.length he
            rw [List.length_map, List.length_map] at this
            omega
          refine ⟨_, rfl, .inl ⟨rfl, _, SqL.of hf5⟩, _, rfl, _, rfl, D, tp, rfl, SqL.of hD5, hTs, hlt, fun x hx => ?_, fun pm H6 hpm s6 hm6 => ⟨sz (by show 2 ≤ _; omega), fun tt htt => ?_⟩⟩
          · have hx2 : x.2 ∈ cr.map (Ra54.toldOn i) := by rw [← he]; exact List.mem_map.mpr ⟨x, hx, rfl⟩
            obtain ⟨r, hr, e2⟩ := List.mem_map.mp hx2
            rw [← e2]
            exact toldOn_ok (hM.tab.ok.all r (hsubc r hr))
          · have s7 : Same H5 (upd H6 tt (.tup [.int (i : Nat), .ref pm])) := same_new s6 htt
            have st7 := st5.trans s7
            have hf7 := s7 _ _ hf5
            have hlp : ps.length ≤ 100 := by
              rw [paired_len hP3, List.length_append, List.length_map, List.length_range]
              have := links_len hlen (s := s') i
              have : chunks rs.length ≤ 4 := by unfold chunks; omega
              omega
            refine ⟨f, _, _, rfl, rfl, hf7, by rw [List.length_map]; exact Nat.lt_of_le_of_lt hlp (by rw [sizeLine_eq]; decide), ?_⟩
            have npm : pm ≠ f := fun z => by rw [z, hf5] at hpm; cases hpm
            refine ⟨_, _, _, ps ++ [tt], rfl, same_mut (s5'.trans s7) hf, ?_, ?_⟩
            · rw [upd_same, List.map_append]
              rfl
            · rw [range_more, ← List.append_assoc, hcr]
              refine paired_snoc (MsgX.mut hf7 ⟨pm, npm, upd_same, ?_⟩) (paired_mono (fun _ _ h => MsgX.mut hf7 (MsgX.same st7 h)) hP3)
              rw [upd_ne (ne_of_none hm6 htt), hm6, he]
      · rintro σ H3 ⟨v5, v6, v7, ps, rfl, s3, hf3, hP3⟩
        refine ⟨_, _, _, _, _, ps, rfl, s3, hf3, ?_⟩
        rw [range4_more, e]
        exact hP3
  · rintro σ H1 ⟨v3, v4, v5, v6, v7, ps, rfl, s1, hfl, hP⟩
    refine ⟨_, rfl, fin f H1 s1 hf ⟨ps, hfl, ?_⟩⟩
    have h4 : (g.ks.map linkV).length = 4 := by rw [List.length_map, paired_len hM.lk, hM.four]
    rw [h4, ← telling_eq] at hP
    exact paired_mono (fun _ _ h => MsgX.at_ h) hP
end
end Nr
namespace Nr
open PySem PySem.Spec PyProof.Rows L2
/-- the machine's own fields change -/
theorem MachAt.ob_upd {a : Ad} {H : Hp} {m dx : Addr} {g : Gh} {s s' : Ra54.St} (h : MachAt a H m g s) (hm : H m = some (.ins a.c_Machine dx (machF g s))) (h1 : s'.links = s.links) (h2 : s'.routes = s.routes) : MachAt a (upd H m (.ins a.c_Machine dx (machF g s'))) m g s' := by
  have kk : ∀ {b : Addr} {u : HO}, H b = some u → (u ≠ .ins a.c_Machine dx (machF g s)) → (upd H m (.ins a.c_Machine dx (machF g s'))) b = some u := fun hb h1 => by
    rw [upd_ne (ne_of hb hm h1)]
    exact hb
  have fl : ∀ {C dx' : Addr} {fs : List (Str × V)}, fs.length ≠ 5 → HO.ins C dx' fs ≠ .ins a.c_Machine dx (machF g s) := fun h z => by
    injection z with _ _ z
    exact h (by rw [z]; rfl)
  obtain ⟨dxt, ht⟩ := h.tbl
  refine ⟨⟨dx, upd_same⟩, kk h.links (fun z => (by cases z)), ?_, by rw [h1]; exact h.four, fun ln hl => h.lok ln (by rw [← h1]; exact hl), ⟨dxt, kk ht (fl (by show 1 ≠ 5; decide))⟩, ?_⟩
  · rw [h1]
    exact paired_mono (fun _ _ q => linkO_keep (fun p ln ⟨dx', hl⟩ => ⟨dx', kk hl (fl (by show 2 ≠ 5; decide))⟩) q) h.lk
  · rw [h2]
    exact ⟨kk h.tab.dict (fun z => (by cases z)), ⟨fun e he => (by
      obtain ⟨dx', q⟩ := h.tab.rt.at_ e he
      exact ⟨dx', kk q (fl (by show 7 ≠ 5; decide))⟩), h.tab.rt.nd⟩, h.tab.ps, h.tab.ok⟩
theorem Fr.ob {H : Hp} {m : Addr} {g : Gh} {o : HO} : Fr H (upd H m o) (foot m g) (foot m g) := by
  refine ⟨fun b u q n => ?_, fun b hb => .inl hb⟩
  rw [upd_ne fun z => n (by rw [z]; exact List.mem_cons_self ..)]
  exact q
theorem SentAt.keep {H H' : Hp} {f : Addr} {ms : List (Nat × List UInt8)} (h : SentAt H f ms) (h1 : ∀ b xs, H b = some (.lst xs) → H' b = some (.lst xs)) (h2 : ∀ b xs, H b = some (.tup xs) → H' b = some (.tup xs)) : SentAt H' f ms := by
  obtain ⟨ps, h3, h4⟩ := h
  exact ⟨ps, h1 _ _ h3, paired_mono (fun _ _ ⟨b, q1, q2⟩ => ⟨b, h2 _ _ q1, h1 _ _ q2⟩) h4⟩
theorem nets_dp {K : PySem.W.Frag} {H : Hp} : ∀ {ts : List Addr} {rs : List Rt}, NetsAt H ts rs → DpAll K H (ts.map V.ref) (rs.map fun r => netD r.net r.bits)
  | _, _, .nil => .nil
  | _, _, .cons h t => .cons (netD_at h) (nets_dp t)
theorem nets_lay : ∀ rs : List Rt, PyData.canLayAll0 (rs.map fun r => netD r.net r.bits) = true ∧ PyData.depthAll (rs.map fun r => netD r.net r.bits) ≤ 1
  | [] => ⟨rfl, Nat.zero_le _⟩
  | r :: rs => by
    have ih := nets_lay rs
    refine ⟨?_, ?_⟩
    · show (PyData.canLay0 (netD r.net r.bits) && PyData.canLayAll0 (rs.map fun r => netD r.net r.bits)) = true
      rw [ih.1]
      rfl
    · show max (PyData.depth (netD r.net r.bits)) (PyData.depthAll (rs.map fun r => netD r.net r.bits)) ≤ 1
      exact Nat.max_le.mpr ⟨Nat.le_refl 1, ih.2⟩
theorem nets_shaped (rs : List Rt) : SeqAt.shaped (.list (rs.map fun r => netD r.net r.bits)) = true := by
  have h := nets_lay rs
  unfold SeqAt.shaped
  rw [Bool.and_eq_true]
  refine ⟨h.1, decide_eq_true ?_⟩
  show PyData.depthAll (rs.map fun r => netD r.net r.bits) + 1 ≤ 64
  omega
section
variable {P : Program} {w : World} {K : PySem.W.Frag} {mg : Str → Option Value} {base : Heap} {a : Ad}
def sp_tick (K : PySem.W.Frag) (a : Ad) : Sp := fun vs H Q _ => ∃ (m : Addr) (now : Nat) (g : Gh) (s : Ra54.St), vs = [.ref m, nV now] ∧ MachAt a H m g s ∧
  ∀ g' f H', MachAt a H' m g' (tickOf s now).1 → SentAt H' f (tickOf s now).2 → Fr H H' (foot m g) (foot m g') → Q (.ref f) H'
theorem len_tick {vs : List V} {H : Hp} {Q : VK} {E : XK} (h : sp_tick K a vs H Q E) : vs.length = 2 := by
  obtain ⟨_, _, _, _, rfl, _⟩ := h
  rfl
theorem machF_len (g : Gh) (s : Ra54.St) : (machF g s).length < 1000 := by show 5 < 1000; decide
theorem machF_set_now (g : Gh) (s : Ra54.St) (n : Nat) : putF "now" (nV n) (machF g s) = machF g { s with now := n } := (put_past (by decide +kernel)).trans (congrArg _ ((put_past (by decide +kernel)).trans (congrArg _ put_here)))
theorem machF_set_all (g : Gh) (s : Ra54.St) (n : Nat) : putF "all_at" (nV n) (machF g s) = machF g { s with full := n } := (put_past (by decide +kernel)).trans (congrArg _ ((put_past (by decide +kernel)).trans (congrArg _ ((put_past (by decide +kernel)).trans (congrArg _ put_here)))))
theorem machF_set_changes (g : Gh) (s : Ra54.St) (n : Nat) : putF "changes_at" (nV n) (machF g s) = machF g { s with soon := n } := (put_past (by decide +kernel)).trans (congrArg _ ((put_past (by decide +kernel)).trans (congrArg _ ((put_past (by decide +kernel)).trans (congrArg _ ((put_past (by decide +kernel)).trans (congrArg _ put_here)))))))
/-- behind what is told: no route has changed any more -/
theorem tick_tail (T : Txt K mg a) {D : Ends} {m f : Addr} {now : Nat} {g : Gh} {s : Ra54.St} {v2 : Option V} {H : Hp} {sent : List (Nat × List UInt8)} (hM : MachAt a H m g s) (hS : SentAt H f sent)
    (fin : ∀ g' H', MachAt a H' m g' { s with routes := s.routes.map quiet, soon := now + 1000 } → SentAt H' f sent → Fr H H' (foot m g) (foot m g') → D.rt (.ref f) H') :
    tSeq (tLock (tFor (iValsT (tFld K (tFld K (tVar 0) "table") "routes")) (gName 4) (sFld K (tVar 4) (tC (.bl false)) "has_changed"))) (tSeq (sFld K (tVar 0) (tOp (rI0 fun i j => .int (i + j)) (tVar 1) (tC (.int 1000))) "changes_at") (tRet (tVar 3))) D [some (.ref m), some (nV now), v2, some (.ref f), none] H := by
  obtain ⟨dxm, hm⟩ := hM.ob
  obtain ⟨dxt, ht⟩ := hM.tbl
  have hT := hM.tab
  have nm : m ∉ g.d :: ads g.es := hT.notin hm (fun _ z => (by cases z)) (not_route (show 5 ≠ 7 by decide))
  have nt : g.t ∉ g.d :: ads g.es := hT.notin ht (fun _ z => (by cases z)) (not_route (show 1 ≠ 7 by decide))
  have nmd : m ≠ g.d := fun z => nm (by rw [z]; exact List.mem_cons_self ..)
  have ntd : g.t ≠ g.d := fun z => nt (by rw [z]; exact List.mem_cons_self ..)
  refine ⟨g.d, .dT (kvsOf g.es), hT.dict, True.intro, fun od => ?_⟩
  refine ⟨_, rfl, m, _, dxm, _, _, rfl, (by rw [upd_ne nmd]; exact hm), T.cl_Machine, T.n_Machine_table, machF_table _ _, g.t, _, dxt, _, _, rfl, (by rw [upd_ne ntd]; exact ht), T.cl_Table, T.n_Table_routes, lk_here, g.d, od, _, rfl, upd_same, ?_⟩
  refine for_all (C := a.c_Route) (es := g.es) (f := quiet) (H := H) [some (.ref m), some (nV now), v2, some (.ref f), none] 4 none upd_same (rts_upd hT.rt (fun e he => hT.ne he)) (fun b o q n => by rw [upd_ne fun z => n (by rw [z]; exact List.mem_cons_self ..)]; exact q) ?_ ?_
  · intro e dx H3 D' he ho kp yes no
    refine ⟨_, rfl, e.1, _, dx, _, rfl, ho, T.cl_Route, T.n_Route_has_changed, rF_few e.2, ?_⟩
    rw [rF_set_changed]
    exact yes
  · intro v H3 hd3 hR3 kp
    refine ⟨hd3, ?_⟩
    have ne3 := lock_ne hR3 hd3
    have kp3 : Keep H (upd H3 g.d (.dT (kvsOf g.es))) (g.d :: ads g.es) := kp.mut (List.mem_cons_self ..)
    have hT3 := hT.all quiet_kb (fun r hr => quiet_ok hr) (rts_upd hR3 ne3) upd_same
    have hM3 := hM.tab_upd kp3 hT3
    obtain ⟨dx3, hm3⟩ := hM3.ob
    have fr3 : Fr H (upd H3 g.d (.dT (kvsOf g.es))) (foot m g) (foot m { g with es := g.es.map fun e => (e.1, quiet e.2) }) := Fr.tab ⟨kp3, fun b hb => .inl (by
      rw [show ads (g.es.map fun e => (e.1, quiet e.2)) = ads g.es from map_pair] at hb
      exact hb)⟩
    have hS3 : SentAt (upd H3 g.d (.dT (kvsOf g.es))) f sent := hS.keep (fun b xs q => kp3 b _ q (hT.notin q (fun _ z => (by cases z)) (fun _ _ z => (by cases z)))) (fun b xs q => kp3 b _ q (hT.notin q (fun _ z => (by cases z)) (fun _ _ z => (by cases z))))
    refine ⟨_, rfl, _, _, rfl, rfl, _, rfl, m, _, dx3, _, rfl, hm3, T.cl_Machine, T.n_Machine_changes_at, machF_len _ _, ?_⟩
    have e1 : putF "changes_at" (V.int ((now : Int) + 1000)) (machF { g with es := g.es.map fun e => (e.1, quiet e.2) } { s with routes := s.routes.map quiet }) = machF { g with es := g.es.map fun e => (e.1, quiet e.2) } { s with routes := s.routes.map quiet, soon := now + 1000 } := machF_set_changes _ _ (now + 1000)
    rw [e1]
    refine ⟨_, rfl, fin _ _ (hM3.ob_upd (s' := { s with routes := s.routes.map quiet, soon := now + 1000 }) hm3 rfl rfl) ?_ (Fr.trans fr3 Fr.ob)⟩
    exact hS3.keep (fun b xs q => by rw [upd_ne (ne_of q hm3 (fun z => by cases z))]; exact q) (fun b xs q => by rw [upd_ne (ne_of q hm3 (fun z => by cases z))]; exact q)
theorem ok_tick (T : Txt K mg a) : FnOk P w K mg base CX0 5 a.f_tick a.d_tick ["machine", "now"] (sp_tick K a) := by
  have G_forget := ok_forget (P := P) (w := w) (base := base) T
  have G_changed_networks := ok_changed_networks (P := P) (w := w) (base := base) T
  have G_tell := ok_tell (P := P) (w := w) (base := base) T
  have G_Table_in_order := ok_Table_in_order (P := P) (w := w) (base := base) T
  refine T.F_tick.ok sc_tick (fun vs H Q E h => len_tick h) (fun cdv A outer s H vs Q E hr h => ?_)
  have r1 : Room 1 _ := hr.mono (by decide)
  have r2 : Room 2 _ := hr.mono (by decide)
  have r4 : Room 4 _ := hr.mono (by decide)
  refine ⟨_, (pss_cons (ps_fld (pv 0) (pv 1) rfl)
      (pss_cons (ps_expr (pe_call G_forget r2 rfl T.g_forget T.F_forget.kp (b_forget T) .nil pass0 (pa_cons (pe_fld (pv 0) rfl) (pa_cons (pv 1) pa_nil))))
      (pss_cons (ps_set (i := 2) sc_tick.nd rfl (by first | exact Or.inl rfl | exact Or.inr rfl) (pe_call G_changed_networks r2 rfl T.g_changed_networks T.F_changed_networks.kp (b_changed_networks T) .nil pass0 (pa_cons (pv 0) pa_nil)))
      (pss_cons (ps_if (pt_cmpR op_ge (pv 1) (pe_fld (pv 0) rfl) (nomark _))
        (pss_cons (ps_set (i := 3) sc_tick.nd rfl (by first | exact Or.inl rfl | exact Or.inr rfl) (pe_call G_tell r4 rfl T.g_tell T.F_tell.kp (b_tell T) .nil pass0 (pa_cons (pv 0) (pa_cons (pe_meth0 (pe_fld (pv 0) rfl) T.cl_Table T.M_Table_in_order G_Table_in_order r1 (b_Table_in_order T) .nil pass0) pa_nil))))
        (pss_one (ps_fld (pv 0) (pe_op op_add (pv 1) (pe_glob rfl T.k_ALL_EACH rel_int)) rfl)))
        (pss_one (ps_if (PW.pt (pw_and (pt_cmpR op_ge (pv 1) (pe_fld (pv 0) rfl) (nomark _)) (pw_and1 (pt_cmpR (op_neD hr.units) (pv 2) (pe_lst pa_nil) (nomark _)))))
          (pss_one (ps_set (i := 3) sc_tick.nd rfl (by first | exact Or.inl rfl | exact Or.inr rfl) (pe_call G_tell r4 rfl T.g_tell T.F_tell.kp (b_tell T) .nil pass0 (pa_cons (pv 0) (pa_cons (pv 2) pa_nil)))))
          (pss_one (ps_ret (pe_lst pa_nil))))))
      (pss_cons (ps_lock (ps_for PassesOwn.never rfl (pi_valuesT (pe_fld (pe_fld (pv 0) rfl) rfl)) (pg_name (i := 4) sc_tick.nd rfl (by first | exact Or.inl rfl | exact Or.inr rfl))
        (pss_one (ps_fld (pv 4) pe_bl rfl))))
      (pss_cons (ps_fld (pv 0) (pe_op op_add (pv 1) (pe_glob rfl T.k_CHANGES_EACH rel_int)) rfl)
      (pss_one (ps_ret (pv 3))))))))), ?_⟩
  obtain ⟨m, now, g, s', rfl, hM, fin⟩ := h
  obtain ⟨dxm, hm⟩ := hM.ob
  refine ⟨_, rfl, _, rfl, m, _, dxm, _, rfl, hm, T.cl_Machine, T.n_Machine_now, machF_len _ _, ?_⟩
  rw [machF_set_now]
  have hM1 := hM.ob_upd (s' := { s' with now := now }) hm rfl rfl
  have fr1 : Fr H (upd H m (.ins a.c_Machine dxm (machF g { s' with now := now }))) (foot m g) (foot m g) := Fr.ob
  generalize hH1 : upd H m (.ins a.c_Machine dxm (machF g { s' with now := now })) = H1 at hM1 fr1
  obtain ⟨dxm1, hm1⟩ := hM1.ob
  refine ⟨_, rfl, m, _, dxm1, _, _, rfl, hm1, T.cl_Machine, T.n_Machine_table, machF_table _ _, _, rfl, g.t, g.d, now, g.es, s'.routes, rfl, hM1.tbl, hM1.tab, fun es2 H2 hT2 fr2 => ?_⟩
  have hM2 := hM1.tab_upd fr2.keep hT2
  have fr12 := Fr.trans fr1 (Fr.tab fr2)
  -- the table is aged
  generalize hg2 : ({ g with es := es2 } : Gh) = g2 at hM2 fr12
  refine ⟨_, rfl, m, g2, _, rfl, hM2, fun l ts H3 s3 hl hl3 hN3 => ?_⟩
  have hM3 := hM2.same s3
  have fr3 := Fr.trans fr12 (Fr.of_same s3 _)
  obtain ⟨dxm3, hm3⟩ := hM3.ob
  obtain ⟨dxt3, ht3⟩ := hM3.tbl
  refine ⟨_, rfl, _, rfl, m, _, dxm3, _, _, rfl, hm3, T.cl_Machine, T.n_Machine_all_at, machF_all_at _ _, _, _, rfl, rfl, _, rfl, ?_⟩
  by_cases c1 : s'.full ≤ now
  · refine if_true_of (decide_eq_true (by show (s'.full : Int) ≤ (now : Int); omega)) ?_
    refine ⟨_, rfl, _, rfl, m, _, dxm3, _, _, rfl, hm3, T.cl_Machine, T.n_Machine_table, machF_table _ _, g2.t, dxt3, _, rfl, ht3, (lk_past (by decide +kernel)).trans rfl, g2.t, g2.d, g2.es, _, rfl, ⟨dxt3, ht3⟩, hM3.tab.dict, hM3.tab.ps, fun l4 ts4 H4 s4 hl4 hl44 hN4 => ?_⟩
    have hM4 := hM3.same s4
    refine ⟨m, l4, g2, _, ts4, Ra54.aged now s'.routes, rfl, hM4, hl44, hN4, fun r hr => hr, hM4.tab.ok.few, fun f H5 s5 hf hS5 => ?_⟩
    have hM5 := hM4.same s5
    have fr5 := Fr.trans fr3 (Fr.of_same (s4.trans s5) _)
    obtain ⟨dxm5, hm5⟩ := hM5.ob
    refine ⟨_, rfl, _, _, rfl, rfl, _, rfl, m, _, dxm5, _, rfl, hm5, T.cl_Machine, T.n_Machine_all_at, machF_len _ _, ?_⟩
    have e1 := machF_set_all g2 { s' with now := now, routes := Ra54.aged now s'.routes } (now + 30000)
    have e1' : putF "all_at" (V.int ((now : Int) + 30000)) (machF g2 { s' with now := now, routes := Ra54.aged now s'.routes }) = machF g2 { s' with now := now, routes := Ra54.aged now s'.routes, full := now + 30000 } := e1
    rw [e1']
    have hM6 := hM5.ob_upd (s' := { s' with now := now, routes := Ra54.aged now s'.routes, full := now + 30000 }) hm5 rfl rfl
    refine tick_tail T hM6 (sent := Ra54.telling { s' with now := now, routes := Ra54.aged now s'.routes } (Ra54.aged now s'.routes)) ?_ fun g' H' hM' hS' fr' => ?_
    · exact hS5.keep (fun b xs q => by rw [upd_ne (ne_of q hm5 (fun z => by cases z))]; exact q) (fun b xs q => by rw [upd_ne (ne_of q hm5 (fun z => by cases z))]; exact q)
    · have et : tickOf s' now = ({ s' with now := now, routes := (Ra54.aged now s'.routes).map quiet, full := now + 30000, soon := now + 1000 }, Ra54.telling { s' with now := now, routes := Ra54.aged now s'.routes } (Ra54.aged now s'.routes)) := by
        unfold tickOf
        simp only
        rw [if_pos c1]
      refine fin g' f H' ?_ ?_ (Fr.trans (Fr.trans fr5 Fr.ob) fr')
      · rw [et]; exact hM'
      · rw [et]; exact hS'
  refine if_false_of (decide_eq_false (by show ¬ (s'.full : Int) ≤ (now : Int); omega)) ?_
  refine ⟨_, rfl, _, rfl, m, _, dxm3, _, _, rfl, hm3, T.cl_Machine, T.n_Machine_changes_at, machF_changes_at _ _, _, _, rfl, rfl, _, rfl, ?_⟩
  have none_ : ¬ (s'.soon ≤ now ∧ ((Ra54.aged now s'.routes).any fun r => r.changed) = true) → ∀ (H6 : Hp), Same H3 H6 → ([] : List V).length ≤ sizeLine ∧ ∀ p, H6 p = none → Q (.ref p) (upd H6 p (.lst [])) := fun c H6 s6 => by
    refine ⟨sz (by show 0 ≤ _; omega), fun p hp => ?_⟩
    have et : tickOf s' now = ({ s' with now := now, routes := Ra54.aged now s'.routes }, []) := by
      unfold tickOf
      simp only
      rw [if_neg c1, if_neg c]
    have s7 := same_new (o := .lst []) s6 hp
    refine fin g2 p _ ?_ ?_ (Fr.trans fr3 (Fr.of_same s7 _))
    · rw [et]; exact hM3.same s7
    · rw [et]; exact ⟨[], upd_same, .nil⟩
  by_cases c2 : ¬ s'.soon ≤ now
  · refine if_false_of (decide_eq_false (by show ¬ (s'.soon : Int) ≤ (now : Int); omega)) ?_
    exact none_ (fun z => c2 z.1) H3 (Same.refl H3)
  have c2 := Decidable.not_not.mp c2
  refine if_true_of (decide_eq_true (by show (s'.soon : Int) ≤ (now : Int); omega)) ?_
  refine ⟨_, rfl, sz (by show 0 ≤ _; omega), fun pe hpe => ?_⟩
  have s4 : Same H3 (upd H3 pe (.lst [])) := same_new0 hpe
  refine ⟨.list (((Ra54.aged now s'.routes).filter fun r => r.changed).map fun r => netD r.net r.bits), .list [], .lst (SqL.of (s4 _ _ hl3)) (nets_dp (hN3.same s4)), .lst (SqL.of upd_same) .nil, nets_shaped _, rfl, _, rfl, ?_⟩
  cases hc : (Ra54.aged now s'.routes).filter fun r => r.changed with
  | nil =>
    refine none_ (fun z => ?_) _ s4
    exact any_filter.mp z.2 hc
  | cons r0 rt0 =>
    have c3 : ((Ra54.aged now s'.routes).any fun r => r.changed) = true := any_filter.mpr (by rw [hc]; exact List.cons_ne_nil _ _)
    have hM4 := hM3.same s4
    refine ⟨_, rfl, _, rfl, m, l, g2, _, ts, (Ra54.aged now s'.routes).filter fun r => r.changed, rfl, hM4, s4 _ _ hl3, hN3.same s4, fun r hr => (List.mem_filter.mp hr).1, Nat.le_trans (List.length_filter_le _ _) hM4.tab.ok.few, fun f H5 s5 hf hS5 => ?_⟩
    have hM5 := hM4.same s5
    have fr5 := Fr.trans fr3 (Fr.of_same (s4.trans s5) _)
    refine tick_tail T hM5 hS5 fun g' H' hM' hS' fr' => ?_
    have et : tickOf s' now = ({ s' with now := now, routes := (Ra54.aged now s'.routes).map quiet, soon := now + 1000 }, Ra54.telling { s' with now := now, routes := Ra54.aged now s'.routes } ((Ra54.aged now s'.routes).filter fun r => r.changed)) := by
      unfold tickOf
      simp only
      rw [if_neg c1, if_pos ⟨c2, c3⟩]
    refine fin g' f H' ?_ ?_ (Fr.trans fr5 fr')
    · rw [et]; exact hM'
    · rw [et]; exact hS'
end
end Nr
namespace Nr
open PySem PySem.Spec PyProof.Rows L2
section
variable {P : Program} {w : World} {K : PySem.W.Frag} {mg : Str → Option Value} {base : Heap} {a : Ad}
def sp_due (K : PySem.W.Frag) (a : Ad) : Sp := fun vs H Q _ => ∃ (m : Addr) (g : Gh) (s : Ra54.St), vs = [.ref m] ∧ MachAt a H m g s ∧ ∀ H', Same H H' → Q (nV (Ra54.dueAt s)) H'
theorem len_due {vs : List V} {H : Hp} {Q : VK} {E : XK} (h : sp_due K a vs H Q E) : vs.length = 1 := by
  obtain ⟨_, _, _, rfl, _⟩ := h
  rfl
theorem due_few (now soon : Nat) (r : Rt) : (dueOf now soon r).length ≤ 2 := by
  unfold dueOf
  rw [List.length_append]
  have h1 : (if r.changed = true then [max soon now] else []).length ≤ 1 := by split <;> simp
  have h2 : (if r.dist = Ra54.FAR then [r.gone] else if 0 < r.via then [r.good] else []).length ≤ 1 := by
    split
    · simp
    · split <;> simp
  omega
theorem dues_few (now soon : Nat) : ∀ l : List Rt, (l.flatMap (dueOf now soon)).length ≤ 2 * l.length
  | [] => Nat.le_refl _
  | r :: l => by
    rw [List.flatMap_cons, List.length_append, List.length_cons]
    have := dues_few now soon l
    have := due_few now soon r
    omega
theorem ok_due (T : Txt K mg a) : FnOk P w K mg base CX0 2 a.f_due a.d_due ["machine"] (sp_due K a) := by
  have G_Route_is_in_reach := ok_Route_is_in_reach (P := P) (w := w) (base := base) T
  refine T.F_due.ok sc_due (fun vs H Q E h => len_due h) (fun cdv A outer s H vs Q E hr h => ?_)
  have r1 : Room 1 _ := hr.mono (by decide)
  refine ⟨_, (pss_cons (ps_set (i := 1) sc_due.nd rfl (by first | exact Or.inl rfl | exact Or.inr rfl) (pe_lst (pa_cons (pe_fld (pv 0) rfl) pa_nil)))
      (pss_cons (ps_lock (ps_for PassesOwn.never rfl (pi_valuesT (pe_fld (pe_fld (pv 0) rfl) rfl)) (pg_name (i := 2) sc_due.nd rfl (by first | exact Or.inl rfl | exact Or.inr rfl))
        (pss_cons (ps_if (pt_val (pe_fld (pv 2) rfl))
          (pss_one (ps_expr (pe_bm PySem.F.plainAttrs_list PySem.F.slot_list_append PySem.F.type_list_append mt_append (pv 1) (pa_cons (pe_callB (call_max2 rfl) (by rfl) T.z_max (by decide +kernel) (pa_cons (pe_fld (pv 0) rfl) (pa_cons (pe_fld (pv 0) rfl) pa_nil))) pa_nil))))
          pss_nil)
        (pss_one (ps_if (pt_not (pt_val (pe_meth0 (pv 2) T.cl_Route T.M_Route_is_in_reach G_Route_is_in_reach r1 (b_Route_is_in_reach T) .nil pass0)))
          (pss_one (ps_expr (pe_bm PySem.F.plainAttrs_list PySem.F.slot_list_append PySem.F.type_list_append mt_append (pv 1) (pa_cons (pe_fld (pv 2) rfl) pa_nil))))
          (pss_one (ps_if (pt_cmpR op_ne (pe_fld (pv 2) rfl) pe_int (nomark _))
            (pss_one (ps_expr (pe_bm PySem.F.plainAttrs_list PySem.F.slot_list_append PySem.F.type_list_append mt_append (pv 1) (pa_cons (pe_fld (pv 2) rfl) pa_nil))))
            pss_nil)))))))
      (pss_one (ps_ret (pe_callB (cr_min rfl) (by rfl) T.z_min (by decide +kernel) (pa_cons (pv 1) pa_nil)))))), ?_⟩
  obtain ⟨m, g, s', rfl, hM, fin⟩ := h
  obtain ⟨dxm, hm⟩ := hM.ob
  obtain ⟨dxt, ht⟩ := hM.tbl
  have hT := hM.tab
  have nm : m ∉ g.d :: ads g.es := hT.notin hm (fun _ z => (by cases z)) (not_route (show 5 ≠ 7 by decide))
  have nt : g.t ∉ g.d :: ads g.es := hT.notin ht (fun _ z => (by cases z)) (not_route (show 1 ≠ 7 by decide))
  have nmd : m ≠ g.d := fun z => nm (by rw [z]; exact List.mem_cons_self ..)
  have ntd : g.t ≠ g.d := fun z => nt (by rw [z]; exact List.mem_cons_self ..)
  refine ⟨_, rfl, m, _, dxm, _, _, rfl, hm, T.cl_Machine, T.n_Machine_all_at, machF_all_at _ _, sz (by show 1 ≤ _; omega), fun f hf => ?_⟩
  have s0 : Same H (upd H f (.lst [nV s'.full])) := same_new0 hf
  have nfd : f ≠ g.d := fun z => by rw [z, hT.dict] at hf; cases hf
  refine ⟨g.d, .dT (kvsOf g.es), s0 _ _ hT.dict, True.intro, fun od => ?_⟩
  refine ⟨_, rfl, m, _, dxm, _, _, rfl, (by rw [upd_ne nmd]; exact s0 _ _ hm), T.cl_Machine, T.n_Machine_table, machF_table _ _, g.t, _, dxt, _, _, rfl, (by rw [upd_ne ntd]; exact s0 _ _ ht), T.cl_Table, T.n_Table_routes, lk_here, g.d, od, _, rfl, upd_same, ?_⟩
  refine for_it walk_valuesT (fun i σ H' => ∃ v2, σ = [some (.ref m), some (.ref f), v2] ∧ H' g.d = some (.frz od (.dT (kvsOf g.es))) ∧ SameX g.d H H' ∧ H' f = some (.lst ((s'.full :: ((rts g.es).take i).flatMap (dueOf s'.now s'.soon)).map nV))) ?_ (fun i σ H' _ ⟨_, _, h, _⟩ => h) ?_ ?_
  · exact ⟨none, rfl, upd_same, sameX_frz s0, by rw [upd_ne nfd]; exact upd_same⟩
  · rintro i x σ H3 H2 hi ⟨v2, rfl, hd, s2, hfl⟩ ⟨rfl, key, hkv⟩
    obtain ⟨e, he, rfl, rfl⟩ := kvs_get hkv
    have hm' : e ∈ g.es := List.mem_of_getElem? he
    have hil : i < g.es.length := (List.getElem?_eq_some_iff.mp he).1
    obtain ⟨dxe, ho⟩ := hT.rt.at_ e hm'
    have ned := hT.ne hm'
    have hd16 := (hT.okOf hm').dist
    have hfew := hT.few
    have hroom : ∀ {l : List Nat}, l.length ≤ 2 → ((s'.full :: ((rts g.es).take i).flatMap (dueOf s'.now s'.soon) ++ l).map nV).length < sizeLine := fun {l} hl => by
      have h1 := dues_few s'.now s'.soon ((rts g.es).take i)
      rw [List.length_take] at h1
      rw [List.length_map, List.cons_append, List.length_cons, List.length_append, sizeLine_eq]
      have : min i (rts g.es).length ≤ 256 := Nat.le_trans (Nat.min_le_left _ _) (by omega)
      omega
    have step : ((rts g.es).take (i + 1)).flatMap (dueOf s'.now s'.soon) = ((rts g.es).take i).flatMap (dueOf s'.now s'.soon) ++ dueOf s'.now s'.soon e.2 := by
      rw [take_more (rts_get he), List.flatMap_append]
      simp
    -- behind the first test
    have second : ∀ (D : Ends) (l : List Nat) (H5 : Hp), l = (if e.2.changed = true then [max s'.soon s'.now] else []) → H5 g.d = some (.frz od (.dT (kvsOf g.es))) → SameX g.d H H5 → H5 f = some (.lst ((s'.full :: ((rts g.es).take i).flatMap (dueOf s'.now s'.soon) ++ l).map nV)) →
        (∀ H', H' g.d = some (.frz od (.dT (kvsOf g.es))) → SameX g.d H H' → H' f = some (.lst ((s'.full :: ((rts g.es).take (i + 1)).flatMap (dueOf s'.now s'.soon)).map nV)) → D.nx [some (V.ref m), some (.ref f), some (.ref e.1)] H') →
        tIfS (tNot (tB (tMeth a.c_Route "is_in_reach" (sp_Route_is_in_reach K a) [] E0 (tVar 2) tNil))) (tDrop (tBM K "list" rAppend (tVar 1) (tCons (tFld K (tVar 2) "forgotten") tNil)))
          (tIfS (tTest (tOp rNe (tFld K (tVar 2) "neighbour") (tC (.int 0)))) (tDrop (tBM K "list" rAppend (tVar 1) (tCons (tFld K (tVar 2) "good") tNil))) tNext)
          D [some (.ref m), some (.ref f), some (.ref e.1)] H5 := by
      intro D l H5 hl hd5 s5 hf5 go
      have ho5 : H5 e.1 = some (.ins a.c_Route dxe (rF e.2)) := s5 _ _ ho ned
      have hl1 : l.length ≤ 2 := by
        rw [hl]
        split <;> simp
      have add : ∀ n : Nat, dueOf s'.now s'.soon e.2 = l ++ [n] → D.nx [some (V.ref m), some (.ref f), some (.ref e.1)] (upd H5 f (.lst ((s'.full :: ((rts g.es).take i).flatMap (dueOf s'.now s'.soon) ++ l).map nV ++ [nV n]))) := fun n hn => by
        refine go _ (by rw [upd_ne (Ne.symm nfd)]; exact hd5) (sameX_mut s5 hf) ?_
        rw [upd_same, step, hn, ← List.append_assoc]
        simp
      refine ⟨_, rfl, e.1, dxe, _, rfl, ho5, rF_meth1 _, e.1, e.2, rfl, ⟨dxe, ho5⟩, _, rfl, ?_⟩
      by_cases c1 : e.2.dist < 16
      · rw [decide_eq_true c1]
        have nf : ¬ e.2.dist = Ra54.FAR := Nat.ne_of_lt c1
        refine ⟨_, rfl, e.1, _, dxe, _, _, rfl, ho5, T.cl_Route, T.n_Route_neighbour, rF_neighbour e.2, rfl, _, rfl, ?_⟩
        by_cases c2 : e.2.via = 0
        · have c2' : nV e.2.via = V.int 0 := congrArg nV c2
          rw [decide_eq_true c2']
          refine go H5 hd5 s5 ?_
          have hn : dueOf s'.now s'.soon e.2 = l := by
            unfold dueOf
            rw [if_neg nf, if_neg (show ¬ 0 < e.2.via by omega), List.append_nil, hl]
          rw [step, hn]
          exact hf5
        · have c2' : ¬ nV e.2.via = V.int 0 := fun z => c2 (nV_inj.mp z)
          rw [decide_eq_false c2']
          refine ⟨_, rfl, .inl ⟨rfl, _, SqL.of hf5⟩, _, rfl, e.1, _, dxe, _, _, rfl, ho5, T.cl_Route, T.n_Route_good, rF_good e.2, f, _, _, rfl, rfl, hf5, hroom hl1, ?_⟩
          refine add e.2.good ?_
          unfold dueOf
          rw [if_neg nf, if_pos (show 0 < e.2.via by omega), hl]
      · rw [decide_eq_false c1]
        refine ⟨_, rfl, .inl ⟨rfl, _, SqL.of hf5⟩, _, rfl, e.1, _, dxe, _, _, rfl, ho5, T.cl_Route, T.n_Route_forgotten, rF_forgotten e.2, f, _, _, rfl, rfl, hf5, hroom hl1, ?_⟩
        refine add e.2.gone ?_
        unfold dueOf
        rw [if_pos (show e.2.dist = Ra54.FAR from (by show e.2.dist = 16; omega)), hl]
    have ho2 : H2 e.1 = some (.ins a.c_Route dxe (rF e.2)) := s2 _ _ ho ned
    have hm2 := s2 _ _ hm nmd
    refine ⟨_, rfl, e.1, _, dxe, _, _, rfl, ho2, T.cl_Route, T.n_Route_has_changed, rF_has_changed e.2, _, rfl, ?_⟩
    cases hc : e.2.changed with
    | true =>
      refine ⟨_, rfl, .inl ⟨rfl, _, SqL.of hfl⟩, _, rfl, m, _, dxm, _, _, rfl, hm2, T.cl_Machine, T.n_Machine_changes_at, machF_changes_at _ _, _, rfl, m, _, dxm, _, _, rfl, hm2, T.cl_Machine, T.n_Machine_now, machF_now _ _, _, _, rfl, f, _, _, rfl, rfl, hfl, ?_, ?_⟩
      · have := hroom (l := []) (by simp)
        rw [List.append_nil] at this
        exact this
      have em : V.int (if (s'.now : Int) > (s'.soon : Int) then (s'.now : Int) else (s'.soon : Int)) = nV (max s'.soon s'.now) := by
        show V.int _ = V.int _
        congr 1
        by_cases z : s'.now > s'.soon
        · rw [if_pos (by omega), Nat.max_eq_right (by omega)]
        · rw [if_neg (by omega), Nat.max_eq_left (by omega)]
      refine second _ [max s'.soon s'.now] _ (by rw [hc]; rfl) (by rw [upd_ne (Ne.symm nfd)]; exact hd) (sameX_mut s2 hf) ?_ (fun H' h1 h2 h3 => ⟨_, rfl, h1, h2, h3⟩)
      rw [upd_same, em]
      simp
    | false =>
      refine second _ [] H2 (by rw [hc]; rfl) hd s2 ?_ (fun H' h1 h2 h3 => ⟨_, rfl, h1, h2, h3⟩)
      rw [List.append_nil]
      exact hfl
  · rintro σ H2 ⟨v2, rfl, hd, s2, hfl⟩
    refine ⟨hd, ?_⟩
    have e : (kvsOf g.es).length = (rts g.es).length := by unfold kvsOf; rw [List.length_map, List.length_map]
    rw [e, List.take_length] at hfl
    have hx := dueAt_least s'
    have em : ((s'.full :: (rts g.es).flatMap (dueOf s'.now s'.soon)).map nV) = (((s'.full :: (rts g.es).flatMap (dueOf s'.now s'.soon)).map fun n : Nat => (n : Int))).map V.int := by rw [List.map_map]; rfl
    refine ⟨_, rfl, f, (s'.full :: (rts g.es).flatMap (dueOf s'.now s'.soon)).map fun n : Nat => (n : Int), rfl, SqL.of (by rw [upd_ne nfd, hfl, em]), by rw [List.length_map]; exact Nat.succ_pos _, fun x hx1 hx2 => ?_⟩
    obtain ⟨n, hn, rfl⟩ := List.mem_map.mp hx1
    have hl : IsLeast (s'.full :: (rts g.es).flatMap (dueOf s'.now s'.soon)) n := ⟨hn, fun y hy => (by
      have := hx2 (y : Int) (List.mem_map.mpr ⟨y, hy, rfl⟩)
      omega)⟩
    have en : n = Ra54.dueAt s' := isLeast_uniq (fun y => by
      rw [List.mem_cons, List.mem_cons, List.mem_flatMap, List.mem_flatMap]
      constructor
      · rintro (z | ⟨r, hr, z⟩)
        · exact .inl z
        · exact .inr ⟨r, hT.ps.mem.mp hr, z⟩
      · rintro (z | ⟨r, hr, z⟩)
        · exact .inl z
        · exact .inr ⟨r, hT.ps.mem.mpr hr, z⟩) hl hx
    rw [en]
    exact fin _ (sameX_off hT.dict s2)
end
end Nr
namespace Nr
open PySem PySem.Spec PyProof.Rows L2
def BoxAt (C : Addr) (H : Hp) (b : Addr) (mv : V) : Prop := ∃ dx, H b = some (.ins C dx [("machine", mv)])
def tapeF (nl : Addr) (at_ : Nat) : List (Str × V) := [("numbers", .ref nl), ("at", nV at_)]
theorem tapeF_numbers (nl : Addr) (n : Nat) : (tapeF nl n).lookup ("numbers" : Str) = some (.ref nl) := lk_here
theorem tapeF_at (nl : Addr) (n : Nat) : (tapeF nl n).lookup ("at" : Str) = some (nV n) := (lk_past (by decide +kernel)).trans lk_here
theorem tapeF_set (nl : Addr) (n k : Nat) : putF "at" (nV k) (tapeF nl n) = tapeF nl k := (put_past (by decide +kernel)).trans (congrArg _ put_here)
structure TapeAt (C : Addr) (H : Hp) (t nl : Addr) (at_ : Nat) (zs : List Int) : Prop where
  ob : ∃ dx, H t = some (.ins C dx (tapeF nl at_))
  ns : H nl = some (.lst (zs.map V.int))
theorem cut_take (xs : List V) (i n : Nat) (h : i + n ≤ xs.length) : cutV xs (some ((i : Nat) : Int)) (some ((i + n : Nat) : Int)) = (xs.drop i).take n := by
  unfold cutV
  rw [HT.sIx_nat, HT.sIx_nat, Nat.min_eq_left h, Nat.min_eq_left (show i ≤ xs.length by omega), show i + n - i = n from by omega]
section
variable {P : Program} {w : World} {K : PySem.W.Frag} {mg : Str → Option Value} {base : Heap} {a : Ad}
def sp_Box_init (K : PySem.W.Frag) (a : Ad) : Sp := fun vs H Q _ => ∃ (p dx : Addr), vs = [.ref p] ∧ H p = some (.ins a.c_Box dx []) ∧ Q .non (upd H p (.ins a.c_Box dx [("machine", .non)]))
theorem len_Box_init {vs : List V} {H : Hp} {Q : VK} {E : XK} (h : sp_Box_init K a vs H Q E) : vs.length = 1 := by
  obtain ⟨_, _, rfl, _⟩ := h
  rfl
theorem ok_Box_init (T : Txt K mg a) : FnOk P w K mg base CX0 1 a.f_Box_init a.d_Box_init ["self"] (sp_Box_init K a) := by
  refine T.F_Box_init.ok sc_Box_init (fun vs H Q E h => len_Box_init h) (fun cdv A outer s H vs Q E hr h => ?_)
  refine ⟨_, (pss_one (ps_fld (pv 0) pe_non rfl)), ?_⟩
  obtain ⟨p, dx, rfl, hp, q⟩ := h
  exact ⟨_, rfl, p, _, dx, [], rfl, hp, T.cl_Box, T.n_Box_machine, by decide, q⟩
def sp_Tape_init (K : PySem.W.Frag) (a : Ad) : Sp := fun vs H Q _ => ∃ (p dx c : Addr) (zs : List Int), vs = [.ref p, .ref c] ∧ H p = some (.ins a.c_Tape dx []) ∧ SqL K H c (zs.map V.int) ∧ ∀ nl, H nl = none → Q .non (upd (upd H nl (.lst (zs.map V.int))) p (.ins a.c_Tape dx (tapeF nl 0)))
theorem len_Tape_init {vs : List V} {H : Hp} {Q : VK} {E : XK} (h : sp_Tape_init K a vs H Q E) : vs.length = 2 := by
  obtain ⟨_, _, _, _, rfl, _⟩ := h
  rfl
theorem ok_Tape_init (T : Txt K mg a) : FnOk P w K mg base CX0 1 a.f_Tape_init a.d_Tape_init ["self", "numbers"] (sp_Tape_init K a) := by
  refine T.F_Tape_init.ok sc_Tape_init (fun vs H Q E h => len_Tape_init h) (fun cdv A outer s H vs Q E hr h => ?_)
  refine ⟨_, (pss_cons (ps_fld (pv 0) (pe_callTy call_list_of (by rfl) T.z_list (by decide +kernel) (pa_cons (pv 1) pa_nil)) rfl)
      (pss_one (ps_fld (pv 0) pe_int rfl))), ?_⟩
  obtain ⟨p, dx, c, zs, rfl, hp, hc, q⟩ := h
  refine ⟨_, rfl, c, _, rfl, .inl hc, fun nl hnl => ?_⟩
  refine ⟨_, rfl, p, _, dx, [], rfl, (by rw [upd_ne (ne_of_none hp hnl)]; exact hp), T.cl_Tape, T.n_Tape_numbers, by decide, ?_⟩
  refine ⟨_, rfl, p, _, dx, _, rfl, upd_same, T.cl_Tape, T.n_Tape_at, few 1 (few_put few0), ?_⟩
  rw [upd_upd]
  exact q nl hnl
def sp_Tape_is_done (K : PySem.W.Frag) (a : Ad) : Sp := fun vs H Q _ => ∃ (t nl : Addr) (i : Nat) (zs : List Int), vs = [.ref t] ∧ TapeAt a.c_Tape H t nl i zs ∧ Q (.bl (decide (zs.length ≤ i))) H
theorem len_Tape_is_done {vs : List V} {H : Hp} {Q : VK} {E : XK} (h : sp_Tape_is_done K a vs H Q E) : vs.length = 1 := by
  obtain ⟨_, _, _, _, rfl, _⟩ := h
  rfl
theorem dec_le_cast {i j : Nat} : decide ((i : Int) ≤ (j : Int)) = decide (i ≤ j) := by
  by_cases h : i ≤ j
  · rw [decide_eq_true h, decide_eq_true (Int.ofNat_le.mpr h)]
  · rw [decide_eq_false h, decide_eq_false (fun z => h (Int.ofNat_le.mp z))]
theorem ok_Tape_is_done (T : Txt K mg a) : FnOk P w K mg base CX0 1 a.f_Tape_is_done a.d_Tape_is_done ["self"] (sp_Tape_is_done K a) := by
  refine T.F_Tape_is_done.ok sc_Tape_is_done (fun vs H Q E h => len_Tape_is_done h) (fun cdv A outer s H vs Q E hr h => ?_)
  refine ⟨_, (pss_one (ps_ret (pe_cmpR op_ge (pe_fld (pv 0) rfl) (pe_callB call_len_seq (by rfl) T.z_len PySem.boot_len (by exact (pa_cons (pe_fld (pv 0) rfl) pa_nil))) (nomark _)))), ?_⟩
  obtain ⟨t, nl, i, zs, rfl, ⟨⟨dx, ht⟩, hn⟩, q⟩ := h
  refine ⟨_, rfl, t, _, dx, _, _, rfl, ht, T.cl_Tape, T.n_Tape_at, tapeF_at nl i, _, rfl, t, _, dx, _, _, rfl, ht, T.cl_Tape, T.n_Tape_numbers, tapeF_numbers nl i, nl, _, rfl, .inl (SqL.of hn), _, _, rfl, rfl, ?_⟩
  show Q (.bl (decide ((((zs.map V.int).length : Nat) : Int) ≤ (i : Int)))) H
  rw [dec_le_cast, List.length_map]
  exact q
def sp_Tape_take_many (K : PySem.W.Frag) (a : Ad) : Sp := fun vs H Q _ => ∃ (t nl : Addr) (i n : Nat) (zs : List Int), vs = [.ref t, nV n] ∧ TapeAt a.c_Tape H t nl i zs ∧ i + n ≤ zs.length ∧
  ∀ p H', Keep H H' [t] → H p = none → TapeAt a.c_Tape H' t nl (i + n) zs → H' p = some (.lst (((zs.drop i).take n).map V.int)) → Q (.ref p) H'
theorem len_Tape_take_many {vs : List V} {H : Hp} {Q : VK} {E : XK} (h : sp_Tape_take_many K a vs H Q E) : vs.length = 2 := by
  obtain ⟨_, _, _, _, _, rfl, _⟩ := h
  rfl
theorem ok_Tape_take_many (T : Txt K mg a) : FnOk P w K mg base CX0 1 a.f_Tape_take_many a.d_Tape_take_many ["self", "many"] (sp_Tape_take_many K a) := by
  refine T.F_Tape_take_many.ok sc_Tape_take_many (fun vs H Q E h => len_Tape_take_many h) (fun cdv A outer s H vs Q E hr h => ?_)
  refine ⟨_, (pss_cons (ps_fldaug (pv 0) (pv 1) in_add)
      (pss_one (ps_ret (pe_slice sl_list (pe_fld (pv 0) rfl) (po_some (pe_op op_sub (pe_fld (pv 0) rfl) (pv 1))) (po_some (pe_fld (pv 0) rfl)))))), ?_⟩
  obtain ⟨t, nl, i, n, zs, rfl, ⟨⟨dx, ht⟩, hn⟩, hl, q⟩ := h
  refine ⟨_, rfl, t, _, dx, _, _, rfl, ht, T.cl_Tape, T.n_Tape_at, tapeF_at nl i, _, rfl, _, _, rfl, rfl, dx, _, ht, (by show 2 < 1000; decide), ?_⟩
  have e1 : putF "at" (V.int ((i : Int) + (n : Int))) (tapeF nl i) = tapeF nl (i + n) := tapeF_set nl i (i + n)
  rw [e1]
  have ntn : nl ≠ t := fun z => by rw [z, ht] at hn; cases hn
  have ht1 : (upd H t (.ins a.c_Tape dx (tapeF nl (i + n)))) t = some (.ins a.c_Tape dx (tapeF nl (i + n))) := upd_same
  have hn1 : (upd H t (.ins a.c_Tape dx (tapeF nl (i + n)))) nl = some (.lst (zs.map V.int)) := by rw [upd_ne ntn]; exact hn
  refine ⟨_, rfl, t, _, dx, _, _, rfl, ht1, T.cl_Tape, T.n_Tape_numbers, tapeF_numbers _ _, ?_⟩
  refine ⟨_, rfl, t, _, dx, _, _, rfl, ht1, T.cl_Tape, T.n_Tape_at, tapeF_at _ _, _, rfl, _, _, rfl, rfl, ((i : Nat) : Int), ?_, ?_⟩
  · show V.int _ = V.int _
    congr 1
    omega
  refine ⟨_, rfl, t, _, dx, _, _, rfl, ht1, T.cl_Tape, T.n_Tape_at, tapeF_at _ _, ((i + n : Nat) : Int), rfl, nl, _, rfl, SqL.of hn1, fun p hp => ?_⟩
  have hpH : H p = none := by
    by_cases z : p = t
    · rw [z, upd_same] at hp; cases hp
    · rw [upd_ne z] at hp; exact hp
  rw [cut_take _ _ _ (by rw [List.length_map]; exact hl), ← List.map_drop, ← List.map_take]
  refine q p _ (fun b o q' nb => ?_) hpH ⟨⟨dx, by rw [upd_ne (ne_of_none ht1 hp)]; exact ht1⟩, by rw [upd_ne (ne_of_none hn1 hp)]; exact hn1⟩ upd_same
  have nbt : b ≠ t := fun z => nb (by rw [z]; exact List.mem_cons_self ..)
  rw [upd_ne (ne_of_none q' hpH), upd_ne nbt]
  exact q'
def sp_Tape_take_row (K : PySem.W.Frag) (a : Ad) : Sp := fun vs H Q _ => ∃ (t nl : Addr) (i n : Nat) (zs : List Int), vs = [.ref t] ∧ TapeAt a.c_Tape H t nl i zs ∧ zs[i]? = some (n : Int) ∧ i + 1 + n ≤ zs.length ∧
  ∀ p H', Keep H H' [t] → H p = none → TapeAt a.c_Tape H' t nl (i + 1 + n) zs → H' p = some (.lst (((zs.drop (i + 1)).take n).map V.int)) → Q (.ref p) H'
theorem len_Tape_take_row {vs : List V} {H : Hp} {Q : VK} {E : XK} (h : sp_Tape_take_row K a vs H Q E) : vs.length = 1 := by
  obtain ⟨_, _, _, _, _, rfl, _⟩ := h
  rfl
theorem tape_meth {nl : Addr} {i : Nat} : (tapeF nl i).lookup ("take_many" : Str) = none := (lk_past (by decide +kernel)).trans ((lk_past (by decide +kernel)).trans rfl)
theorem tape_meth2 {nl : Addr} {i : Nat} : (tapeF nl i).lookup ("take_row" : Str) = none := (lk_past (by decide +kernel)).trans ((lk_past (by decide +kernel)).trans rfl)
theorem tape_meth3 {nl : Addr} {i : Nat} : (tapeF nl i).lookup ("is_done" : Str) = none := (lk_past (by decide +kernel)).trans ((lk_past (by decide +kernel)).trans rfl)
theorem drop_one {zs : List Int} {i : Nat} {z : Int} (h : zs[i]? = some z) : (zs.drop i).take 1 = [z] := by
  have hi := (List.getElem?_eq_some_iff.mp h).1
  rw [List.drop_eq_getElem_cons hi, (List.getElem?_eq_some_iff.mp h).2]
  rfl
theorem Keep.trans {H H1 H2 : Hp} {F : List Addr} (x : Keep H H1 F) (y : Keep H1 H2 F) : Keep H H2 F := fun b o q n => y b o (x b o q n) n
theorem Keep.fresh {H H1 : Hp} {F : List Addr} (x : Keep H H1 F) {p : Addr} (h : H1 p = none) (n : p ∉ F) : H p = none := by
  cases q : H p with
  | none => rfl
  | some o => rw [x p o q n] at h; cases h
theorem ok_Tape_take_row (T : Txt K mg a) : FnOk P w K mg base CX0 2 a.f_Tape_take_row a.d_Tape_take_row ["self"] (sp_Tape_take_row K a) := by
  have G_Tape_take_many := ok_Tape_take_many (P := P) (w := w) (base := base) T
  refine T.F_Tape_take_row.ok sc_Tape_take_row (fun vs H Q E h => len_Tape_take_row h) (fun cdv A outer s H vs Q E hr h => ?_)
  have r1 : Room 1 _ := hr.mono (by decide)
  refine ⟨_, (pss_one (ps_ret (pe_meth (pv 0) T.cl_Tape T.M_Tape_take_many G_Tape_take_many r1 (b_Tape_take_many T) .nil pass0 (pa_cons (pe_ix ix_list (pe_meth (pv 0) T.cl_Tape T.M_Tape_take_many G_Tape_take_many r1 (b_Tape_take_many T) .nil pass0 (pa_cons pe_int pa_nil)) pe_int (fun _ _ => rfl)) pa_nil)))), ?_⟩
  obtain ⟨t, nl, i, n, zs, rfl, hT, hz, hl, q⟩ := h
  obtain ⟨dx, ht⟩ := hT.ob
  refine ⟨_, rfl, t, dx, _, rfl, ht, tape_meth, _, rfl, t, dx, _, rfl, ht, tape_meth, t, nl, i, 1, zs, rfl, hT, by omega, fun p1 H1 k1 hp1 hT1 hv1 => ?_⟩
  rw [drop_one hz] at hv1
  refine ⟨p1, _, ((0 : Nat) : Int), V.int n, rfl, rfl, SqL.of hv1, atI_nat rfl, t, nl, i + 1, n, zs, rfl, hT1, hl, fun p2 H2 k2 hp2 hT2 hv2 => ?_⟩
  refine q p2 H2 (k1.trans k2) (k1.fresh hp2 fun z => ?_) hT2 hv2
  obtain ⟨dx1, ht1⟩ := hT1.ob
  rw [List.mem_singleton.mp z, ht1] at hp2
  cases hp2
/-! ### refusals -/
def refF (z : Int) : List (Str × V) := [("number", .int z)]
/-- a refusal by its number -/
def RefE (a : Ad) (H : Hp) (z : Int) (E : XK) : Prop := ∀ d H', Same H H' → H d = none → H' d = some (.xd [(("number" : Str), .int z)]) → E (.ref a.c_Refused) (some d) H'
theorem RefE.same {a : Ad} {H H1 : Hp} {z : Int} {E : XK} (h : RefE a H z E) (s : Same H H1) : RefE a H1 z E := fun d H' s' hd hx => h d H' (s.trans s') (fresh_back s hd) hx
def sp_ask (K : PySem.W.Frag) (a : Ad) : Sp := fun vs H Q E => ∃ (b : Bool) (z : Int), vs = [.bl b, .int z] ∧ (b = true → Q .non H) ∧ (b = false → RefE a H z E)
theorem len_ask {vs : List V} {H : Hp} {Q : VK} {E : XK} (h : sp_ask K a vs H Q E) : vs.length = 2 := by
  obtain ⟨_, _, rfl, _⟩ := h
  rfl
theorem ok_ask (T : Txt K mg a) : FnOk P w K mg base (L2.CX P w) 3 a.f_ask a.d_ask ["is_good", "number"] (sp_ask K a) := by
  refine T.F_ask.okX sc_ask (fun vs H Q E h => len_ask h) (fun cdv A outer s H vs Q E hr h => ?_)
  refine ⟨_, (pss_one (ps_if (pt_not (pt_val (pv 0)))
        (pss_one (ps_raiseLow rfl T.low hr (takes_of rfl rfl rfl rfl) (by exact (pa_cons (pv 1) pa_nil))))
        pss_nil)), ?_⟩
  obtain ⟨b, z, rfl, qt, qf⟩ := h
  refine ⟨_, rfl, _, rfl, ?_⟩
  cases b with
  | true => exact qt rfl
  | false =>
    refine ⟨_, rfl, _, rfl, fun d hd => ?_⟩
    exact qf rfl d _ (same_new0 hd) hd upd_same
theorem ask_no {a : Ad} {b : Bool} {H : Hp} {z : Int} {Q : VK} {E : XK} (hb : b = false) (h : RefE a H z E) : sp_ask K a ([.bl b, .int z] ++ []) H Q E := ⟨b, z, rfl, fun q => (by rw [hb] at q; cases q), fun _ => h⟩
theorem ask_yes {a : Ad} {b : Bool} {H : Hp} {z : Int} {Q : VK} {E : XK} (hb : b = true) (h : Q .non H) : sp_ask K a ([.bl b, .int z] ++ []) H Q E := ⟨b, z, rfl, fun _ => h, fun q => (by rw [hb] at q; cases q)⟩
/-- a machine does not hang on a box -/
theorem MachAt.box {a : Ad} {H : Hp} {m b dx : Addr} {mv : V} {g : Gh} {s : Ra54.St} {o : HO} (h : MachAt a H m g s) (hb : H b = some (.ins a.c_Box dx [("machine", mv)])) : MachAt a (upd H b o) m g s := by
  have kk : ∀ {x : Addr} {u : HO}, H x = some u → (u ≠ .ins a.c_Box dx [("machine", mv)]) → (upd H b o) x = some u := fun hx h1 => by
    rw [upd_ne (ne_of hx hb h1)]
    exact hx
  have fl : ∀ {C dx' : Addr} {fs : List (Str × V)}, fs.length ≠ 1 → HO.ins C dx' fs ≠ .ins a.c_Box dx [("machine", mv)] := fun h z => by
    injection z with _ _ z
    exact h (by rw [z]; rfl)
  obtain ⟨dxm, hm⟩ := h.ob
  obtain ⟨dxt, ht⟩ := h.tbl
  refine ⟨⟨dxm, kk hm (fl (by show 5 ≠ 1; decide))⟩, kk h.links (fun z => (by cases z)), ?_, h.four, h.lok, ⟨dxt, kk ht fun z => ?_⟩, ⟨kk h.tab.dict (fun z => (by cases z)), ⟨fun e he => (by
      obtain ⟨dx', q⟩ := h.tab.rt.at_ e he
      exact ⟨dx', kk q (fl (by show 7 ≠ 1; decide))⟩), h.tab.rt.nd⟩, h.tab.ps, h.tab.ok⟩⟩
  · exact paired_mono (fun _ _ q => linkO_keep (fun p ln ⟨dx', hl⟩ => ⟨dx', kk hl (fl (by show 2 ≠ 1; decide))⟩) q) h.lk
  · injection z with _ _ z
    injection z with z _
    have e : ("routes" : Str) = "machine" := congrArg Prod.fst z
    exact absurd e (by decide +kernel)
def sp_is_address (K : PySem.W.Frag) (a : Ad) : Sp := fun vs H Q _ => ∃ n : Nat, vs = [nV n] ∧ Q (.bl (decide (0 < n) && decide (n < 4294967295))) H
theorem len_is_address {vs : List V} {H : Hp} {Q : VK} {E : XK} (h : sp_is_address K a vs H Q E) : vs.length = 1 := by
  obtain ⟨_, rfl, _⟩ := h
  rfl
theorem ok_is_address (T : Txt K mg a) : FnOk P w K mg base CX0 1 a.f_is_address a.d_is_address ["number"] (sp_is_address K a) := by
  refine T.F_is_address.ok sc_is_address (fun vs H Q E h => len_is_address h) (fun cdv A outer s H vs Q E hr h => ?_)
  refine ⟨_, (pss_one (ps_ret (pe_chain op_lt op_lt pe_int (pv 0) (pe_glob rfl T.k_MOST_ADDRESS rel_int)))), ?_⟩
  obtain ⟨n, rfl, q⟩ := h
  refine ⟨_, rfl, _, _, rfl, rfl, _, rfl, ?_⟩
  by_cases c : 0 < n
  · rw [decide_eq_true c] at q
    refine if_true_of (decide_eq_true (by omega)) ?_
    refine ⟨_, _, rfl, rfl, ?_⟩
    show Q (.bl (decide ((n : Int) < ((4294967295 : Nat) : Int)))) H
    rw [dec_cast]
    exact q
  · rw [decide_eq_false c] at q
    refine if_false_of (decide_eq_false (by omega)) ?_
    exact q
/-! ### begin -/
def sp_do_begin (K : PySem.W.Frag) (a : Ad) : Sp := fun vs H Q E => ∃ (b : Addr) (now : Nat) (mv : V), vs = [.ref b, nV now] ∧ BoxAt a.c_Box H b mv ∧
  (¬ now < 2 ^ 62 → RefE a H (-1) E) ∧
  (now < 2 ^ 62 → ∀ m g p H', MachAt a H' m g (Ra54.begun now) → BoxAt a.c_Box H' b (.ref m) → Keep H H' [b] → (∀ x ∈ foot m g, H x = none) → H p = none → H' p = some (.lst [.int 0]) → Q (.ref p) H')
theorem len_do_begin {vs : List V} {H : Hp} {Q : VK} {E : XK} (h : sp_do_begin K a vs H Q E) : vs.length = 2 := by
  obtain ⟨_, _, _, rfl, _⟩ := h
  rfl
theorem ok_do_begin (T : Txt K mg a) : FnOk P w K mg base (L2.CX P w) 5 a.f_do_begin a.d_do_begin ["box", "now"] (sp_do_begin K a) := by
  have G_ask := ok_ask (P := P) (w := w) (base := base) T
  have G_Machine_init := ok_Machine_init (P := P) (w := w) (base := base) T
  refine T.F_do_begin.okX sc_do_begin (fun vs H Q E h => len_do_begin h) (fun cdv A outer s H vs Q E hr h => ?_)
  have r3 : Room 3 _ := hr.mono (by decide)
  have r4 : Room 4 _ := hr.mono (by decide)
  refine ⟨_, (pss_cons (ps_expr (pe_call G_ask r3 rfl T.g_ask T.F_ask.kp (b_ask T) .nil (passes_call (takes_of rfl rfl rfl rfl) fun _ _ _ _ h => h) (pa_cons (pe_cmpR op_lt (pv 1) (pe_glob rfl T.k_TIME_BOUND rel_int) (nomark _)) (pa_cons (pe_glob rfl T.k_WRONG rel_int) pa_nil))))
      (pss_cons (ps_fld (pv 0) (pe_make T.m_Machine G_Machine_init r4 rfl T.g_Machine (b_Machine_init T) .nil pass0 (pa_cons (pv 1) pa_nil)) rfl)
      (pss_one (ps_ret (pe_lst (pa_cons pe_int pa_nil)))))), ?_⟩
  obtain ⟨b, now, mv, rfl, ⟨dx, hb⟩, qn, qy⟩ := h
  refine ⟨_, rfl, _, _, rfl, rfl, _, _, rfl, fun hq => ?_, fun hq => ?_⟩
  · have c : now < 2 ^ 62 := by
      have := of_decide_eq_true hq
      omega
    refine ⟨_, rfl, fun m dxm hm hdxm hne => ?_⟩
    refine ⟨m, dxm, now, rfl, upd_same, fun g H1 hM kp hnew => ⟨rfl, ?_⟩⟩
    have hbm : b ≠ m := fun z => by rw [z, hm] at hb; cases hb
    have hbd : b ≠ dxm := fun z => by rw [z, hdxm] at hb; cases hb
    have kp2 : Same H H1 := fun x o q => by
      have n1 : x ≠ m := ne_of_none q hm
      have n2 : x ≠ dxm := ne_of_none q hdxm
      exact kp x o (by rw [upd_ne n1, upd_ne n2]; exact q) n1
    have hnew2 : ∀ x ∈ foot m g, H x = none := fun x hx => by
      rcases hnew x hx with z | z
      · rw [z]; exact hm
      · by_cases y : x = m
        · rw [y]; exact hm
        · rw [upd_ne y] at z
          by_cases y2 : x = dxm
          · rw [y2]; exact hdxm
          · rw [upd_ne y2] at z; exact z
    have hb1 := kp2 _ _ hb
    refine ⟨_, rfl, b, _, dx, _, rfl, hb1, T.cl_Box, T.n_Box_machine, few 1 (Nat.le_refl _), ?_⟩
    refine ⟨sz (by show 1 ≤ _; omega), fun p hp => ?_⟩
    have hbf : b ∉ foot m g := fun z => by rw [hnew2 b z] at hb; cases hb
    have kk : Keep H1 (upd H1 b (.ins a.c_Box dx (putF "machine" (.ref m) [("machine", mv)]))) [b] := fun x o q n => by
      rw [upd_ne fun z => n (by rw [z]; exact List.mem_cons_self ..)]
      exact q
    have hM2 : MachAt a (upd H1 b (.ins a.c_Box dx (putF "machine" (.ref m) [("machine", mv)]))) m g (Ra54.begun now) := hM.box hb1
    have hpb : p ≠ b := fun z => by rw [z, upd_same] at hp; cases hp
    have hp1 : H1 p = none := by rw [upd_ne hpb] at hp; exact hp
    refine qy c m g p _ (hM2.same (same_new0 hp)) ⟨dx, ?_⟩ (fun x o q n => ?_) hnew2 (fresh_back kp2 hp1) upd_same
    · rw [upd_ne (Ne.symm hpb), upd_same]
      exact congrArg (fun z => some (HO.ins a.c_Box dx z)) put_here
    · have nx : x ≠ b := fun z => n (by rw [z]; exact List.mem_cons_self ..)
      rw [upd_ne (ne_of_none (kp2 _ _ q) hp1), upd_ne nx]
      exact kp2 _ _ q
  · refine qn ?_
    have := of_decide_eq_false hq
    omega
end
end Nr
namespace Nr
open PySem PySem.Spec PyProof.Rows L2
/-- an answer as a list of numbers -/
def ansL (r : Ra54.Ans) : List Int := r.value :: Ra54Neutral.ints (r.more ++ r.sent.flatMap fun m => m.1 :: m.2.length :: m.2.map UInt8.toNat)
theorem ansL_only (z : Int) : ansL (Ra54.only z) = [z] := rfl
/-- what a call's def has to hand over -/
structure Done (a : Ad) (H : Hp) (m : Addr) (g : Gh) (s : Ra54.St) (r : Option Ra54.St × Ra54.Ans) (Q : VK) (E : XK) : Prop where
  no : ∀ z, r = (some s, Ra54.only z) → z < 0 → RefE a H z E
  yes : ∀ s' g' p H', r.1 = some s' → 0 ≤ r.2.value → MachAt a H' m g' s' → Fr H H' (foot m g) (foot m g') → (p ∈ foot m g ∨ H p = none) → H' p = some (.lst ((ansL r.2).map V.int)) → Q (.ref p) H'
theorem Fr.fresh {H H' : Hp} {F F' : List Addr} (f : Fr H H' F F') {p : Addr} (h : H' p = none) : p ∈ F ∨ H p = none := by
  by_cases n : p ∈ F
  · exact .inl n
  · cases q : H p with
    | none => exact .inr rfl
    | some o => rw [f.keep p o q n] at h; cases h
section
variable {P : Program} {w : World} {K : PySem.W.Frag} {mg : Str → Option Value} {base : Heap} {a : Ad}
def sp_do_link (K : PySem.W.Frag) (a : Ad) : Sp := fun vs H Q E => ∃ (m : Addr) (i ad n : Nat) (g : Gh) (s : Ra54.St), vs = [.ref m, nV i, nV ad, nV n] ∧ MachAt a H m g s ∧ Done a H m g s (Ra54.step (some s) (.link i ad n)) Q E
theorem len_do_link {vs : List V} {H : Hp} {Q : VK} {E : XK} (h : sp_do_link K a vs H Q E) : vs.length = 4 := by
  obtain ⟨_, _, _, _, _, _, rfl, _⟩ := h
  rfl
theorem step_link (s : Ra54.St) (i ad n : Nat) : Ra54.step (some s) (.link i ad n) =
    if 3 < i ∨ ad = 0 ∨ 4294967295 ≤ ad ∨ n = 0 ∨ 31 < n then (some s, Ra54.only (-1))
    else if (Ra54.linkAt s i).isSome = true then (some s, Ra54.only (-4))
    else if upHas s (Ra54.netOf n ad) n = true then (some s, Ra54.only (-2))
    else if (Ra54.routeOf s.routes (Ra54.netOf n ad) n).isNone = true ∧ 256 ≤ s.routes.length then (some s, Ra54.only (-5))
    else (some { s with links := s.links.set i (some ⟨ad, n⟩), routes := Ra54.place (ownRt i ⟨ad, n⟩) s.routes }, Ra54.only 0) := rfl
theorem MachAt.linkAt {a : Ad} {H : Hp} {m : Addr} {g : Gh} {s : Ra54.St} (h : MachAt a H m g s) {i : Nat} (hi : i < 4) : ∃ k o, g.ks[i]? = some k ∧ LinkO a.c_Link H k o ∧ Ra54.linkAt s i = o ∧ (∀ ln, o = some ln → ln.address < 2 ^ 32 ∧ ln.bits ≤ 31) := by
  obtain ⟨o, ho⟩ := get_lt (l := s.links) (i := i) (by rw [h.four]; exact hi)
  obtain ⟨k, hk, hko⟩ := paired_get h.lk ho
  refine ⟨k, o, hk, hko, by unfold Ra54.linkAt; rw [ho]; rfl, fun ln e => h.lok ln ?_⟩
  rw [← e]
  exact List.mem_of_getElem? ho
theorem ok_do_link (T : Txt K mg a) : FnOk P w K mg base (L2.CX P w) 4 a.f_do_link a.d_do_link ["machine", "i", "address", "bits"] (sp_do_link K a) := by
  have G_ask := ok_ask (P := P) (w := w) (base := base) T
  have G_is_address := ok_is_address (P := P) (w := w) (base := base) T
  have G_Link_init := ok_Link_init (P := P) (w := w) (base := base) T
  have G_has_network := ok_has_network (P := P) (w := w) (base := base) T
  have G_Link_network := ok_Link_network (P := P) (w := w) (base := base) T
  have G_can_come_up := ok_can_come_up (P := P) (w := w) (base := base) T
  have G_come_up := ok_come_up (P := P) (w := w) (base := base) T
  refine T.F_do_link.okX sc_do_link (fun vs H Q E h => len_do_link h) (fun cdv A outer s H vs Q E hr h => ?_)
  have r1 : Room 1 _ := hr.mono (by decide)
  have r2 : Room 2 _ := hr.mono (by decide)
  have r3 : Room 3 _ := hr.mono (by decide)
  refine ⟨_, (pss_cons (ps_expr (pe_call G_ask r3 rfl T.g_ask T.F_ask.kp (b_ask T) .nil (passes_call (takes_of rfl rfl rfl rfl) fun _ _ _ _ h => h) (pa_cons (pe_and (pe_cmpR op_lt (pv 1) (pe_glob rfl T.k_LINKS rel_int) (nomark _)) (pe_and (pe_call G_is_address r1 rfl T.g_is_address T.F_is_address.kp (b_is_address T) .nil pass0 (pa_cons (pv 2) pa_nil)) (pe_one (pe_chain op_le op_le pe_int (pv 3) (pe_glob rfl T.k_MOST_BITS rel_int))))) (pa_cons (pe_glob rfl T.k_WRONG rel_int) pa_nil))))
      (pss_cons (ps_expr (pe_call G_ask r3 rfl T.g_ask T.F_ask.kp (b_ask T) .nil (passes_call (takes_of rfl rfl rfl rfl) fun _ _ _ _ h => h) (pa_cons (pe_cmpR op_isN (pe_ix ix_list (pe_fld (pv 0) rfl) (pv 1) (fun _ _ => rfl)) pe_non (nomark _)) (pa_cons (pe_glob rfl T.k_NOT_NOW rel_int) pa_nil))))
      (pss_cons (ps_set (i := 4) sc_do_link.nd rfl (by first | exact Or.inl rfl | exact Or.inr rfl) (pe_make T.m_Link G_Link_init r2 rfl T.g_Link (b_Link_init T) .nil pass0 (pa_cons (pv 2) (pa_cons (pv 3) pa_nil))))
      (pss_cons (ps_expr (pe_call G_ask r3 rfl T.g_ask T.F_ask.kp (b_ask T) .nil (passes_call (takes_of rfl rfl rfl rfl) fun _ _ _ _ h => h) (pa_cons (pe_not (pe_call G_has_network r3 rfl T.g_has_network T.F_has_network.kp (b_has_network T) .nil pass0 (pa_cons (pv 0) (pa_cons (pe_meth0 (pv 4) T.cl_Link T.M_Link_network G_Link_network r2 (b_Link_network T) .nil pass0) pa_nil)))) (pa_cons (pe_glob rfl T.k_NOT_SO rel_int) pa_nil))))
      (pss_cons (ps_expr (pe_call G_ask r3 rfl T.g_ask T.F_ask.kp (b_ask T) .nil (passes_call (takes_of rfl rfl rfl rfl) fun _ _ _ _ h => h) (pa_cons (pe_call G_can_come_up r1 rfl T.g_can_come_up T.F_can_come_up.kp (b_can_come_up T) .nil pass0 (pa_cons (pv 0) (pa_cons (pe_meth0 (pv 4) T.cl_Link T.M_Link_network G_Link_network r2 (b_Link_network T) .nil pass0) pa_nil))) (pa_cons (pe_glob rfl T.k_FULL rel_int) pa_nil))))
      (pss_cons (ps_expr (pe_call G_come_up r3 rfl T.g_come_up T.F_come_up.kp (b_come_up T) .nil pass0 (pa_cons (pv 0) (pa_cons (pv 1) (pa_cons (pv 4) pa_nil)))))
      (pss_one (ps_ret (pe_lst (pa_cons pe_int pa_nil)))))))))), ?_⟩
  obtain ⟨m, i, ad, n, g, s', rfl, hM, hD⟩ := h
  obtain ⟨dxm, hm⟩ := hM.ob
  rw [step_link] at hD
  have wrong : (3 < i ∨ ad = 0 ∨ 4294967295 ≤ ad ∨ n = 0 ∨ 31 < n) → RefE a H (-1) E := fun z => hD.no (-1) (by rw [if_pos z]) (by omega)
  refine ⟨_, rfl, _, _, rfl, rfl, _, rfl, ?_⟩
  by_cases c1 : ¬ i < 4
  · refine if_false_of (decide_eq_false (by omega)) ?_
    exact ⟨false, _, rfl, fun hq => (by cases hq), fun _ => wrong (by omega)⟩
  have c1 : i < 4 := Decidable.not_not.mp c1
  refine if_true_of (decide_eq_true (by omega)) ?_
  refine ⟨_, rfl, ad, rfl, _, rfl, ?_⟩
  by_cases c2 : ¬ (0 < ad ∧ ad < 4294967295)
  · refine if_false_of (by rw [← Bool.decide_and]; exact decide_eq_false c2) ?_
    exact ⟨false, _, rfl, fun hq => (by cases hq), fun _ => wrong (by omega)⟩
  have c2 : 0 < ad ∧ ad < 4294967295 := Decidable.not_not.mp c2
  refine if_true_of (by rw [← Bool.decide_and]; exact decide_eq_true c2) ?_
  refine ⟨_, rfl, _, _, rfl, rfl, _, rfl, ?_⟩
  by_cases c3 : ¬ 1 ≤ n
  · refine if_false_of (decide_eq_false (by omega)) ?_
    exact ⟨false, _, rfl, fun hq => (by cases hq), fun _ => wrong (by omega)⟩
  have c3 : 1 ≤ n := Decidable.not_not.mp c3
  refine if_true_of (decide_eq_true (by omega)) ?_
  refine ⟨_, _, rfl, rfl, _, _, rfl, fun hq => ?_, fun hq => wrong (by have := of_decide_eq_false hq; omega)⟩
  have c4 : n ≤ 31 := by
    have := of_decide_eq_true hq
    omega
  rw [if_neg (show ¬ (3 < i ∨ ad = 0 ∨ 4294967295 ≤ ad ∨ n = 0 ∨ 31 < n) by omega)] at hD
  clear wrong
  -- is it up?
  obtain ⟨k, o, hk, hko, hla, hlo⟩ := hM.linkAt c1
  rw [hla] at hD
  refine ⟨_, rfl, m, _, dxm, _, _, rfl, hm, T.cl_Machine, T.n_Machine_links, machF_links _ _, _, rfl, g.l, _, ((i : Nat) : Int), linkV k, rfl, rfl, SqL.of hM.links, atI_nat (map_get hk), rfl, _, _, rfl, fun hq2 => ?_, fun hq2 => ?_⟩
  rotate_left
  · have up : o.isSome = true := by
      match k, o, hko with
      | none, none, _ => exact absurd rfl (of_decide_eq_false hq2)
      | some _, some _, _ => rfl
    exact hD.no (-4) (by rw [if_pos up]) (by omega)
  have dn : ¬ o.isSome = true := by
    match k, o, hko with
    | none, none, _ => exact Bool.false_ne_true
    | some _, some _, _ => exact absurd (of_decide_eq_true hq2) (fun z => by cases z)
  rw [if_neg dn] at hD
  -- the link
  refine ⟨_, rfl, _, rfl, fun p dxp hp hdxp hne => ⟨p, dxp, _, _, rfl, upd_same, rfl, ?_⟩⟩
  rw [upd_upd]
  have s1 : Same H (upd (upd H dxp (.own p)) p (.ins a.c_Link dxp (linkF ⟨ad, n⟩))) := same_new (same_new0 hdxp) (by rw [upd_ne (Ne.symm hne)]; exact hp)
  have ef : ([("address", nV ad), ("bits", nV n)] : List (Str × V)) = linkF ⟨ad, n⟩ := rfl
  rw [ef]
  generalize hH1 : upd (upd H dxp (.own p)) p (.ins a.c_Link dxp (linkF ⟨ad, n⟩)) = H1 at s1
  have hp1 : H1 p = some (.ins a.c_Link dxp (linkF ⟨ad, n⟩)) := by rw [← hH1]; exact upd_same
  have hlok : (⟨ad, n⟩ : Ra54.Link).address < 2 ^ 32 ∧ (⟨ad, n⟩ : Ra54.Link).bits ≤ 31 := ⟨by show ad < _; omega, c4⟩
  -- another one that has the network?
  refine ⟨_, rfl, _, rfl, p, dxp, _, rfl, hp1, linkF_meth _, p, ⟨ad, n⟩, rfl, ⟨dxp, hp1⟩, hlok.1, hlok.2, fun nt hnt => ?_⟩
  have s2 := same_new (o := .tup [nV (Ra54.netOf n ad), nV n]) s1 hnt
  have s12 : Same H1 (upd H1 nt (.tup [nV (Ra54.netOf n ad), nV n])) := same_new0 hnt
  refine ⟨m, nt, g, s', Ra54.netOf n ad, n, rfl, hM.same s2, upd_same, fun H3 s3 => ⟨_, rfl, _, _, rfl, fun hq3 => ?_, fun hq3 => ?_⟩⟩
  rotate_left
  · have up : upHas s' (Ra54.netOf n ad) n = true := by
      cases hu : upHas s' (Ra54.netOf n ad) n with
      | true => rfl
      | false => rw [hu] at hq3; cases hq3
    exact (hD.no (-2) (by rw [if_pos up]) (by omega)).same (s2.trans s3)
  have nup : ¬ upHas s' (Ra54.netOf n ad) n = true := fun z => by rw [z] at hq3; cases hq3
  rw [if_neg nup] at hD
  have s13 := s12.trans s3
  have s03 := s2.trans s3
  have hp3 := s13 _ _ hp1
  -- is there room?
  refine ⟨_, rfl, _, rfl, p, dxp, _, rfl, hp3, linkF_meth _, p, ⟨ad, n⟩, rfl, ⟨dxp, hp3⟩, hlok.1, hlok.2, fun nt4 hnt4 => ?_⟩
  have s34 : Same H3 (upd H3 nt4 (.tup [nV (Ra54.netOf n ad), nV n])) := same_new0 hnt4
  have s04 := s03.trans s34
  refine ⟨m, nt4, g, s', Ra54.netOf n ad, n, rfl, hM.same s04, upd_same, _, _, rfl, fun hq4 => ?_, fun hq4 => ?_⟩
  rotate_left
  · have h1 := Bool.or_eq_false_iff.mp hq4
    have full : (Ra54.routeOf s'.routes (Ra54.netOf n ad) n).isNone = true ∧ 256 ≤ s'.routes.length := by
      have h2 := of_decide_eq_false h1.2
      refine ⟨?_, by omega⟩
      cases hr : Ra54.routeOf s'.routes (Ra54.netOf n ad) n with
      | none => rfl
      | some r => rw [hr] at h1; exact absurd h1.1 (fun z => by cases z)
    exact (hD.no (-5) (by rw [if_pos full]) (by omega)).same s04
  have room : s'.routes.length < 256 ∨ ∃ q ∈ s'.routes, kb q = kb (ownRt i ⟨ad, n⟩) := by
    rcases (Bool.or_eq_true _ _).mp hq4 with z | z
    · cases hr : Ra54.routeOf s'.routes (Ra54.netOf n ad) n with
      | none => rw [hr] at z; cases z
      | some r =>
        obtain ⟨r1, r2, r3⟩ := routeOf_some hr
        exact .inr ⟨r, r1, kb_iff.mpr ⟨r2, r3⟩⟩
    · exact .inl (of_decide_eq_true z)
  have nfull : ¬ ((Ra54.routeOf s'.routes (Ra54.netOf n ad) n).isNone = true ∧ 256 ≤ s'.routes.length) := fun z => by
    rcases room with y | ⟨q, y1, y2⟩
    · omega
    · have e := kb_iff.mp y2
      have e1 : Ra54.routeOf s'.routes (Ra54.netOf n ad) n = some q := by
        have := routeOf_mem hM.tab.ps.srt.nodup y1
        rw [e.1, e.2] at this
        exact this
      rw [e1] at z
      exact absurd z.1 (fun z => by cases z)
  rw [if_neg nfull] at hD
  have hp4 := s34 _ _ hp3
  refine ⟨_, rfl, _, rfl, _, rfl, m, p, i, g, s', ⟨ad, n⟩, rfl, hM.same s04, ⟨dxp, hp4⟩, hlok, c1, room, fun g' H5 hM5 fr5 => ?_⟩
  refine ⟨sz (by show 1 ≤ _; omega), fun pa hpa => ?_⟩
  have s56 : Same H5 (upd H5 pa (.lst [.int 0])) := same_new0 hpa
  refine hD.yes _ g' pa _ rfl (Int.le_refl 0) (hM5.same s56) ?_ ?_ ?_
  · exact Fr.trans (Fr.of_same s04 _) (Fr.trans fr5 (Fr.of_same s56 _))
  · exact (Fr.trans (Fr.of_same s04 _) fr5).fresh hpa
  · exact upd_same
/-! ### down -/
def sp_do_down (K : PySem.W.Frag) (a : Ad) : Sp := fun vs H Q E => ∃ (m : Addr) (i : Nat) (g : Gh) (s : Ra54.St), vs = [.ref m, nV i] ∧ MachAt a H m g s ∧ Done a H m g s (Ra54.step (some s) (.down i)) Q E
theorem len_do_down {vs : List V} {H : Hp} {Q : VK} {E : XK} (h : sp_do_down K a vs H Q E) : vs.length = 2 := by
  obtain ⟨_, _, _, _, rfl, _⟩ := h
  rfl
theorem step_down (s : Ra54.St) (i : Nat) : Ra54.step (some s) (.down i) =
    if 3 < i then (some s, Ra54.only (-1))
    else if (Ra54.linkAt s i).isNone = true then (some s, Ra54.only (-4))
    else (some { s with links := s.links.set i none, routes := s.routes.map (downOne s.now i) }, Ra54.only 0) := rfl
theorem ok_do_down (T : Txt K mg a) : FnOk P w K mg base (L2.CX P w) 4 a.f_do_down a.d_do_down ["machine", "i"] (sp_do_down K a) := by
  have G_ask := ok_ask (P := P) (w := w) (base := base) T
  have G_go_down := ok_go_down (P := P) (w := w) (base := base) T
  refine T.F_do_down.okX sc_do_down (fun vs H Q E h => len_do_down h) (fun cdv A outer s H vs Q E hr h => ?_)
  have r2 : Room 2 _ := hr.mono (by decide)
  have r3 : Room 3 _ := hr.mono (by decide)
  refine ⟨_, (pss_cons (ps_expr (pe_call G_ask r3 rfl T.g_ask T.F_ask.kp (b_ask T) .nil (passes_call (takes_of rfl rfl rfl rfl) fun _ _ _ _ h => h) (pa_cons (pe_cmpR op_lt (pv 1) (pe_glob rfl T.k_LINKS rel_int) (nomark _)) (pa_cons (pe_glob rfl T.k_WRONG rel_int) pa_nil))))
      (pss_cons (ps_expr (pe_call G_ask r3 rfl T.g_ask T.F_ask.kp (b_ask T) .nil (passes_call (takes_of rfl rfl rfl rfl) fun _ _ _ _ h => h) (pa_cons (pe_cmpR op_notN (pe_ix ix_list (pe_fld (pv 0) rfl) (pv 1) (fun _ _ => rfl)) pe_non (nomark _)) (pa_cons (pe_glob rfl T.k_NOT_NOW rel_int) pa_nil))))
      (pss_cons (ps_expr (pe_call G_go_down r2 rfl T.g_go_down T.F_go_down.kp (b_go_down T) .nil pass0 (pa_cons (pv 0) (pa_cons (pv 1) pa_nil))))
      (pss_one (ps_ret (pe_lst (pa_cons pe_int pa_nil))))))), ?_⟩
  obtain ⟨m, i, g, s', rfl, hM, hD⟩ := h
  obtain ⟨dxm, hm⟩ := hM.ob
  rw [step_down] at hD
  refine ⟨_, rfl, _, _, rfl, rfl, _, _, rfl, fun hq => ?_, fun hq => ?_⟩
  rotate_left
  · have c : 3 < i := by
      have := of_decide_eq_false hq
      omega
    exact hD.no (-1) (by rw [if_pos c]) (by omega)
  have c1 : i < 4 := by
    have := of_decide_eq_true hq
    omega
  rw [if_neg (show ¬ 3 < i by omega)] at hD
  obtain ⟨k, o, hk, hko, hla, hlo⟩ := hM.linkAt c1
  rw [hla] at hD
  refine ⟨_, rfl, m, _, dxm, _, _, rfl, hm, T.cl_Machine, T.n_Machine_links, machF_links _ _, _, rfl, g.l, _, ((i : Nat) : Int), linkV k, rfl, rfl, SqL.of hM.links, atI_nat (map_get hk), rfl, _, _, rfl, fun hq2 => ?_, fun hq2 => ?_⟩
  rotate_left
  · have dn : o.isNone = true := by
      match k, o, hko with
      | none, none, _ => rfl
      | some p, some ln, _ =>
        have z : (!decide (V.ref p = V.non)) = false := hq2
        rw [decide_eq_false (fun y => by cases y)] at z
        cases z
    exact hD.no (-4) (by rw [if_pos dn]) (by omega)
  have up : ¬ o.isNone = true := by
    match k, o, hko with
    | none, none, _ =>
      have z : (!decide (V.non = V.non)) = true := hq2
      rw [decide_eq_true rfl] at z
      cases z
    | some _, some _, _ => exact Bool.false_ne_true
  rw [if_neg up] at hD
  refine ⟨_, rfl, _, rfl, m, i, g, s', rfl, hM, c1, fun g' H5 hM5 fr5 => ?_⟩
  refine ⟨sz (by show 1 ≤ _; omega), fun pa hpa => ?_⟩
  have s56 : Same H5 (upd H5 pa (.lst [.int 0])) := same_new0 hpa
  exact hD.yes _ g' pa _ rfl (Int.le_refl 0) (hM5.same s56) (Fr.trans fr5 (Fr.of_same s56 _)) (fr5.fresh hpa) upd_same
/-! ### way -/
def sp_do_way (K : PySem.W.Frag) (a : Ad) : Sp := fun vs H Q E => ∃ (m : Addr) (ad : Nat) (g : Gh) (s : Ra54.St), vs = [.ref m, nV ad] ∧ MachAt a H m g s ∧ Done a H m g s (Ra54.step (some s) (.way ad)) Q E
theorem len_do_way {vs : List V} {H : Hp} {Q : VK} {E : XK} (h : sp_do_way K a vs H Q E) : vs.length = 2 := by
  obtain ⟨_, _, _, _, rfl, _⟩ := h
  rfl
theorem step_way (s : Ra54.St) (ad : Nat) : Ra54.step (some s) (.way ad) =
    if 4294967295 < ad then (some s, Ra54.only (-1))
    else match Ra54.best s.routes ad with
      | none => (some s, Ra54.only (-2))
      | some r => (some s, { value := r.dist, more := [r.link, if r.via = 0 then ad else r.via] }) := rfl
theorem ok_do_way (T : Txt K mg a) : FnOk P w K mg base (L2.CX P w) 4 a.f_do_way a.d_do_way ["machine", "address"] (sp_do_way K a) := by
  have G_ask := ok_ask (P := P) (w := w) (base := base) T
  have G_way_to := ok_way_to (P := P) (w := w) (base := base) T
  refine T.F_do_way.okX sc_do_way (fun vs H Q E h => len_do_way h) (fun cdv A outer s H vs Q E hr h => ?_)
  have r2 : Room 2 _ := hr.mono (by decide)
  have r3 : Room 3 _ := hr.mono (by decide)
  refine ⟨_, (pss_cons (ps_expr (pe_call G_ask r3 rfl T.g_ask T.F_ask.kp (b_ask T) .nil (passes_call (takes_of rfl rfl rfl rfl) fun _ _ _ _ h => h) (pa_cons (pe_cmpR op_le (pv 1) (pe_glob rfl T.k_MOST_ADDRESS rel_int) (nomark _)) (pa_cons (pe_glob rfl T.k_WRONG rel_int) pa_nil))))
      (pss_cons (ps_set (i := 2) sc_do_way.nd rfl (by first | exact Or.inl rfl | exact Or.inr rfl) (pe_call G_way_to r2 rfl T.g_way_to T.F_way_to.kp (b_way_to T) .nil pass0 (pa_cons (pe_fld (pv 0) rfl) (pa_cons (pv 1) pa_nil))))
      (pss_cons (ps_expr (pe_call G_ask r3 rfl T.g_ask T.F_ask.kp (b_ask T) .nil (passes_call (takes_of rfl rfl rfl rfl) fun _ _ _ _ h => h) (pa_cons (pe_cmpR op_notN (pv 2) pe_non (nomark _)) (pa_cons (pe_glob rfl T.k_NOT_SO rel_int) pa_nil))))
      (pss_cons (ps_set (i := 3) sc_do_way.nd rfl (by first | exact Or.inl rfl | exact Or.inr rfl) (pe_fld (pv 2) rfl))
      (pss_cons (ps_if (pt_cmpR op_eq (pv 3) pe_int (nomark _))
        (pss_one (ps_set (i := 3) sc_do_way.nd rfl (by first | exact Or.inl rfl | exact Or.inr rfl) (pv 1)))
        pss_nil)
      (pss_one (ps_ret (pe_lst (pa_cons (pe_fld (pv 2) rfl) (pa_cons (pe_fld (pv 2) rfl) (pa_cons (pv 3) pa_nil))))))))))), ?_⟩
  obtain ⟨m, ad, g, s', rfl, hM, hD⟩ := h
  obtain ⟨dxm, hm⟩ := hM.ob
  rw [step_way] at hD
  refine ⟨_, rfl, _, _, rfl, rfl, _, _, rfl, fun hq => ?_, fun hq => ?_⟩
  rotate_left
  · have c : 4294967295 < ad := by
      have := of_decide_eq_false hq
      omega
    exact hD.no (-1) (by rw [if_pos c]) (by omega)
  have c1 : ad < 2 ^ 32 := by
    have := of_decide_eq_true hq
    omega
  rw [if_neg (show ¬ 4294967295 < ad by omega)] at hD
  refine ⟨_, rfl, m, _, dxm, _, _, rfl, hm, T.cl_Machine, T.n_Machine_table, machF_table _ _, _, rfl, g.t, g.d, ad, g.es, s'.routes, rfl, hM.tbl, hM.tab.dict, hM.tab.rt, hM.tab.ps, hM.tab.ok, c1, fun H1 s1 hb => ?_, fun p r H1 s1 hb hr => ?_⟩
  · rw [hb] at hD
    refine ⟨_, rfl, rfl, _, _, rfl, fun hq2 => (by cases hq2), fun _ => ?_⟩
    exact (hD.no (-2) rfl (by omega)).same s1
  · rw [hb] at hD
    obtain ⟨dxr, ho⟩ := hr
    refine ⟨_, rfl, rfl, _, _, rfl, fun _ => ?_, fun hq2 => (by cases hq2)⟩
    have last : ∀ nb : Nat, nb = (if r.via = 0 then ad else r.via) → ∀ pa, H1 pa = none → Q (.ref pa) (upd H1 pa (.lst [nV r.dist, nV r.link, nV nb])) := fun nb hnb pa hpa => by
      have s12 := same_new (o := .lst [nV r.dist, nV r.link, nV nb]) s1 hpa
      refine hD.yes s' g pa _ rfl (by show (0 : Int) ≤ (r.dist : Int); omega) (hM.same s12) (Fr.of_same s12 _) (.inr (fresh_back s1 hpa)) ?_
      rw [upd_same, hnb]
      rfl
    refine ⟨_, rfl, p, _, dxr, _, _, rfl, ho, T.cl_Route, T.n_Route_neighbour, rF_neighbour r, ?_⟩
    refine ⟨_, rfl, rfl, _, rfl, ?_⟩
    by_cases c : r.via = 0
    · refine if_true_of (decide_eq_true (congrArg nV c)) ?_
      refine ⟨_, rfl, _, rfl, p, _, dxr, _, _, rfl, ho, T.cl_Route, T.n_Route_far, rF_far r, _, rfl, p, _, dxr, _, _, rfl, ho, T.cl_Route, T.n_Route_link, rF_link r, _, rfl, sz (by show 3 ≤ _; omega), last ad (by rw [if_pos c])⟩
    · refine if_false_of (decide_eq_false (fun z => c (nV_inj.mp z))) ?_
      refine ⟨_, rfl, p, _, dxr, _, _, rfl, ho, T.cl_Route, T.n_Route_far, rF_far r, _, rfl, p, _, dxr, _, _, rfl, ho, T.cl_Route, T.n_Route_link, rF_link r, _, rfl, sz (by show 3 ≤ _; omega), last r.via (by rw [if_neg c])⟩
end
end Nr
namespace Nr
open PySem PySem.Spec PyProof.Rows L2
theorem foot_fresh {a : Ad} {H : Hp} {m b : Addr} {g : Gh} {s : Ra54.St} (h : MachAt a H m g s) (hb : H b = none) : b ∉ foot m g := fun z => by
  rcases List.mem_cons.mp z with e | z
  · obtain ⟨dx, q⟩ := h.ob
    rw [← e, hb] at q; cases q
  rcases List.mem_cons.mp z with e | z
  · have q := h.links
    rw [← e, hb] at q; cases q
  rcases List.mem_cons.mp z with e | z
  · have q := h.tab.dict
    rw [← e, hb] at q; cases q
  obtain ⟨y, hy, e⟩ := List.mem_map.mp z
  obtain ⟨dx, q⟩ := h.tab.rt.at_ y hy
  rw [e, hb] at q; cases q
theorem foot_kind {a : Ad} {H : Hp} {m b : Addr} {o : HO} {g : Gh} {s : Ra54.St} (h : MachAt a H m g s) (hb : H b = some o) (h1 : ∀ xs, o ≠ .lst xs) (h2 : ∀ kvs, o ≠ .dT kvs) (h3 : ∀ C dx fs, o = .ins C dx fs → fs.length ≠ 5 ∧ fs.length ≠ 7) : b ∉ foot m g := fun z => by
  rcases List.mem_cons.mp z with e | z
  · obtain ⟨dx, q⟩ := h.ob
    rw [← e, hb] at q
    exact (h3 _ _ _ (Option.some.inj q)).1 rfl
  rcases List.mem_cons.mp z with e | z
  · have q := h.links
    rw [← e, hb] at q
    exact h1 _ (Option.some.inj q)
  rcases List.mem_cons.mp z with e | z
  · have q := h.tab.dict
    rw [← e, hb] at q
    exact h2 _ (Option.some.inj q)
  obtain ⟨y, hy, e⟩ := List.mem_map.mp z
  obtain ⟨dx, q⟩ := h.tab.rt.at_ y hy
  rw [e, hb] at q
  exact (h3 _ _ _ (Option.some.inj q)).2 rfl
section
variable {P : Program} {w : World} {K : PySem.W.Frag} {mg : Str → Option Value} {base : Heap} {a : Ad}
/-! ### routes -/
def five (r : Rt) : List Nat := [r.net, r.bits, r.dist, r.link, r.via]
def sp_do_routes (K : PySem.W.Frag) (a : Ad) : Sp := fun vs H Q E => ∃ (m : Addr) (g : Gh) (s : Ra54.St) (E' : XK), vs = [.ref m] ∧ MachAt a H m g s ∧ Done a H m g s (Ra54.step (some s) .routes) Q E'
theorem len_do_routes {vs : List V} {H : Hp} {Q : VK} {E : XK} (h : sp_do_routes K a vs H Q E) : vs.length = 1 := by
  obtain ⟨_, _, _, _, rfl, _⟩ := h
  rfl
theorem fives_len : ∀ l : List Rt, (l.flatMap five).length = 5 * l.length
  | [] => rfl
  | r :: l => by
    rw [List.flatMap_cons, List.length_append, fives_len l, List.length_cons]
    show 5 + _ = _
    omega
theorem ok_do_routes (T : Txt K mg a) : FnOk P w K mg base CX0 2 a.f_do_routes a.d_do_routes ["machine"] (sp_do_routes K a) := by
  have G_Table_in_order := ok_Table_in_order (P := P) (w := w) (base := base) T
  refine T.F_do_routes.ok sc_do_routes (fun vs H Q E h => len_do_routes h) (fun cdv A outer s H vs Q E hr h => ?_)
  have r1 : Room 1 _ := hr.mono (by decide)
  refine ⟨_, (pss_cons (ps_set (i := 1) sc_do_routes.nd rfl (by first | exact Or.inl rfl | exact Or.inr rfl) (pe_meth0 (pe_fld (pv 0) rfl) T.cl_Table T.M_Table_in_order G_Table_in_order r1 (b_Table_in_order T) .nil pass0))
      (pss_cons (ps_set (i := 2) sc_do_routes.nd rfl (by first | exact Or.inl rfl | exact Or.inr rfl) (pe_lst (pa_cons (pe_callB call_len_seq (by rfl) T.z_len PySem.boot_len (by exact (pa_cons (pv 1) pa_nil))) pa_nil)))
      (pss_cons (ps_for PassesOwn.never rfl (pi_list (pv 1)) (pg_name (i := 3) sc_do_routes.nd rfl (by first | exact Or.inl rfl | exact Or.inr rfl))
        (pss_cons (ps_set (i := 4) sc_do_routes.nd rfl (by first | exact Or.inl rfl | exact Or.inr rfl) (pe_dget (hu_of hr) (pe_fld (pe_fld (pv 0) rfl) rfl) (pv 3) (fun _ _ => rfl)))
        (pss_one (ps_expr (pe_bm PySem.F.plainAttrs_list PySem.F.slot_list_extend PySem.F.type_list_extend mt_extend (pv 2) (pa_cons (pe_lst (pa_cons (pe_ix ix_tup (pv 3) pe_int (fun _ _ => rfl)) (pa_cons (pe_ix ix_tup (pv 3) pe_int (fun _ _ => rfl)) (pa_cons (pe_fld (pv 4) rfl) (pa_cons (pe_fld (pv 4) rfl) (pa_cons (pe_fld (pv 4) rfl) pa_nil)))))) pa_nil))))))
      (pss_one (ps_ret (pv 2)))))), ?_⟩
  obtain ⟨m, g, s', E', rfl, hM, hD⟩ := h
  obtain ⟨dxm, hm⟩ := hM.ob
  obtain ⟨dxt, ht⟩ := hM.tbl
  refine ⟨_, rfl, m, _, dxm, _, _, rfl, hm, T.cl_Machine, T.n_Machine_table, machF_table _ _, g.t, dxt, _, rfl, ht, (lk_past (by decide +kernel)).trans rfl, g.t, g.d, g.es, s'.routes, rfl, ⟨dxt, ht⟩, hM.tab.dict, hM.tab.ps, fun l ts H1 s1 hl hl1 hN => ?_⟩
  have el : (ts.map V.ref).length = s'.routes.length := by rw [List.length_map, paired_len hN]
  refine ⟨_, rfl, l, _, rfl, .inl (SqL.of hl1), sz (by show 1 ≤ _; omega), fun f hf => ?_⟩
  have s2 := same_new (o := .lst [V.int ((ts.map V.ref).length : Nat)]) s1 hf
  have hfH : H f = none := fresh_back s1 hf
  have st2 : Same H1 (upd H1 f (.lst [V.int ((ts.map V.ref).length : Nat)])) := same_new0 hf
  refine ⟨_, rfl, l, rfl, ⟨_, SqL.of (st2 _ _ hl1)⟩, for_list (K := K) (a := l) (xs := ts.map V.ref) (fun i σ H' => ∃ v3 v4, σ = [some (.ref m), some (.ref l), some (.ref f), v3, v4] ∧ Same H H' ∧ Same H1 H' ∧ H' f = some (.lst ((s'.routes.length :: (s'.routes.take i).flatMap five).map nV))) ?_ (fun i σ H' _ ⟨_, _, _, _, s3, _⟩ => SqL.of (s3 _ _ hl1)) ?_ ?_⟩
  · refine ⟨none, none, rfl, s2, st2, ?_⟩
    rw [upd_same, el]
    rfl
  · rintro i x σ H3 hx ⟨v3, v4, rfl, s3, st3, hf3⟩
    obtain ⟨b, r, rfl, hr, hb⟩ := nets_get hN hx
    have hM3 := hM.same s3
    have hb3 : NetAt H3 b r := st3 _ _ hb
    obtain ⟨dxm3, hm3⟩ := hM3.ob
    obtain ⟨dxt3, ht3⟩ := hM3.tbl
    obtain ⟨q, hq, hg⟩ := hM3.tab.getR (List.mem_of_getElem? hr) hb3
    obtain ⟨dxq, ho⟩ := hM3.tab.rt.at_ _ hq
    refine ⟨_, rfl, m, _, dxm3, _, _, rfl, hm3, T.cl_Machine, T.n_Machine_table, machF_table _ _, g.t, _, dxt3, _, _, rfl, ht3, T.cl_Table, T.n_Table_routes, lk_here, _, rfl, g.d, .ref q, rfl, hg, ?_⟩
    refine ⟨_, rfl, .inl ⟨rfl, _, SqL.of hf3⟩, ?_⟩
    refine ⟨_, rfl, b, _, ((0 : Nat) : Int), nV r.net, rfl, rfl, SqT.of hb3, atI_nat rfl, _, rfl, b, _, ((1 : Nat) : Int), nV r.bits, rfl, rfl, SqT.of hb3, atI_nat rfl, ?_⟩
    refine ⟨_, rfl, q, _, dxq, _, _, rfl, ho, T.cl_Route, T.n_Route_far, rF_far r, _, rfl, q, _, dxq, _, _, rfl, ho, T.cl_Route, T.n_Route_link, rF_link r, _, rfl, q, _, dxq, _, _, rfl, ho, T.cl_Route, T.n_Route_neighbour, rF_neighbour r, sz (by show 5 ≤ _; omega), fun p5 hp5 => ?_⟩
    have s34 : Same H3 (upd H3 p5 (.lst [nV r.net, nV r.bits, nV r.dist, nV r.link, nV r.via])) := same_new0 hp5
    have hi : i < s'.routes.length := (List.getElem?_eq_some_iff.mp hr).1
    have hfew := hM.tab.ok.few
    refine ⟨f, p5, _, _, rfl, rfl, s34 _ _ hf3, upd_same, ?_, _, _, rfl, same_mut (s3.trans s34) hfH, same_mut (st3.trans s34) hf, ?_⟩
    · rw [List.length_map, List.length_cons, fives_len, List.length_take]
      show _ + 5 ≤ sizeLine
      have : min i s'.routes.length ≤ 256 := Nat.le_trans (Nat.min_le_right _ _) hfew
      exact sz (by omega)
    · rw [upd_same, take_more hr, List.flatMap_append]
      simp [five]
  · rintro σ H3 ⟨v3, v4, rfl, s3, st3, hf3⟩
    rw [el, List.take_length] at hf3
    refine ⟨_, rfl, hD.yes s' g f H3 rfl (by show (0 : Int) ≤ (s'.routes.length : Nat); omega) (hM.same s3) (Fr.of_same s3 _) (.inr hfH) ?_⟩
    rw [hf3]
    refine congrArg (fun z => some (HO.lst z)) ?_
    show nV s'.routes.length :: ((s'.routes.flatMap five).map nV) = V.int (s'.routes.length : Nat) :: ((s'.routes.flatMap five ++ []).map fun x : Nat => (x : Int)).map V.int
    rw [List.append_nil, List.map_map]
    rfl
/-! ### tick -/
def sp_do_tick (K : PySem.W.Frag) (a : Ad) : Sp := fun vs H Q E => ∃ (m : Addr) (now : Nat) (g : Gh) (s : Ra54.St), vs = [.ref m, nV now] ∧ MachAt a H m g s ∧ (ansL (Ra54.step (some s) (.tick now)).2).length ≤ 16777216 ∧ Done a H m g s (Ra54.step (some s) (.tick now)) Q E
theorem len_do_tick {vs : List V} {H : Hp} {Q : VK} {E : XK} (h : sp_do_tick K a vs H Q E) : vs.length = 2 := by
  obtain ⟨_, _, _, _, rfl, _⟩ := h
  rfl
def sentL (m : Nat × List UInt8) : List Nat := m.1 :: m.2.length :: m.2.map UInt8.toNat
theorem flat_take {α β : Type} (f : α → List β) (l : List α) (i : Nat) : ((l.take i).flatMap f).length ≤ (l.flatMap f).length := by
  have h : (l.flatMap f).length = ((l.take i).flatMap f).length + ((l.drop i).flatMap f).length := by
    rw [← List.length_append, ← List.flatMap_append, List.take_append_drop]
  omega
theorem sent_get {H : Hp} : ∀ {ps : List Addr} {ms : List (Nat × List UInt8)} {i : Nat} {x : V}, Paired (MsgAt H) ps ms → (ps.map V.ref)[i]? = some x → ∃ p m, x = .ref p ∧ ms[i]? = some m ∧ MsgAt H p m
  | _, _, i, x, .nil, h => by simp at h
  | p :: _, m :: _, 0, x, .cons h1 _, h => by
    have e : V.ref p = x := Option.some.inj h
    exact ⟨p, m, e.symm, rfl, h1⟩
  | _ :: _, _ :: _, i + 1, x, .cons _ tl, h => sent_get (i := i) tl (by simpa using h)
theorem ok_do_tick (T : Txt K mg a) : FnOk P w K mg base (L2.CX P w) 6 a.f_do_tick a.d_do_tick ["machine", "now"] (sp_do_tick K a) := by
  have G_ask := ok_ask (P := P) (w := w) (base := base) T
  have G_tick := ok_tick (P := P) (w := w) (base := base) T
  refine T.F_do_tick.okX sc_do_tick (fun vs H Q E h => len_do_tick h) (fun cdv A outer s H vs Q E hr h => ?_)
  have r3 : Room 3 _ := hr.mono (by decide)
  have r5 : Room 5 _ := hr.mono (by decide)
  refine ⟨_, (pss_cons (ps_expr (pe_call G_ask r3 rfl T.g_ask T.F_ask.kp (b_ask T) .nil (passes_call (takes_of rfl rfl rfl rfl) fun _ _ _ _ h => h) (pa_cons (pe_chain op_le op_lt (pe_fld (pv 0) rfl) (pv 1) (pe_glob rfl T.k_TIME_BOUND rel_int)) (pa_cons (pe_glob rfl T.k_WRONG rel_int) pa_nil))))
      (pss_cons (ps_set (i := 2) sc_do_tick.nd rfl (by first | exact Or.inl rfl | exact Or.inr rfl) (pe_call G_tick r5 rfl T.g_tick T.F_tick.kp (b_tick T) .nil pass0 (pa_cons (pv 0) (pa_cons (pv 1) pa_nil))))
      (pss_cons (ps_set (i := 3) sc_do_tick.nd rfl (by first | exact Or.inl rfl | exact Or.inr rfl) (pe_lst (pa_cons (pe_callB call_len_seq (by rfl) T.z_len PySem.boot_len (by exact (pa_cons (pv 2) pa_nil))) pa_nil)))
      (pss_cons (ps_for (passes_of rfl) rfl (pi_list (pv 2)) (pg_tup (by rfl) (pgs_cons (pg_name (i := 4) sc_do_tick.nd rfl (by first | exact Or.inl rfl | exact Or.inr rfl)) (pgs_cons (pg_name (i := 5) sc_do_tick.nd rfl (by first | exact Or.inl rfl | exact Or.inr rfl)) pgs_nil)))
        (pss_one (ps_set (i := 3) sc_do_tick.nd rfl (by first | exact Or.inl rfl | exact Or.inr rfl) (pe_op op_cat (pe_op op_cat (pv 3) (pe_lst (pa_cons (pv 4) (pa_cons (pe_callB call_len_seq (by rfl) T.z_len PySem.boot_len (by exact (pa_cons (pv 5) pa_nil))) pa_nil)))) (pv 5)))))
      (pss_one (ps_ret (pv 3))))))), ?_⟩
  obtain ⟨m, now, g, s', rfl, hM, hsz, hD⟩ := h
  obtain ⟨dxm, hm⟩ := hM.ob
  have wrong : (now < s'.now ∨ 2 ^ 62 ≤ now) → RefE a H (-1) E := fun z => hD.no (-1) (by show (if _ then _ else _) = _; rw [if_pos z]) (by omega)
  refine ⟨_, rfl, m, _, dxm, _, _, rfl, hm, T.cl_Machine, T.n_Machine_now, machF_now _ _, _, rfl, _, _, rfl, rfl, _, rfl, ?_⟩
  by_cases c1 : ¬ s'.now ≤ now
  · refine if_false_of (decide_eq_false (by omega)) ?_
    exact ⟨false, _, rfl, fun hq => (by cases hq), fun _ => wrong (by omega)⟩
  have c1 : s'.now ≤ now := Decidable.not_not.mp c1
  refine if_true_of (decide_eq_true (by omega)) ?_
  refine ⟨_, _, rfl, rfl, _, _, rfl, fun hq => ?_, fun hq => wrong (by have := of_decide_eq_false hq; omega)⟩
  have c2 : ¬ (now < s'.now ∨ 2 ^ 62 ≤ now) := by
    have := of_decide_eq_true hq
    omega
  rw [step_tick s' now c2] at hD hsz
  generalize hst : tickOf s' now = st at hD hsz
  obtain ⟨s2, sent⟩ := st
  refine ⟨_, rfl, _, rfl, m, now, g, s', rfl, hM, fun g' fs H1 hM1 hS1 fr1 => ?_⟩
  rw [hst] at hM1 hS1
  obtain ⟨ps, hps, hP⟩ := hS1
  have hP : Paired (MsgAt H1) ps sent := hP
  have el : (ps.map V.ref).length = sent.length := by rw [List.length_map, paired_len hP]
  have hlen : (sent.flatMap sentL).length + 1 ≤ 16777216 := by
    have e : (ansL { value := ((sent.length : Nat) : Int), sent := sent }).length = (sent.flatMap sentL).length + 1 := by
      show (_ :: (([] ++ sent.flatMap sentL).map fun x : Nat => (x : Int))).length = _
      rw [List.length_cons, List.length_map, List.nil_append]
    rw [← e]
    exact hsz
  refine ⟨_, rfl, fs, _, rfl, .inl (SqL.of hps), sz (by show 1 ≤ _; omega), fun f hf => ?_⟩
  have s12 : Same H1 (upd H1 f (.lst [V.int ((ps.map V.ref).length : Nat)])) := same_new0 hf
  refine ⟨_, rfl, fs, rfl, ⟨_, SqL.of (s12 _ _ hps)⟩, for_list (K := K) (a := fs) (xs := ps.map V.ref) (fun i σ H' => ∃ q v4 v5, σ = [some (.ref m), some (nV now), some (.ref fs), some (.ref q), v4, v5] ∧ Same H1 H' ∧ H1 q = none ∧ H' q = some (.lst ((sent.length :: (sent.take i).flatMap sentL).map nV))) ?_ (fun i σ H' _ ⟨_, _, _, _, s3, _⟩ => SqL.of (s3 _ _ hps)) ?_ ?_⟩
  · refine ⟨f, none, none, rfl, s12, hf, ?_⟩
    rw [upd_same, el]
    rfl
  · rintro i x σ H3 hx ⟨q, v4, v5, rfl, s3, hq1, hq3⟩
    obtain ⟨p, mm, rfl, hmm, b, hp, hb⟩ := sent_get hP hx
    have hb3 := s3 _ _ hb
    have hpre := flat_take sentL sent (i + 1)
    rw [take_more hmm, List.flatMap_append, List.length_append] at hpre
    have hone : ([mm].flatMap sentL).length = 2 + mm.2.length := by
      show (sentL mm ++ []).length = _
      rw [List.append_nil]
      show (mm.1 :: mm.2.length :: mm.2.map UInt8.toNat).length = _
      rw [List.length_cons, List.length_cons, List.length_map]
      omega
    refine ⟨p, _, rfl, SqT.of (s3 _ _ hp), rfl, _, _, rfl, _, _, rfl, rfl, ?_⟩
    refine ⟨_, rfl, _, rfl, _, rfl, b, _, rfl, .inl (SqL.of hb3), sz (by show 2 ≤ _; omega), fun p2 hp2 => ?_⟩
    have s34 : Same H3 (upd H3 p2 (.lst [nV mm.1, V.int ((mm.2.map u8V).length : Nat)])) := same_new0 hp2
    refine ⟨q, p2, _, _, rfl, rfl, s34 _ _ hq3, upd_same, ?_, fun p3 hp3 => ?_⟩
    · rw [List.length_map, List.length_cons]
      show _ + 2 ≤ sizeLine
      exact sz (by omega)
    have s35 := same_new (o := .lst ((sent.length :: (sent.take i).flatMap sentL).map nV ++ [nV mm.1, V.int ((mm.2.map u8V).length : Nat)])) s34 hp3
    refine ⟨_, rfl, p3, b, _, _, rfl, rfl, upd_same, s35 _ _ hb3, ?_, fun p4 hp4 => ?_⟩
    · rw [List.length_append, List.length_map, List.length_cons, List.length_map]
      show _ + 2 + _ ≤ sizeLine
      exact sz (by omega)
    have s36 := same_new (o := .lst ((sent.length :: (sent.take i).flatMap sentL).map nV ++ [nV mm.1, V.int ((mm.2.map u8V).length : Nat)] ++ mm.2.map u8V)) s35 hp4
    refine ⟨p4, _, _, rfl, s3.trans s36, fresh_back (s3.trans s35) hp4, ?_⟩
    rw [upd_same, take_more hmm, List.flatMap_append]
    refine congrArg (fun z => some (HO.lst z)) ?_
    show _ = ((sent.length :: (sent.take i).flatMap sentL) ++ (sentL mm ++ [])).map nV
    rw [List.append_nil, List.map_append, List.append_assoc]
    refine congrArg _ ?_
    show nV mm.1 :: V.int ((mm.2.map u8V).length : Nat) :: mm.2.map u8V = nV mm.1 :: nV mm.2.length :: (mm.2.map UInt8.toNat).map nV
    rw [List.length_map, List.map_map]
    rfl
  · rintro σ H3 ⟨q, v4, v5, rfl, s3, hq1, hq3⟩
    rw [el, List.take_length] at hq3
    refine ⟨_, rfl, hD.yes s2 g' q H3 rfl (by show (0 : Int) ≤ (sent.length : Nat); omega) (hM1.same s3) (Fr.trans fr1 (Fr.of_same s3 _)) (fr1.fresh hq1) ?_⟩
    rw [hq3]
    refine congrArg (fun z => some (HO.lst z)) ?_
    show nV sent.length :: ((sent.flatMap sentL).map nV) = V.int (sent.length : Nat) :: (([] ++ sent.flatMap sentL).map fun x : Nat => (x : Int)).map V.int
    rw [List.nil_append, List.map_map]
    rfl
end
end Nr
namespace Nr
open PySem PySem.Spec PyProof.Rows L2
section
variable {P : Program} {w : World} {K : PySem.W.Frag} {mg : Str → Option Value} {base : Heap} {a : Ad}
/-! ### hear -/
def sp_do_hear (K : PySem.W.Frag) (a : Ad) : Sp := fun vs H Q E => ∃ (m row : Addr) (i x : Nat) (bs : List UInt8) (g : Gh) (s : Ra54.St), vs = [.ref m, nV i, nV x, .ref row] ∧ MachAt a H m g s ∧ SqL K H row (bs.map u8V) ∧ bs.length ≤ 2048 ∧ Done a H m g s (Ra54.step (some s) (.hear i x bs)) Q E
theorem len_do_hear {vs : List V} {H : Hp} {Q : VK} {E : XK} (h : sp_do_hear K a vs H Q E) : vs.length = 4 := by
  obtain ⟨_, _, _, _, _, _, _, rfl, _⟩ := h
  rfl
theorem step_hear (s : Ra54.St) (i x : Nat) (b : List UInt8) : Ra54.step (some s) (.hear i x b) =
    if 3 < i ∨ x = 0 ∨ 4294967295 ≤ x then (some s, Ra54.only (-1))
    else match Ra54.linkAt s i with
      | none => (some s, Ra54.only (-4))
      | some l =>
        if Ra54.netOf l.bits x ≠ Ra54.netOf l.bits l.address ∨ x = l.address then (some s, Ra54.only (-2))
        else match Ra54.read b with
          | none => (some s, Ra54.only (-3))
          | some es => (some { s with routes := es.foldl (Ra54.offered s.now i x) s.routes }, Ra54.only (Ra54.differ s.routes (es.foldl (Ra54.offered s.now i x) s.routes))) := rfl
theorem fold_take {α β : Type} {f : β → α → β} {l : List α} {i : Nat} {x : α} {b : β} (h : l[i]? = some x) : (l.take (i + 1)).foldl f b = f ((l.take i).foldl f b) x := by
  rw [take_more h, List.foldl_append]
  rfl
theorem ok_do_hear (T : Txt K mg a) : FnOk P w K mg base (L2.CX P w) 5 a.f_do_hear a.d_do_hear ["machine", "i", "neighbour", "row"] (sp_do_hear K a) := by
  have G_ask := ok_ask (P := P) (w := w) (base := base) T
  have G_is_address := ok_is_address (P := P) (w := w) (base := base) T
  have G_network_of := ok_network_of (P := P) (w := w) (base := base) T
  have G_Link_network := ok_Link_network (P := P) (w := w) (base := base) T
  have G_read_message := ok_read_message (P := P) (w := w) (base := base) T
  have G_Table_sights := ok_Table_sights (P := P) (w := w) (base := base) T
  have G_offer := ok_offer (P := P) (w := w) (base := base) T
  have G_other_ones := ok_other_ones (P := P) (w := w) (base := base) T
  refine T.F_do_hear.okX sc_do_hear (fun vs H Q E h => len_do_hear h) (fun cdv A outer s H vs Q E hr h => ?_)
  have r1 : Room 1 _ := hr.mono (by decide)
  have r2 : Room 2 _ := hr.mono (by decide)
  have r3 : Room 3 _ := hr.mono (by decide)
  have r4 : Room 4 _ := hr.mono (by decide)
  refine ⟨_, (pss_cons (ps_expr (pe_call G_ask r3 rfl T.g_ask T.F_ask.kp (b_ask T) .nil (passes_call (takes_of rfl rfl rfl rfl) fun _ _ _ _ h => h) (pa_cons (pe_and (pe_cmpR op_lt (pv 1) (pe_glob rfl T.k_LINKS rel_int) (nomark _)) (pe_one (pe_call G_is_address r1 rfl T.g_is_address T.F_is_address.kp (b_is_address T) .nil pass0 (pa_cons (pv 2) pa_nil)))) (pa_cons (pe_glob rfl T.k_WRONG rel_int) pa_nil))))
      (pss_cons (ps_set (i := 4) sc_do_hear.nd rfl (by first | exact Or.inl rfl | exact Or.inr rfl) (pe_ix ix_list (pe_fld (pv 0) rfl) (pv 1) (fun _ _ => rfl)))
      (pss_cons (ps_expr (pe_call G_ask r3 rfl T.g_ask T.F_ask.kp (b_ask T) .nil (passes_call (takes_of rfl rfl rfl rfl) fun _ _ _ _ h => h) (pa_cons (pe_cmpR op_notN (pv 4) pe_non (nomark _)) (pa_cons (pe_glob rfl T.k_NOT_NOW rel_int) pa_nil))))
      (pss_cons (ps_expr (pe_call G_ask r3 rfl T.g_ask T.F_ask.kp (b_ask T) .nil (passes_call (takes_of rfl rfl rfl rfl) fun _ _ _ _ h => h) (pa_cons (pe_and (pe_cmpR (op_eqD hr.units) (pe_tup (pa_cons (pe_call G_network_of r1 rfl T.g_network_of T.F_network_of.kp (b_network_of T) .nil pass0 (pa_cons (pv 2) (pa_cons (pe_fld (pv 4) rfl) pa_nil))) (pa_cons (pe_fld (pv 4) rfl) pa_nil))) (pe_meth0 (pv 4) T.cl_Link T.M_Link_network G_Link_network r2 (b_Link_network T) .nil pass0) (nomark _)) (pe_one (pe_cmpR op_ne (pv 2) (pe_fld (pv 4) rfl) (nomark _)))) (pa_cons (pe_glob rfl T.k_NOT_SO rel_int) pa_nil))))
      (pss_cons (ps_set (i := 5) sc_do_hear.nd rfl (by first | exact Or.inl rfl | exact Or.inr rfl) (pe_call G_read_message r4 rfl T.g_read_message T.F_read_message.kp (b_read_message T) .nil pass0 (pa_cons (pv 3) pa_nil)))
      (pss_cons (ps_expr (pe_call G_ask r3 rfl T.g_ask T.F_ask.kp (b_ask T) .nil (passes_call (takes_of rfl rfl rfl rfl) fun _ _ _ _ h => h) (pa_cons (pe_cmpR op_notN (pv 5) pe_non (nomark _)) (pa_cons (pe_glob rfl T.k_NO_MESSAGE rel_int) pa_nil))))
      (pss_cons (ps_set (i := 6) sc_do_hear.nd rfl (by first | exact Or.inl rfl | exact Or.inr rfl) (pe_meth0 (pe_fld (pv 0) rfl) T.cl_Table T.M_Table_sights G_Table_sights r2 (b_Table_sights T) .nil pass0))
      (pss_cons (ps_for (passes_of rfl) rfl (pi_list (pv 5)) (pg_name (i := 7) sc_do_hear.nd rfl (by first | exact Or.inl rfl | exact Or.inr rfl))
        (pss_one (ps_expr (pe_call G_offer r3 rfl T.g_offer T.F_offer.kp (b_offer T) .nil pass0 (pa_cons (pe_fld (pv 0) rfl) (pa_cons (pe_fld (pv 0) rfl) (pa_cons (pv 1) (pa_cons (pv 2) (pa_cons (pv 7) pa_nil)))))))))
      (pss_one (ps_ret (pe_lst (pa_cons (pe_call G_other_ones r1 rfl T.g_other_ones T.F_other_ones.kp (b_other_ones T) .nil pass0 (pa_cons (pv 6) (pa_cons (pe_meth0 (pe_fld (pv 0) rfl) T.cl_Table T.M_Table_sights G_Table_sights r2 (b_Table_sights T) .nil pass0) pa_nil))) pa_nil)))))))))))), ?_⟩
  obtain ⟨m, row, i, x, bs, g, s', rfl, hM, hrow, hbl, hD⟩ := h
  obtain ⟨dxm, hm⟩ := hM.ob
  rw [step_hear] at hD
  have wrong : (3 < i ∨ x = 0 ∨ 4294967295 ≤ x) → RefE a H (-1) E := fun z => hD.no (-1) (by rw [if_pos z]) (by omega)
  refine ⟨_, rfl, _, _, rfl, rfl, _, rfl, ?_⟩
  by_cases c1 : ¬ i < 4
  · refine if_false_of (decide_eq_false (by omega)) ?_
    exact ⟨false, _, rfl, fun hq => (by cases hq), fun _ => wrong (by omega)⟩
  have c1 : i < 4 := Decidable.not_not.mp c1
  refine if_true_of (decide_eq_true (by omega)) ?_
  refine ⟨_, rfl, x, rfl, _, _, rfl, fun hq => ?_, fun hq => wrong ?_⟩
  rotate_left
  · rw [← Bool.decide_and] at hq
    have := of_decide_eq_false hq
    omega
  have c2 : 0 < x ∧ x < 4294967295 := by
    rw [← Bool.decide_and] at hq
    exact of_decide_eq_true hq
  rw [if_neg (show ¬ (3 < i ∨ x = 0 ∨ 4294967295 ≤ x) by omega)] at hD
  clear wrong
  obtain ⟨k, o, hk, hko, hla, hlo⟩ := hM.linkAt c1
  rw [hla] at hD
  refine ⟨_, rfl, m, _, dxm, _, _, rfl, hm, T.cl_Machine, T.n_Machine_links, machF_links _ _, _, rfl, g.l, _, ((i : Nat) : Int), linkV k, rfl, rfl, SqL.of hM.links, atI_nat (map_get hk), _, rfl, rfl, _, _, rfl, fun hq2 => ?_, fun hq2 => ?_⟩
  rotate_left
  · match k, o, hko with
    | none, none, _ => exact hD.no (-4) rfl (by omega)
    | some p, some ln, _ =>
      have z : (!decide (V.ref p = V.non)) = false := hq2
      rw [decide_eq_false (fun y => by cases y)] at z
      cases z
  match k, o, hko with
  | none, none, _ =>
    have z : (!decide (V.non = V.non)) = true := hq2
    rw [decide_eq_true rfl] at z
    cases z
  | some pl, some ln, hln =>
  have hln : LinkAt a.c_Link H pl ln := hln
  have hlk := hlo ln rfl
  obtain ⟨dxl, hl⟩ := hln
  have hD : Done a H m g s' (if Ra54.netOf ln.bits x ≠ Ra54.netOf ln.bits ln.address ∨ x = ln.address then (some s', Ra54.only (-2))
        else match Ra54.read bs with
          | none => (some s', Ra54.only (-3))
          | some es => (some { s' with routes := es.foldl (Ra54.offered s'.now i x) s'.routes }, Ra54.only (Ra54.differ s'.routes (es.foldl (Ra54.offered s'.now i x) s'.routes)))) Q E := hD
  refine ⟨_, rfl, _, rfl, pl, _, dxl, _, _, rfl, hl, T.cl_Link, T.n_Link_bits, linkF_bits ln, x, ln.bits, rfl, by omega, by omega, ?_⟩
  refine ⟨_, rfl, pl, _, dxl, _, _, rfl, hl, T.cl_Link, T.n_Link_bits, linkF_bits ln, (by show 2 ≤ sizeLine; exact sz (by omega)), fun n1 hn1 => ?_⟩
  have s1 : Same H (upd H n1 (.tup [nV (Ra54.netOf ln.bits x), nV ln.bits])) := same_new0 hn1
  refine ⟨_, rfl, pl, dxl, _, rfl, s1 _ _ hl, linkF_meth ln, pl, ln, rfl, ⟨dxl, s1 _ _ hl⟩, hlk.1, hlk.2, fun n2 hn2 => ?_⟩
  have s12 : Same (upd H n1 (.tup [nV (Ra54.netOf ln.bits x), nV ln.bits])) (upd (upd H n1 (.tup [nV (Ra54.netOf ln.bits x), nV ln.bits])) n2 (.tup [nV (Ra54.netOf ln.bits ln.address), nV ln.bits])) := same_new0 hn2
  have s2 := s1.trans s12
  refine ⟨netD _ _, netD _ _, netD_at (s12 _ _ upd_same), netD_at upd_same, rfl, rfl, _, rfl, ?_⟩
  rw [netD_eqv, beq_self_eq_true, Bool.and_true]
  generalize upd (upd H n1 (.tup [nV (Ra54.netOf ln.bits x), nV ln.bits])) n2 (.tup [nV (Ra54.netOf ln.bits ln.address), nV ln.bits]) = H2 at s2
  clear s12 s1
  have notso : (Ra54.netOf ln.bits x ≠ Ra54.netOf ln.bits ln.address ∨ x = ln.address) → RefE a H2 (-2) E := fun z => (hD.no (-2) (by rw [if_pos z]) (by omega)).same s2
  by_cases c3 : ¬ Ra54.netOf ln.bits x = Ra54.netOf ln.bits ln.address
  · refine if_false_of (beq_eq_false_iff_ne.mpr c3) ?_
    exact ⟨false, _, rfl, fun hq => (by cases hq), fun _ => notso (.inl c3)⟩
  have c3 := Decidable.not_not.mp c3
  refine if_true_of (beq_iff_eq.mpr c3) ?_
  refine ⟨_, rfl, _, rfl, pl, _, dxl, _, _, rfl, s2 _ _ hl, T.cl_Link, T.n_Link_address, linkF_address ln, rfl, _, _, rfl, fun hq3 => ?_, fun hq3 => notso (.inr ?_)⟩
  rotate_left
  · by_cases c : x = ln.address
    · exact c
    · have z : (!decide (nV x = nV ln.address)) = false := hq3
      rw [decide_eq_false (fun y => c (nV_inj.mp y))] at z
      cases z
  have c4 : ¬ x = ln.address := fun y => by
    have z : (!decide (nV x = nV ln.address)) = true := hq3
    rw [decide_eq_true (nV_inj.mpr y)] at z
    cases z
  rw [if_neg (show ¬ (Ra54.netOf ln.bits x ≠ Ra54.netOf ln.bits ln.address ∨ x = ln.address) from fun z => z.elim (fun y => y c3) c4)] at hD
  clear notso
  -- the message
  refine ⟨_, rfl, row, bs, rfl, s2.seq hrow, hbl, fun H3 s3 hrd => ?_, fun tp l H3 hrd s3 hl0 hl3 hT3 => ?_⟩
  · rw [hrd] at hD
    refine ⟨_, rfl, rfl, _, _, rfl, fun hq4 => (by cases hq4), fun _ => ?_⟩
    exact (hD.no (-3) rfl (by omega)).same (s2.trans s3)
  rw [hrd] at hD
  have hD : Done a H m g s' (some { s' with routes := (tp.map (·.2)).foldl (Ra54.offered s'.now i x) s'.routes }, Ra54.only (Ra54.differ s'.routes ((tp.map (·.2)).foldl (Ra54.offered s'.now i x) s'.routes))) Q E := hD
  have hent := read_ok hrd
  generalize hfin : (tp.map (·.2)).foldl (Ra54.offered s'.now i x) s'.routes = rsF at hD
  refine ⟨_, rfl, rfl, _, _, rfl, fun _ => ?_, fun hq4 => (by cases hq4)⟩
  have s03 := s2.trans s3
  have hM3 := hM.same s03
  obtain ⟨dxm3, hm3⟩ := hM3.ob
  obtain ⟨dxt3, ht3⟩ := hM3.tbl
  refine ⟨_, rfl, m, _, dxm3, _, _, rfl, hm3, T.cl_Machine, T.n_Machine_table, machF_table _ _, g.t, dxt3, _, rfl, ht3, (lk_past (by decide +kernel)).trans rfl, g.t, g.d, g.es, rfl, ⟨dxt3, ht3⟩, hM3.tab.dict, hM3.tab.rt, hM3.tab.nd, hM3.tab.few, fun f kvs H4 s4 hf3 hf4 hS4 => ?_⟩
  have hl4 := s4 _ _ hl3
  have hT4 : ToldsAt a.c_Told H4 tp := fun y hy => (hT3 y hy).same s4
  have s04 := s03.trans s4
  have hM4 := hM.same s04
  have lfoot : l ∉ foot m g := foot_fresh (hM.same s2) hl0
  have ffoot : f ∉ foot m g := foot_fresh hM3 hf3
  refine ⟨_, rfl, l, rfl, ⟨_, SqL.of hl4⟩, for_list (K := K) (a := l) (xs := tp.map fun z => V.ref z.1) (fun j σ H' => ∃ v7 es', σ = [some (.ref m), some (nV i), some (nV x), some (.ref row), some (.ref pl), some (.ref l), some (.ref f), v7] ∧ MachAt a H' m { g with es := es' } { s' with routes := ((tp.take j).map (·.2)).foldl (Ra54.offered s'.now i x) s'.routes } ∧ Fr H4 H' (foot m g) (foot m { g with es := es' })) ?_ (fun j σ H' _ ⟨_, _, _, _, fr⟩ => SqL.of (fr.keep _ _ hl4 lfoot)) ?_ ?_⟩
  · exact ⟨none, g.es, rfl, hM4, Fr.refl _ _⟩
  · rintro j y σ H5 hy ⟨v7, es', rfl, hM5, fr5⟩
    obtain ⟨e, he, rfl⟩ := get_map hy
    obtain ⟨dxe, hte⟩ := hT4 e (List.mem_of_getElem? he)
    have hte5 := fr5.keep _ _ hte (foot_kind hM4 hte (fun _ z => (by cases z)) (fun _ z => (by cases z)) (fun C dx fs z => by
      injection z with _ _ z
      rw [← z]
      exact ⟨by show 3 ≠ 5; decide, by show 3 ≠ 7; decide⟩))
    obtain ⟨dxm5, hm5⟩ := hM5.ob
    obtain ⟨dxt5, ht5⟩ := hM5.tbl
    refine ⟨_, rfl, m, _, dxm5, _, _, rfl, hm5, T.cl_Machine, T.n_Machine_table, machF_table _ _, _, rfl, m, _, dxm5, _, _, rfl, hm5, T.cl_Machine, T.n_Machine_now, machF_now _ _, _, rfl, _, rfl, _, rfl, g.t, g.d, e.1, s'.now, i, x, e.2, es', _, rfl, ⟨dxt5, ht5⟩, hM5.tab, ⟨dxe, hte5⟩, hent e.2 (List.mem_map.mpr ⟨e, List.mem_of_getElem? he, rfl⟩), fun es6 H6 hT6 fr6 => ?_⟩
    refine ⟨_, es6, rfl, ?_, ?_⟩
    · have h6 := hM5.tab_upd fr6.keep hT6
      rw [take_more he, List.map_append, List.foldl_append]
      exact h6
    · exact Fr.trans fr5 (Fr.tab (g := { g with es := es' }) fr6)
  · rintro σ H5 ⟨v7, es', rfl, hM5, fr5⟩
    have hlen : (tp.map fun z => V.ref z.1).length = tp.length := List.length_map ..
    rw [hlen, List.take_length, hfin] at hM5
    obtain ⟨dxm5, hm5⟩ := hM5.ob
    obtain ⟨dxt5, ht5⟩ := hM5.tbl
    have hf5 := fr5.keep _ _ hf4 ffoot
    have hS5 : SightsAt H5 kvs (rts g.es) := paired_mono (fun kv r hkr => by
      obtain ⟨h1, t, h2, h3⟩ := hkr
      exact ⟨h1, t, h2, fr5.keep _ _ h3 (foot_kind hM4 h3 (fun _ z => (by cases z)) (fun _ z => (by cases z)) (fun _ _ _ z => (by cases z)))⟩) hS4
    refine ⟨_, rfl, _, rfl, m, _, dxm5, _, _, rfl, hm5, T.cl_Machine, T.n_Machine_table, machF_table _ _, g.t, dxt5, _, rfl, ht5, (lk_past (by decide +kernel)).trans rfl, g.t, g.d, es', rfl, ⟨dxt5, ht5⟩, hM5.tab.dict, hM5.tab.rt, hM5.tab.nd, hM5.tab.few, fun f2 kvs2 H6 s6 hf26 hf2 hS6 => ?_⟩
    have hne : f ≠ f2 := fun z => by rw [z, hf26] at hf5; cases hf5
    refine ⟨f, f2, kvs, kvs2, rts g.es, rts es', rfl, hne, s6 _ _ hf5, hf2, paired_mono (fun kv r ⟨h1, t, h2, h3⟩ => ⟨h1, t, h2, s6 _ _ h3⟩) hS5, hS6, (by show (es'.map _).length ≤ _; rw [List.length_map]; exact hM5.tab.few), fun H7 s7 => ⟨sz (by show 1 ≤ _; omega), fun pa hpa => ?_⟩⟩
    have s67 := same_new (o := .lst [nV (Ra54.differ (rts g.es) (rts es'))]) (s6.trans s7) hpa
    refine hD.yes _ { g with es := es' } pa _ rfl (by show (0 : Int) ≤ ((Ra54.differ _ _ : Nat) : Int); omega) (hM5.same s67) (Fr.trans (Fr.of_same s04 _) (Fr.trans fr5 (Fr.of_same s67 _))) ?_ ?_
    · exact (Fr.trans (Fr.of_same s04 _) (Fr.trans fr5 (Fr.of_same (s6.trans s7) _))).fresh hpa
    · rw [upd_same, differ_perm hM.tab.ps hM5.tab.ps]
      rfl
end
end Nr
namespace Nr
open PySem PySem.Spec PyProof.Rows L2
/-! ### a call as it comes in -/
def numC : Ra54.Call → Nat
  | .begin_ _ => 0
  | .link _ _ _ => 1
  | .down _ => 2
  | .hear _ _ _ => 3
  | .tick _ => 4
  | .way _ => 5
  | .routes => 6
  | .due => 7
def argC : Ra54.Call → List Nat
  | .begin_ now => [now]
  | .link i ad n => [i, ad, n]
  | .down i => [i]
  | .hear i x _ => [i, x]
  | .tick now => [now]
  | .way ad => [ad]
  | .routes => []
  | .due => []
def rowC : Ra54.Call → List UInt8
  | .hear _ _ b => b
  | _ => []
theorem eqT (k : Nat) : decide (V.int ((k : Nat) : Int) = V.int ((k : Nat) : Int)) = true := decide_eq_true rfl
theorem eqF {k n : Nat} (h : k ≠ n) : decide (V.int ((k : Nat) : Int) = V.int ((n : Nat) : Int)) = false := decide_eq_false fun z => h (nV_inj.mp z)
section
variable {P : Program} {w : World} {K : PySem.W.Frag} {mg : Str → Option Value} {base : Heap} {a : Ad}
def sp_do_call (K : PySem.W.Frag) (a : Ad) : Sp := fun vs H Q E => ∃ (mv : V) (nl row : Addr) (c : Ra54.Call), vs = [mv, nV (numC c), .ref nl, .ref row] ∧ numC c ≠ 0 ∧ SqL K H nl ((argC c).map nV) ∧ SqL K H row ((rowC c).map u8V) ∧ (rowC c).length ≤ 2048 ∧
  ((mv = .non ∧ RefE a H (-6) E) ∨ ∃ m g s, mv = .ref m ∧ MachAt a H m g s ∧ Done a H m g s (Ra54.step (some s) c) Q E ∧ (ansL (Ra54.step (some s) c).2).length ≤ 16777216)
theorem len_do_call {vs : List V} {H : Hp} {Q : VK} {E : XK} (h : sp_do_call K a vs H Q E) : vs.length = 4 := by
  obtain ⟨_, _, _, _, rfl, _⟩ := h
  rfl
theorem ok_do_call (T : Txt K mg a) : FnOk P w K mg base (L2.CX P w) 7 a.f_do_call a.d_do_call ["machine", "call", "numbers", "row"] (sp_do_call K a) := by
  have G_ask := ok_ask (P := P) (w := w) (base := base) T
  have G_do_link := ok_do_link (P := P) (w := w) (base := base) T
  have G_do_down := ok_do_down (P := P) (w := w) (base := base) T
  have G_do_hear := ok_do_hear (P := P) (w := w) (base := base) T
  have G_do_tick := ok_do_tick (P := P) (w := w) (base := base) T
  have G_do_way := ok_do_way (P := P) (w := w) (base := base) T
  have G_do_routes := ok_do_routes (P := P) (w := w) (base := base) T
  have G_due := ok_due (P := P) (w := w) (base := base) T
  refine T.F_do_call.okX sc_do_call (fun vs H Q E h => len_do_call h) (fun cdv A outer s H vs Q E hr h => ?_)
  have r2 : Room 2 _ := hr.mono (by decide)
  have r3 : Room 3 _ := hr.mono (by decide)
  have r4 : Room 4 _ := hr.mono (by decide)
  have r5 : Room 5 _ := hr.mono (by decide)
  have r6 : Room 6 _ := hr.mono (by decide)
  refine ⟨_, (pss_cons (ps_expr (pe_call G_ask r3 rfl T.g_ask T.F_ask.kp (b_ask T) .nil (passes_call (takes_of rfl rfl rfl rfl) fun _ _ _ _ h => h) (pa_cons (pe_cmpR op_notN (pv 0) pe_non (nomark _)) (pa_cons (pe_glob rfl T.k_NO_MACHINE rel_int) pa_nil))))
      (pss_cons (ps_if (pt_cmpR op_eq (pv 1) pe_int (nomark _))
        (pss_one (ps_ret (pe_call G_do_link r4 rfl T.g_do_link T.F_do_link.kp (b_do_link T) .nil (passes_call (takes_of rfl rfl rfl rfl) fun _ _ _ _ h => h) (pa_cons (pv 0) (pa_cons (pe_ix ix_list (pv 2) pe_int (fun _ _ => rfl)) (pa_cons (pe_ix ix_list (pv 2) pe_int (fun _ _ => rfl)) (pa_cons (pe_ix ix_list (pv 2) pe_int (fun _ _ => rfl)) pa_nil)))))))
        pss_nil)
      (pss_cons (ps_if (pt_cmpR op_eq (pv 1) pe_int (nomark _))
        (pss_one (ps_ret (pe_call G_do_down r4 rfl T.g_do_down T.F_do_down.kp (b_do_down T) .nil (passes_call (takes_of rfl rfl rfl rfl) fun _ _ _ _ h => h) (pa_cons (pv 0) (pa_cons (pe_ix ix_list (pv 2) pe_int (fun _ _ => rfl)) pa_nil)))))
        pss_nil)
      (pss_cons (ps_if (pt_cmpR op_eq (pv 1) (pe_glob rfl T.k_HEAR rel_int) (nomark _))
        (pss_one (ps_ret (pe_call G_do_hear r5 rfl T.g_do_hear T.F_do_hear.kp (b_do_hear T) .nil (passes_call (takes_of rfl rfl rfl rfl) fun _ _ _ _ h => h) (pa_cons (pv 0) (pa_cons (pe_ix ix_list (pv 2) pe_int (fun _ _ => rfl)) (pa_cons (pe_ix ix_list (pv 2) pe_int (fun _ _ => rfl)) (pa_cons (pv 3) pa_nil)))))))
        pss_nil)
      (pss_cons (ps_if (pt_cmpR op_eq (pv 1) pe_int (nomark _))
        (pss_one (ps_ret (pe_call G_do_tick r6 rfl T.g_do_tick T.F_do_tick.kp (b_do_tick T) .nil (passes_call (takes_of rfl rfl rfl rfl) fun _ _ _ _ h => h) (pa_cons (pv 0) (pa_cons (pe_ix ix_list (pv 2) pe_int (fun _ _ => rfl)) pa_nil)))))
        pss_nil)
      (pss_cons (ps_if (pt_cmpR op_eq (pv 1) pe_int (nomark _))
        (pss_one (ps_ret (pe_call G_do_way r4 rfl T.g_do_way T.F_do_way.kp (b_do_way T) .nil (passes_call (takes_of rfl rfl rfl rfl) fun _ _ _ _ h => h) (pa_cons (pv 0) (pa_cons (pe_ix ix_list (pv 2) pe_int (fun _ _ => rfl)) pa_nil)))))
        pss_nil)
      (pss_cons (ps_if (pt_cmpR op_eq (pv 1) pe_int (nomark _))
        (pss_one (ps_ret (pe_call G_do_routes r2 rfl T.g_do_routes T.F_do_routes.kp (b_do_routes T) .nil pass0 (pa_cons (pv 0) pa_nil))))
        pss_nil)
      (pss_one (ps_ret (pe_lst (pa_cons pe_int (pa_cons (pe_call G_due r2 rfl T.g_due T.F_due.kp (b_due T) .nil pass0 (pa_cons (pv 0) pa_nil)) pa_nil)))))))))))), ?_⟩
  obtain ⟨mv, nl, row, c, rfl, h0, hn, hr', hbl, hm⟩ := h
  refine ⟨_, rfl, rfl, _, _, rfl, fun hq => ?_, fun hq => ?_⟩
  rotate_left
  · rcases hm with ⟨rfl, hE⟩ | ⟨m, g, s', rfl, hM, hD, hsz⟩
    · exact hE
    · have z : (!decide (V.ref m = V.non)) = false := hq
      rw [decide_eq_false (fun y => by cases y)] at z
      cases z
  rcases hm with ⟨rfl, hE⟩ | ⟨m, g, s', rfl, hM, hD, hsz⟩
  · have z : (!decide (V.non = V.non)) = true := hq
    rw [decide_eq_true rfl] at z
    cases z
  cases c with
  | begin_ now => exact absurd rfl h0
  | link i ad n =>
    refine ⟨_, rfl, rfl, _, rfl, if_true_of (eqT 1) ?_⟩
    refine ⟨_, rfl, _, rfl, nl, _, ((0 : Nat) : Int), nV i, rfl, rfl, hn, atI_nat rfl, _, rfl, nl, _, ((1 : Nat) : Int), nV ad, rfl, rfl, hn, atI_nat rfl, _, rfl, nl, _, ((2 : Nat) : Int), nV n, rfl, rfl, hn, atI_nat rfl, ?_⟩
    exact ⟨m, i, ad, n, g, s', rfl, hM, hD⟩
  | down i =>
    refine ⟨_, rfl, rfl, _, rfl, if_false_of (eqF (k := 2) (n := 1) (by decide)) ?_⟩
    refine ⟨_, rfl, rfl, _, rfl, if_true_of (eqT 2) ?_⟩
    refine ⟨_, rfl, _, rfl, nl, _, ((0 : Nat) : Int), nV i, rfl, rfl, hn, atI_nat rfl, ?_⟩
    exact ⟨m, i, g, s', rfl, hM, hD⟩
  | hear i x b =>
    refine ⟨_, rfl, rfl, _, rfl, if_false_of (eqF (k := 3) (n := 1) (by decide)) ?_⟩
    refine ⟨_, rfl, rfl, _, rfl, if_false_of (eqF (k := 3) (n := 2) (by decide)) ?_⟩
    refine ⟨_, rfl, rfl, _, rfl, if_true_of (eqT 3) ?_⟩
    refine ⟨_, rfl, _, rfl, nl, _, ((0 : Nat) : Int), nV i, rfl, rfl, hn, atI_nat rfl, _, rfl, nl, _, ((1 : Nat) : Int), nV x, rfl, rfl, hn, atI_nat rfl, _, rfl, ?_⟩
    exact ⟨m, row, i, x, b, g, s', rfl, hM, hr', hbl, hD⟩
  | tick now =>
    refine ⟨_, rfl, rfl, _, rfl, if_false_of (eqF (k := 4) (n := 1) (by decide)) ?_⟩
    refine ⟨_, rfl, rfl, _, rfl, if_false_of (eqF (k := 4) (n := 2) (by decide)) ?_⟩
    refine ⟨_, rfl, rfl, _, rfl, if_false_of (eqF (k := 4) (n := 3) (by decide)) ?_⟩
    refine ⟨_, rfl, rfl, _, rfl, if_true_of (eqT 4) ?_⟩
    refine ⟨_, rfl, _, rfl, nl, _, ((0 : Nat) : Int), nV now, rfl, rfl, hn, atI_nat rfl, ?_⟩
    exact ⟨m, now, g, s', rfl, hM, hsz, hD⟩
  | way ad =>
    refine ⟨_, rfl, rfl, _, rfl, if_false_of (eqF (k := 5) (n := 1) (by decide)) ?_⟩
    refine ⟨_, rfl, rfl, _, rfl, if_false_of (eqF (k := 5) (n := 2) (by decide)) ?_⟩
    refine ⟨_, rfl, rfl, _, rfl, if_false_of (eqF (k := 5) (n := 3) (by decide)) ?_⟩
    refine ⟨_, rfl, rfl, _, rfl, if_false_of (eqF (k := 5) (n := 4) (by decide)) ?_⟩
    refine ⟨_, rfl, rfl, _, rfl, if_true_of (eqT 5) ?_⟩
    refine ⟨_, rfl, _, rfl, nl, _, ((0 : Nat) : Int), nV ad, rfl, rfl, hn, atI_nat rfl, ?_⟩
    exact ⟨m, ad, g, s', rfl, hM, hD⟩
  | routes =>
    refine ⟨_, rfl, rfl, _, rfl, if_false_of (eqF (k := 6) (n := 1) (by decide)) ?_⟩
    refine ⟨_, rfl, rfl, _, rfl, if_false_of (eqF (k := 6) (n := 2) (by decide)) ?_⟩
    refine ⟨_, rfl, rfl, _, rfl, if_false_of (eqF (k := 6) (n := 3) (by decide)) ?_⟩
    refine ⟨_, rfl, rfl, _, rfl, if_false_of (eqF (k := 6) (n := 4) (by decide)) ?_⟩
    refine ⟨_, rfl, rfl, _, rfl, if_false_of (eqF (k := 6) (n := 5) (by decide)) ?_⟩
    refine ⟨_, rfl, rfl, _, rfl, if_true_of (eqT 6) ?_⟩
    refine ⟨_, rfl, ?_⟩
    exact ⟨m, g, s', _, rfl, hM, hD⟩
  | due =>
    refine ⟨_, rfl, rfl, _, rfl, if_false_of (eqF (k := 7) (n := 1) (by decide)) ?_⟩
    refine ⟨_, rfl, rfl, _, rfl, if_false_of (eqF (k := 7) (n := 2) (by decide)) ?_⟩
    refine ⟨_, rfl, rfl, _, rfl, if_false_of (eqF (k := 7) (n := 3) (by decide)) ?_⟩
    refine ⟨_, rfl, rfl, _, rfl, if_false_of (eqF (k := 7) (n := 4) (by decide)) ?_⟩
    refine ⟨_, rfl, rfl, _, rfl, if_false_of (eqF (k := 7) (n := 5) (by decide)) ?_⟩
    refine ⟨_, rfl, rfl, _, rfl, if_false_of (eqF (k := 7) (n := 6) (by decide)) ?_⟩
    refine ⟨_, rfl, m, g, s', rfl, hM, fun H1 s1 => ⟨sz (by show 2 ≤ _; omega), fun pa hpa => ?_⟩⟩
    have s12 := same_new (o := .lst [.int 0, nV (Ra54.dueAt s')]) s1 hpa
    refine hD.yes s' g pa _ rfl (Int.le_refl 0) (hM.same s12) (Fr.of_same s12 _) (.inr (fresh_back s1 hpa)) ?_
    rw [upd_same]
    rfl
end
end Nr
namespace Nr
open PySem PySem.Spec PyProof.Rows L2
/-! ### the box, and a call on the tape -/
def BxAt (a : Ad) (H : Hp) (b : Addr) (o : Option Ra54.St) (F : List Addr) : Prop :=
  (BoxAt a.c_Box H b .non ∧ o = none ∧ F = []) ∨ ∃ m g s, BoxAt a.c_Box H b (.ref m) ∧ MachAt a H m g s ∧ o = some s ∧ F = foot m g
def tailC (c : Ra54.Call) : List Int := if numC c = 3 then ((rowC c).length : Int) :: (rowC c).map (fun x => (x.toNat : Int)) else []
def argI (c : Ra54.Call) : List Int := (argC c).map fun n : Nat => (n : Int)
def enc (c : Ra54.Call) : List Int := (numC c : Int) :: (argI c ++ tailC c)
theorem argI_len (c : Ra54.Call) : (argI c).length = (argC c).length := List.length_map ..
theorem argI_V (c : Ra54.Call) : (argI c).map V.int = (argC c).map nV := List.map_map
theorem MachAt.tape {a : Ad} {H H' : Hp} {m t nl dx : Addr} {i : Nat} {g : Gh} {s : Ra54.St} (h : MachAt a H m g s) (k : Keep H H' [t]) (ht : H t = some (.ins a.c_Tape dx (tapeF nl i))) : MachAt a H' m g s := by
  have kk : ∀ {x : Addr} {u : HO}, H x = some u → (u ≠ .ins a.c_Tape dx (tapeF nl i)) → H' x = some u := fun {x u} hx h1 => k _ _ hx fun z => by
    rw [List.mem_singleton.mp z, ht] at hx
    exact h1 (Option.some.inj hx).symm
  have fl : ∀ {C dx' : Addr} {fs : List (Str × V)}, fs.length ≠ 2 → HO.ins C dx' fs ≠ .ins a.c_Tape dx (tapeF nl i) := fun h z => by
    injection z with _ _ z
    exact h (by rw [z]; rfl)
  obtain ⟨dxm, hm⟩ := h.ob
  obtain ⟨dxt, ht⟩ := h.tbl
  refine ⟨⟨dxm, kk hm (fl (by show 5 ≠ 2; decide))⟩, kk h.links (fun z => (by cases z)), ?_, h.four, h.lok, ⟨dxt, kk ht (fl (by show 1 ≠ 2; decide))⟩, ⟨kk h.tab.dict (fun z => (by cases z)), ⟨fun e he => (by
      obtain ⟨dx', q⟩ := h.tab.rt.at_ e he
      exact ⟨dx', kk q (fl (by show 7 ≠ 2; decide))⟩), h.tab.rt.nd⟩, h.tab.ps, h.tab.ok⟩⟩
  refine paired_mono (fun _ _ q => linkO_keep (fun p ln ⟨dx', hl⟩ => ⟨dx', kk hl fun z => ?_⟩) q) h.lk
  injection z with _ _ z
  injection z with z _
  have e : ("address" : Str) = "numbers" := congrArg Prod.fst z
  exact absurd e (by decide +kernel)
theorem box_tape {a : Ad} {H : Hp} {b t dx nl : Addr} {i : Nat} {mv : V} (hb : BoxAt a.c_Box H b mv) (ht : H t = some (.ins a.c_Tape dx (tapeF nl i))) : b ≠ t := fun z => by
  obtain ⟨dxb, hb⟩ := hb
  rw [z, ht] at hb
  injection hb with hb
  injection hb with _ _ hb
  have := congrArg List.length hb
  exact absurd this (by show ¬ 2 = 1; decide)
theorem BoxAt.tape {a : Ad} {H H' : Hp} {b t dx nl : Addr} {i : Nat} {mv : V} (hb : BoxAt a.c_Box H b mv) (k : Keep H H' [t]) (ht : H t = some (.ins a.c_Tape dx (tapeF nl i))) : BoxAt a.c_Box H' b mv := by
  have n := box_tape hb ht
  obtain ⟨dxb, hb⟩ := hb
  exact ⟨dxb, k _ _ hb fun z => n (List.mem_singleton.mp z)⟩
theorem BxAt.tape {a : Ad} {H H' : Hp} {b t nl dx : Addr} {i : Nat} {o : Option Ra54.St} {F : List Addr} (h : BxAt a H b o F) (k : Keep H H' [t]) (ht : H t = some (.ins a.c_Tape dx (tapeF nl i))) : BxAt a H' b o F := by
  rcases h with ⟨h1, h2, h3⟩ | ⟨m, g, s, h1, h2, h3, h4⟩
  · exact .inl ⟨h1.tape k ht, h2, h3⟩
  · exact .inr ⟨m, g, s, h1.tape k ht, h2.tape k ht, h3, h4⟩
theorem tape_foot {a : Ad} {H : Hp} {m t nl dx : Addr} {i : Nat} {g : Gh} {s : Ra54.St} (h : MachAt a H m g s) (ht : H t = some (.ins a.c_Tape dx (tapeF nl i))) : t ∉ foot m g := foot_kind h ht (fun _ z => (by cases z)) (fun _ z => (by cases z)) (fun C dx fs z => by
  injection z with _ _ z
  rw [← z]
  exact ⟨by show 2 ≠ 5; decide, by show 2 ≠ 7; decide⟩)
theorem box_foot {a : Ad} {H : Hp} {m b : Addr} {mv : V} {g : Gh} {s : Ra54.St} (h : MachAt a H m g s) (hb : BoxAt a.c_Box H b mv) : b ∉ foot m g := by
  obtain ⟨dxb, hb⟩ := hb
  exact foot_kind h hb (fun _ z => (by cases z)) (fun _ z => (by cases z)) (fun C dx fs z => by
    injection z with _ _ z
    rw [← z]
    exact ⟨by show 1 ≠ 5; decide, by show 1 ≠ 7; decide⟩)
theorem drop_cons {α : Type} {l r : List α} {i : Nat} {x : α} (h : l.drop i = x :: r) : l[i]? = some x ∧ l.drop (i + 1) = r ∧ i + 1 ≤ l.length := by
  have e : l.drop (i + 1) = (l.drop i).drop 1 := by rw [List.drop_drop]
  have hl : (l.drop i).length = l.length - i := List.length_drop
  rw [h, List.length_cons] at hl
  refine ⟨?_, by rw [e, h]; rfl, by omega⟩
  have := List.getElem?_drop (xs := l) (i := i) (j := 0)
  rw [h] at this
  exact this.symm
theorem drop_app {α : Type} {l x r : List α} {i : Nat} (h : l.drop i = x ++ r) (hi : i ≤ l.length) : (l.drop i).take x.length = x ∧ l.drop (i + x.length) = r ∧ i + x.length ≤ l.length := by
  have e : l.drop (i + x.length) = (l.drop i).drop x.length := by rw [List.drop_drop]
  have hl : (l.drop i).length = l.length - i := List.length_drop
  rw [h, List.length_append] at hl
  refine ⟨by rw [h, List.take_left], by rw [e, h, List.drop_left], by omega⟩
theorem sizes_at (c : Ra54.Call) : ([.int 1, .int 3, .int 1, .int 2, .int 1, .int 1, .int 0, .int 0] : List V)[numC c]? = some (nV (argC c).length) := by
  cases c <;> rfl
theorem step_none {c : Ra54.Call} (h : numC c ≠ 0) : Ra54.step none c = (none, Ra54.only (-6)) := by
  cases c
  · exact absurd rfl h
  all_goals rfl
section
variable {P : Program} {w : World} {K : PySem.W.Frag} {mg : Str → Option Value} {base : Heap} {a : Ad}
abbrev tbA (K : PySem.W.Frag) (a : Ad) : WX → TS := fun W => tIfS (tTest (tOp rEq (tVar 2) (tC (.int 0)))) (tAsg (tCallS (sp_do_begin K a) (WE W) (tCons (tVar 0) (tCons (tOp (rIxL K) (tVar 3) (tC (.int 0))) tNil))) (gName 5)) (tAsg (tCallS (sp_do_call K a) (WE W) (tCons (tFld K (tVar 0) "machine") (tCons (tVar 2) (tCons (tVar 3) (tCons (tVar 4) tNil))))) (gName 5))
abbrev tsA (a : Ad) : Addr → Value → Option Addr → TS := fun a0 cls d => tRet (tLst (tCons (tByLow a.c_Refused a0 cls d (tVar 6)) tNil))
theorem ref_end (T : Txt K mg a) {Q : VK} {D : Ends} (hD : D.rt = Q) {v0 v1 v2 v3 v4 v5 v6 : Option V} {H3 : Hp} {z : Int} (q : ∀ p H', Same H3 H' → H3 p = none → H' p = some (.lst [.int z]) → Q (.ref p) H') : RefE a H3 z (WE (wAs K (.ref a.c_Refused) 6 (tsA a) (fun _ _ _ _ => False) D) [v0, v1, v2, v3, v4, v5, v6]) := by
  subst hD
  intro d H' s' hd hx
  refine ⟨true, T.low.te, fun _ a0 ha0 => ?_, fun q => (by cases q)⟩
  refine ⟨_, rfl, rfl, rfl, d, _, rfl, hx, sz (by show 1 ≤ _; omega), fun p hp => ?_⟩
  exact q p _ (same_new s' hp) (fresh_back s' hp) upd_same
theorem TapeAt.same {C : Addr} {H H' : Hp} {t nl : Addr} {i : Nat} {zs : List Int} (h : TapeAt C H t nl i zs) (s : Same H H') : TapeAt C H' t nl i zs := ⟨let ⟨dx, q⟩ := h.ob; ⟨dx, s _ _ q⟩, s _ _ h.ns⟩
theorem BxAt.same {H H' : Hp} {b : Addr} {o : Option Ra54.St} {F : List Addr} (h : BxAt a H b o F) (s : Same H H') : BxAt a H' b o F := by
  rcases h with ⟨⟨dx, h1⟩, h2, h3⟩ | ⟨m, g, st, ⟨dx, h1⟩, h2, h3, h4⟩
  · exact .inl ⟨⟨dx, s _ _ h1⟩, h2, h3⟩
  · exact .inr ⟨m, g, st, ⟨dx, s _ _ h1⟩, h2.same s, h3, h4⟩
def sp_answer (K : PySem.W.Frag) (a : Ad) : Sp := fun vs H Q _ => ∃ (b t nl : Addr) (i : Nat) (zs rest : List Int) (o : Option Ra54.St) (F : List Addr) (c : Ra54.Call), vs = [.ref b, .ref t] ∧ TapeAt a.c_Tape H t nl i zs ∧ BxAt a H b o F ∧ nl ∉ F ∧ zs.drop i = enc c ++ rest ∧ (rowC c).length ≤ 2048 ∧ (ansL (Ra54.step o c).2).length ≤ 16777216 ∧
  ∀ p F' H', TapeAt a.c_Tape H' t nl (i + (enc c).length) zs → BxAt a H' b (Ra54.step o c).1 F' → (∀ x u, H x = some u → x ≠ b → x ≠ t → x ∉ F → H' x = some u) → (∀ x ∈ F', x ∈ F ∨ H x = none) → (p ∈ F ∨ H p = none) → H' p = some (.lst ((ansL (Ra54.step o c).2).map V.int)) → Q (.ref p) H'
theorem len_answer {vs : List V} {H : Hp} {Q : VK} {E : XK} (h : sp_answer K a vs H Q E) : vs.length = 2 := by
  obtain ⟨_, _, _, _, _, _, _, _, _, rfl, _⟩ := h
  rfl
theorem ok_answer (T : Txt K mg a) : FnOk P w K mg base CX0 8 a.f_answer a.d_answer ["box", "tape"] (sp_answer K a) := by
  have G_Tape_take_many := ok_Tape_take_many (P := P) (w := w) (base := base) T
  have G_Tape_take_row := ok_Tape_take_row (P := P) (w := w) (base := base) T
  have G_do_begin := ok_do_begin (P := P) (w := w) (base := base) T
  have G_do_call := ok_do_call (P := P) (w := w) (base := base) T
  refine T.F_answer.ok sc_answer (fun vs H Q E h => len_answer h) (fun cdv A outer s H vs Q E hr h => ?_)
  have r1 : Room 1 _ := hr.mono (by decide)
  have r2 : Room 2 _ := hr.mono (by decide)
  have r5 : Room 5 _ := hr.mono (by decide)
  have r7 : Room 7 _ := hr.mono (by decide)
  refine ⟨_, (pss_cons (ps_set (i := 2) sc_answer.nd rfl (by first | exact Or.inl rfl | exact Or.inr rfl) (pe_ix ix_list (pe_meth (pv 1) T.cl_Tape T.M_Tape_take_many G_Tape_take_many r1 (b_Tape_take_many T) .nil pass0 (pa_cons pe_int pa_nil)) pe_int (fun _ _ => rfl)))
      (pss_cons (ps_set (i := 3) sc_answer.nd rfl (by first | exact Or.inl rfl | exact Or.inr rfl) (pe_meth (pv 1) T.cl_Tape T.M_Tape_take_many G_Tape_take_many r1 (b_Tape_take_many T) .nil pass0 (pa_cons (pe_ix ix_tup (pe_glob (v := .ref a.x_SIZES) rfl T.k_SIZES rfl) (pv 2) (fun _ _ => rfl)) pa_nil)))
      (pss_cons (ps_set (i := 4) sc_answer.nd rfl (by first | exact Or.inl rfl | exact Or.inr rfl) (pe_lst pa_nil))
      (pss_cons (ps_if (pt_cmpR op_eq (pv 2) (pe_glob rfl T.k_HEAR rel_int) (nomark _))
        (pss_one (ps_set (i := 4) sc_answer.nd rfl (by first | exact Or.inl rfl | exact Or.inr rfl) (pe_meth0 (pv 1) T.cl_Tape T.M_Tape_take_row G_Tape_take_row r2 (b_Tape_take_row T) .nil pass0)))
        pss_nil)
      (pss_cons (ps_try_as (i := 6) (tb := tbA K a) (ts := tsA a) (Wout := fun _ _ _ _ => False) rfl rfl sc_answer.nd rfl rfl ⟨rfl, by decide, Or.inl T.low.gC⟩ takes0
        (fun W pn xe tk _ => (pss_one (ps_if (pt_cmpR op_eq (pv 2) pe_int (nomark _))
            (pss_one (ps_set (i := 5) sc_answer.nd rfl (by first | exact Or.inl rfl | exact Or.inr rfl) (by exact (pe_callS G_do_begin r5 rfl T.g_do_begin T.F_do_begin.kp (b_do_begin T) (fun σ => passAt tk σ) (by exact (pa_cons (pv 0) (pa_cons (pe_ix ix_list (pv 3) pe_int (fun _ _ => rfl)) pa_nil)))))))
            (pss_one (ps_set (i := 5) sc_answer.nd rfl (by first | exact Or.inl rfl | exact Or.inr rfl) (by exact (pe_callS G_do_call r7 rfl T.g_do_call T.F_do_call.kp (b_do_call T) (fun σ => passAt tk σ) (by exact (pa_cons (pe_fld (pv 0) rfl) (pa_cons (pv 2) (pa_cons (pv 3) (pa_cons (pv 4) pa_nil))))))))))))
        (fun a0 oe cls d pn hz hf => (pss_one (ps_ret (pe_lst (pa_cons (pe_byLow T.low hz hf (pv 6)) pa_nil))))))
      (pss_one (ps_ret (pv 5)))))))), ?_⟩
  obtain ⟨b, t, nl, i, zs, rest, o, F, c, rfl, hT, hB, hnl, hz, hbl, hsz, fin⟩ := h
  obtain ⟨dxt, ht⟩ := hT.ob
  have hz1 : zs.drop i = (numC c : Int) :: (argI c ++ (tailC c ++ rest)) := by
    rw [hz]
    show _ :: ((argI c ++ tailC c) ++ rest) = _
    rw [List.append_assoc]
  obtain ⟨g1, g2, g3⟩ := drop_cons hz1
  obtain ⟨g4, g5, g6⟩ := drop_app g2 g3
  -- the call's number
  refine ⟨_, rfl, t, dxt, _, rfl, ht, tape_meth, t, nl, i, 1, zs, rfl, hT, g3, fun p1 H1 k1 hp1 hT1 hv1 => ?_⟩
  rw [drop_one g1] at hv1
  refine ⟨p1, _, ((0 : Nat) : Int), nV (numC c), rfl, rfl, SqL.of hv1, atI_nat rfl, ?_⟩
  obtain ⟨dxt1, ht1⟩ := hT1.ob
  -- its numbers
  refine ⟨_, rfl, t, dxt1, _, rfl, ht1, tape_meth, _, rfl, a.x_SIZES, _, ((numC c : Nat) : Int), nV (argC c).length, rfl, rfl, T.x_SIZES H1, atI_nat (sizes_at c), t, nl, i + 1, (argC c).length, zs, rfl, hT1, (by rw [← argI_len]; exact g6), fun p2 H2 k2 hp2 hT2 hv2 => ?_⟩
  rw [← argI_len, g4, argI_V] at hv2
  have k02 := k1.trans k2
  have hT2' : TapeAt a.c_Tape H2 t nl (i + 1 + (argI c).length) zs := by rw [argI_len]; exact hT2
  clear hT2
  have elen : (enc c).length = 1 + (argI c).length + (tailC c).length := by
    show (_ :: (argI c ++ tailC c)).length = _
    rw [List.length_cons, List.length_append]
    omega
  have go : ∀ (row : Addr) (H3 : Hp), Keep H H3 [t] → TapeAt a.c_Tape H3 t nl (i + (enc c).length) zs → H3 p2 = some (.lst ((argC c).map nV)) → H3 row = some (.lst ((rowC c).map u8V)) →
      tSeq (fun D σ H => tbA K a (wAs K (.ref a.c_Refused) 6 (tsA a) (fun _ _ _ _ => False) D) D σ H) (tRet (tVar 5)) { nx := fun _ H' => Q .non H', rt := Q } [some (.ref b), some (.ref t), some (nV (numC c)), some (.ref p2), some (.ref row), none, none] H3 := by
    intro row H3 k3 hT3 h2 hrow
    obtain ⟨dxt3, ht3⟩ := hT3.ob
    have hB3 := hB.tape k3 ht
    have new3 : ∀ {x : Addr}, H3 x = none → H x = none := fun {x} hx => k3.fresh hx fun z => by
      rw [List.mem_singleton.mp z, ht3] at hx
      cases hx
    have no : ∀ z, Ra54.step o c = (o, Ra54.only z) → ∀ p H', Same H3 H' → H3 p = none → H' p = some (.lst [.int z]) → Q (.ref p) H' := fun z hr p H' s' hp hx => by
      rw [hr] at fin
      refine fin p F H' ⟨⟨dxt3, s' _ _ ht3⟩, s' _ _ hT3.ns⟩ (hB3.same s') (fun x u q n1 n2 _ => s' _ _ (k3 x u q fun z => n2 (List.mem_singleton.mp z))) (fun x hx => .inl hx) (.inr (new3 hp)) hx
    by_cases h0 : numC c = 0
    · obtain ⟨now, rfl⟩ : ∃ now, c = .begin_ now := by
        cases c
        · exact ⟨_, rfl⟩
        all_goals exact absurd h0 (by show ¬ (_ + 1 : Nat) = 0; exact Nat.succ_ne_zero _)
      refine ⟨_, rfl, rfl, _, rfl, if_true_of (eqT 0) ?_⟩
      refine ⟨_, rfl, _, rfl, p2, _, ((0 : Nat) : Int), nV now, rfl, rfl, SqL.of h2, atI_nat rfl, ?_⟩
      obtain ⟨mv, hbox⟩ : ∃ mv, BoxAt a.c_Box H3 b mv := by
        rcases hB3 with ⟨h1, _⟩ | ⟨m, g, s, h1, _⟩
        · exact ⟨_, h1⟩
        · exact ⟨_, h1⟩
      refine ⟨b, now, mv, rfl, hbox, fun hn => ref_end T rfl (no (-1) (by show (if _ then _ else _) = _; rw [if_neg hn])), fun hn m g p H4 hM4 hbox4 k4 hnew hp hp4 => ?_⟩
      have es : Ra54.step o (.begin_ now) = (some (Ra54.begun now), Ra54.only 0) := by show (if _ then _ else _) = _; rw [if_pos hn]
      rw [es] at fin
      have nbt := box_tape hbox ht3
      have nnb : nl ≠ b := fun z => by
        obtain ⟨dxb, hb⟩ := hbox
        have := hT3.ns
        rw [z, hb] at this
        cases this
      refine ⟨_, rfl, fin p (foot m g) H4 ⟨⟨dxt3, k4 _ _ ht3 fun z => nbt (List.mem_singleton.mp z).symm⟩, k4 _ _ hT3.ns fun z => nnb (List.mem_singleton.mp z)⟩ (.inr ⟨m, g, _, hbox4, hM4, rfl, rfl⟩) (fun x u q n1 n2 _ => ?_) (fun x hx => .inr (new3 (hnew x hx))) (.inr (new3 hp)) hp4⟩
      exact k4 _ _ (k3 x u q fun z => n2 (List.mem_singleton.mp z)) fun z => n1 (List.mem_singleton.mp z)
    · refine ⟨_, rfl, rfl, _, rfl, if_false_of (eqF h0) ?_⟩
      rcases hB3 with ⟨⟨dxb, hb⟩, rfl, rfl⟩ | ⟨m, g, s, ⟨dxb, hb⟩, hM, rfl, rfl⟩
      · refine ⟨_, rfl, b, _, dxb, _, _, rfl, hb, T.cl_Box, T.n_Box_machine, lk_here, _, rfl, _, rfl, _, rfl, .non, p2, row, c, rfl, h0, SqL.of h2, SqL.of hrow, hbl, .inl ⟨rfl, ref_end T rfl (no (-6) (step_none h0))⟩⟩
      · refine ⟨_, rfl, b, _, dxb, _, _, rfl, hb, T.cl_Box, T.n_Box_machine, lk_here, _, rfl, _, rfl, _, rfl, .ref m, p2, row, c, rfl, h0, SqL.of h2, SqL.of hrow, hbl, .inr ⟨m, g, s, rfl, hM, ⟨fun z hr _ => ref_end T rfl (no z hr), fun s' g' p H4 hr _ hM4 fr hp hx => ?_⟩, hsz⟩⟩
        refine ⟨_, rfl, fin p (foot m g') H4 ⟨⟨dxt3, fr.keep _ _ ht3 (tape_foot hM ht3)⟩, fr.keep _ _ hT3.ns hnl⟩ (.inr ⟨m, g', s', ⟨dxb, fr.keep _ _ hb (box_foot hM ⟨dxb, hb⟩)⟩, hM4, hr, rfl⟩) (fun x u q n1 n2 nF => ?_) (fun x hx => ?_) ?_ hx⟩
        · exact fr.keep _ _ (k3 x u q fun z => n2 (List.mem_singleton.mp z)) nF
        · rcases fr.new x hx with z | z
          · exact .inl z
          · exact .inr (new3 z)
        · rcases hp with z | z
          · exact .inl z
          · exact .inr (new3 z)
  refine ⟨sz (Nat.zero_le _), fun p3 hp3 => ?_⟩
  have s23 : Same H2 (upd H2 p3 (.lst [])) := same_new0 hp3
  obtain ⟨dxt2, ht2⟩ := hT2'.ob
  have k03 : Keep H (upd H2 p3 (.lst [])) [t] := fun x u q n => s23 _ _ (k02 x u q n)
  refine ⟨_, rfl, rfl, _, rfl, ?_⟩
  by_cases h3 : numC c = 3
  · have et : tailC c = ((rowC c).length : Int) :: (rowC c).map (fun x => (x.toNat : Int)) := by unfold tailC; rw [if_pos h3]
    rw [et] at g5
    obtain ⟨g7, g8, g9⟩ := drop_cons g5
    have hlr : ((rowC c).map (fun x => (x.toNat : Int))).length = (rowC c).length := List.length_map ..
    obtain ⟨g10, g11, g12⟩ := drop_app g8 g9
    rw [hlr] at g10 g12
    refine if_true_of (by rw [h3]; exact eqT 3) ?_
    refine ⟨_, rfl, t, dxt2, _, rfl, s23 _ _ ht2, tape_meth2, t, nl, i + 1 + (argI c).length, (rowC c).length, zs, rfl, ⟨⟨dxt2, s23 _ _ ht2⟩, s23 _ _ hT2'.ns⟩, g7, g12, fun p4 H4 k4 hp4 hT4 hv4 => ?_⟩
    rw [g10, List.map_map] at hv4
    have e4 : i + 1 + (argI c).length + 1 + (rowC c).length = i + (enc c).length := by
      rw [elen, et, List.length_cons, hlr]
      omega
    rw [e4] at hT4
    refine go p4 H4 (k03.trans k4) hT4 (k4 _ _ (s23 _ _ hv2) fun z => ?_) hv4
    rw [List.mem_singleton.mp z, ht2] at hv2
    cases hv2
  · have et : tailC c = [] := by unfold tailC; rw [if_neg h3]
    have er : rowC c = [] := by
      cases c
      case hear => exact absurd rfl h3
      all_goals rfl
    refine if_false_of (eqF h3) ?_
    have e4 : i + 1 + (argI c).length = i + (enc c).length := by
      rw [elen, et]
      show _ = i + (1 + (argI c).length + 0)
      omega
    rw [e4] at hT2'
    exact go p3 _ k03 (hT2'.same s23) (s23 _ _ hv2) (by rw [er]; exact upd_same)
end
end Nr
namespace Nr
open PySem PySem.Spec PyProof.Rows L2
/-! ### all calls -/
def outs : Option Ra54.St → List Ra54.Call → List (List Int)
  | _, [] => []
  | o, c :: cs => ansL (Ra54.step o c).2 :: outs (Ra54.step o c).1 cs
theorem told_cons (x : List Int) (l : List (List Int)) : PyFlat.told (x :: l) = ((x.length : Nat) : Int) :: (x ++ PyFlat.told l) := rfl
section
variable {P : Program} {w : World} {K : PySem.W.Frag} {mg : Str → Option Value} {base : Heap} {a : Ad}
theorem MachAt.lst {a : Ad} {H : Hp} {m f : Addr} {g : Gh} {s : Ra54.St} {xs : List V} {o : HO} (h : MachAt a H m g s) (hf : H f = some (.lst xs)) (n : f ∉ foot m g) : MachAt a (upd H f o) m g s := by
  have kk : ∀ {x : Addr} {u : HO}, H x = some u → (∀ ys, u ≠ .lst ys) → upd H f o x = some u := fun {x u} hx h1 => by
    rw [upd_ne (ne_of hx hf (h1 _))]
    exact hx
  have nl : g.l ≠ f := fun z => n (by rw [← z]; exact List.mem_cons_of_mem _ (List.mem_cons_self ..))
  obtain ⟨dxm, hm⟩ := h.ob
  obtain ⟨dxt, ht⟩ := h.tbl
  exact ⟨⟨dxm, kk hm (fun _ z => (by cases z))⟩, by rw [upd_ne nl]; exact h.links, paired_mono (fun _ _ q => linkO_keep (fun p ln ⟨dx', hl⟩ => ⟨dx', kk hl (fun _ z => (by cases z))⟩) q) h.lk, h.four, h.lok, ⟨dxt, kk ht (fun _ z => (by cases z))⟩, ⟨kk h.tab.dict (fun _ z => (by cases z)), ⟨fun e he => (by
      obtain ⟨dx', q⟩ := h.tab.rt.at_ e he
      exact ⟨dx', kk q (fun _ z => (by cases z))⟩), h.tab.rt.nd⟩, h.tab.ps, h.tab.ok⟩⟩
theorem BxAt.lst {a : Ad} {H : Hp} {b f : Addr} {st : Option Ra54.St} {F : List Addr} {xs : List V} {o : HO} (h : BxAt a H b st F) (hf : H f = some (.lst xs)) (nb : f ≠ b) (n : f ∉ F) : BxAt a (upd H f o) b st F := by
  rcases h with ⟨⟨dx, h1⟩, h2, h3⟩ | ⟨m, g, s, ⟨dx, h1⟩, h2, h3, h4⟩
  · exact .inl ⟨⟨dx, by rw [upd_ne (Ne.symm nb)]; exact h1⟩, h2, h3⟩
  · exact .inr ⟨m, g, s, ⟨dx, by rw [upd_ne (Ne.symm nb)]; exact h1⟩, h2.lst hf (by rw [← h4]; exact n), h3, h4⟩
def sp_answers (K : PySem.W.Frag) (a : Ad) : Sp := fun vs H Q _ => ∃ (c : Addr) (zs : List Int) (cs : List Ra54.Call), vs = [.ref c] ∧ SqL K H c (zs.map V.int) ∧ zs = cs.flatMap enc ∧ (∀ x ∈ cs, (rowC x).length ≤ 2048) ∧ (PyFlat.told (outs none cs)).length ≤ 16777216 ∧
  ∀ p H', H' p = some (.lst ((PyFlat.told (outs none cs)).map V.int)) → Q (.ref p) H'
theorem len_answers {vs : List V} {H : Hp} {Q : VK} {E : XK} (h : sp_answers K a vs H Q E) : vs.length = 1 := by
  obtain ⟨_, _, _, rfl, _⟩ := h
  rfl
def Lp (a : Ad) (zs tot : List Int) (c b t nl f : Addr) (m : Nat) (σ : L2.St) (H : Hp) : Prop := ∃ (i : Nat) (rest : List Ra54.Call) (o : Option Ra54.St) (F : List Addr) (acc : List Int) (v4 : Option V), m = rest.length ∧ σ = [some (.ref c), some (.ref b), some (.ref t), some (.ref f), v4] ∧ TapeAt a.c_Tape H t nl i zs ∧ BxAt a H b o F ∧ nl ∉ F ∧ f ∉ F ∧ H f = some (.lst (acc.map V.int)) ∧ zs.drop i = rest.flatMap enc ∧ (∀ x ∈ rest, (rowC x).length ≤ 2048) ∧ i ≤ zs.length ∧ acc ++ PyFlat.told (outs o rest) = tot
theorem ok_answers (T : Txt K mg a) : FnOk P w K mg base CX0 9 a.f_answers a.d_answers ["calls"] (sp_answers K a) := by
  have G_Box_init := ok_Box_init (P := P) (w := w) (base := base) T
  have G_Tape_init := ok_Tape_init (P := P) (w := w) (base := base) T
  have G_Tape_is_done := ok_Tape_is_done (P := P) (w := w) (base := base) T
  have G_answer := ok_answer (P := P) (w := w) (base := base) T
  refine T.F_answers.ok sc_answers (fun vs H Q E h => len_answers h) (fun cdv A outer s H vs Q E hr h => ?_)
  have r1 : Room 1 _ := hr.mono (by decide)
  have r2 : Room 2 _ := hr.mono (by decide)
  have r8 : Room 8 _ := hr.mono (by decide)
  refine ⟨_, (pss_cons (ps_set (i := 1) sc_answers.nd rfl (by first | exact Or.inl rfl | exact Or.inr rfl) (pe_make0 T.m_Box G_Box_init r2 rfl T.g_Box (b_Box_init T) .nil pass0))
      (pss_cons (ps_set (i := 2) sc_answers.nd rfl (by first | exact Or.inl rfl | exact Or.inr rfl) (pe_make T.m_Tape G_Tape_init r2 rfl T.g_Tape (b_Tape_init T) .nil pass0 (pa_cons (pv 0) pa_nil)))
      (pss_cons (ps_set (i := 3) sc_answers.nd rfl (by first | exact Or.inl rfl | exact Or.inr rfl) (pe_lst pa_nil))
      (pss_cons (ps_while PassesOwn.never (pt_not (pt_val (pe_meth0 (pv 2) T.cl_Tape T.M_Tape_is_done G_Tape_is_done r1 (b_Tape_is_done T) .nil pass0)))
        (pss_cons (ps_set (i := 4) sc_answers.nd rfl (by first | exact Or.inl rfl | exact Or.inr rfl) (pe_call G_answer r8 rfl T.g_answer T.F_answer.kp (b_answer T) .nil pass0 (pa_cons (pv 1) (pa_cons (pv 2) pa_nil))))
        (pss_cons (ps_expr (pe_bm PySem.F.plainAttrs_list PySem.F.slot_list_append PySem.F.type_list_append mt_append (pv 3) (pa_cons (pe_callB call_len_seq (by rfl) T.z_len PySem.boot_len (by exact (pa_cons (pv 4) pa_nil))) pa_nil)))
        (pss_one (ps_expr (pe_bm PySem.F.plainAttrs_list PySem.F.slot_list_extend PySem.F.type_list_extend mt_extend (pv 3) (pa_cons (pv 4) pa_nil)))))))
      (pss_one (ps_ret (pv 3))))))), ?_⟩
  obtain ⟨c, zs, cs, rfl, hc, hz, hbl, hsz, fin⟩ := h
  generalize htot : PyFlat.told (outs none cs) = tot at hsz fin
  intro b dxb hb hdxb hneb
  refine ⟨b, dxb, rfl, upd_same, rfl, ?_⟩
  rw [upd_upd]
  have s1 : Same H (upd (upd H dxb (.own b)) b (.ins a.c_Box dxb [("machine", .non)])) := same_new (same_new0 hdxb) (by rw [upd_ne (Ne.symm hneb)]; exact hb)
  generalize hH1 : upd (upd H dxb (.own b)) b (.ins a.c_Box dxb [("machine", .non)]) = H1 at s1
  have hb1 : H1 b = some (.ins a.c_Box dxb [("machine", .non)]) := by rw [← hH1]; exact upd_same
  refine ⟨_, rfl, fun t dxt ht hdxt hnet => ⟨t, dxt, c, zs, rfl, upd_same, ?_, fun nl hnl => ⟨rfl, ?_⟩⟩⟩
  · exact (same_new (same_new0 hdxt) (by rw [upd_ne (Ne.symm hnet)]; exact ht) : Same H1 _).seq (s1.seq hc)
  have s2 : Same H1 (upd (upd (upd (upd H1 dxt (.own t)) t (.ins a.c_Tape dxt [])) nl (.lst (zs.map V.int))) t (.ins a.c_Tape dxt (tapeF nl 0))) := same_mut (same_new (same_new (same_new0 hdxt) (by rw [upd_ne (Ne.symm hnet)]; exact ht)) hnl) ht
  have nlt : nl ≠ t := fun z => by rw [z, upd_same] at hnl; cases hnl
  generalize hH2 : upd (upd (upd (upd H1 dxt (.own t)) t (.ins a.c_Tape dxt [])) nl (.lst (zs.map V.int))) t (.ins a.c_Tape dxt (tapeF nl 0)) = H2 at s2
  have hT2 : TapeAt a.c_Tape H2 t nl 0 zs := ⟨⟨dxt, by rw [← hH2]; exact upd_same⟩, by rw [← hH2, upd_ne nlt]; exact upd_same⟩
  refine ⟨sz (Nat.zero_le _), fun f hf => ?_⟩
  have s3 : Same H2 (upd H2 f (.lst [])) := same_new0 hf
  refine ⟨Lp a zs tot c b t nl f, ⟨_, 0, cs, none, [], [], none, rfl, rfl, hT2.same s3, .inl ⟨⟨dxb, s3 _ _ (s2 _ _ hb1)⟩, rfl, rfl⟩, List.not_mem_nil, List.not_mem_nil, upd_same, hz, hbl, Nat.zero_le _, htot⟩, ?_⟩
  have nfl : f ≠ nl := fun z => by
    have h := hT2.ns
    rw [← z, hf] at h
    cases h
  clear hH1 hH2 s1 s2 s3 hb hdxb hneb ht hdxt hnet hnl hf
  rintro m σ H3 ⟨i, rest, o, F, acc, v4, rfl, rfl, hT, hB, hnl, hfF, hf, hz3, hbl3, hi, htot3⟩
  obtain ⟨dxt3, ht3⟩ := hT.ob
  refine ⟨_, rfl, t, dxt3, _, rfl, ht3, tape_meth3, t, nl, i, zs, rfl, hT, ?_⟩
  refine ⟨_, rfl, ?_⟩
  by_cases hdn : zs.length ≤ i
  · refine if_false_of (by rw [decide_eq_true hdn]; rfl) ?_
    have e : rest = [] := by
      cases rest with
      | nil => rfl
      | cons x r =>
        rw [List.drop_eq_nil_of_le hdn, List.flatMap_cons] at hz3
        cases hz3
    rw [e] at htot3
    have e2 : acc = tot := by
      rw [← htot3]
      exact (List.append_nil acc).symm
    rw [e2] at hf
    exact ⟨_, rfl, fin f H3 hf⟩
  refine if_true_of (by rw [decide_eq_false hdn]; rfl) ?_
  cases rest with
  | nil =>
    have := congrArg List.length hz3
    rw [List.length_drop] at this
    exact absurd (show zs.length ≤ i from by
      have e : ([] : List Ra54.Call).flatMap enc = [] := rfl
      rw [e, List.length_nil] at this
      omega) hdn
  | cons x rest =>
  rw [List.flatMap_cons] at hz3
  obtain ⟨d1, d2, d3⟩ := drop_app hz3 hi
  have etot : acc ++ (((ansL (Ra54.step o x).2).length : Nat) : Int) :: (ansL (Ra54.step o x).2 ++ PyFlat.told (outs (Ra54.step o x).1 rest)) = tot := htot3
  have elen := congrArg List.length etot
  rw [List.length_append, List.length_cons, List.length_append] at elen
  refine ⟨fun σ' H' => Lp a zs tot c b t nl f rest.length σ' H', fun σ' H' q => ⟨_, Nat.lt_succ_self _, q⟩, ?_⟩
  refine ⟨_, rfl, _, rfl, b, t, nl, i, zs, _, o, F, x, rfl, hT, hB, hnl, hz3, hbl3 x (List.mem_cons_self ..), by omega, fun p F' H4 hT4 hB4 hk hnew hp hp4 => ?_⟩
  obtain ⟨dxb3, hb3⟩ : ∃ dxb mv, H3 b = some (.ins a.c_Box dxb [("machine", mv)]) := by
    rcases hB with ⟨⟨dx, h⟩, _⟩ | ⟨m, g, s, ⟨dx, h⟩, _⟩
    · exact ⟨_, _, h⟩
    · exact ⟨_, _, h⟩
  obtain ⟨mv, hb3⟩ := hb3
  have nfb : f ≠ b := ne_of hf hb3 (fun z => by cases z)
  have nft : f ≠ t := ne_of hf ht3 (fun z => by cases z)
  have hf4 := hk _ _ hf nfb nft hfF
  have npf : f ≠ p := fun z => by
    rcases hp with y | y
    · exact hfF (by rw [z]; exact y)
    · rw [← z, hf] at y; cases y
  obtain ⟨dxt4, ht4⟩ := hT4.ob
  have nF4 : ∀ {y : Addr} {u : HO}, H3 y = some u → y ∉ F → y ∉ F' := fun {y u} h n z => by
    rcases hnew y z with q | q
    · exact n q
    · rw [h] at q; cases q
  have hfF4 := nF4 hf hfF
  -- found grows by the length
  refine ⟨_, rfl, .inl ⟨rfl, _, SqL.of hf4⟩, _, rfl, p, _, rfl, .inl (SqL.of hp4), f, _, _, rfl, rfl, hf4, ?_, ?_⟩
  · rw [List.length_map]
    exact Nat.lt_of_lt_of_le (by omega) (sz (Nat.le_refl _))
  refine ⟨_, rfl, .inl ⟨rfl, _, SqL.of upd_same⟩, _, rfl, f, p, _, _, rfl, rfl, upd_same, (by rw [upd_ne (Ne.symm npf)]; exact hp4), ?_, ?_⟩
  · rw [List.length_append, List.length_map, List.length_map]
    show acc.length + 1 + _ ≤ sizeLine
    exact sz (by omega)
  rw [upd_upd]
  refine ⟨i + (enc x).length, rest, (Ra54.step o x).1, F', acc ++ (((ansL (Ra54.step o x).2).length : Nat) : Int) :: ansL (Ra54.step o x).2, some (.ref p), rfl, rfl, ⟨⟨dxt4, ?_⟩, ?_⟩, hB4.lst hf4 nfb hfF4, nF4 hT.ns hnl, hfF4, ?_, d2, fun y hy => hbl3 y (List.mem_cons_of_mem _ hy), d3, ?_⟩
  · rw [upd_ne (Ne.symm nft)]; exact ht4
  · rw [upd_ne (Ne.symm nfl)]; exact hT4.ns
  · rw [upd_same]
    refine congrArg (fun z => some (HO.lst z)) ?_
    rw [List.map_append, List.map_cons, List.length_map, List.append_assoc]
    rfl
  · rw [List.append_assoc]
    exact etot
end
end Nr
namespace Nr
open PySem
/-! ### the plain law: a request is calls, one behind another -/
theorem nat_of {z : Int} {b : Nat} (h : Ra54Neutral.natural z b = true) : ((z.toNat : Nat) : Int) = z := by
  unfold Ra54Neutral.natural at h
  rw [Bool.and_eq_true] at h
  have := of_decide_eq_true h.1
  omega
theorem byte_of {z : Int} (h : Ra54Neutral.natural z 8 = true) : (((UInt8.ofNat z.toNat).toNat : Nat) : Int) = z := by
  have e := nat_of h
  unfold Ra54Neutral.natural at h
  rw [Bool.and_eq_true] at h
  have h2 := of_decide_eq_true h.2
  have h3 : z.toNat < 256 := by
    have : ((2 : Int) ^ 8) = 256 := by decide
    omega
  rw [UInt8.toNat_ofNat']
  have : z.toNat % 2 ^ 8 = z.toNat := Nat.mod_eq_of_lt h3
  rw [this]
  exact e
theorem bytes_all : ∀ {l : List Int}, (l.all fun z => Ra54Neutral.natural z 8) = true → (l.map fun z => UInt8.ofNat z.toNat).map (fun x => ((x.toNat : Nat) : Int)) = l
  | [], _ => rfl
  | z :: l, h => by
    rw [List.all_cons, Bool.and_eq_true] at h
    rw [List.map_cons, List.map_cons, bytes_all h.2, byte_of h.1]
def Good (x : Ra54.Call) (l t : List Int) (c : List (List Int)) : Prop := l = enc x ++ t ∧ (rowC x).length ≤ 2048 ∧ Ra54Neutral.callOf (PyRa54.whole c) = some x
theorem enc1 {k : Nat} {x : Ra54.Call} {z : List Int} (hk : numC x = k) (h3 : k ≠ 3) (ha : argI x = z) : enc x = (k : Int) :: z := by
  unfold enc tailC
  rw [hk, if_neg h3, ha, List.append_nil]
theorem row_nil {x : Ra54.Call} (h : numC x ≠ 3) : (rowC x).length ≤ 2048 := by
  cases x
  case hear => exact absurd rfl h
  all_goals exact Nat.zero_le _
theorem call_split {p : Int} {r : List Int} {c : List (List Int)} {t : List Int} (h : PyFlat.call PyRa54.shape (p :: r) = some (c, t)) (ha : Ra54Neutral.asked1 (PyRa54.whole c) = true) : ∃ x, Good x (p :: r) t c := by
  have h : (match PyRa54.shape p with
    | none => none
    | some (n, k) => if r.length < n then none else match PyFlat.rows k (r.drop n) with
      | none => none
      | some (xs, t) => some ((p :: r.take n) :: xs, t)) = some (c, t) := h
  by_cases p0 : p = 0
  · subst p0
    have h : (if r.length < 1 then none else some (((0 : Int) :: r.take 1) :: [], r.drop 1)) = some (c, t) := h
    match r, h with
    | b :: r, h =>
      rw [if_neg (by rw [List.length_cons]; omega)] at h
      have h := Option.some.inj h
      injection h with h1 h2
      subst h1; subst h2
      have hb : Ra54Neutral.natural b 64 = true := ha
      refine ⟨.begin_ b.toNat, ?_, Nat.zero_le _, rfl⟩
      rw [enc1 (k := 0) (z := [b]) rfl (by decide) (by show [((b.toNat : Nat) : Int)] = _; rw [nat_of hb])]
      rfl
  by_cases p1 : p = 1
  · subst p1
    have h : (if r.length < 3 then none else some (((1 : Int) :: r.take 3) :: [], r.drop 3)) = some (c, t) := h
    match r, h with
    | [], h => cases h
    | [_], h => cases h
    | [_, _], h => cases h
    | b :: c' :: d :: r, h =>
      rw [if_neg (by rw [List.length_cons, List.length_cons, List.length_cons]; omega)] at h
      have h := Option.some.inj h
      injection h with h1 h2
      subst h1; subst h2
      have hb : (Ra54Neutral.natural b 64 && (Ra54Neutral.natural c' 64 && Ra54Neutral.natural d 64)) = true := ha
      rw [Bool.and_eq_true, Bool.and_eq_true] at hb
      refine ⟨.link b.toNat c'.toNat d.toNat, ?_, Nat.zero_le _, rfl⟩
      rw [enc1 (k := 1) (z := [b, c', d]) rfl (by decide) (by show [((b.toNat : Nat) : Int), ((c'.toNat : Nat) : Int), ((d.toNat : Nat) : Int)] = _; rw [nat_of hb.1, nat_of hb.2.1, nat_of hb.2.2])]
      rfl
  by_cases p2 : p = 2
  · subst p2
    have h : (if r.length < 1 then none else some (((2 : Int) :: r.take 1) :: [], r.drop 1)) = some (c, t) := h
    match r, h with
    | b :: r, h =>
      rw [if_neg (by rw [List.length_cons]; omega)] at h
      have h := Option.some.inj h
      injection h with h1 h2
      subst h1; subst h2
      have hb : Ra54Neutral.natural b 64 = true := ha
      refine ⟨.down b.toNat, ?_, Nat.zero_le _, rfl⟩
      rw [enc1 (k := 2) (z := [b]) rfl (by decide) (by show [((b.toNat : Nat) : Int)] = _; rw [nat_of hb])]
      rfl
  by_cases p3 : p = 3
  · subst p3
    have h : (if r.length < 2 then none else match PyFlat.rows 1 (r.drop 2) with
      | none => none
      | some (xs, t) => some (((3 : Int) :: r.take 2) :: xs, t)) = some (c, t) := h
    match r, h with
    | [], h => cases h
    | [_], h => cases h
    | b :: c' :: r, h =>
      rw [if_neg (by rw [List.length_cons, List.length_cons]; omega)] at h
      match r, h with
      | [], h => cases h
      | n :: r, h =>
        by_cases hn : 0 ≤ n ∧ n.toNat ≤ r.length
        · have er : PyFlat.row (n :: r) = some (r.take n.toNat, r.drop n.toNat) := if_pos hn
          have e2 : PyFlat.rows 1 ((b :: c' :: n :: r).drop 2) = some ([r.take n.toNat], r.drop n.toNat) := by
            show (match PyFlat.row (n :: r) with
              | none => none
              | some (x, s) => match PyFlat.rows 0 s with
                | none => none
                | some (xs, t) => some (x :: xs, t)) = _
            rw [er]
            rfl
          rw [e2] at h
          have h := Option.some.inj h
          injection h with h1 h2
          subst h1; subst h2
          have hb : (((r.take n.toNat).all (fun z : Int => Ra54Neutral.natural z 8) && decide (((r.take n.toNat).length : Int) ≤ 2048)) && (Ra54Neutral.natural b 64 && Ra54Neutral.natural c' 64)) = true := ha
          rw [Bool.and_eq_true, Bool.and_eq_true, Bool.and_eq_true] at hb
          have hl := of_decide_eq_true hb.1.2
          refine ⟨.hear b.toNat c'.toNat ((r.take n.toNat).map fun z => UInt8.ofNat z.toNat), ?_, ?_, rfl⟩
          · show _ = ((3 : Int) :: ([((b.toNat : Nat) : Int), ((c'.toNat : Nat) : Int)] ++ ((((r.take n.toNat).map fun z => UInt8.ofNat z.toNat).length : Int) :: ((r.take n.toNat).map fun z => UInt8.ofNat z.toNat).map (fun x => ((x.toNat : Nat) : Int))))) ++ r.drop n.toNat
            rw [bytes_all hb.1.1, nat_of hb.2.1, nat_of hb.2.2, List.length_map, List.length_take, Nat.min_eq_left hn.2, Int.toNat_of_nonneg hn.1]
            show (3 : Int) :: b :: c' :: n :: r = (3 : Int) :: b :: c' :: n :: (r.take n.toNat ++ r.drop n.toNat)
            rw [List.take_append_drop]
          · show ((r.take n.toNat).map _).length ≤ 2048
            rw [List.length_map]
            omega
        · have er : PyFlat.row (n :: r) = none := if_neg hn
          have e2 : PyFlat.rows 1 ((b :: c' :: n :: r).drop 2) = none := by
            show (match PyFlat.row (n :: r) with
              | none => none
              | some (x, s) => match PyFlat.rows 0 s with
                | none => none
                | some (xs, t) => some (x :: xs, t)) = _
            rw [er]
          rw [e2] at h
          cases h
  by_cases p4 : p = 4
  · subst p4
    have h : (if r.length < 1 then none else some (((4 : Int) :: r.take 1) :: [], r.drop 1)) = some (c, t) := h
    match r, h with
    | b :: r, h =>
      rw [if_neg (by rw [List.length_cons]; omega)] at h
      have h := Option.some.inj h
      injection h with h1 h2
      subst h1; subst h2
      have hb : Ra54Neutral.natural b 64 = true := ha
      refine ⟨.tick b.toNat, ?_, Nat.zero_le _, rfl⟩
      rw [enc1 (k := 4) (z := [b]) rfl (by decide) (by show [((b.toNat : Nat) : Int)] = _; rw [nat_of hb])]
      rfl
  by_cases p5 : p = 5
  · subst p5
    have h : (if r.length < 1 then none else some (((5 : Int) :: r.take 1) :: [], r.drop 1)) = some (c, t) := h
    match r, h with
    | b :: r, h =>
      rw [if_neg (by rw [List.length_cons]; omega)] at h
      have h := Option.some.inj h
      injection h with h1 h2
      subst h1; subst h2
      have hb : Ra54Neutral.natural b 64 = true := ha
      refine ⟨.way b.toNat, ?_, Nat.zero_le _, rfl⟩
      rw [enc1 (k := 5) (z := [b]) rfl (by decide) (by show [((b.toNat : Nat) : Int)] = _; rw [nat_of hb])]
      rfl
  by_cases p6 : p = 6
  · subst p6
    have h : (if r.length < 0 then none else some (((6 : Int) :: r.take 0) :: [], r.drop 0)) = some (c, t) := h
    rw [if_neg (Nat.not_lt_zero _)] at h
    have h := Option.some.inj h
    injection h with h1 h2
    subst h1; subst h2
    refine ⟨.routes, ?_, Nat.zero_le _, rfl⟩
    rw [enc1 (k := 6) (z := []) rfl (by decide) rfl]
    rfl
  by_cases p7 : p = 7
  · subst p7
    have h : (if r.length < 0 then none else some (((7 : Int) :: r.take 0) :: [], r.drop 0)) = some (c, t) := h
    rw [if_neg (Nat.not_lt_zero _)] at h
    have h := Option.some.inj h
    injection h with h1 h2
    subst h1; subst h2
    refine ⟨.due, ?_, Nat.zero_le _, rfl⟩
    rw [enc1 (k := 7) (z := []) rfl (by decide) rfl]
    rfl
  have e : PyRa54.shape p = none := by
    unfold PyRa54.shape
    rw [if_neg p0, if_neg p1, if_neg p2, if_neg p3, if_neg p4, if_neg p5, if_neg p6, if_neg p7]
  rw [e] at h
  cases h
theorem neutral_step {c : List (List Int)} {x : Ra54.Call} (s : Option Ra54.St) (h : Ra54Neutral.callOf c = some x) : Ra54Neutral.step s c = ((Ra54.step s x).1, ansL (Ra54.step s x).2) := by
  unfold Ra54Neutral.step
  rw [h]
  rfl
theorem calls_split : ∀ {f : Nat} {l : List Int} {raw : List (List (List Int))}, PyFlat.calls PyRa54.shape f l = some raw → ((raw.map PyRa54.whole).all Ra54Neutral.asked1) = true →
    ∃ cs : List Ra54.Call, l = cs.flatMap enc ∧ (∀ x ∈ cs, (rowC x).length ≤ 2048) ∧ ∀ s, PyFlat.played Ra54Neutral.step s (raw.map PyRa54.whole) = outs s cs
  | f, [], raw, h, _ => by
    have e : PyFlat.calls PyRa54.shape f [] = some [] := by cases f <;> rfl
    rw [e] at h
    have h := Option.some.inj h
    subst h
    exact ⟨[], rfl, fun x hx => (by cases hx), fun s => rfl⟩
  | 0, p :: r, raw, h, _ => by cases h
  | f + 1, p :: r, raw, h, ha => by
    have h : (match PyFlat.call PyRa54.shape (p :: r) with
      | none => none
      | some (c, t) => match PyFlat.calls PyRa54.shape f t with
        | none => none
        | some cs => some (c :: cs)) = some raw := h
    cases h1 : PyFlat.call PyRa54.shape (p :: r) with
    | none => rw [h1] at h; cases h
    | some ct =>
      obtain ⟨c, t⟩ := ct
      rw [h1] at h
      cases h2 : PyFlat.calls PyRa54.shape f t with
      | none =>
        have h : (match PyFlat.calls PyRa54.shape f t with
          | none => none
          | some cs => some (c :: cs)) = some raw := h
        rw [h2] at h; cases h
      | some raw' =>
        have h : (match PyFlat.calls PyRa54.shape f t with
          | none => none
          | some cs => some (c :: cs)) = some raw := h
        rw [h2] at h
        have h := Option.some.inj h
        subst h
        rw [List.map_cons, List.all_cons, Bool.and_eq_true] at ha
        obtain ⟨x, e1, e2, e3⟩ := call_split h1 ha.1
        obtain ⟨cs, i1, i2, i3⟩ := calls_split h2 ha.2
        refine ⟨x :: cs, ?_, fun y hy => ?_, fun s => ?_⟩
        · rw [e1, List.flatMap_cons, ← i1]
        · rcases List.mem_cons.mp hy with z | hy
          · rw [z]; exact e2
          · exact i2 y hy
        · show (Ra54Neutral.step s (PyRa54.whole c)).2 :: PyFlat.played Ra54Neutral.step (Ra54Neutral.step s (PyRa54.whole c)).1 (raw'.map PyRa54.whole) = _
          rw [neutral_step s e3, i3]
          rfl
theorem law {l : List Int} (h : PyRa54.answers_asked l = true) : ∃ cs : List Ra54.Call, l = cs.flatMap enc ∧ (∀ x ∈ cs, (rowC x).length ≤ 2048) ∧ PyRa54.answers l = PyFlat.told (outs none cs) ∧ (PyFlat.told (outs none cs)).length ≤ 16777216 := by
  unfold PyRa54.answers_asked at h
  cases hr : PyFlat.calls PyRa54.shape l.length l with
  | none => rw [hr] at h; cases h
  | some raw =>
    rw [hr] at h
    have h : (!raw.isEmpty && PyFlat.atMost 300 raw && PyInside.calls PyRa54.bound raw && Ra54Neutral.asked (raw.map PyRa54.whole) && PyFlat.short 10000000 (PyRa54.answers l)) = true := h
    rw [Bool.and_eq_true, Bool.and_eq_true] at h
    have ha : ((raw.map PyRa54.whole).all Ra54Neutral.asked1 && ((raw.map PyRa54.whole).head?.map Ra54Neutral.begins).getD false) = true := h.1.2
    rw [Bool.and_eq_true] at ha
    obtain ⟨cs, e1, e2, e3⟩ := calls_split hr ha.1
    have hs := of_decide_eq_true h.2
    have ea : PyRa54.answers l = PyFlat.told (outs none cs) := by
      unfold PyRa54.answers PyRa54.calls
      rw [hr]
      show PyFlat.told (PyFlat.played Ra54Neutral.step none (raw.map PyRa54.whole)) = _
      rw [e3]
    rw [ea] at hs
    exact ⟨cs, e1, e2, ea, by omega⟩
end Nr
namespace Nr
open PySem PySem.Spec PyProof.Rows L2
section
variable {P : Program} {w : World} {K : PySem.W.Frag} {mg : Str → Option Value} {a : Ad}
/-! ### the top -/
def spTop (K : PySem.W.Frag) : Sp := fun vs H Q _ => ∃ (c : Addr) (zs : List Int), vs = [.ref c] ∧ SqL K H c (zs.map V.int) ∧ PyRa54.answers_asked zs = true ∧ ∀ p H', H' p = some (.lst ((PyRa54.answers zs).map V.int)) → Q (.ref p) H'
theorem top_fn (T : Txt K mg a) : ∃ fd : FuncData, (∀ (s : Shared) (us : List Value), us.length = (["calls"] : List Str).length → BindsTo s fd ⟨us, []⟩ ((["calls"] : List Str).zip us)) ∧ ∀ base : Heap, K.In base → base.Ns mainGlobals mg → FnOk P w K mg base CX0 9 a.f_answers fd ["calls"] (spTop K) := by
  refine ⟨a.d_answers, ?_, fun base _ _ => (ok_answers T).imp fun vs H Q E h => ?_⟩
  · obtain ⟨oc, od, kV, doc, pm, an, cdv, ct, osl, e, lk, hcd⟩ := T.F_answers.ex
    rw [e]
    exact fun s us hu => match us, hu with | [_], _ => .of_eq rfl
  · obtain ⟨c, zs, rfl, hc, hq, fin⟩ := h
    obtain ⟨cs, e1, e2, e3, e4⟩ := law hq
    refine ⟨c, zs, cs, rfl, hc, e1, e2, e4, fun p H' hp => fin p H' ?_⟩
    rw [e3]
    exact hp
end
end Nr
namespace Nr
open PySem PySem.Spec PyProof.Rows L2
theorem txt_mk {K : PySem.W.Frag} {h : Heap} {mg : Str → Option Value} {fa : Addr} (X : K.In h) (G : h.Ns mainGlobals mg) (hfa : mg "answers" = some (.ref fa)) {Goal : Prop} (use : ∀ a : Ad, Txt K mg a → a.f_answers = fa → Goal)
    {c_Told c_Route c_Table c_Link c_Machine c_Refused c_Box c_Tape f_Told_init f_network_of f_bytes_of f_number_at f_message_of f_read_one f_read_message f_Route_init f_Route_is_in_reach f_Route_sight f_Table_init f_Table_in_order f_Table_sights f_lose f_offer f_offer_again f_forget f_way_to f_other_ones f_Link_init f_Link_network f_Machine_init f_has_network f_can_come_up f_come_up f_go_down f_told_on f_tell f_changed_networks f_tick f_due f_Refused_init f_Box_init f_Tape_init f_Tape_is_done f_Tape_take_many f_Tape_take_row f_ask f_is_address f_do_begin f_do_link f_do_down f_do_hear f_do_tick f_do_way f_do_routes f_do_call f_answer f_answers x_SIZES : Addr}
    {t_ADDRESS_BITS t_MOST_ADDRESS t_MOST_TOLD t_HEAD t_EACH t_OUT_OF_REACH t_MOST_ROUTES t_GOOD_FOR t_MISTRUSTED t_KEPT t_LINKS t_ALL_EACH t_CHANGES_EACH t_WRONG t_NOT_SO t_NO_MESSAGE t_NOT_NOW t_FULL t_NO_MACHINE t_TIME_BOUND t_MOST_BITS t_HEAR ts0 ts1 ts2 ts3 ts4 ts5 ts6 ts7 : Tok} {n_S : Nat} {od_S : Option Addr} {sl_S : Array (Option Value)}
    {nm q : Str} {N : Addr} {bs : List Value} {sn : List Str} {sub : List Value} {ab : Bool} {col : Option Bool} {dd : Option Addr} {m0 m1 m2 m3 m5 : Option Value}
    {rod ran : Option Addr} {rsl : Array (Option Value)} {roc rdc rpm rcd rct : Value}
    {od_Told_init an_Told_init : Option Addr} {sl_Told_init : Array (Option Value)} {oc_Told_init kV_Told_init dc_Told_init pm_Told_init cd_Told_init ct_Told_init : Value}
    {od_network_of an_network_of : Option Addr} {sl_network_of : Array (Option Value)} {oc_network_of kV_network_of dc_network_of pm_network_of cd_network_of ct_network_of : Value}
    {od_bytes_of an_bytes_of : Option Addr} {sl_bytes_of : Array (Option Value)} {oc_bytes_of kV_bytes_of dc_bytes_of pm_bytes_of cd_bytes_of ct_bytes_of : Value}
    {od_number_at an_number_at : Option Addr} {sl_number_at : Array (Option Value)} {oc_number_at kV_number_at dc_number_at pm_number_at cd_number_at ct_number_at : Value}
    {od_message_of an_message_of : Option Addr} {sl_message_of : Array (Option Value)} {oc_message_of kV_message_of dc_message_of pm_message_of cd_message_of ct_message_of : Value}
    {od_read_one an_read_one : Option Addr} {sl_read_one : Array (Option Value)} {oc_read_one kV_read_one dc_read_one pm_read_one cd_read_one ct_read_one : Value}
    {od_read_message an_read_message : Option Addr} {sl_read_message : Array (Option Value)} {oc_read_message kV_read_message dc_read_message pm_read_message cd_read_message ct_read_message : Value}
    {od_Route_init an_Route_init : Option Addr} {sl_Route_init : Array (Option Value)} {oc_Route_init kV_Route_init dc_Route_init pm_Route_init cd_Route_init ct_Route_init : Value}
    {od_Route_is_in_reach an_Route_is_in_reach : Option Addr} {sl_Route_is_in_reach : Array (Option Value)} {oc_Route_is_in_reach kV_Route_is_in_reach dc_Route_is_in_reach pm_Route_is_in_reach cd_Route_is_in_reach ct_Route_is_in_reach : Value}
    {od_Route_sight an_Route_sight : Option Addr} {sl_Route_sight : Array (Option Value)} {oc_Route_sight kV_Route_sight dc_Route_sight pm_Route_sight cd_Route_sight ct_Route_sight : Value}
    {od_Table_init an_Table_init : Option Addr} {sl_Table_init : Array (Option Value)} {oc_Table_init kV_Table_init dc_Table_init pm_Table_init cd_Table_init ct_Table_init : Value}
    {od_Table_in_order an_Table_in_order : Option Addr} {sl_Table_in_order : Array (Option Value)} {oc_Table_in_order kV_Table_in_order dc_Table_in_order pm_Table_in_order cd_Table_in_order ct_Table_in_order : Value}
    {od_Table_sights an_Table_sights : Option Addr} {sl_Table_sights : Array (Option Value)} {oc_Table_sights kV_Table_sights dc_Table_sights pm_Table_sights cd_Table_sights ct_Table_sights : Value}
    {od_lose an_lose : Option Addr} {sl_lose : Array (Option Value)} {oc_lose kV_lose dc_lose pm_lose cd_lose ct_lose : Value}
    {od_offer an_offer : Option Addr} {sl_offer : Array (Option Value)} {oc_offer kV_offer dc_offer pm_offer cd_offer ct_offer : Value}
    {od_offer_again an_offer_again : Option Addr} {sl_offer_again : Array (Option Value)} {oc_offer_again kV_offer_again dc_offer_again pm_offer_again cd_offer_again ct_offer_again : Value}
    {od_forget an_forget : Option Addr} {sl_forget : Array (Option Value)} {oc_forget kV_forget dc_forget pm_forget cd_forget ct_forget : Value}
    {od_way_to an_way_to : Option Addr} {sl_way_to : Array (Option Value)} {oc_way_to kV_way_to dc_way_to pm_way_to cd_way_to ct_way_to : Value}
    {od_other_ones an_other_ones : Option Addr} {sl_other_ones : Array (Option Value)} {oc_other_ones kV_other_ones dc_other_ones pm_other_ones cd_other_ones ct_other_ones : Value}
    {od_Link_init an_Link_init : Option Addr} {sl_Link_init : Array (Option Value)} {oc_Link_init kV_Link_init dc_Link_init pm_Link_init cd_Link_init ct_Link_init : Value}
    {od_Link_network an_Link_network : Option Addr} {sl_Link_network : Array (Option Value)} {oc_Link_network kV_Link_network dc_Link_network pm_Link_network cd_Link_network ct_Link_network : Value}
    {od_Machine_init an_Machine_init : Option Addr} {sl_Machine_init : Array (Option Value)} {oc_Machine_init kV_Machine_init dc_Machine_init pm_Machine_init cd_Machine_init ct_Machine_init : Value}
    {od_has_network an_has_network : Option Addr} {sl_has_network : Array (Option Value)} {oc_has_network kV_has_network dc_has_network pm_has_network cd_has_network ct_has_network : Value}
    {od_can_come_up an_can_come_up : Option Addr} {sl_can_come_up : Array (Option Value)} {oc_can_come_up kV_can_come_up dc_can_come_up pm_can_come_up cd_can_come_up ct_can_come_up : Value}
    {od_come_up an_come_up : Option Addr} {sl_come_up : Array (Option Value)} {oc_come_up kV_come_up dc_come_up pm_come_up cd_come_up ct_come_up : Value}
    {od_go_down an_go_down : Option Addr} {sl_go_down : Array (Option Value)} {oc_go_down kV_go_down dc_go_down pm_go_down cd_go_down ct_go_down : Value}
    {od_told_on an_told_on : Option Addr} {sl_told_on : Array (Option Value)} {oc_told_on kV_told_on dc_told_on pm_told_on cd_told_on ct_told_on : Value}
    {od_tell an_tell : Option Addr} {sl_tell : Array (Option Value)} {oc_tell kV_tell dc_tell pm_tell cd_tell ct_tell : Value}
    {od_changed_networks an_changed_networks : Option Addr} {sl_changed_networks : Array (Option Value)} {oc_changed_networks kV_changed_networks dc_changed_networks pm_changed_networks cd_changed_networks ct_changed_networks : Value}
    {od_tick an_tick : Option Addr} {sl_tick : Array (Option Value)} {oc_tick kV_tick dc_tick pm_tick cd_tick ct_tick : Value}
    {od_due an_due : Option Addr} {sl_due : Array (Option Value)} {oc_due kV_due dc_due pm_due cd_due ct_due : Value}
    {od_Box_init an_Box_init : Option Addr} {sl_Box_init : Array (Option Value)} {oc_Box_init kV_Box_init dc_Box_init pm_Box_init cd_Box_init ct_Box_init : Value}
    {od_Tape_init an_Tape_init : Option Addr} {sl_Tape_init : Array (Option Value)} {oc_Tape_init kV_Tape_init dc_Tape_init pm_Tape_init cd_Tape_init ct_Tape_init : Value}
    {od_Tape_is_done an_Tape_is_done : Option Addr} {sl_Tape_is_done : Array (Option Value)} {oc_Tape_is_done kV_Tape_is_done dc_Tape_is_done pm_Tape_is_done cd_Tape_is_done ct_Tape_is_done : Value}
    {od_Tape_take_many an_Tape_take_many : Option Addr} {sl_Tape_take_many : Array (Option Value)} {oc_Tape_take_many kV_Tape_take_many dc_Tape_take_many pm_Tape_take_many cd_Tape_take_many ct_Tape_take_many : Value}
    {od_Tape_take_row an_Tape_take_row : Option Addr} {sl_Tape_take_row : Array (Option Value)} {oc_Tape_take_row kV_Tape_take_row dc_Tape_take_row pm_Tape_take_row cd_Tape_take_row ct_Tape_take_row : Value}
    {od_ask an_ask : Option Addr} {sl_ask : Array (Option Value)} {oc_ask kV_ask dc_ask pm_ask cd_ask ct_ask : Value}
    {od_is_address an_is_address : Option Addr} {sl_is_address : Array (Option Value)} {oc_is_address kV_is_address dc_is_address pm_is_address cd_is_address ct_is_address : Value}
    {od_do_begin an_do_begin : Option Addr} {sl_do_begin : Array (Option Value)} {oc_do_begin kV_do_begin dc_do_begin pm_do_begin cd_do_begin ct_do_begin : Value}
    {od_do_link an_do_link : Option Addr} {sl_do_link : Array (Option Value)} {oc_do_link kV_do_link dc_do_link pm_do_link cd_do_link ct_do_link : Value}
    {od_do_down an_do_down : Option Addr} {sl_do_down : Array (Option Value)} {oc_do_down kV_do_down dc_do_down pm_do_down cd_do_down ct_do_down : Value}
    {od_do_hear an_do_hear : Option Addr} {sl_do_hear : Array (Option Value)} {oc_do_hear kV_do_hear dc_do_hear pm_do_hear cd_do_hear ct_do_hear : Value}
    {od_do_tick an_do_tick : Option Addr} {sl_do_tick : Array (Option Value)} {oc_do_tick kV_do_tick dc_do_tick pm_do_tick cd_do_tick ct_do_tick : Value}
    {od_do_way an_do_way : Option Addr} {sl_do_way : Array (Option Value)} {oc_do_way kV_do_way dc_do_way pm_do_way cd_do_way ct_do_way : Value}
    {od_do_routes an_do_routes : Option Addr} {sl_do_routes : Array (Option Value)} {oc_do_routes kV_do_routes dc_do_routes pm_do_routes cd_do_routes ct_do_routes : Value}
    {od_do_call an_do_call : Option Addr} {sl_do_call : Array (Option Value)} {oc_do_call kV_do_call dc_do_call pm_do_call cd_do_call ct_do_call : Value}
    {od_answer an_answer : Option Addr} {sl_answer : Array (Option Value)} {oc_answer kV_answer dc_answer pm_answer cd_answer ct_answer : Value}
    {od_answers an_answers : Option Addr} {sl_answers : Array (Option Value)} {oc_answers kV_answers dc_answers pm_answers cd_answers ct_answers : Value}
    (a_Told : PySem.W.nsIn K mainGlobals "Told" = some (some (.ref c_Told)))
    (pg_Told : PySem.W.plainGet K c_Told Str.empty = true)
    (hd_Told : PySem.W.hasDictIn K c_Told = true)
    (po_Told : PySem.W.plainOver K c_Told = true)
    (sa_Told : PySem.W.findIn K (.ref c_Told) "__setattr__" = some (some (.builtin "object.__setattr__")))
    (mk_Told : PySem.W.makesIn K c_Told = true)
    (kc_Told : PySem.W.keepIn K (.ref c_Told) = true)
    (n_Told_address : PySem.W.findIn K (.ref c_Told) "address" = some none)
    (n_Told_bits : PySem.W.findIn K (.ref c_Told) "bits" = some none)
    (n_Told_far : PySem.W.findIn K (.ref c_Told) "far" = some none)
    (a_Route : PySem.W.nsIn K mainGlobals "Route" = some (some (.ref c_Route)))
    (pg_Route : PySem.W.plainGet K c_Route Str.empty = true)
    (hd_Route : PySem.W.hasDictIn K c_Route = true)
    (po_Route : PySem.W.plainOver K c_Route = true)
    (sa_Route : PySem.W.findIn K (.ref c_Route) "__setattr__" = some (some (.builtin "object.__setattr__")))
    (mk_Route : PySem.W.makesIn K c_Route = true)
    (kc_Route : PySem.W.keepIn K (.ref c_Route) = true)
    (n_Route_far : PySem.W.findIn K (.ref c_Route) "far" = some none)
    (n_Route_link : PySem.W.findIn K (.ref c_Route) "link" = some none)
    (n_Route_neighbour : PySem.W.findIn K (.ref c_Route) "neighbour" = some none)
    (n_Route_good : PySem.W.findIn K (.ref c_Route) "good" = some none)
    (n_Route_others : PySem.W.findIn K (.ref c_Route) "others" = some none)
    (n_Route_forgotten : PySem.W.findIn K (.ref c_Route) "forgotten" = some none)
    (n_Route_has_changed : PySem.W.findIn K (.ref c_Route) "has_changed" = some none)
    (a_Table : PySem.W.nsIn K mainGlobals "Table" = some (some (.ref c_Table)))
    (pg_Table : PySem.W.plainGet K c_Table Str.empty = true)
    (hd_Table : PySem.W.hasDictIn K c_Table = true)
    (po_Table : PySem.W.plainOver K c_Table = true)
    (sa_Table : PySem.W.findIn K (.ref c_Table) "__setattr__" = some (some (.builtin "object.__setattr__")))
    (mk_Table : PySem.W.makesIn K c_Table = true)
    (kc_Table : PySem.W.keepIn K (.ref c_Table) = true)
    (n_Table_routes : PySem.W.findIn K (.ref c_Table) "routes" = some none)
    (a_Link : PySem.W.nsIn K mainGlobals "Link" = some (some (.ref c_Link)))
    (pg_Link : PySem.W.plainGet K c_Link Str.empty = true)
    (hd_Link : PySem.W.hasDictIn K c_Link = true)
    (po_Link : PySem.W.plainOver K c_Link = true)
    (sa_Link : PySem.W.findIn K (.ref c_Link) "__setattr__" = some (some (.builtin "object.__setattr__")))
    (mk_Link : PySem.W.makesIn K c_Link = true)
    (kc_Link : PySem.W.keepIn K (.ref c_Link) = true)
    (n_Link_address : PySem.W.findIn K (.ref c_Link) "address" = some none)
    (n_Link_bits : PySem.W.findIn K (.ref c_Link) "bits" = some none)
    (a_Machine : PySem.W.nsIn K mainGlobals "Machine" = some (some (.ref c_Machine)))
    (pg_Machine : PySem.W.plainGet K c_Machine Str.empty = true)
    (hd_Machine : PySem.W.hasDictIn K c_Machine = true)
    (po_Machine : PySem.W.plainOver K c_Machine = true)
    (sa_Machine : PySem.W.findIn K (.ref c_Machine) "__setattr__" = some (some (.builtin "object.__setattr__")))
    (mk_Machine : PySem.W.makesIn K c_Machine = true)
    (kc_Machine : PySem.W.keepIn K (.ref c_Machine) = true)
    (n_Machine_links : PySem.W.findIn K (.ref c_Machine) "links" = some none)
    (n_Machine_table : PySem.W.findIn K (.ref c_Machine) "table" = some none)
    (n_Machine_now : PySem.W.findIn K (.ref c_Machine) "now" = some none)
    (n_Machine_all_at : PySem.W.findIn K (.ref c_Machine) "all_at" = some none)
    (n_Machine_changes_at : PySem.W.findIn K (.ref c_Machine) "changes_at" = some none)
    (a_Box : PySem.W.nsIn K mainGlobals "Box" = some (some (.ref c_Box)))
    (pg_Box : PySem.W.plainGet K c_Box Str.empty = true)
    (hd_Box : PySem.W.hasDictIn K c_Box = true)
    (po_Box : PySem.W.plainOver K c_Box = true)
    (sa_Box : PySem.W.findIn K (.ref c_Box) "__setattr__" = some (some (.builtin "object.__setattr__")))
    (mk_Box : PySem.W.makesIn K c_Box = true)
    (kc_Box : PySem.W.keepIn K (.ref c_Box) = true)
    (n_Box_machine : PySem.W.findIn K (.ref c_Box) "machine" = some none)
    (a_Tape : PySem.W.nsIn K mainGlobals "Tape" = some (some (.ref c_Tape)))
    (pg_Tape : PySem.W.plainGet K c_Tape Str.empty = true)
    (hd_Tape : PySem.W.hasDictIn K c_Tape = true)
    (po_Tape : PySem.W.plainOver K c_Tape = true)
    (sa_Tape : PySem.W.findIn K (.ref c_Tape) "__setattr__" = some (some (.builtin "object.__setattr__")))
    (mk_Tape : PySem.W.makesIn K c_Tape = true)
    (kc_Tape : PySem.W.keepIn K (.ref c_Tape) = true)
    (n_Tape_numbers : PySem.W.findIn K (.ref c_Tape) "numbers" = some none)
    (n_Tape_at : PySem.W.findIn K (.ref c_Tape) "at" = some none)
    (a_Told_init : PySem.W.findIn K (.ref c_Told) "__init__" = some (some (.ref f_Told_init)))
    (i_Told_init : PySem.W.isFn K (.ref f_Told_init) = true)
    (l_Told_init : K.lookup f_Told_init = some ⟨oc_Told_init, od_Told_init, .func (PySem.W.fnOf "__init__" "Told.__init__" (defArgs s_Told_init) (defBody s_Told_init) (defScope s_Told_init) .none kV_Told_init dc_Told_init pm_Told_init an_Told_init cd_Told_init ct_Told_init), sl_Told_init⟩)
    (cc_Told_init : PySem.W.codeIn K cd_Told_init "Told.__init__" = true)
    (kp_Told_init : PySem.W.keepIn K (.ref f_Told_init) = true)
    (a_network_of : PySem.W.nsIn K mainGlobals "network_of" = some (some (.ref f_network_of)))
    (l_network_of : K.lookup f_network_of = some ⟨oc_network_of, od_network_of, .func (PySem.W.fnOf "network_of" "network_of" (defArgs s_network_of) (defBody s_network_of) (defScope s_network_of) .none kV_network_of dc_network_of pm_network_of an_network_of cd_network_of ct_network_of), sl_network_of⟩)
    (cc_network_of : PySem.W.codeIn K cd_network_of "network_of" = true)
    (kp_network_of : PySem.W.keepIn K (.ref f_network_of) = true)
    (a_bytes_of : PySem.W.nsIn K mainGlobals "bytes_of" = some (some (.ref f_bytes_of)))
    (l_bytes_of : K.lookup f_bytes_of = some ⟨oc_bytes_of, od_bytes_of, .func (PySem.W.fnOf "bytes_of" "bytes_of" (defArgs s_bytes_of) (defBody s_bytes_of) (defScope s_bytes_of) .none kV_bytes_of dc_bytes_of pm_bytes_of an_bytes_of cd_bytes_of ct_bytes_of), sl_bytes_of⟩)
    (cc_bytes_of : PySem.W.codeIn K cd_bytes_of "bytes_of" = true)
    (kp_bytes_of : PySem.W.keepIn K (.ref f_bytes_of) = true)
    (a_number_at : PySem.W.nsIn K mainGlobals "number_at" = some (some (.ref f_number_at)))
    (l_number_at : K.lookup f_number_at = some ⟨oc_number_at, od_number_at, .func (PySem.W.fnOf "number_at" "number_at" (defArgs s_number_at) (defBody s_number_at) (defScope s_number_at) .none kV_number_at dc_number_at pm_number_at an_number_at cd_number_at ct_number_at), sl_number_at⟩)
    (cc_number_at : PySem.W.codeIn K cd_number_at "number_at" = true)
    (kp_number_at : PySem.W.keepIn K (.ref f_number_at) = true)
    (a_message_of : PySem.W.nsIn K mainGlobals "message_of" = some (some (.ref f_message_of)))
    (l_message_of : K.lookup f_message_of = some ⟨oc_message_of, od_message_of, .func (PySem.W.fnOf "message_of" "message_of" (defArgs s_message_of) (defBody s_message_of) (defScope s_message_of) .none kV_message_of dc_message_of pm_message_of an_message_of cd_message_of ct_message_of), sl_message_of⟩)
    (cc_message_of : PySem.W.codeIn K cd_message_of "message_of" = true)
    (kp_message_of : PySem.W.keepIn K (.ref f_message_of) = true)
    (a_read_one : PySem.W.nsIn K mainGlobals "read_one" = some (some (.ref f_read_one)))
    (l_read_one : K.lookup f_read_one = some ⟨oc_read_one, od_read_one, .func (PySem.W.fnOf "read_one" "read_one" (defArgs s_read_one) (defBody s_read_one) (defScope s_read_one) .none kV_read_one dc_read_one pm_read_one an_read_one cd_read_one ct_read_one), sl_read_one⟩)
    (cc_read_one : PySem.W.codeIn K cd_read_one "read_one" = true)
    (kp_read_one : PySem.W.keepIn K (.ref f_read_one) = true)
    (a_read_message : PySem.W.nsIn K mainGlobals "read_message" = some (some (.ref f_read_message)))
    (l_read_message : K.lookup f_read_message = some ⟨oc_read_message, od_read_message, .func (PySem.W.fnOf "read_message" "read_message" (defArgs s_read_message) (defBody s_read_message) (defScope s_read_message) .none kV_read_message dc_read_message pm_read_message an_read_message cd_read_message ct_read_message), sl_read_message⟩)
    (cc_read_message : PySem.W.codeIn K cd_read_message "read_message" = true)
    (kp_read_message : PySem.W.keepIn K (.ref f_read_message) = true)
    (a_Route_init : PySem.W.findIn K (.ref c_Route) "__init__" = some (some (.ref f_Route_init)))
    (i_Route_init : PySem.W.isFn K (.ref f_Route_init) = true)
    (l_Route_init : K.lookup f_Route_init = some ⟨oc_Route_init, od_Route_init, .func (PySem.W.fnOf "__init__" "Route.__init__" (defArgs s_Route_init) (defBody s_Route_init) (defScope s_Route_init) .none kV_Route_init dc_Route_init pm_Route_init an_Route_init cd_Route_init ct_Route_init), sl_Route_init⟩)
    (cc_Route_init : PySem.W.codeIn K cd_Route_init "Route.__init__" = true)
    (kp_Route_init : PySem.W.keepIn K (.ref f_Route_init) = true)
    (a_Route_is_in_reach : PySem.W.findIn K (.ref c_Route) "is_in_reach" = some (some (.ref f_Route_is_in_reach)))
    (i_Route_is_in_reach : PySem.W.isFn K (.ref f_Route_is_in_reach) = true)
    (l_Route_is_in_reach : K.lookup f_Route_is_in_reach = some ⟨oc_Route_is_in_reach, od_Route_is_in_reach, .func (PySem.W.fnOf "is_in_reach" "Route.is_in_reach" (defArgs s_Route_is_in_reach) (defBody s_Route_is_in_reach) (defScope s_Route_is_in_reach) .none kV_Route_is_in_reach dc_Route_is_in_reach pm_Route_is_in_reach an_Route_is_in_reach cd_Route_is_in_reach ct_Route_is_in_reach), sl_Route_is_in_reach⟩)
    (cc_Route_is_in_reach : PySem.W.codeIn K cd_Route_is_in_reach "Route.is_in_reach" = true)
    (kp_Route_is_in_reach : PySem.W.keepIn K (.ref f_Route_is_in_reach) = true)
    (a_Route_sight : PySem.W.findIn K (.ref c_Route) "sight" = some (some (.ref f_Route_sight)))
    (i_Route_sight : PySem.W.isFn K (.ref f_Route_sight) = true)
    (l_Route_sight : K.lookup f_Route_sight = some ⟨oc_Route_sight, od_Route_sight, .func (PySem.W.fnOf "sight" "Route.sight" (defArgs s_Route_sight) (defBody s_Route_sight) (defScope s_Route_sight) .none kV_Route_sight dc_Route_sight pm_Route_sight an_Route_sight cd_Route_sight ct_Route_sight), sl_Route_sight⟩)
    (cc_Route_sight : PySem.W.codeIn K cd_Route_sight "Route.sight" = true)
    (kp_Route_sight : PySem.W.keepIn K (.ref f_Route_sight) = true)
    (a_Table_init : PySem.W.findIn K (.ref c_Table) "__init__" = some (some (.ref f_Table_init)))
    (i_Table_init : PySem.W.isFn K (.ref f_Table_init) = true)
    (l_Table_init : K.lookup f_Table_init = some ⟨oc_Table_init, od_Table_init, .func (PySem.W.fnOf "__init__" "Table.__init__" (defArgs s_Table_init) (defBody s_Table_init) (defScope s_Table_init) .none kV_Table_init dc_Table_init pm_Table_init an_Table_init cd_Table_init ct_Table_init), sl_Table_init⟩)
    (cc_Table_init : PySem.W.codeIn K cd_Table_init "Table.__init__" = true)
    (kp_Table_init : PySem.W.keepIn K (.ref f_Table_init) = true)
    (a_Table_in_order : PySem.W.findIn K (.ref c_Table) "in_order" = some (some (.ref f_Table_in_order)))
    (i_Table_in_order : PySem.W.isFn K (.ref f_Table_in_order) = true)
    (l_Table_in_order : K.lookup f_Table_in_order = some ⟨oc_Table_in_order, od_Table_in_order, .func (PySem.W.fnOf "in_order" "Table.in_order" (defArgs s_Table_in_order) (defBody s_Table_in_order) (defScope s_Table_in_order) .none kV_Table_in_order dc_Table_in_order pm_Table_in_order an_Table_in_order cd_Table_in_order ct_Table_in_order), sl_Table_in_order⟩)
    (cc_Table_in_order : PySem.W.codeIn K cd_Table_in_order "Table.in_order" = true)
    (kp_Table_in_order : PySem.W.keepIn K (.ref f_Table_in_order) = true)
    (a_Table_sights : PySem.W.findIn K (.ref c_Table) "sights" = some (some (.ref f_Table_sights)))
    (i_Table_sights : PySem.W.isFn K (.ref f_Table_sights) = true)
    (l_Table_sights : K.lookup f_Table_sights = some ⟨oc_Table_sights, od_Table_sights, .func (PySem.W.fnOf "sights" "Table.sights" (defArgs s_Table_sights) (defBody s_Table_sights) (defScope s_Table_sights) .none kV_Table_sights dc_Table_sights pm_Table_sights an_Table_sights cd_Table_sights ct_Table_sights), sl_Table_sights⟩)
    (cc_Table_sights : PySem.W.codeIn K cd_Table_sights "Table.sights" = true)
    (kp_Table_sights : PySem.W.keepIn K (.ref f_Table_sights) = true)
    (a_lose : PySem.W.nsIn K mainGlobals "lose" = some (some (.ref f_lose)))
    (l_lose : K.lookup f_lose = some ⟨oc_lose, od_lose, .func (PySem.W.fnOf "lose" "lose" (defArgs s_lose) (defBody s_lose) (defScope s_lose) .none kV_lose dc_lose pm_lose an_lose cd_lose ct_lose), sl_lose⟩)
    (cc_lose : PySem.W.codeIn K cd_lose "lose" = true)
    (kp_lose : PySem.W.keepIn K (.ref f_lose) = true)
    (a_offer : PySem.W.nsIn K mainGlobals "offer" = some (some (.ref f_offer)))
    (l_offer : K.lookup f_offer = some ⟨oc_offer, od_offer, .func (PySem.W.fnOf "offer" "offer" (defArgs s_offer) (defBody s_offer) (defScope s_offer) .none kV_offer dc_offer pm_offer an_offer cd_offer ct_offer), sl_offer⟩)
    (cc_offer : PySem.W.codeIn K cd_offer "offer" = true)
    (kp_offer : PySem.W.keepIn K (.ref f_offer) = true)
    (a_offer_again : PySem.W.nsIn K mainGlobals "offer_again" = some (some (.ref f_offer_again)))
    (l_offer_again : K.lookup f_offer_again = some ⟨oc_offer_again, od_offer_again, .func (PySem.W.fnOf "offer_again" "offer_again" (defArgs s_offer_again) (defBody s_offer_again) (defScope s_offer_again) .none kV_offer_again dc_offer_again pm_offer_again an_offer_again cd_offer_again ct_offer_again), sl_offer_again⟩)
    (cc_offer_again : PySem.W.codeIn K cd_offer_again "offer_again" = true)
    (kp_offer_again : PySem.W.keepIn K (.ref f_offer_again) = true)
    (a_forget : PySem.W.nsIn K mainGlobals "forget" = some (some (.ref f_forget)))
    (l_forget : K.lookup f_forget = some ⟨oc_forget, od_forget, .func (PySem.W.fnOf "forget" "forget" (defArgs s_forget) (defBody s_forget) (defScope s_forget) .none kV_forget dc_forget pm_forget an_forget cd_forget ct_forget), sl_forget⟩)
    (cc_forget : PySem.W.codeIn K cd_forget "forget" = true)
    (kp_forget : PySem.W.keepIn K (.ref f_forget) = true)
    (a_way_to : PySem.W.nsIn K mainGlobals "way_to" = some (some (.ref f_way_to)))
    (l_way_to : K.lookup f_way_to = some ⟨oc_way_to, od_way_to, .func (PySem.W.fnOf "way_to" "way_to" (defArgs s_way_to) (defBody s_way_to) (defScope s_way_to) .none kV_way_to dc_way_to pm_way_to an_way_to cd_way_to ct_way_to), sl_way_to⟩)
    (cc_way_to : PySem.W.codeIn K cd_way_to "way_to" = true)
    (kp_way_to : PySem.W.keepIn K (.ref f_way_to) = true)
    (a_other_ones : PySem.W.nsIn K mainGlobals "other_ones" = some (some (.ref f_other_ones)))
    (l_other_ones : K.lookup f_other_ones = some ⟨oc_other_ones, od_other_ones, .func (PySem.W.fnOf "other_ones" "other_ones" (defArgs s_other_ones) (defBody s_other_ones) (defScope s_other_ones) .none kV_other_ones dc_other_ones pm_other_ones an_other_ones cd_other_ones ct_other_ones), sl_other_ones⟩)
    (cc_other_ones : PySem.W.codeIn K cd_other_ones "other_ones" = true)
    (kp_other_ones : PySem.W.keepIn K (.ref f_other_ones) = true)
    (a_Link_init : PySem.W.findIn K (.ref c_Link) "__init__" = some (some (.ref f_Link_init)))
    (i_Link_init : PySem.W.isFn K (.ref f_Link_init) = true)
    (l_Link_init : K.lookup f_Link_init = some ⟨oc_Link_init, od_Link_init, .func (PySem.W.fnOf "__init__" "Link.__init__" (defArgs s_Link_init) (defBody s_Link_init) (defScope s_Link_init) .none kV_Link_init dc_Link_init pm_Link_init an_Link_init cd_Link_init ct_Link_init), sl_Link_init⟩)
    (cc_Link_init : PySem.W.codeIn K cd_Link_init "Link.__init__" = true)
    (kp_Link_init : PySem.W.keepIn K (.ref f_Link_init) = true)
    (a_Link_network : PySem.W.findIn K (.ref c_Link) "network" = some (some (.ref f_Link_network)))
    (i_Link_network : PySem.W.isFn K (.ref f_Link_network) = true)
    (l_Link_network : K.lookup f_Link_network = some ⟨oc_Link_network, od_Link_network, .func (PySem.W.fnOf "network" "Link.network" (defArgs s_Link_network) (defBody s_Link_network) (defScope s_Link_network) .none kV_Link_network dc_Link_network pm_Link_network an_Link_network cd_Link_network ct_Link_network), sl_Link_network⟩)
    (cc_Link_network : PySem.W.codeIn K cd_Link_network "Link.network" = true)
    (kp_Link_network : PySem.W.keepIn K (.ref f_Link_network) = true)
    (a_Machine_init : PySem.W.findIn K (.ref c_Machine) "__init__" = some (some (.ref f_Machine_init)))
    (i_Machine_init : PySem.W.isFn K (.ref f_Machine_init) = true)
    (l_Machine_init : K.lookup f_Machine_init = some ⟨oc_Machine_init, od_Machine_init, .func (PySem.W.fnOf "__init__" "Machine.__init__" (defArgs s_Machine_init) (defBody s_Machine_init) (defScope s_Machine_init) .none kV_Machine_init dc_Machine_init pm_Machine_init an_Machine_init cd_Machine_init ct_Machine_init), sl_Machine_init⟩)
    (cc_Machine_init : PySem.W.codeIn K cd_Machine_init "Machine.__init__" = true)
    (kp_Machine_init : PySem.W.keepIn K (.ref f_Machine_init) = true)
    (a_has_network : PySem.W.nsIn K mainGlobals "has_network" = some (some (.ref f_has_network)))
    (l_has_network : K.lookup f_has_network = some ⟨oc_has_network, od_has_network, .func (PySem.W.fnOf "has_network" "has_network" (defArgs s_has_network) (defBody s_has_network) (defScope s_has_network) .none kV_has_network dc_has_network pm_has_network an_has_network cd_has_network ct_has_network), sl_has_network⟩)
    (cc_has_network : PySem.W.codeIn K cd_has_network "has_network" = true)
    (kp_has_network : PySem.W.keepIn K (.ref f_has_network) = true)
    (a_can_come_up : PySem.W.nsIn K mainGlobals "can_come_up" = some (some (.ref f_can_come_up)))
    (l_can_come_up : K.lookup f_can_come_up = some ⟨oc_can_come_up, od_can_come_up, .func (PySem.W.fnOf "can_come_up" "can_come_up" (defArgs s_can_come_up) (defBody s_can_come_up) (defScope s_can_come_up) .none kV_can_come_up dc_can_come_up pm_can_come_up an_can_come_up cd_can_come_up ct_can_come_up), sl_can_come_up⟩)
    (cc_can_come_up : PySem.W.codeIn K cd_can_come_up "can_come_up" = true)
    (kp_can_come_up : PySem.W.keepIn K (.ref f_can_come_up) = true)
    (a_come_up : PySem.W.nsIn K mainGlobals "come_up" = some (some (.ref f_come_up)))
    (l_come_up : K.lookup f_come_up = some ⟨oc_come_up, od_come_up, .func (PySem.W.fnOf "come_up" "come_up" (defArgs s_come_up) (defBody s_come_up) (defScope s_come_up) .none kV_come_up dc_come_up pm_come_up an_come_up cd_come_up ct_come_up), sl_come_up⟩)
    (cc_come_up : PySem.W.codeIn K cd_come_up "come_up" = true)
    (kp_come_up : PySem.W.keepIn K (.ref f_come_up) = true)
    (a_go_down : PySem.W.nsIn K mainGlobals "go_down" = some (some (.ref f_go_down)))
    (l_go_down : K.lookup f_go_down = some ⟨oc_go_down, od_go_down, .func (PySem.W.fnOf "go_down" "go_down" (defArgs s_go_down) (defBody s_go_down) (defScope s_go_down) .none kV_go_down dc_go_down pm_go_down an_go_down cd_go_down ct_go_down), sl_go_down⟩)
    (cc_go_down : PySem.W.codeIn K cd_go_down "go_down" = true)
    (kp_go_down : PySem.W.keepIn K (.ref f_go_down) = true)
    (a_told_on : PySem.W.nsIn K mainGlobals "told_on" = some (some (.ref f_told_on)))
    (l_told_on : K.lookup f_told_on = some ⟨oc_told_on, od_told_on, .func (PySem.W.fnOf "told_on" "told_on" (defArgs s_told_on) (defBody s_told_on) (defScope s_told_on) .none kV_told_on dc_told_on pm_told_on an_told_on cd_told_on ct_told_on), sl_told_on⟩)
    (cc_told_on : PySem.W.codeIn K cd_told_on "told_on" = true)
    (kp_told_on : PySem.W.keepIn K (.ref f_told_on) = true)
    (a_tell : PySem.W.nsIn K mainGlobals "tell" = some (some (.ref f_tell)))
    (l_tell : K.lookup f_tell = some ⟨oc_tell, od_tell, .func (PySem.W.fnOf "tell" "tell" (defArgs s_tell) (defBody s_tell) (defScope s_tell) .none kV_tell dc_tell pm_tell an_tell cd_tell ct_tell), sl_tell⟩)
    (cc_tell : PySem.W.codeIn K cd_tell "tell" = true)
    (kp_tell : PySem.W.keepIn K (.ref f_tell) = true)
    (a_changed_networks : PySem.W.nsIn K mainGlobals "changed_networks" = some (some (.ref f_changed_networks)))
    (l_changed_networks : K.lookup f_changed_networks = some ⟨oc_changed_networks, od_changed_networks, .func (PySem.W.fnOf "changed_networks" "changed_networks" (defArgs s_changed_networks) (defBody s_changed_networks) (defScope s_changed_networks) .none kV_changed_networks dc_changed_networks pm_changed_networks an_changed_networks cd_changed_networks ct_changed_networks), sl_changed_networks⟩)
    (cc_changed_networks : PySem.W.codeIn K cd_changed_networks "changed_networks" = true)
    (kp_changed_networks : PySem.W.keepIn K (.ref f_changed_networks) = true)
    (a_tick : PySem.W.nsIn K mainGlobals "tick" = some (some (.ref f_tick)))
    (l_tick : K.lookup f_tick = some ⟨oc_tick, od_tick, .func (PySem.W.fnOf "tick" "tick" (defArgs s_tick) (defBody s_tick) (defScope s_tick) .none kV_tick dc_tick pm_tick an_tick cd_tick ct_tick), sl_tick⟩)
    (cc_tick : PySem.W.codeIn K cd_tick "tick" = true)
    (kp_tick : PySem.W.keepIn K (.ref f_tick) = true)
    (a_due : PySem.W.nsIn K mainGlobals "due" = some (some (.ref f_due)))
    (l_due : K.lookup f_due = some ⟨oc_due, od_due, .func (PySem.W.fnOf "due" "due" (defArgs s_due) (defBody s_due) (defScope s_due) .none kV_due dc_due pm_due an_due cd_due ct_due), sl_due⟩)
    (cc_due : PySem.W.codeIn K cd_due "due" = true)
    (kp_due : PySem.W.keepIn K (.ref f_due) = true)
    (a_Box_init : PySem.W.findIn K (.ref c_Box) "__init__" = some (some (.ref f_Box_init)))
    (i_Box_init : PySem.W.isFn K (.ref f_Box_init) = true)
    (l_Box_init : K.lookup f_Box_init = some ⟨oc_Box_init, od_Box_init, .func (PySem.W.fnOf "__init__" "Box.__init__" (defArgs s_Box_init) (defBody s_Box_init) (defScope s_Box_init) .none kV_Box_init dc_Box_init pm_Box_init an_Box_init cd_Box_init ct_Box_init), sl_Box_init⟩)
    (cc_Box_init : PySem.W.codeIn K cd_Box_init "Box.__init__" = true)
    (kp_Box_init : PySem.W.keepIn K (.ref f_Box_init) = true)
    (a_Tape_init : PySem.W.findIn K (.ref c_Tape) "__init__" = some (some (.ref f_Tape_init)))
    (i_Tape_init : PySem.W.isFn K (.ref f_Tape_init) = true)
    (l_Tape_init : K.lookup f_Tape_init = some ⟨oc_Tape_init, od_Tape_init, .func (PySem.W.fnOf "__init__" "Tape.__init__" (defArgs s_Tape_init) (defBody s_Tape_init) (defScope s_Tape_init) .none kV_Tape_init dc_Tape_init pm_Tape_init an_Tape_init cd_Tape_init ct_Tape_init), sl_Tape_init⟩)
    (cc_Tape_init : PySem.W.codeIn K cd_Tape_init "Tape.__init__" = true)
    (kp_Tape_init : PySem.W.keepIn K (.ref f_Tape_init) = true)
    (a_Tape_is_done : PySem.W.findIn K (.ref c_Tape) "is_done" = some (some (.ref f_Tape_is_done)))
    (i_Tape_is_done : PySem.W.isFn K (.ref f_Tape_is_done) = true)
    (l_Tape_is_done : K.lookup f_Tape_is_done = some ⟨oc_Tape_is_done, od_Tape_is_done, .func (PySem.W.fnOf "is_done" "Tape.is_done" (defArgs s_Tape_is_done) (defBody s_Tape_is_done) (defScope s_Tape_is_done) .none kV_Tape_is_done dc_Tape_is_done pm_Tape_is_done an_Tape_is_done cd_Tape_is_done ct_Tape_is_done), sl_Tape_is_done⟩)
    (cc_Tape_is_done : PySem.W.codeIn K cd_Tape_is_done "Tape.is_done" = true)
    (kp_Tape_is_done : PySem.W.keepIn K (.ref f_Tape_is_done) = true)
    (a_Tape_take_many : PySem.W.findIn K (.ref c_Tape) "take_many" = some (some (.ref f_Tape_take_many)))
    (i_Tape_take_many : PySem.W.isFn K (.ref f_Tape_take_many) = true)
    (l_Tape_take_many : K.lookup f_Tape_take_many = some ⟨oc_Tape_take_many, od_Tape_take_many, .func (PySem.W.fnOf "take_many" "Tape.take_many" (defArgs s_Tape_take_many) (defBody s_Tape_take_many) (defScope s_Tape_take_many) .none kV_Tape_take_many dc_Tape_take_many pm_Tape_take_many an_Tape_take_many cd_Tape_take_many ct_Tape_take_many), sl_Tape_take_many⟩)
    (cc_Tape_take_many : PySem.W.codeIn K cd_Tape_take_many "Tape.take_many" = true)
    (kp_Tape_take_many : PySem.W.keepIn K (.ref f_Tape_take_many) = true)
    (a_Tape_take_row : PySem.W.findIn K (.ref c_Tape) "take_row" = some (some (.ref f_Tape_take_row)))
    (i_Tape_take_row : PySem.W.isFn K (.ref f_Tape_take_row) = true)
    (l_Tape_take_row : K.lookup f_Tape_take_row = some ⟨oc_Tape_take_row, od_Tape_take_row, .func (PySem.W.fnOf "take_row" "Tape.take_row" (defArgs s_Tape_take_row) (defBody s_Tape_take_row) (defScope s_Tape_take_row) .none kV_Tape_take_row dc_Tape_take_row pm_Tape_take_row an_Tape_take_row cd_Tape_take_row ct_Tape_take_row), sl_Tape_take_row⟩)
    (cc_Tape_take_row : PySem.W.codeIn K cd_Tape_take_row "Tape.take_row" = true)
    (kp_Tape_take_row : PySem.W.keepIn K (.ref f_Tape_take_row) = true)
    (a_ask : PySem.W.nsIn K mainGlobals "ask" = some (some (.ref f_ask)))
    (l_ask : K.lookup f_ask = some ⟨oc_ask, od_ask, .func (PySem.W.fnOf "ask" "ask" (defArgs s_ask) (defBody s_ask) (defScope s_ask) .none kV_ask dc_ask pm_ask an_ask cd_ask ct_ask), sl_ask⟩)
    (cc_ask : PySem.W.codeIn K cd_ask "ask" = true)
    (kp_ask : PySem.W.keepIn K (.ref f_ask) = true)
    (a_is_address : PySem.W.nsIn K mainGlobals "is_address" = some (some (.ref f_is_address)))
    (l_is_address : K.lookup f_is_address = some ⟨oc_is_address, od_is_address, .func (PySem.W.fnOf "is_address" "is_address" (defArgs s_is_address) (defBody s_is_address) (defScope s_is_address) .none kV_is_address dc_is_address pm_is_address an_is_address cd_is_address ct_is_address), sl_is_address⟩)
    (cc_is_address : PySem.W.codeIn K cd_is_address "is_address" = true)
    (kp_is_address : PySem.W.keepIn K (.ref f_is_address) = true)
    (a_do_begin : PySem.W.nsIn K mainGlobals "do_begin" = some (some (.ref f_do_begin)))
    (l_do_begin : K.lookup f_do_begin = some ⟨oc_do_begin, od_do_begin, .func (PySem.W.fnOf "do_begin" "do_begin" (defArgs s_do_begin) (defBody s_do_begin) (defScope s_do_begin) .none kV_do_begin dc_do_begin pm_do_begin an_do_begin cd_do_begin ct_do_begin), sl_do_begin⟩)
    (cc_do_begin : PySem.W.codeIn K cd_do_begin "do_begin" = true)
    (kp_do_begin : PySem.W.keepIn K (.ref f_do_begin) = true)
    (a_do_link : PySem.W.nsIn K mainGlobals "do_link" = some (some (.ref f_do_link)))
    (l_do_link : K.lookup f_do_link = some ⟨oc_do_link, od_do_link, .func (PySem.W.fnOf "do_link" "do_link" (defArgs s_do_link) (defBody s_do_link) (defScope s_do_link) .none kV_do_link dc_do_link pm_do_link an_do_link cd_do_link ct_do_link), sl_do_link⟩)
    (cc_do_link : PySem.W.codeIn K cd_do_link "do_link" = true)
    (kp_do_link : PySem.W.keepIn K (.ref f_do_link) = true)
    (a_do_down : PySem.W.nsIn K mainGlobals "do_down" = some (some (.ref f_do_down)))
    (l_do_down : K.lookup f_do_down = some ⟨oc_do_down, od_do_down, .func (PySem.W.fnOf "do_down" "do_down" (defArgs s_do_down) (defBody s_do_down) (defScope s_do_down) .none kV_do_down dc_do_down pm_do_down an_do_down cd_do_down ct_do_down), sl_do_down⟩)
    (cc_do_down : PySem.W.codeIn K cd_do_down "do_down" = true)
    (kp_do_down : PySem.W.keepIn K (.ref f_do_down) = true)
    (a_do_hear : PySem.W.nsIn K mainGlobals "do_hear" = some (some (.ref f_do_hear)))
    (l_do_hear : K.lookup f_do_hear = some ⟨oc_do_hear, od_do_hear, .func (PySem.W.fnOf "do_hear" "do_hear" (defArgs s_do_hear) (defBody s_do_hear) (defScope s_do_hear) .none kV_do_hear dc_do_hear pm_do_hear an_do_hear cd_do_hear ct_do_hear), sl_do_hear⟩)
    (cc_do_hear : PySem.W.codeIn K cd_do_hear "do_hear" = true)
    (kp_do_hear : PySem.W.keepIn K (.ref f_do_hear) = true)
    (a_do_tick : PySem.W.nsIn K mainGlobals "do_tick" = some (some (.ref f_do_tick)))
    (l_do_tick : K.lookup f_do_tick = some ⟨oc_do_tick, od_do_tick, .func (PySem.W.fnOf "do_tick" "do_tick" (defArgs s_do_tick) (defBody s_do_tick) (defScope s_do_tick) .none kV_do_tick dc_do_tick pm_do_tick an_do_tick cd_do_tick ct_do_tick), sl_do_tick⟩)
    (cc_do_tick : PySem.W.codeIn K cd_do_tick "do_tick" = true)
    (kp_do_tick : PySem.W.keepIn K (.ref f_do_tick) = true)
    (a_do_way : PySem.W.nsIn K mainGlobals "do_way" = some (some (.ref f_do_way)))
    (l_do_way : K.lookup f_do_way = some ⟨oc_do_way, od_do_way, .func (PySem.W.fnOf "do_way" "do_way" (defArgs s_do_way) (defBody s_do_way) (defScope s_do_way) .none kV_do_way dc_do_way pm_do_way an_do_way cd_do_way ct_do_way), sl_do_way⟩)
    (cc_do_way : PySem.W.codeIn K cd_do_way "do_way" = true)
    (kp_do_way : PySem.W.keepIn K (.ref f_do_way) = true)
    (a_do_routes : PySem.W.nsIn K mainGlobals "do_routes" = some (some (.ref f_do_routes)))
    (l_do_routes : K.lookup f_do_routes = some ⟨oc_do_routes, od_do_routes, .func (PySem.W.fnOf "do_routes" "do_routes" (defArgs s_do_routes) (defBody s_do_routes) (defScope s_do_routes) .none kV_do_routes dc_do_routes pm_do_routes an_do_routes cd_do_routes ct_do_routes), sl_do_routes⟩)
    (cc_do_routes : PySem.W.codeIn K cd_do_routes "do_routes" = true)
    (kp_do_routes : PySem.W.keepIn K (.ref f_do_routes) = true)
    (a_do_call : PySem.W.nsIn K mainGlobals "do_call" = some (some (.ref f_do_call)))
    (l_do_call : K.lookup f_do_call = some ⟨oc_do_call, od_do_call, .func (PySem.W.fnOf "do_call" "do_call" (defArgs s_do_call) (defBody s_do_call) (defScope s_do_call) .none kV_do_call dc_do_call pm_do_call an_do_call cd_do_call ct_do_call), sl_do_call⟩)
    (cc_do_call : PySem.W.codeIn K cd_do_call "do_call" = true)
    (kp_do_call : PySem.W.keepIn K (.ref f_do_call) = true)
    (a_answer : PySem.W.nsIn K mainGlobals "answer" = some (some (.ref f_answer)))
    (l_answer : K.lookup f_answer = some ⟨oc_answer, od_answer, .func (PySem.W.fnOf "answer" "answer" (defArgs s_answer) (defBody s_answer) (defScope s_answer) .none kV_answer dc_answer pm_answer an_answer cd_answer ct_answer), sl_answer⟩)
    (cc_answer : PySem.W.codeIn K cd_answer "answer" = true)
    (kp_answer : PySem.W.keepIn K (.ref f_answer) = true)
    (a_answers : PySem.W.nsIn K mainGlobals "answers" = some (some (.ref f_answers)))
    (l_answers : K.lookup f_answers = some ⟨oc_answers, od_answers, .func (PySem.W.fnOf "answers" "answers" (defArgs s_answers) (defBody s_answers) (defScope s_answers) .none kV_answers dc_answers pm_answers an_answers cd_answers ct_answers), sl_answers⟩)
    (cc_answers : PySem.W.codeIn K cd_answers "answers" = true)
    (kp_answers : PySem.W.keepIn K (.ref f_answers) = true)
    (r_a : PySem.W.nsIn K mainGlobals "Refused" = some (some (.ref c_Refused)))
    (r_xL : K.lookup c_Refused = some (excClassObj nm q c_Refused N bs [.type "ValueError", .type "Exception", .type "BaseException", .type "object"] true sn sub ab col dd m0 m1 m2 m3 m5 "ValueError.__new__"))
    (r_sa : PySem.W.findIn K (.ref c_Refused) "__setattr__" = some (some (.builtin "object.__setattr__")))
    (r_ga : PySem.W.findIn K (.ref c_Refused) "__getattribute__" = some (some (.builtin "BaseException.__getattribute__")))
    (r_gg : PySem.W.findIn K (.ref c_Refused) "__getattr__" = some none)
    (r_nb : PySem.W.findIn K (.ref c_Refused) "number" = some none)
    (r_a1 : PySem.W.findIn K (.ref c_Refused) "__init__" = some (some (.ref f_Refused_init)))
    (r_t1 : PySem.W.typeIn K (.ref f_Refused_init) = some (.type "function"))
    (r_l1 : K.lookup f_Refused_init = some ⟨roc, rod, .func (PySem.W.fnOf "__init__" "Refused.__init__" (PySem.LowX.iA ⟨216, 17, 216, 21⟩ ⟨216, 23, 216, 29⟩) (PySem.LowX.iB ⟨217, 8, 217, 12⟩ ⟨217, 8, 217, 19⟩ ⟨217, 22, 217, 28⟩ ⟨217, 8, 217, 28⟩) PySem.LowX.iS .none .none rdc rpm ran rcd rct), rsl⟩)
    (r_c1 : PySem.W.codeIn K rcd "Refused.__init__" = true)
    (r_kC : PySem.W.keepIn K (.ref c_Refused) = true)
    (r_eC : PySem.W.subIn K (.ref c_Refused) (.type "BaseException") = some true)
    (r_tC : PySem.W.typeIn K (.ref c_Refused) = some (.type "type"))
    (r_hC : PySem.W.hasDictIn K c_Refused = true)
    (r_iC : PySem.W.isClsIn K c_Refused = true)
    (r_sC : PySem.W.subIn K (.ref c_Refused) (.ref c_Refused) = some true)
    (k_ADDRESS_BITS : PySem.W.nsIn K mainGlobals "ADDRESS_BITS" = some (some (.int (32) t_ADDRESS_BITS)))
    (k_MOST_ADDRESS : PySem.W.nsIn K mainGlobals "MOST_ADDRESS" = some (some (.int (4294967295) t_MOST_ADDRESS)))
    (k_MOST_TOLD : PySem.W.nsIn K mainGlobals "MOST_TOLD" = some (some (.int (64) t_MOST_TOLD)))
    (k_HEAD : PySem.W.nsIn K mainGlobals "HEAD" = some (some (.int (2) t_HEAD)))
    (k_EACH : PySem.W.nsIn K mainGlobals "EACH" = some (some (.int (8) t_EACH)))
    (k_OUT_OF_REACH : PySem.W.nsIn K mainGlobals "OUT_OF_REACH" = some (some (.int (16) t_OUT_OF_REACH)))
    (k_MOST_ROUTES : PySem.W.nsIn K mainGlobals "MOST_ROUTES" = some (some (.int (256) t_MOST_ROUTES)))
    (k_GOOD_FOR : PySem.W.nsIn K mainGlobals "GOOD_FOR" = some (some (.int (180000) t_GOOD_FOR)))
    (k_MISTRUSTED : PySem.W.nsIn K mainGlobals "MISTRUSTED" = some (some (.int (60000) t_MISTRUSTED)))
    (k_KEPT : PySem.W.nsIn K mainGlobals "KEPT" = some (some (.int (120000) t_KEPT)))
    (k_LINKS : PySem.W.nsIn K mainGlobals "LINKS" = some (some (.int (4) t_LINKS)))
    (k_ALL_EACH : PySem.W.nsIn K mainGlobals "ALL_EACH" = some (some (.int (30000) t_ALL_EACH)))
    (k_CHANGES_EACH : PySem.W.nsIn K mainGlobals "CHANGES_EACH" = some (some (.int (1000) t_CHANGES_EACH)))
    (k_WRONG : PySem.W.nsIn K mainGlobals "WRONG" = some (some (.int (-1) t_WRONG)))
    (k_NOT_SO : PySem.W.nsIn K mainGlobals "NOT_SO" = some (some (.int (-2) t_NOT_SO)))
    (k_NO_MESSAGE : PySem.W.nsIn K mainGlobals "NO_MESSAGE" = some (some (.int (-3) t_NO_MESSAGE)))
    (k_NOT_NOW : PySem.W.nsIn K mainGlobals "NOT_NOW" = some (some (.int (-4) t_NOT_NOW)))
    (k_FULL : PySem.W.nsIn K mainGlobals "FULL" = some (some (.int (-5) t_FULL)))
    (k_NO_MACHINE : PySem.W.nsIn K mainGlobals "NO_MACHINE" = some (some (.int (-6) t_NO_MACHINE)))
    (k_TIME_BOUND : PySem.W.nsIn K mainGlobals "TIME_BOUND" = some (some (.int (4611686018427387904) t_TIME_BOUND)))
    (k_MOST_BITS : PySem.W.nsIn K mainGlobals "MOST_BITS" = some (some (.int (31) t_MOST_BITS)))
    (k_SIZES : PySem.W.nsIn K mainGlobals "SIZES" = some (some (.ref x_SIZES)))
    (l_SIZES : K.lookup x_SIZES = some ⟨.type "tuple", od_S, .seq #[.int 1 ts0, .int 3 ts1, .int 1 ts2, .int 2 ts3, .int 1 ts4, .int 1 ts5, .int 0 ts6, .int 0 ts7] n_S, sl_S⟩)
    (k_HEAR : PySem.W.nsIn K mainGlobals "HEAR" = some (some (.int (3) t_HEAR)))
    (z_range : PySem.W.nsIn K mainGlobals "range" = some none)
    (z_len : PySem.W.nsIn K mainGlobals "len" = some none)
    (z_sorted : PySem.W.nsIn K mainGlobals "sorted" = some none)
    (z_list : PySem.W.nsIn K mainGlobals "list" = some none)
    (z_min : PySem.W.nsIn K mainGlobals "min" = some none)
    (z_max : PySem.W.nsIn K mainGlobals "max" = some none)
    (z_enumerate : PySem.W.nsIn K mainGlobals "enumerate" = some none)
    (o_Told : PySem.W.mroIn K c_Told (.type "object") = some true)
    (e_Told : PySem.W.findIn K (.ref c_Told) "__eq__" = some (some (.builtin "object.__eq__")))
    : Goal := by
  have e := hfa.symm.trans (PySem.W.mg_of X G a_answers)
  have e2 : f_answers = fa := (Value.ref.inj (Option.some.inj e)).symm
  refine use { c_Told := c_Told, c_Route := c_Route, c_Table := c_Table, c_Link := c_Link, c_Machine := c_Machine, c_Refused := c_Refused, c_Box := c_Box, c_Tape := c_Tape, f_Told_init := f_Told_init, d_Told_init := PySem.W.fnOf "__init__" "Told.__init__" (defArgs s_Told_init) (defBody s_Told_init) (defScope s_Told_init) .none kV_Told_init dc_Told_init pm_Told_init an_Told_init cd_Told_init ct_Told_init, f_network_of := f_network_of, d_network_of := PySem.W.fnOf "network_of" "network_of" (defArgs s_network_of) (defBody s_network_of) (defScope s_network_of) .none kV_network_of dc_network_of pm_network_of an_network_of cd_network_of ct_network_of, f_bytes_of := f_bytes_of, d_bytes_of := PySem.W.fnOf "bytes_of" "bytes_of" (defArgs s_bytes_of) (defBody s_bytes_of) (defScope s_bytes_of) .none kV_bytes_of dc_bytes_of pm_bytes_of an_bytes_of cd_bytes_of ct_bytes_of, f_number_at := f_number_at, d_number_at := PySem.W.fnOf "number_at" "number_at" (defArgs s_number_at) (defBody s_number_at) (defScope s_number_at) .none kV_number_at dc_number_at pm_number_at an_number_at cd_number_at ct_number_at, f_message_of := f_message_of, d_message_of := PySem.W.fnOf "message_of" "message_of" (defArgs s_message_of) (defBody s_message_of) (defScope s_message_of) .none kV_message_of dc_message_of pm_message_of an_message_of cd_message_of ct_message_of, f_read_one := f_read_one, d_read_one := PySem.W.fnOf "read_one" "read_one" (defArgs s_read_one) (defBody s_read_one) (defScope s_read_one) .none kV_read_one dc_read_one pm_read_one an_read_one cd_read_one ct_read_one, f_read_message := f_read_message, d_read_message := PySem.W.fnOf "read_message" "read_message" (defArgs s_read_message) (defBody s_read_message) (defScope s_read_message) .none kV_read_message dc_read_message pm_read_message an_read_message cd_read_message ct_read_message, f_Route_init := f_Route_init, d_Route_init := PySem.W.fnOf "__init__" "Route.__init__" (defArgs s_Route_init) (defBody s_Route_init) (defScope s_Route_init) .none kV_Route_init dc_Route_init pm_Route_init an_Route_init cd_Route_init ct_Route_init, f_Route_is_in_reach := f_Route_is_in_reach, d_Route_is_in_reach := PySem.W.fnOf "is_in_reach" "Route.is_in_reach" (defArgs s_Route_is_in_reach) (defBody s_Route_is_in_reach) (defScope s_Route_is_in_reach) .none kV_Route_is_in_reach dc_Route_is_in_reach pm_Route_is_in_reach an_Route_is_in_reach cd_Route_is_in_reach ct_Route_is_in_reach, f_Route_sight := f_Route_sight, d_Route_sight := PySem.W.fnOf "sight" "Route.sight" (defArgs s_Route_sight) (defBody s_Route_sight) (defScope s_Route_sight) .none kV_Route_sight dc_Route_sight pm_Route_sight an_Route_sight cd_Route_sight ct_Route_sight, f_Table_init := f_Table_init, d_Table_init := PySem.W.fnOf "__init__" "Table.__init__" (defArgs s_Table_init) (defBody s_Table_init) (defScope s_Table_init) .none kV_Table_init dc_Table_init pm_Table_init an_Table_init cd_Table_init ct_Table_init, f_Table_in_order := f_Table_in_order, d_Table_in_order := PySem.W.fnOf "in_order" "Table.in_order" (defArgs s_Table_in_order) (defBody s_Table_in_order) (defScope s_Table_in_order) .none kV_Table_in_order dc_Table_in_order pm_Table_in_order an_Table_in_order cd_Table_in_order ct_Table_in_order, f_Table_sights := f_Table_sights, d_Table_sights := PySem.W.fnOf "sights" "Table.sights" (defArgs s_Table_sights) (defBody s_Table_sights) (defScope s_Table_sights) .none kV_Table_sights dc_Table_sights pm_Table_sights an_Table_sights cd_Table_sights ct_Table_sights, f_lose := f_lose, d_lose := PySem.W.fnOf "lose" "lose" (defArgs s_lose) (defBody s_lose) (defScope s_lose) .none kV_lose dc_lose pm_lose an_lose cd_lose ct_lose, f_offer := f_offer, d_offer := PySem.W.fnOf "offer" "offer" (defArgs s_offer) (defBody s_offer) (defScope s_offer) .none kV_offer dc_offer pm_offer an_offer cd_offer ct_offer, f_offer_again := f_offer_again, d_offer_again := PySem.W.fnOf "offer_again" "offer_again" (defArgs s_offer_again) (defBody s_offer_again) (defScope s_offer_again) .none kV_offer_again dc_offer_again pm_offer_again an_offer_again cd_offer_again ct_offer_again, f_forget := f_forget, d_forget := PySem.W.fnOf "forget" "forget" (defArgs s_forget) (defBody s_forget) (defScope s_forget) .none kV_forget dc_forget pm_forget an_forget cd_forget ct_forget, f_way_to := f_way_to, d_way_to := PySem.W.fnOf "way_to" "way_to" (defArgs s_way_to) (defBody s_way_to) (defScope s_way_to) .none kV_way_to dc_way_to pm_way_to an_way_to cd_way_to ct_way_to, f_other_ones := f_other_ones, d_other_ones := PySem.W.fnOf "other_ones" "other_ones" (defArgs s_other_ones) (defBody s_other_ones) (defScope s_other_ones) .none kV_other_ones dc_other_ones pm_other_ones an_other_ones cd_other_ones ct_other_ones, f_Link_init := f_Link_init, d_Link_init := PySem.W.fnOf "__init__" "Link.__init__" (defArgs s_Link_init) (defBody s_Link_init) (defScope s_Link_init) .none kV_Link_init dc_Link_init pm_Link_init an_Link_init cd_Link_init ct_Link_init, f_Link_network := f_Link_network, d_Link_network := PySem.W.fnOf "network" "Link.network" (defArgs s_Link_network) (defBody s_Link_network) (defScope s_Link_network) .none kV_Link_network dc_Link_network pm_Link_network an_Link_network cd_Link_network ct_Link_network, f_Machine_init := f_Machine_init, d_Machine_init := PySem.W.fnOf "__init__" "Machine.__init__" (defArgs s_Machine_init) (defBody s_Machine_init) (defScope s_Machine_init) .none kV_Machine_init dc_Machine_init pm_Machine_init an_Machine_init cd_Machine_init ct_Machine_init, f_has_network := f_has_network, d_has_network := PySem.W.fnOf "has_network" "has_network" (defArgs s_has_network) (defBody s_has_network) (defScope s_has_network) .none kV_has_network dc_has_network pm_has_network an_has_network cd_has_network ct_has_network, f_can_come_up := f_can_come_up, d_can_come_up := PySem.W.fnOf "can_come_up" "can_come_up" (defArgs s_can_come_up) (defBody s_can_come_up) (defScope s_can_come_up) .none kV_can_come_up dc_can_come_up pm_can_come_up an_can_come_up cd_can_come_up ct_can_come_up, f_come_up := f_come_up, d_come_up := PySem.W.fnOf "come_up" "come_up" (defArgs s_come_up) (defBody s_come_up) (defScope s_come_up) .none kV_come_up dc_come_up pm_come_up an_come_up cd_come_up ct_come_up, f_go_down := f_go_down, d_go_down := PySem.W.fnOf "go_down" "go_down" (defArgs s_go_down) (defBody s_go_down) (defScope s_go_down) .none kV_go_down dc_go_down pm_go_down an_go_down cd_go_down ct_go_down, f_told_on := f_told_on, d_told_on := PySem.W.fnOf "told_on" "told_on" (defArgs s_told_on) (defBody s_told_on) (defScope s_told_on) .none kV_told_on dc_told_on pm_told_on an_told_on cd_told_on ct_told_on, f_tell := f_tell, d_tell := PySem.W.fnOf "tell" "tell" (defArgs s_tell) (defBody s_tell) (defScope s_tell) .none kV_tell dc_tell pm_tell an_tell cd_tell ct_tell, f_changed_networks := f_changed_networks, d_changed_networks := PySem.W.fnOf "changed_networks" "changed_networks" (defArgs s_changed_networks) (defBody s_changed_networks) (defScope s_changed_networks) .none kV_changed_networks dc_changed_networks pm_changed_networks an_changed_networks cd_changed_networks ct_changed_networks, f_tick := f_tick, d_tick := PySem.W.fnOf "tick" "tick" (defArgs s_tick) (defBody s_tick) (defScope s_tick) .none kV_tick dc_tick pm_tick an_tick cd_tick ct_tick, f_due := f_due, d_due := PySem.W.fnOf "due" "due" (defArgs s_due) (defBody s_due) (defScope s_due) .none kV_due dc_due pm_due an_due cd_due ct_due, f_Refused_init := f_Refused_init, f_Box_init := f_Box_init, d_Box_init := PySem.W.fnOf "__init__" "Box.__init__" (defArgs s_Box_init) (defBody s_Box_init) (defScope s_Box_init) .none kV_Box_init dc_Box_init pm_Box_init an_Box_init cd_Box_init ct_Box_init, f_Tape_init := f_Tape_init, d_Tape_init := PySem.W.fnOf "__init__" "Tape.__init__" (defArgs s_Tape_init) (defBody s_Tape_init) (defScope s_Tape_init) .none kV_Tape_init dc_Tape_init pm_Tape_init an_Tape_init cd_Tape_init ct_Tape_init, f_Tape_is_done := f_Tape_is_done, d_Tape_is_done := PySem.W.fnOf "is_done" "Tape.is_done" (defArgs s_Tape_is_done) (defBody s_Tape_is_done) (defScope s_Tape_is_done) .none kV_Tape_is_done dc_Tape_is_done pm_Tape_is_done an_Tape_is_done cd_Tape_is_done ct_Tape_is_done, f_Tape_take_many := f_Tape_take_many, d_Tape_take_many := PySem.W.fnOf "take_many" "Tape.take_many" (defArgs s_Tape_take_many) (defBody s_Tape_take_many) (defScope s_Tape_take_many) .none kV_Tape_take_many dc_Tape_take_many pm_Tape_take_many an_Tape_take_many cd_Tape_take_many ct_Tape_take_many, f_Tape_take_row := f_Tape_take_row, d_Tape_take_row := PySem.W.fnOf "take_row" "Tape.take_row" (defArgs s_Tape_take_row) (defBody s_Tape_take_row) (defScope s_Tape_take_row) .none kV_Tape_take_row dc_Tape_take_row pm_Tape_take_row an_Tape_take_row cd_Tape_take_row ct_Tape_take_row, f_ask := f_ask, d_ask := PySem.W.fnOf "ask" "ask" (defArgs s_ask) (defBody s_ask) (defScope s_ask) .none kV_ask dc_ask pm_ask an_ask cd_ask ct_ask, f_is_address := f_is_address, d_is_address := PySem.W.fnOf "is_address" "is_address" (defArgs s_is_address) (defBody s_is_address) (defScope s_is_address) .none kV_is_address dc_is_address pm_is_address an_is_address cd_is_address ct_is_address, f_do_begin := f_do_begin, d_do_begin := PySem.W.fnOf "do_begin" "do_begin" (defArgs s_do_begin) (defBody s_do_begin) (defScope s_do_begin) .none kV_do_begin dc_do_begin pm_do_begin an_do_begin cd_do_begin ct_do_begin, f_do_link := f_do_link, d_do_link := PySem.W.fnOf "do_link" "do_link" (defArgs s_do_link) (defBody s_do_link) (defScope s_do_link) .none kV_do_link dc_do_link pm_do_link an_do_link cd_do_link ct_do_link, f_do_down := f_do_down, d_do_down := PySem.W.fnOf "do_down" "do_down" (defArgs s_do_down) (defBody s_do_down) (defScope s_do_down) .none kV_do_down dc_do_down pm_do_down an_do_down cd_do_down ct_do_down, f_do_hear := f_do_hear, d_do_hear := PySem.W.fnOf "do_hear" "do_hear" (defArgs s_do_hear) (defBody s_do_hear) (defScope s_do_hear) .none kV_do_hear dc_do_hear pm_do_hear an_do_hear cd_do_hear ct_do_hear, f_do_tick := f_do_tick, d_do_tick := PySem.W.fnOf "do_tick" "do_tick" (defArgs s_do_tick) (defBody s_do_tick) (defScope s_do_tick) .none kV_do_tick dc_do_tick pm_do_tick an_do_tick cd_do_tick ct_do_tick, f_do_way := f_do_way, d_do_way := PySem.W.fnOf "do_way" "do_way" (defArgs s_do_way) (defBody s_do_way) (defScope s_do_way) .none kV_do_way dc_do_way pm_do_way an_do_way cd_do_way ct_do_way, f_do_routes := f_do_routes, d_do_routes := PySem.W.fnOf "do_routes" "do_routes" (defArgs s_do_routes) (defBody s_do_routes) (defScope s_do_routes) .none kV_do_routes dc_do_routes pm_do_routes an_do_routes cd_do_routes ct_do_routes, f_do_call := f_do_call, d_do_call := PySem.W.fnOf "do_call" "do_call" (defArgs s_do_call) (defBody s_do_call) (defScope s_do_call) .none kV_do_call dc_do_call pm_do_call an_do_call cd_do_call ct_do_call, f_answer := f_answer, d_answer := PySem.W.fnOf "answer" "answer" (defArgs s_answer) (defBody s_answer) (defScope s_answer) .none kV_answer dc_answer pm_answer an_answer cd_answer ct_answer, f_answers := f_answers, d_answers := PySem.W.fnOf "answers" "answers" (defArgs s_answers) (defBody s_answers) (defScope s_answers) .none kV_answers dc_answers pm_answers an_answers cd_answers ct_answers, x_SIZES := x_SIZES, t_ADDRESS_BITS := t_ADDRESS_BITS, t_MOST_ADDRESS := t_MOST_ADDRESS, t_MOST_TOLD := t_MOST_TOLD, t_HEAD := t_HEAD, t_EACH := t_EACH, t_OUT_OF_REACH := t_OUT_OF_REACH, t_MOST_ROUTES := t_MOST_ROUTES, t_GOOD_FOR := t_GOOD_FOR, t_MISTRUSTED := t_MISTRUSTED, t_KEPT := t_KEPT, t_LINKS := t_LINKS, t_ALL_EACH := t_ALL_EACH, t_CHANGES_EACH := t_CHANGES_EACH, t_WRONG := t_WRONG, t_NOT_SO := t_NOT_SO, t_NO_MESSAGE := t_NO_MESSAGE, t_NOT_NOW := t_NOT_NOW, t_FULL := t_FULL, t_NO_MACHINE := t_NO_MACHINE, t_TIME_BOUND := t_TIME_BOUND, t_MOST_BITS := t_MOST_BITS, t_HEAR := t_HEAR } ?_ e2
  exact {
    cl_Told := ⟨pg_Told, hd_Told, po_Told, sa_Told⟩,
    g_Told := PySem.W.mg_of X G a_Told,
    m_Told := ⟨mk_Told, a_Told_init, i_Told_init, kc_Told⟩,
    n_Told_address := n_Told_address,
    n_Told_bits := n_Told_bits,
    n_Told_far := n_Told_far,
    cl_Route := ⟨pg_Route, hd_Route, po_Route, sa_Route⟩,
    g_Route := PySem.W.mg_of X G a_Route,
    m_Route := ⟨mk_Route, a_Route_init, i_Route_init, kc_Route⟩,
    n_Route_far := n_Route_far,
    n_Route_link := n_Route_link,
    n_Route_neighbour := n_Route_neighbour,
    n_Route_good := n_Route_good,
    n_Route_others := n_Route_others,
    n_Route_forgotten := n_Route_forgotten,
    n_Route_has_changed := n_Route_has_changed,
    cl_Table := ⟨pg_Table, hd_Table, po_Table, sa_Table⟩,
    g_Table := PySem.W.mg_of X G a_Table,
    m_Table := ⟨mk_Table, a_Table_init, i_Table_init, kc_Table⟩,
    n_Table_routes := n_Table_routes,
    cl_Link := ⟨pg_Link, hd_Link, po_Link, sa_Link⟩,
    g_Link := PySem.W.mg_of X G a_Link,
    m_Link := ⟨mk_Link, a_Link_init, i_Link_init, kc_Link⟩,
    n_Link_address := n_Link_address,
    n_Link_bits := n_Link_bits,
    cl_Machine := ⟨pg_Machine, hd_Machine, po_Machine, sa_Machine⟩,
    g_Machine := PySem.W.mg_of X G a_Machine,
    m_Machine := ⟨mk_Machine, a_Machine_init, i_Machine_init, kc_Machine⟩,
    n_Machine_links := n_Machine_links,
    n_Machine_table := n_Machine_table,
    n_Machine_now := n_Machine_now,
    n_Machine_all_at := n_Machine_all_at,
    n_Machine_changes_at := n_Machine_changes_at,
    cl_Box := ⟨pg_Box, hd_Box, po_Box, sa_Box⟩,
    g_Box := PySem.W.mg_of X G a_Box,
    m_Box := ⟨mk_Box, a_Box_init, i_Box_init, kc_Box⟩,
    n_Box_machine := n_Box_machine,
    cl_Tape := ⟨pg_Tape, hd_Tape, po_Tape, sa_Tape⟩,
    g_Tape := PySem.W.mg_of X G a_Tape,
    m_Tape := ⟨mk_Tape, a_Tape_init, i_Tape_init, kc_Tape⟩,
    n_Tape_numbers := n_Tape_numbers,
    n_Tape_at := n_Tape_at,
    F_Told_init := fun_mk (st := s_Told_init) l_Told_init cc_Told_init kp_Told_init,
    F_network_of := fun_mk (st := s_network_of) l_network_of cc_network_of kp_network_of,
    g_network_of := PySem.W.mg_of X G a_network_of,
    F_bytes_of := fun_mk (st := s_bytes_of) l_bytes_of cc_bytes_of kp_bytes_of,
    g_bytes_of := PySem.W.mg_of X G a_bytes_of,
    F_number_at := fun_mk (st := s_number_at) l_number_at cc_number_at kp_number_at,
    g_number_at := PySem.W.mg_of X G a_number_at,
    F_message_of := fun_mk (st := s_message_of) l_message_of cc_message_of kp_message_of,
    g_message_of := PySem.W.mg_of X G a_message_of,
    F_read_one := fun_mk (st := s_read_one) l_read_one cc_read_one kp_read_one,
    g_read_one := PySem.W.mg_of X G a_read_one,
    F_read_message := fun_mk (st := s_read_message) l_read_message cc_read_message kp_read_message,
    g_read_message := PySem.W.mg_of X G a_read_message,
    F_Route_init := fun_mk (st := s_Route_init) l_Route_init cc_Route_init kp_Route_init,
    F_Route_is_in_reach := fun_mk (st := s_Route_is_in_reach) l_Route_is_in_reach cc_Route_is_in_reach kp_Route_is_in_reach,
    M_Route_is_in_reach := ⟨a_Route_is_in_reach, i_Route_is_in_reach, kp_Route_is_in_reach⟩,
    F_Route_sight := fun_mk (st := s_Route_sight) l_Route_sight cc_Route_sight kp_Route_sight,
    M_Route_sight := ⟨a_Route_sight, i_Route_sight, kp_Route_sight⟩,
    F_Table_init := fun_mk (st := s_Table_init) l_Table_init cc_Table_init kp_Table_init,
    F_Table_in_order := fun_mk (st := s_Table_in_order) l_Table_in_order cc_Table_in_order kp_Table_in_order,
    M_Table_in_order := ⟨a_Table_in_order, i_Table_in_order, kp_Table_in_order⟩,
    F_Table_sights := fun_mk (st := s_Table_sights) l_Table_sights cc_Table_sights kp_Table_sights,
    M_Table_sights := ⟨a_Table_sights, i_Table_sights, kp_Table_sights⟩,
    F_lose := fun_mk (st := s_lose) l_lose cc_lose kp_lose,
    g_lose := PySem.W.mg_of X G a_lose,
    F_offer := fun_mk (st := s_offer) l_offer cc_offer kp_offer,
    g_offer := PySem.W.mg_of X G a_offer,
    F_offer_again := fun_mk (st := s_offer_again) l_offer_again cc_offer_again kp_offer_again,
    g_offer_again := PySem.W.mg_of X G a_offer_again,
    F_forget := fun_mk (st := s_forget) l_forget cc_forget kp_forget,
    g_forget := PySem.W.mg_of X G a_forget,
    F_way_to := fun_mk (st := s_way_to) l_way_to cc_way_to kp_way_to,
    g_way_to := PySem.W.mg_of X G a_way_to,
    F_other_ones := fun_mk (st := s_other_ones) l_other_ones cc_other_ones kp_other_ones,
    g_other_ones := PySem.W.mg_of X G a_other_ones,
    F_Link_init := fun_mk (st := s_Link_init) l_Link_init cc_Link_init kp_Link_init,
    F_Link_network := fun_mk (st := s_Link_network) l_Link_network cc_Link_network kp_Link_network,
    M_Link_network := ⟨a_Link_network, i_Link_network, kp_Link_network⟩,
    F_Machine_init := fun_mk (st := s_Machine_init) l_Machine_init cc_Machine_init kp_Machine_init,
    F_has_network := fun_mk (st := s_has_network) l_has_network cc_has_network kp_has_network,
    g_has_network := PySem.W.mg_of X G a_has_network,
    F_can_come_up := fun_mk (st := s_can_come_up) l_can_come_up cc_can_come_up kp_can_come_up,
    g_can_come_up := PySem.W.mg_of X G a_can_come_up,
    F_come_up := fun_mk (st := s_come_up) l_come_up cc_come_up kp_come_up,
    g_come_up := PySem.W.mg_of X G a_come_up,
    F_go_down := fun_mk (st := s_go_down) l_go_down cc_go_down kp_go_down,
    g_go_down := PySem.W.mg_of X G a_go_down,
    F_told_on := fun_mk (st := s_told_on) l_told_on cc_told_on kp_told_on,
    g_told_on := PySem.W.mg_of X G a_told_on,
    F_tell := fun_mk (st := s_tell) l_tell cc_tell kp_tell,
    g_tell := PySem.W.mg_of X G a_tell,
    F_changed_networks := fun_mk (st := s_changed_networks) l_changed_networks cc_changed_networks kp_changed_networks,
    g_changed_networks := PySem.W.mg_of X G a_changed_networks,
    F_tick := fun_mk (st := s_tick) l_tick cc_tick kp_tick,
    g_tick := PySem.W.mg_of X G a_tick,
    F_due := fun_mk (st := s_due) l_due cc_due kp_due,
    g_due := PySem.W.mg_of X G a_due,
    F_Box_init := fun_mk (st := s_Box_init) l_Box_init cc_Box_init kp_Box_init,
    F_Tape_init := fun_mk (st := s_Tape_init) l_Tape_init cc_Tape_init kp_Tape_init,
    F_Tape_is_done := fun_mk (st := s_Tape_is_done) l_Tape_is_done cc_Tape_is_done kp_Tape_is_done,
    M_Tape_is_done := ⟨a_Tape_is_done, i_Tape_is_done, kp_Tape_is_done⟩,
    F_Tape_take_many := fun_mk (st := s_Tape_take_many) l_Tape_take_many cc_Tape_take_many kp_Tape_take_many,
    M_Tape_take_many := ⟨a_Tape_take_many, i_Tape_take_many, kp_Tape_take_many⟩,
    F_Tape_take_row := fun_mk (st := s_Tape_take_row) l_Tape_take_row cc_Tape_take_row kp_Tape_take_row,
    M_Tape_take_row := ⟨a_Tape_take_row, i_Tape_take_row, kp_Tape_take_row⟩,
    F_ask := fun_mk (st := s_ask) l_ask cc_ask kp_ask,
    g_ask := PySem.W.mg_of X G a_ask,
    F_is_address := fun_mk (st := s_is_address) l_is_address cc_is_address kp_is_address,
    g_is_address := PySem.W.mg_of X G a_is_address,
    F_do_begin := fun_mk (st := s_do_begin) l_do_begin cc_do_begin kp_do_begin,
    g_do_begin := PySem.W.mg_of X G a_do_begin,
    F_do_link := fun_mk (st := s_do_link) l_do_link cc_do_link kp_do_link,
    g_do_link := PySem.W.mg_of X G a_do_link,
    F_do_down := fun_mk (st := s_do_down) l_do_down cc_do_down kp_do_down,
    g_do_down := PySem.W.mg_of X G a_do_down,
    F_do_hear := fun_mk (st := s_do_hear) l_do_hear cc_do_hear kp_do_hear,
    g_do_hear := PySem.W.mg_of X G a_do_hear,
    F_do_tick := fun_mk (st := s_do_tick) l_do_tick cc_do_tick kp_do_tick,
    g_do_tick := PySem.W.mg_of X G a_do_tick,
    F_do_way := fun_mk (st := s_do_way) l_do_way cc_do_way kp_do_way,
    g_do_way := PySem.W.mg_of X G a_do_way,
    F_do_routes := fun_mk (st := s_do_routes) l_do_routes cc_do_routes kp_do_routes,
    g_do_routes := PySem.W.mg_of X G a_do_routes,
    F_do_call := fun_mk (st := s_do_call) l_do_call cc_do_call kp_do_call,
    g_do_call := PySem.W.mg_of X G a_do_call,
    F_answer := fun_mk (st := s_answer) l_answer cc_answer kp_answer,
    g_answer := PySem.W.mg_of X G a_answer,
    F_answers := fun_mk (st := s_answers) l_answers cc_answers kp_answers,
    g_answers := PySem.W.mg_of X G a_answers,
    low := { gC := PySem.W.mg_of X G r_a, cls := ⟨nm, q, N, bs, _, sn, sub, ab, col, dd, m0, m1, m2, m3, m5, r_xL, by decide +kernel⟩, sa := r_sa, ga := r_ga, gg := r_gg, noN := r_nb, iC := r_a1, tC := r_t1, kC := r_kC, exC := r_eC, tyC := r_tC, hdC := r_hC, te := exm_self r_eC r_iC r_tC r_sC, fn := ⟨_, _, _, _, _, _, _, _, _, _, _, _, _, _, r_l1, r_c1⟩ },
    k_ADDRESS_BITS := PySem.W.mg_of X G k_ADDRESS_BITS,
    k_MOST_ADDRESS := PySem.W.mg_of X G k_MOST_ADDRESS,
    k_MOST_TOLD := PySem.W.mg_of X G k_MOST_TOLD,
    k_HEAD := PySem.W.mg_of X G k_HEAD,
    k_EACH := PySem.W.mg_of X G k_EACH,
    k_OUT_OF_REACH := PySem.W.mg_of X G k_OUT_OF_REACH,
    k_MOST_ROUTES := PySem.W.mg_of X G k_MOST_ROUTES,
    k_GOOD_FOR := PySem.W.mg_of X G k_GOOD_FOR,
    k_MISTRUSTED := PySem.W.mg_of X G k_MISTRUSTED,
    k_KEPT := PySem.W.mg_of X G k_KEPT,
    k_LINKS := PySem.W.mg_of X G k_LINKS,
    k_ALL_EACH := PySem.W.mg_of X G k_ALL_EACH,
    k_CHANGES_EACH := PySem.W.mg_of X G k_CHANGES_EACH,
    k_WRONG := PySem.W.mg_of X G k_WRONG,
    k_NOT_SO := PySem.W.mg_of X G k_NOT_SO,
    k_NO_MESSAGE := PySem.W.mg_of X G k_NO_MESSAGE,
    k_NOT_NOW := PySem.W.mg_of X G k_NOT_NOW,
    k_FULL := PySem.W.mg_of X G k_FULL,
    k_NO_MACHINE := PySem.W.mg_of X G k_NO_MACHINE,
    k_TIME_BOUND := PySem.W.mg_of X G k_TIME_BOUND,
    k_MOST_BITS := PySem.W.mg_of X G k_MOST_BITS,
    k_SIZES := PySem.W.mg_of X G k_SIZES,
    x_SIZES := fun H => Or.inr ⟨_, _, _, l_SIZES, rfl, rfl, (by show 8 ≤ sizeLine; decide), (.cons ⟨_, rfl⟩ (.cons ⟨_, rfl⟩ (.cons ⟨_, rfl⟩ (.cons ⟨_, rfl⟩ (.cons ⟨_, rfl⟩ (.cons ⟨_, rfl⟩ (.cons ⟨_, rfl⟩ (.cons ⟨_, rfl⟩ .nil))))))))⟩,
    k_HEAR := PySem.W.mg_of X G k_HEAR,
    z_range := PySem.W.mg_none_of X G z_range,
    z_len := PySem.W.mg_none_of X G z_len,
    z_sorted := PySem.W.mg_none_of X G z_sorted,
    z_list := PySem.W.mg_none_of X G z_list,
    z_min := PySem.W.mg_none_of X G z_min,
    z_max := PySem.W.mg_none_of X G z_max,
    z_enumerate := PySem.W.mg_none_of X G z_enumerate,
    o_Told := o_Told,
    e_Told := e_Told }
end Nr
open PySem PySem.W PyProof.Rows
set_option maxRecDepth 100000 in
set_option maxHeartbeats 0 in
theorem PySem.Challenge.cw_nearroutes_s01_answers_holds : PySem.Challenge.rw_nearroutes_s01_answers.Holds := by
  w_on; k_headS; (case hw => exact ⟨[.list [.int 0, .int 0]], by decide +kernel, by decide +kernel⟩)
  k_fillS
  refine L2.walk_specK (r := PySem.Challenge.rw_nearroutes_s01_answers) (k := 9) (CX := L2.CX0) (ps := ["calls"]) (sp := Nr.spTop) (by decide +kernel) rfl rfl ⟨rfl, by decide, by decide⟩ (fun w h Y => PySem.W.kIn_of Y) ?F ?S (fun _ _ _ _ z => z)
  case F =>
    intro w mg fa h Y KX G hmg
    refine' Nr.txt_mk KX G hmg ?use ?a_Told ?pg_Told ?hd_Told ?po_Told ?sa_Told ?mk_Told ?kc_Told ?n_Told_address ?n_Told_bits ?n_Told_far ?a_Route ?pg_Route ?hd_Route ?po_Route ?sa_Route ?mk_Route ?kc_Route ?n_Route_far ?n_Route_link ?n_Route_neighbour ?n_Route_good ?n_Route_others ?n_Route_forgotten ?n_Route_has_changed ?a_Table ?pg_Table ?hd_Table ?po_Table ?sa_Table ?mk_Table ?kc_Table ?n_Table_routes ?a_Link ?pg_Link ?hd_Link ?po_Link ?sa_Link ?mk_Link ?kc_Link ?n_Link_address ?n_Link_bits ?a_Machine ?pg_Machine ?hd_Machine ?po_Machine ?sa_Machine ?mk_Machine ?kc_Machine ?n_Machine_links ?n_Machine_table ?n_Machine_now ?n_Machine_all_at ?n_Machine_changes_at ?a_Box ?pg_Box ?hd_Box ?po_Box ?sa_Box ?mk_Box ?kc_Box ?n_Box_machine ?a_Tape ?pg_Tape ?hd_Tape ?po_Tape ?sa_Tape ?mk_Tape ?kc_Tape ?n_Tape_numbers ?n_Tape_at ?a_Told_init ?i_Told_init ?l_Told_init ?cc_Told_init ?kp_Told_init ?a_network_of ?l_network_of ?cc_network_of ?kp_network_of ?a_bytes_of ?l_bytes_of ?cc_bytes_of ?kp_bytes_of ?a_number_at ?l_number_at ?cc_number_at ?kp_number_at ?a_message_of ?l_message_of ?cc_message_of ?kp_message_of ?a_read_one ?l_read_one ?cc_read_one ?kp_read_one ?a_read_message ?l_read_message ?cc_read_message ?kp_read_message ?a_Route_init ?i_Route_init ?l_Route_init ?cc_Route_init ?kp_Route_init ?a_Route_is_in_reach ?i_Route_is_in_reach ?l_Route_is_in_reach ?cc_Route_is_in_reach ?kp_Route_is_in_reach ?a_Route_sight ?i_Route_sight ?l_Route_sight ?cc_Route_sight ?kp_Route_sight ?a_Table_init ?i_Table_init ?l_Table_init ?cc_Table_init ?kp_Table_init ?a_Table_in_order ?i_Table_in_order ?l_Table_in_order ?cc_Table_in_order ?kp_Table_in_order ?a_Table_sights ?i_Table_sights ?l_Table_sights ?cc_Table_sights ?kp_Table_sights ?a_lose ?l_lose ?cc_lose ?kp_lose ?a_offer ?l_offer ?cc_offer ?kp_offer ?a_offer_again ?l_offer_again ?cc_offer_again ?kp_offer_again ?a_forget ?l_forget ?cc_forget ?kp_forget ?a_way_to ?l_way_to ?cc_way_to ?kp_way_to ?a_other_ones ?l_other_ones ?cc_other_ones ?kp_other_ones ?a_Link_init ?i_Link_init ?l_Link_init ?cc_Link_init ?kp_Link_init ?a_Link_network ?i_Link_network ?l_Link_network ?cc_Link_network ?kp_Link_network ?a_Machine_init ?i_Machine_init ?l_Machine_init ?cc_Machine_init ?kp_Machine_init ?a_has_network ?l_has_network ?cc_has_network ?kp_has_network ?a_can_come_up ?l_can_come_up ?cc_can_come_up ?kp_can_come_up ?a_come_up ?l_come_up ?cc_come_up ?kp_come_up ?a_go_down ?l_go_down ?cc_go_down ?kp_go_down ?a_told_on ?l_told_on ?cc_told_on ?kp_told_on ?a_tell ?l_tell ?cc_tell ?kp_tell ?a_changed_networks ?l_changed_networks ?cc_changed_networks ?kp_changed_networks ?a_tick ?l_tick ?cc_tick ?kp_tick ?a_due ?l_due ?cc_due ?kp_due ?a_Box_init ?i_Box_init ?l_Box_init ?cc_Box_init ?kp_Box_init ?a_Tape_init ?i_Tape_init ?l_Tape_init ?cc_Tape_init ?kp_Tape_init ?a_Tape_is_done ?i_Tape_is_done ?l_Tape_is_done ?cc_Tape_is_done ?kp_Tape_is_done ?a_Tape_take_many ?i_Tape_take_many ?l_Tape_take_many ?cc_Tape_take_many ?kp_Tape_take_many ?a_Tape_take_row ?i_Tape_take_row ?l_Tape_take_row ?cc_Tape_take_row ?kp_Tape_take_row ?a_ask ?l_ask ?cc_ask ?kp_ask ?a_is_address ?l_is_address ?cc_is_address ?kp_is_address ?a_do_begin ?l_do_begin ?cc_do_begin ?kp_do_begin ?a_do_link ?l_do_link ?cc_do_link ?kp_do_link ?a_do_down ?l_do_down ?cc_do_down ?kp_do_down ?a_do_hear ?l_do_hear ?cc_do_hear ?kp_do_hear ?a_do_tick ?l_do_tick ?cc_do_tick ?kp_do_tick ?a_do_way ?l_do_way ?cc_do_way ?kp_do_way ?a_do_routes ?l_do_routes ?cc_do_routes ?kp_do_routes ?a_do_call ?l_do_call ?cc_do_call ?kp_do_call ?a_answer ?l_answer ?cc_answer ?kp_answer ?a_answers ?l_answers ?cc_answers ?kp_answers ?r_a ?r_xL ?r_sa ?r_ga ?r_gg ?r_nb ?r_a1 ?r_t1 ?r_l1 ?r_c1 ?r_kC ?r_eC ?r_tC ?r_hC ?r_iC ?r_sC ?k_ADDRESS_BITS ?k_MOST_ADDRESS ?k_MOST_TOLD ?k_HEAD ?k_EACH ?k_OUT_OF_REACH ?k_MOST_ROUTES ?k_GOOD_FOR ?k_MISTRUSTED ?k_KEPT ?k_LINKS ?k_ALL_EACH ?k_CHANGES_EACH ?k_WRONG ?k_NOT_SO ?k_NO_MESSAGE ?k_NOT_NOW ?k_FULL ?k_NO_MACHINE ?k_TIME_BOUND ?k_MOST_BITS ?k_SIZES ?l_SIZES ?k_HEAR ?z_range ?z_len ?z_sorted ?z_list ?z_min ?z_max ?z_enumerate ?o_Told ?e_Told
    (case use =>
      rintro a T rfl
      exact Nr.top_fn T)
    (case a_Told => k_is)
    (case pg_Told => k_is)
    (case hd_Told => k_is)
    (case po_Told => k_is)
    (case sa_Told => k_is)
    (case mk_Told => k_is)
    (case kc_Told => k_is)
    (case n_Told_address => k_is)
    (case n_Told_bits => k_is)
    (case n_Told_far => k_is)
    (case a_Route => k_is)
    (case pg_Route => k_is)
    (case hd_Route => k_is)
    (case po_Route => k_is)
    (case sa_Route => k_is)
    (case mk_Route => k_is)
    (case kc_Route => k_is)
    (case n_Route_far => k_is)
    (case n_Route_link => k_is)
    (case n_Route_neighbour => k_is)
    (case n_Route_good => k_is)
    (case n_Route_others => k_is)
    (case n_Route_forgotten => k_is)
    (case n_Route_has_changed => k_is)
    (case a_Table => k_is)
    (case pg_Table => k_is)
    (case hd_Table => k_is)
    (case po_Table => k_is)
    (case sa_Table => k_is)
    (case mk_Table => k_is)
    (case kc_Table => k_is)
    (case n_Table_routes => k_is)
    (case a_Link => k_is)
    (case pg_Link => k_is)
    (case hd_Link => k_is)
    (case po_Link => k_is)
    (case sa_Link => k_is)
    (case mk_Link => k_is)
    (case kc_Link => k_is)
    (case n_Link_address => k_is)
    (case n_Link_bits => k_is)
    (case a_Machine => k_is)
    (case pg_Machine => k_is)
    (case hd_Machine => k_is)
    (case po_Machine => k_is)
    (case sa_Machine => k_is)
    (case mk_Machine => k_is)
    (case kc_Machine => k_is)
    (case n_Machine_links => k_is)
    (case n_Machine_table => k_is)
    (case n_Machine_now => k_is)
    (case n_Machine_all_at => k_is)
    (case n_Machine_changes_at => k_is)
    (case a_Box => k_is)
    (case pg_Box => k_is)
    (case hd_Box => k_is)
    (case po_Box => k_is)
    (case sa_Box => k_is)
    (case mk_Box => k_is)
    (case kc_Box => k_is)
    (case n_Box_machine => k_is)
    (case a_Tape => k_is)
    (case pg_Tape => k_is)
    (case hd_Tape => k_is)
    (case po_Tape => k_is)
    (case sa_Tape => k_is)
    (case mk_Tape => k_is)
    (case kc_Tape => k_is)
    (case n_Tape_numbers => k_is)
    (case n_Tape_at => k_is)
    (case a_Told_init => k_is)
    (case i_Told_init => k_is)
    (case l_Told_init => k_is)
    (case cc_Told_init => k_is)
    (case kp_Told_init => k_is)
    (case a_network_of => k_is)
    (case l_network_of => k_is)
    (case cc_network_of => k_is)
    (case kp_network_of => k_is)
    (case a_bytes_of => k_is)
    (case l_bytes_of => k_is)
    (case cc_bytes_of => k_is)
    (case kp_bytes_of => k_is)
    (case a_number_at => k_is)
    (case l_number_at => k_is)
    (case cc_number_at => k_is)
    (case kp_number_at => k_is)
    (case a_message_of => k_is)
    (case l_message_of => k_is)
    (case cc_message_of => k_is)
    (case kp_message_of => k_is)
    (case a_read_one => k_is)
    (case l_read_one => k_is)
    (case cc_read_one => k_is)
    (case kp_read_one => k_is)
    (case a_read_message => k_is)
    (case l_read_message => k_is)
    (case cc_read_message => k_is)
    (case kp_read_message => k_is)
    (case a_Route_init => k_is)
    (case i_Route_init => k_is)
    (case l_Route_init => k_is)
    (case cc_Route_init => k_is)
    (case kp_Route_init => k_is)
    (case a_Route_is_in_reach => k_is)
    (case i_Route_is_in_reach => k_is)
    (case l_Route_is_in_reach => k_is)
    (case cc_Route_is_in_reach => k_is)
    (case kp_Route_is_in_reach => k_is)
    (case a_Route_sight => k_is)
    (case i_Route_sight => k_is)
    (case l_Route_sight => k_is)
    (case cc_Route_sight => k_is)
    (case kp_Route_sight => k_is)
    (case a_Table_init => k_is)
    (case i_Table_init => k_is)
    (case l_Table_init => k_is)
    (case cc_Table_init => k_is)
    (case kp_Table_init => k_is)
    (case a_Table_in_order => k_is)
    (case i_Table_in_order => k_is)
    (case l_Table_in_order => k_is)
    (case cc_Table_in_order => k_is)
    (case kp_Table_in_order => k_is)
    (case a_Table_sights => k_is)
    (case i_Table_sights => k_is)
    (case l_Table_sights => k_is)
    (case cc_Table_sights => k_is)
    (case kp_Table_sights => k_is)
    (case a_lose => k_is)
    (case l_lose => k_is)
    (case cc_lose => k_is)
    (case kp_lose => k_is)
    (case a_offer => k_is)
    (case l_offer => k_is)
    (case cc_offer => k_is)
    (case kp_offer => k_is)
    (case a_offer_again => k_is)
    (case l_offer_again => k_is)
    (case cc_offer_again => k_is)
    (case kp_offer_again => k_is)
    (case a_forget => k_is)
    (case l_forget => k_is)
    (case cc_forget => k_is)
    (case kp_forget => k_is)
    (case a_way_to => k_is)
    (case l_way_to => k_is)
    (case cc_way_to => k_is)
    (case kp_way_to => k_is)
    (case a_other_ones => k_is)
    (case l_other_ones => k_is)
    (case cc_other_ones => k_is)
    (case kp_other_ones => k_is)
    (case a_Link_init => k_is)
    (case i_Link_init => k_is)
    (case l_Link_init => k_is)
    (case cc_Link_init => k_is)
    (case kp_Link_init => k_is)
    (case a_Link_network => k_is)
    (case i_Link_network => k_is)
    (case l_Link_network => k_is)
    (case cc_Link_network => k_is)
    (case kp_Link_network => k_is)
    (case a_Machine_init => k_is)
    (case i_Machine_init => k_is)
    (case l_Machine_init => k_is)
    (case cc_Machine_init => k_is)
    (case kp_Machine_init => k_is)
    (case a_has_network => k_is)
    (case l_has_network => k_is)
    (case cc_has_network => k_is)
    (case kp_has_network => k_is)
    (case a_can_come_up => k_is)
    (case l_can_come_up => k_is)
    (case cc_can_come_up => k_is)
    (case kp_can_come_up => k_is)
    (case a_come_up => k_is)
    (case l_come_up => k_is)
    (case cc_come_up => k_is)
    (case kp_come_up => k_is)
    (case a_go_down => k_is)
    (case l_go_down => k_is)
    (case cc_go_down => k_is)
    (case kp_go_down => k_is)
    (case a_told_on => k_is)
    (case l_told_on => k_is)
    (case cc_told_on => k_is)
    (case kp_told_on => k_is)
    (case a_tell => k_is)
    (case l_tell => k_is)
    (case cc_tell => k_is)
    (case kp_tell => k_is)
    (case a_changed_networks => k_is)
    (case l_changed_networks => k_is)
    (case cc_changed_networks => k_is)
    (case kp_changed_networks => k_is)
    (case a_tick => k_is)
    (case l_tick => k_is)
    (case cc_tick => k_is)
    (case kp_tick => k_is)
    (case a_due => k_is)
    (case l_due => k_is)
    (case cc_due => k_is)
    (case kp_due => k_is)
    (case a_Box_init => k_is)
    (case i_Box_init => k_is)
    (case l_Box_init => k_is)
    (case cc_Box_init => k_is)
    (case kp_Box_init => k_is)
    (case a_Tape_init => k_is)
    (case i_Tape_init => k_is)
    (case l_Tape_init => k_is)
    (case cc_Tape_init => k_is)
    (case kp_Tape_init => k_is)
    (case a_Tape_is_done => k_is)
    (case i_Tape_is_done => k_is)
    (case l_Tape_is_done => k_is)
    (case cc_Tape_is_done => k_is)
    (case kp_Tape_is_done => k_is)
    (case a_Tape_take_many => k_is)
    (case i_Tape_take_many => k_is)
    (case l_Tape_take_many => k_is)
    (case cc_Tape_take_many => k_is)
    (case kp_Tape_take_many => k_is)
    (case a_Tape_take_row => k_is)
    (case i_Tape_take_row => k_is)
    (case l_Tape_take_row => k_is)
    (case cc_Tape_take_row => k_is)
    (case kp_Tape_take_row => k_is)
    (case a_ask => k_is)
    (case l_ask => k_is)
    (case cc_ask => k_is)
    (case kp_ask => k_is)
    (case a_is_address => k_is)
    (case l_is_address => k_is)
    (case cc_is_address => k_is)
    (case kp_is_address => k_is)
    (case a_do_begin => k_is)
    (case l_do_begin => k_is)
    (case cc_do_begin => k_is)
    (case kp_do_begin => k_is)
    (case a_do_link => k_is)
    (case l_do_link => k_is)
    (case cc_do_link => k_is)
    (case kp_do_link => k_is)
    (case a_do_down => k_is)
    (case l_do_down => k_is)
    (case cc_do_down => k_is)
    (case kp_do_down => k_is)
    (case a_do_hear => k_is)
    (case l_do_hear => k_is)
    (case cc_do_hear => k_is)
    (case kp_do_hear => k_is)
    (case a_do_tick => k_is)
    (case l_do_tick => k_is)
    (case cc_do_tick => k_is)
    (case kp_do_tick => k_is)
    (case a_do_way => k_is)
    (case l_do_way => k_is)
    (case cc_do_way => k_is)
    (case kp_do_way => k_is)
    (case a_do_routes => k_is)
    (case l_do_routes => k_is)
    (case cc_do_routes => k_is)
    (case kp_do_routes => k_is)
    (case a_do_call => k_is)
    (case l_do_call => k_is)
    (case cc_do_call => k_is)
    (case kp_do_call => k_is)
    (case a_answer => k_is)
    (case l_answer => k_is)
    (case cc_answer => k_is)
    (case kp_answer => k_is)
    (case a_answers => k_is)
    (case l_answers => k_is)
    (case cc_answers => k_is)
    (case kp_answers => k_is)
    (case r_a => k_is)
    (case r_xL => k_is)
    (case r_sa => k_is)
    (case r_ga => k_is)
    (case r_gg => k_is)
    (case r_nb => k_is)
    (case r_a1 => k_is)
    (case r_t1 => k_is)
    (case r_l1 => k_is)
    (case r_c1 => k_is)
    (case r_kC => k_is)
    (case r_eC => k_is)
    (case r_tC => k_is)
    (case r_hC => k_is)
    (case r_iC => k_is)
    (case r_sC => first | rfl | k_is)
    (case k_ADDRESS_BITS => k_is)
    (case k_MOST_ADDRESS => k_is)
    (case k_MOST_TOLD => k_is)
    (case k_HEAD => k_is)
    (case k_EACH => k_is)
    (case k_OUT_OF_REACH => k_is)
    (case k_MOST_ROUTES => k_is)
    (case k_GOOD_FOR => k_is)
    (case k_MISTRUSTED => k_is)
    (case k_KEPT => k_is)
    (case k_LINKS => k_is)
    (case k_ALL_EACH => k_is)
    (case k_CHANGES_EACH => k_is)
    (case k_WRONG => k_is)
    (case k_NOT_SO => k_is)
    (case k_NO_MESSAGE => k_is)
    (case k_NOT_NOW => k_is)
    (case k_FULL => k_is)
    (case k_NO_MACHINE => k_is)
    (case k_TIME_BOUND => k_is)
    (case k_MOST_BITS => k_is)
    (case k_SIZES => k_is)
    (case l_SIZES => k_is)
    (case k_HEAR => k_is)
    (case z_range => k_is)
    (case z_len => k_is)
    (case z_sorted => k_is)
    (case z_list => k_is)
    (case z_min => k_is)
    (case z_max => k_is)
    (case z_enumerate => k_is)
    (case o_Told => k_is)
    (case e_Told => k_is)
  case S =>
    intro K H xs a hO hwi hask hx
    cases hx with
    | cons h1 h2 =>
      cases h2
      cases h1 with
      | lst hs ha =>
        have e := L2.ints_dw a.1 _ ha
        subst e
        exact ⟨_, a.1, rfl, hs, hask, fun p H' hp => .lst (L2.SqL.of hp) (L2.dw_ints _)⟩
