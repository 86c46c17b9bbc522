import PyProof.Rows.All
import PyProof.NeKinds
import PyProof.EqKinds
import KE.KEqNest
import HandS.List
import HandS.ForMost
import KE.DataMinMax
import KE.SortData
import PyProof.P3Eq
import HandS.Rev
import HandS.Conv
import PyProof.ListRange
import KE.KDictZip
import HandS.ListItems
import HandS.HotCalls
import HandS.WordsExc
import HandS.Dict
import HandS.CallLocal
import HandS.CallSlots
import HandS.CallRecv
import HandS.ForExc
import HandS.Wide
import HandS.WideBits
import HandS.SortInts
import KE.KTupSum
import PyProof.Rows.IntBool
import HandS.IsInst
import HandS.RevRange
import HandS.Zip
import HandS.TupMul
import HandS.TupAny
import HandS.TupLe
import HandS.Style
import HandS.RaiseFrom
import HandS.ExcInit
import HandS.TryMany
import HandS.SetFor
import HandS.ExcOwn
import HandS.ExcValue
import HandS.ExcIs
import KE.KExcIs
import PyProof.StrBlock2
import HandS.Flt
import PyProof.ZipIter
import HandS.Zip0
import KE.GoesEnum
import PySem.Challenge.RW_partmill_k83_works_written
set_option Elab.async false
set_option linter.all false
set_option maxRecDepth 100000
set_option maxHeartbeats 4000000
/-! a dict beside a thing of another kind: ==, != -/
namespace PySem.SeqAt
open AutoSeq1 (wpAny_loadPart')
open MeetsSeq
abbrev dictO (es : Array DictEntry) (n : Nat) (dd : Option Addr) (sl : Array (Option Value)) : Obj := { cls := .type "dict", dict := dd, data := .dict es n, slots := sl }
def IsDic (h : Heap) (a : Addr) : Prop := ∃ es n dd sl, h.get? a = some (dictO es n dd sl)
theorem int_eq_declines_dict (b : Int) (u : Tok) (l : Addr) (es : Array DictEntry) (n : Nat) (dd : Option Addr) (sl : Array (Option Value)) :
    Meets (Builtin.«int.__eq__» ⟨[.int b u, .ref l], []⟩) (fun _ R s => s.heap.get? l = some (dictO es n dd sl) ∧ R (.ok (.ret .notImplemented)) s) :=
  .of_wp fun prog w A R s h => by obtain ⟨hp, g, d, tk, os⟩ := s; obtain ⟨hl, h⟩ := h; wp_walk using wpAny_loadPart' hl, wpAny_load hl; exact ⟨_, rfl, h⟩
theorem tuple_eq_declines_dict (l b : Addr) (items : Array Value) (n n2 : Nat) (dd dd2 : Option Addr) (sl sl2 : Array (Option Value)) (es : Array DictEntry) :
    Meets (Builtin.«tuple.__eq__» ⟨[.ref l, .ref b], []⟩) (fun _ R s => s.heap.get? l = some { cls := .type "tuple", dict := dd, data := .seq items n, slots := sl } ∧ s.heap.get? b = some (dictO es n2 dd2 sl2) ∧ R (.ok (.ret .notImplemented)) s) :=
  .of_wp fun prog w A R s h => by obtain ⟨hp, g, d, tk, os⟩ := s; obtain ⟨hl, hb, h⟩ := h; have f1 := F.sub_dict_tuple; wp_walk using wpAny_loadPart' hl, wpAny_loadPart' hb; exact ⟨_, rfl, h⟩
theorem tuple_ne_declines_dict (l b : Addr) (items : Array Value) (n n2 : Nat) (dd dd2 : Option Addr) (sl sl2 : Array (Option Value)) (es : Array DictEntry) :
    Meets (Builtin.«tuple.__ne__» ⟨[.ref l, .ref b], []⟩) (fun _ R s => s.heap.get? l = some { cls := .type "tuple", dict := dd, data := .seq items n, slots := sl } ∧ s.heap.get? b = some (dictO es n2 dd2 sl2) ∧ R (.ok (.ret .notImplemented)) s) :=
  .of_wp fun prog w A R s h => by obtain ⟨hp, g, d, tk, os⟩ := s; obtain ⟨hl, hb, h⟩ := h; have f1 := F.sub_dict_tuple; wp_walk using wpAny_loadPart' hl, wpAny_loadPart' hb; exact ⟨_, rfl, h⟩
section
variable {prog : Program} {w : World} {A : Around} {E : Value → Shared → Prop} {s : Shared}
theorem dict_eq_declines {a : Addr} {y : Value} {T : String} {Q : Value → Shared → Prop} (ha : s.TypeIs (.ref a) "dict") (hy : s.TypeIs y T) (hs : isSubtype (.type T) (.type "dict") = pure false) (h : Q .notImplemented s) :
    wpAny (model prog w) A (call (.builtin "dict.__eq__") [.ref a, y]) Q E s := by
  refine wpAny_call_entry PySem.F.slot_dict_eq ha PySem.F.entry_dict_eq ?_ (PySem.F.args_dict_eq_2 _ _)
  show wpAny _ _ (Builtin.Dict.dictSlotArgs "__eq__" ⟨[.ref a, y], []⟩ >>= _) _ _ s
  refine wpAny_bind ?_
  unfold Builtin.Dict.dictSlotArgs
  refine wpAny_bind (wpAny_notOrdered_dict ha ?_)
  show wpAny _ _ (pure (Value.ref a, y)) _ _ s
  refine wpAny_pure ?_
  refine wpAny_bind (wpAny_isInstance (T := T) hy hs ?_)
  simp only [Bool.not_false, if_true]
  exact wpAny_bind (wpAny_rule (wpAny_bind (wpAny_pure (wpAny_pure ⟨_, rfl, h⟩))))
theorem dict_ne_declines {a : Addr} {y : Value} {T : String} {Q : Value → Shared → Prop} (ha : s.TypeIs (.ref a) "dict") (hy : s.TypeIs y T) (hs : isSubtype (.type T) (.type "dict") = pure false) (h : Q .notImplemented s) :
    wpAny (model prog w) A (call (.builtin "dict.__ne__") [.ref a, y]) Q E s := by
  refine wpAny_call_entry PySem.F.slot_dict_ne ha PySem.F.entry_dict_ne ?_ (PySem.F.args_dict_ne_2 _ _)
  show wpAny _ _ (Builtin.Dict.dictSlotArgs "__ne__" ⟨[.ref a, y], []⟩ >>= _) _ _ s
  refine wpAny_bind ?_
  unfold Builtin.Dict.dictSlotArgs
  refine wpAny_bind (wpAny_notOrdered_dict ha ?_)
  show wpAny _ _ (pure (Value.ref a, y)) _ _ s
  refine wpAny_pure ?_
  refine wpAny_bind (wpAny_isInstance (T := T) hy hs ?_)
  simp only [Bool.not_false, if_true]
  exact wpAny_bind (wpAny_rule (wpAny_bind (wpAny_pure (wpAny_pure ⟨_, rfl, h⟩))))
end
section
variable {A : Around} {s : Shared} {a : Addr}
theorem EqAt.dict_none (ha : IsDic s.heap a) (hu : A.units < cLine) : EqAt A s (.ref a) .none false := fun prog w E Q h => by
  obtain ⟨es, n, dd, sl, ho⟩ := ha
  unfold eqBool
  refine wpAny_holding ?_
  refine wpAny_ite_split (fun hab => absurd (eq_of_beq hab) nofun) (fun _ => ?_)
  refine wpAny_bind ?_
  exact rc_eq_decline_or (k := false) (Ta := "dict") (Tb := "NoneType") ⟨_, ho, rfl⟩ rfl (by decide) F.sub_NoneType_dict F.slot_dict_eq F.slot_NoneType_eq_refl
    (fun _ hq => dict_eq_declines ⟨_, ho, rfl⟩ (T := "NoneType") rfl F.sub_NoneType_dict hq)
    (fun _ hq => call_gives F.slot_NoneType_eq_refl rfl F.entry_NoneType_eq (F.args_NoneType_eq_2 _ _) (NoneType___eq___none_ref_0 a) hq)
    (fun _ hq => wpAny_of_eq (rfl : isSame (.ref a) .none = pure false) hq) (.inr hu) (wpAny_truthy_bool h)
theorem EqAt.dict_int (b : Int) (u : Tok) (ha : IsDic s.heap a) (hu : A.units < cLine) : EqAt A s (.ref a) (.int b u) false := fun prog w E Q h => by
  obtain ⟨es, n, dd, sl, ho⟩ := ha
  unfold eqBool
  refine wpAny_holding ?_
  refine wpAny_ite_split (fun hab => absurd (eq_of_beq hab) nofun) (fun _ => ?_)
  refine wpAny_bind ?_
  exact rc_eq_decline_or (k := false) (Ta := "dict") (Tb := "int") ⟨_, ho, rfl⟩ (typeIs_int s b u) (by decide) F.sub_int_dict F.slot_dict_eq F.slot_int_eq_refl
    (fun _ hq => dict_eq_declines ⟨_, ho, rfl⟩ (typeIs_int s b u) F.sub_int_dict hq)
    (fun _ hq => call_meets F.slot_int_eq_refl (typeIs_int s b u) F.entry_int_eq (F.args_int_eq_2 _ _) (int_eq_declines_dict b u a es n dd sl) ⟨ho, hq⟩)
    (fun _ hq => wpAny_of_eq (rfl : isSame (.ref a) (.int b u) = pure false) hq) (.inr hu) (wpAny_truthy_bool h)
theorem ne_dict_tuple {b : Addr} {items : Array Value} (ha : IsDic s.heap a) (hb : s.heap.IsTuple b items) : a ≠ b := fun e => by
  subst e
  obtain ⟨es, n, dd, sl, ho⟩ := ha
  obtain ⟨o2, ho2, hc2, _⟩ := hb
  rw [ho] at ho2
  cases ho2
  exact absurd hc2 (by simp)
theorem EqAt.dict_tuple {b : Addr} {items : Array Value} (ha : IsDic s.heap a) (hb : s.heap.IsTuple b items) (hu : A.units < cLine) : EqAt A s (.ref a) (.ref b) false := by
  have hne := ne_dict_tuple ha hb
  refine .of_refs hne fun prog w E Q h => ?_
  obtain ⟨es, n, dd, sl, ho⟩ := ha
  obtain ⟨⟨cls2, dd2, data2, sl2⟩, ho2, hc2, n2, hd2⟩ := id hb
  simp only at hc2 hd2
  subst hc2 hd2
  exact (rc_eq_decline_or (k := false) (Ta := "dict") (Tb := "tuple") ⟨_, ho, rfl⟩ ⟨_, ho2, rfl⟩ (by decide) F.sub_tuple_dict F.slot_dict_eq F.slot_tuple_eq_refl
    (fun _ hq => dict_eq_declines ⟨_, ho, rfl⟩ (T := "tuple") ⟨_, ho2, rfl⟩ F.sub_tuple_dict hq)
    (fun _ hq => call_meets F.slot_tuple_eq_refl ⟨_, ho2, rfl⟩ F.entry_tuple_eq (F.args_tuple_eq_2 _ _) (tuple_eq_declines_dict b a items n2 n dd2 dd sl2 sl es) ⟨ho2, ho, hq⟩)
    (fun _ hq => wpAny_isSame_ref_other hne ho ho2 (by simp) hq) (.inr hu) h)
theorem RcNeAt.dict_tuple {b : Addr} {items : Array Value} (ha : IsDic s.heap a) (hb : s.heap.IsTuple b items) (hu : A.units < cLine) : RcNeAt A s (.ref a) (.ref b) true := fun prog w E Q h => by
  have hne := ne_dict_tuple ha hb
  obtain ⟨es, n, dd, sl, ho⟩ := ha
  obtain ⟨⟨cls2, dd2, data2, sl2⟩, ho2, hc2, n2, hd2⟩ := id hb
  simp only at hc2 hd2
  subst hc2 hd2
  exact (rc_ne_decline_or (k := false) (Ta := "dict") (Tb := "tuple") ⟨_, ho, rfl⟩ ⟨_, ho2, rfl⟩ (by decide) F.sub_tuple_dict F.slot_dict_ne F.slot_tuple_ne_refl
    (fun _ hq => dict_ne_declines ⟨_, ho, rfl⟩ (T := "tuple") ⟨_, ho2, rfl⟩ F.sub_tuple_dict hq)
    (fun _ hq => call_meets F.slot_tuple_ne_refl ⟨_, ho2, rfl⟩ F.entry_tuple_ne (F.args_tuple_ne_2 _ _) (tuple_ne_declines_dict b a items n2 n dd2 dd sl2 sl es) ⟨ho2, ho, hq⟩)
    (fun _ hq => wpAny_isSame_ref_other hne ho ho2 (by simp) hq) (.inr hu) h)
end
end PySem.SeqAt

namespace DL
open PySem PySem.Spec PyProof.Rows L2
/-! ### min(xs), xs a list of pairs of ints -/
def pairP (q : Int × Int) : PyData := .tuple [.int q.1, .int q.2]
def ltP (r q : Int × Int) : Prop := r.1 < q.1 ∨ (r.1 = q.1 ∧ r.2 < q.2)
theorem pairP_inj {q r : Int × Int} (h : pairP q = pairP r) : q = r := by
  obtain ⟨a, b⟩ := q
  obtain ⟨c, d⟩ := r
  unfold pairP at h
  simp at h
  rw [h.1, h.2]
theorem minP_least : ∀ (ps : List (Int × Int)) (p : Int × Int), ∃ q ∈ p :: ps, PySem.W.minD (pairP p) (ps.map pairP) = pairP q ∧ ∀ r ∈ p :: ps, ¬ ltP r q
  | [], p => ⟨p, List.mem_cons_self, rfl, fun r hr => by
    rw [List.mem_singleton.mp hr]
    unfold ltP
    omega⟩
  | y :: ps, p => by
    have e : PySem.W.minD (pairP p) ((y :: ps).map pairP) = PySem.W.minD (if PySem.W.dataLt (pairP y) (pairP p) = true then pairP y else pairP p) (ps.map pairP) := rfl
    have e2 : PySem.W.dataLt (pairP y) (pairP p) = decide (y.1 < p.1 ∨ (y.1 = p.1 ∧ y.2 < p.2)) := PySem.W.dataLt_ii _ _ _ _
    rw [e, e2]
    by_cases h : y.1 < p.1 ∨ (y.1 = p.1 ∧ y.2 < p.2)
    · rw [decide_eq_true h, if_pos rfl]
      obtain ⟨q, hq, h1, h2⟩ := minP_least ps y
      refine ⟨q, List.mem_cons_of_mem _ hq, h1, fun r hr => ?_⟩
      rcases List.mem_cons.mp hr with rfl | hr
      · have := h2 y List.mem_cons_self
        unfold ltP at *
        omega
      · exact h2 r hr
    · rw [decide_eq_false h, if_neg Bool.false_ne_true]
      obtain ⟨q, hq, h1, h2⟩ := minP_least ps p
      refine ⟨q, ?_, h1, fun r hr => ?_⟩
      · rcases List.mem_cons.mp hq with rfl | hq
        · exact List.mem_cons_self
        · exact List.mem_cons_of_mem _ (List.mem_cons_of_mem _ hq)
      · rcases List.mem_cons.mp hr with rfl | hr
        · exact h2 r List.mem_cons_self
        · rcases List.mem_cons.mp hr with rfl | hr
          · have := h2 p List.mem_cons_self
            unfold ltP at *
            omega
          · exact h2 r (List.mem_cons_of_mem _ hr)
theorem depthP : ∀ ps : List (Int × Int), PyData.depthAll (ps.map pairP) ≤ 4
  | [] => by decide
  | p :: ps => by
    have h := depthP ps
    show max (PyData.depth (pairP p)) (PyData.depthAll (ps.map pairP)) ≤ 4
    have h1 : PyData.depth (pairP p) ≤ 4 := by
      show PyData.depth (.tuple [.int p.1, .int p.2]) ≤ 4
      simp [PyData.depth, PyData.depthAll]
    omega
theorem callR_minP {X : Cx} (hc : X.calm = true) (hu : X.A.units + 64 < cLine) : CallR X (.builtin "min") (fun xs H Q => ∃ (a : Addr) (us : List V) (ps : List (Int × Int)), xs = [.ref a] ∧ SqL X.K H a us ∧ DpAll X.K H us (ps.map pairP) ∧ ps ≠ [] ∧
    ∀ (i : Nat) (v : V) (q : Int × Int), us[i]? = some v → ps[i]? = some q → (∀ r ∈ ps, ¬ ltP r q) → Q v H) := by
  intro pins s σ H xs us0 Q I r h
  obtain ⟨a, us, ps, rfl, hs, hd, hne, q⟩ := h
  obtain ⟨its, rv, hl, _⟩ := I.list hs
  rw [Vals.ref1 r]
  obtain ⟨as, hr⟩ := Dp.readsAll I _ _ _ hd rv
  cases ps with
  | nil => exact absurd rfl hne
  | cons p ps =>
    have hr' : ReadsAll s.heap its.toArray.toList (pairP p :: ps.map pairP) as := by
      rw [show its.toArray.toList = its by simp]
      exact hr
    obtain ⟨q0, hq0, hm, hmin⟩ := minP_least ps p
    refine PySem.W.min_list_data (I.ok.hd hc) hl.isList hr' ⟨fun x hx y hy => ?_, fun x hx => ?_⟩ ?_ fun i v h' tk bs hv hR hk => ?_
    · obtain ⟨x', _, rfl⟩ := List.mem_map.mp (show x ∈ (p :: ps).map pairP from hx)
      obtain ⟨y', _, rfl⟩ := List.mem_map.mp (show y ∈ (p :: ps).map pairP from hy)
      rfl
    · obtain ⟨x', _, rfl⟩ := List.mem_map.mp (show x ∈ (p :: ps).map pairP from hx)
      exact fun z => by cases z
    · have := depthP (p :: ps)
      show X.A.units + 1 + PyData.depthAll ((p :: ps).map pairP) < cLine
      omega
    · have hv2 : its[i]? = some v := by simpa using hv
      obtain ⟨bs2, hR2, hi, _⟩ := PySem.W.readsAll_at hr i v hv2
      rw [List.length_map] at hi
      have e1 : ((p :: ps).map pairP).getD i .none = pairP ((p :: ps).getD i p) := by
        rw [List.getD_eq_getElem?_getD, List.getD_eq_getElem?_getD, List.getElem?_map, List.getElem?_eq_getElem hi]
        rfl
      rw [e1] at hR2
      have hR3 := PySem.W.reads_keeps hk hR2
      rw [hm] at hR
      have e2 := pairP_inj (Reads.unique hR3 _ _ hR).1
      obtain ⟨x, hx, rx⟩ : ∃ x, us[i]? = some x ∧ RelV x v := by
        have hi2 : i < us.length := by
          have := (List.getElem?_eq_some_iff.mp hv2).1
          have l := Paired.length rv
          omega
        obtain ⟨u, hu2, ru⟩ := Vals.get rv (List.getElem?_eq_getElem hi2)
        rw [hv2] at hu2
        cases hu2
        exact ⟨_, List.getElem?_eq_getElem hi2, ru⟩
      exact ⟨x, H, I.kept hk, rx, q i x ((p :: ps).getD i p) hx (by rw [List.getD_eq_getElem?_getD, List.getElem?_eq_getElem hi]; rfl) (by rw [e2]; exact hmin)⟩
end DL

namespace DL
open PySem PySem.Spec PyProof.Rows L2 RT
/-! ### list(reversed(t)), t a tuple -/
theorem nolen_rt : typeLookup (.type "reversed") "__len__" = pure none := by rw [typeLookup_type, builtinLookup_eq_fast]; kernel_rfl
theorem hint_rt : typeLookup (.type "reversed") "__length_hint__" = pure (some (.builtin "reversed.__length_hint__")) := by rw [typeLookup_type, builtinLookup_eq_fast]; kernel_rfl
section
variable {prog : Program} {w : World} {A : Around} {E : Value → Shared → Prop} {s : Shared}
theorem slot_rt_hint : Slot "reversed" "__length_hint__" "reversed.__length_hint__" :=
  .of (owner := "reversed") (n := "__length_hint__") hint_rt (by decide +kernel) (by decide +kernel) (by decide +kernel)
    (by first | exact .inl (by decide +kernel) | exact .inr (by decide +kernel)) (by rw [isSubtype_type]; kernel_rfl)
theorem entry_rt_hint : entryFor table "reversed.__length_hint__" = some Builtin.«reversed.__length_hint__» := entryFor_of_tree (by kernel_rfl)
theorem args_rt_hint (a : Value) : argsOk "reversed.__length_hint__" ⟨[a], []⟩ := by
  unfold argsOk; rw [signature?_of (id := "reversed.__length_hint__") (n := ['_', '_', 't', 'n', 'i', 'h', '_', 'h', 't', 'g', 'n', 'e', 'l', '_', '_']) (o := ['d', 'e', 's', 'r', 'e', 'v', 'e', 'r']) (by kernel_rfl) owner_rt]; kernel_rfl
theorem call_rt_hint {r l : Addr} {items : Array Value} {Q : Value → Shared → Prop} (hit : IsRt s.heap r l ((items.size : Int) - 1)) (hl : IsTup s.heap l items) (hn : items.size ≤ sizeLine)
    (h : ∀ t tk, Q (.int items.size t) { s with toks := tk }) : wpAny (model prog w) A (call (.builtin "reversed.__length_hint__") [.ref r]) Q E s := by
  obtain ⟨o, ho, hc, hd⟩ := id hit
  have h63 := line63
  refine wpAny_call_entry slot_rt_hint hit.typeIs entry_rt_hint ?_ (args_rt_hint _)
  unfold Builtin.«reversed.__length_hint__»
  refine wpAny_bind (wpAny_of_eq (a := Value.ref r) rfl ?_)
  try dsimp only
  refine wpAny_bind (wpAny_field ho hd (x := .ref l) rfl ?_)
  try dsimp only
  rw [if_neg (show ¬ ((Value.ref l == Value.none) = true) from Bool.false_ne_true)]
  try dsimp only
  refine wpAny_bind (len_tuple hl (by omega) ?_)
  refine wpAny_bind (wpAny_of_eq (a := some ((items.size : Nat) : Int)) rfl ?_)
  try dsimp only
  refine wpAny_bind (wpAny_field (s := { s with toks := s.toks + 1 + 1 }) ho hd (x := rawInt ((items.size : Int) - 1)) rfl ?_)
  show wpAny _ _ (if ((items.size : Nat) : Int) < (items.size : Int) - 1 + 1 then _ else retInt ((items.size : Int) - 1 + 1)) _ _ _
  rw [if_neg (by omega)]
  unfold retInt
  refine wpAny_bind (wpAny_mkInt ?_)
  rw [show (items.size : Int) - 1 + 1 = (items.size : Int) by omega]
  exact wpAny_pure ⟨_, rfl, h _ _⟩
theorem walks_rt (hh : A.handled = none) (I l : Addr) (hne : l ≠ I) (items : Array Value) (hsz : items.size ≤ sizeLine) :
    Walks prog w A I [I, l] [I] items.size (fun i v => items[items.size - 1 - i]? = some v) (fun i h => i ≤ items.size ∧ IsRt h I l ((items.size : Int) - 1 - (i : Int)) ∧ IsTup h l items) where
  sub := fun b hb => by simp at hb; simp [hb]
  frame := fun _ _ _ x hk => ⟨x.1, x.2.1.at fun o e => hk I (by simp) o e, let ⟨o, ho, r⟩ := x.2.2; ⟨o, hk l (by simp) o ho, r⟩⟩
  item := fun i s Q E hi x hQ => by
    have e : (items.size : Int) - 1 - (i : Int) = ((items.size - 1 - i : Nat) : Int) := by omega
    have hit := x.2.1
    rw [e] at hit
    have hx : items[items.size - 1 - i]? = some (items[items.size - 1 - i]'(by omega)) := Array.getElem?_eq_getElem (by omega)
    refine next_rt_item hit x.2.2 hx hsz fun h' hit' hs' => ?_
    have e2 : ((items.size - 1 - i : Nat) : Int) - 1 = (items.size : Int) - 1 - ((i + 1 : Nat) : Int) := by omega
    rw [e2] at hit'
    exact hQ _ h' (s.toks + 1) hx ⟨hi, hit', let ⟨o, ho, r⟩ := x.2.2; ⟨o, (hs'.2 l hne).trans ho, r⟩⟩ fun b o hb eo => hs'.extBut b o (fun h => hb (by simp [h])) eo
  done := fun s Q E x hQ => by
    have e : (items.size : Int) - 1 - (items.size : Int) = -1 := by omega
    have hit := x.2.1
    rw [e] at hit
    exact next_rt_end hh hit fun h' he' => hQ h' s.toks fun b o hb eo => he' b o (fun h => hb (by simp [h])) eo
  self := fun _ _ _ _ x hQ => iter_rt x.2.1 hQ
theorem extend_rt {R : Result → Shared → Prop} {r l : Addr} {items : Array Value} (hh : A.handled = none) (hit : IsRt s.heap r l ((items.size : Int) - 1)) (hl : IsTup s.heap l items) (hne : l ≠ r) (hn : items.size ≤ sizeLine) (S : Addr) (res : Value) (c₀ : Nat) (hS : s.heap.get? S = some { cls := .type "list", data := .seq #[] c₀ })
    (hR : ∀ h' tk acc' c', (∀ b o, b ≠ S → b ≠ r → s.heap.get? b = some o → h'.get? b = some o) → h'.get? S = some { cls := .type "list", dict := none, data := .seq acc' c', slots := #[] } →
      ItemsOf (fun i v => items[items.size - 1 - i]? = some v) acc' items.size → R (.ok (.ret res)) { s with heap := h', toks := tk }) :
    wpAny (model prog w) A.in1 (Builtin.List.listExtendWith (.ref S) (.ref r) res)
      (fun fin s' => match fin with | .done f => R (.ok f) s' | .again c' => c'.quiet = true ∧ codeAny (model prog w) A c' R s') (fun e s' => R (.error e) s') s := by
  have W := (walks_rt (prog := prog) (w := w) (A := A.in1) hh r l hne items hn).toS
  have hT : s.TypeIs (.ref r) "reversed" := hit.typeIs
  have hSr : S ≠ r := fun e => by
    obtain ⟨o, ho, hc, _⟩ := hit
    rw [e, ho] at hS
    cases hS
    exact absurd hc (by simp)
  have hSl : S ≠ l := fun e => by
    obtain ⟨o, ho, hc, _⟩ := hl
    rw [e, ho] at hS
    cases hS
    exact absurd hc (by simp)
  have hSf : S ∉ [r, l] := by simp only [List.mem_cons, List.not_mem_nil, or_false, not_or]; exact ⟨hSr, hSl⟩
  unfold Builtin.List.listExtendWith
  refine wpAny_bind (wpAny_typeOf hT ?_)
  have h1 : Builtin.List.listSameRef (.ref S) (.ref r) = false := by simp [Builtin.List.listSameRef, hSr]
  rw [if_neg (by rw [h1]; decide)]
  refine wpAny_bind (iter_rt hit ?_)
  refine wpAny_bind (wpAny_holding ?_)
  unfold Builtin.List.listLengthHint
  refine wpAny_bind (wpAny_specialOf hT nolen_rt ?_)
  show wpAny _ A.in1 (specialOf (Value.ref r) (Str.ofString "__length_hint__") >>= _) _ _ _
  refine wpAny_bind (wpAny_specialOf hT hint_rt ?_)
  generalize hid : ("reversed.__length_hint__" : String) = id0
  wp_delta
  rw [show splitId id0 = some ("reversed", "__length_hint__") from by subst hid; decide +kernel]
  subst hid
  refine wpAny_bind (wpAny_isInstance (b := true) hT (by rw [isSubtype_type]; kernel_rfl) ?_)
  refine wpAny_ite_split (fun hab => absurd hab (by decide)) (fun _ => ?_)
  refine wpAny_ite_split (fun hab => absurd hab (by decide +kernel)) (fun _ => ?_)
  refine wpAny_bind (wpAny_rule ?_)
  refine wpAny_bind (wpAny_of_eq (slot_rt_hint.bind _) ?_)
  refine wpAny_bind (wpAny_attempt (call_rt_hint hit hl hn fun t tk => ?_))
  have hai : asInt? (Value.int ((items.size : Nat) : Int) t) = (pure (some ((items.size : Nat) : Int)) : Sem (Option Int)) := by first | rfl | (unfold asInt?; rfl)
  have hfit : Builtin.List.listFitsIndex ((items.size : Nat) : Int) = true := by
    have := line63
    unfold Builtin.List.listFitsIndex
    rw [Bool.and_eq_true, decide_eq_true_iff, decide_eq_true_iff]
    omega
  have htl : Builtin.List.listTooLong ((items.size : Nat) : Int).toNat = false := by
    unfold Builtin.List.listTooLong
    rw [decide_eq_false_iff_not]
    omega
  have hneg : ¬ ((items.size : Nat) : Int) < 0 := by omega
  simp only [hai, pure_bind, hfit, htl, Bool.not_true, Bool.false_eq_true, if_false, if_neg hneg]
  refine wpAny_pure ?_
  have e0 : ((items.size : Nat) : Int) - 1 - ((0 : Nat) : Int) = (items.size : Int) - 1 := by omega
  have key : ∀ (h : Heap) (c₁ tk : Nat), IsRt h r l ((items.size : Int) - 1) → IsTup h l items → (∀ b o, b ≠ S → s.heap.get? b = some o → h.get? b = some o) →
      h.get? S = some { cls := .type "list", data := .seq #[] c₁ } → codeAny (model prog w) A (.builtin "list.extend.loop" ⟨[.ref S, .ref r, res], []⟩) R { s with heap := h, toks := tk } := by
    intro h c₁ tk hit hl hk hS₁
    refine codeAny_extend_loopS W hn S hSf res items.size 0 _ #[] c₁ rfl (Nat.zero_le _) ⟨Nat.zero_le _, by rw [e0]; exact hit, hl⟩ hS₁ (ItemsOf.nil _) fun s' acc' c' hm hS' hacc => ?_
    rw [Moved.eq_with hm]
    exact hR s'.heap s'.toks acc' c' (fun b o hb hr e => hm.heap b o (by simp [hb, hr]) (hk b o hb e)) hS' hacc
  refine wpAny_ite_split (fun _ => ?_) (fun _ => wpAny_pure ⟨plainId_quiet F.plain_extend_loop _, key _ c₀ _ hit hl (fun b o _ e => e) hS⟩)
  have z0 : (#[] : Array Value).size ≤ sizeLine := Nat.zero_le _
  have z1 : ((#[] : Array Value).push Value.none).size ≤ sizeLine := by
    rw [sizeLine_eq]
    exact (by decide : 1 ≤ 16777216)
  have z2 : (((#[] : Array Value).push Value.none).pop).size ≤ sizeLine + 1 := Nat.zero_le _
  refine wpAny_bind (wpAny_rule ?_)
  refine wpAny_bind ?_
  show wpAny _ _ (updateSeq S (·.push .none) >>= fun _ => updateSeq S (·.pop)) _ _ _
  refine wpAny_bind (wpAny_updateSeq hS rfl ?_ z0 (Nat.le_succ_of_le z1))
  have hS₂ := Heap.get?_update_self (Obj.mapSeq (·.push Value.none)) hS rfl
  refine wpAny_updateSeq hS₂ rfl ?_ z1 z2
  have hS₃ := Heap.get?_update_self (Obj.mapSeq (·.pop)) hS₂ rfl
  have oth : ∀ b o, b ≠ S → s.heap.get? b = some o → ((s.heap.update S (Obj.mapSeq (·.push Value.none))).update S (Obj.mapSeq (·.pop))).get? b = some o :=
    fun b o hb e => (Heap.get?_update_other _ _ (Ne.symm hb)).trans ((Heap.get?_update_other _ _ (Ne.symm hb)).trans e)
  exact wpAny_pure ⟨plainId_quiet F.plain_extend_loop _, key _ _ _ (hit.at fun o e => oth r o (Ne.symm hSr) e) (let ⟨o, ho, z⟩ := hl; ⟨o, oth l o (Ne.symm hSl) ho, z⟩) oth hS₃⟩
theorem list_init_rt {R : Result → Shared → Prop} {r l : Addr} {items : Array Value} (hh : A.handled = none) (hit : IsRt s.heap r l ((items.size : Int) - 1)) (hl : IsTup s.heap l items) (hne : l ≠ r) (hn : items.size ≤ sizeLine) (S : Addr) (hS : s.heap.get? S = some { cls := .type "list", data := .seq #[] })
    (hR : ∀ h' tk acc' c', (∀ b o, b ≠ S → b ≠ r → s.heap.get? b = some o → h'.get? b = some o) → h'.get? S = some { cls := .type "list", dict := none, data := .seq acc' c', slots := #[] } →
      ItemsOf (fun i v => items[items.size - 1 - i]? = some v) acc' items.size → R (.ok (.ret .none)) { s with heap := h', toks := tk }) :
    wpAny (model prog w) A.in1 (Builtin.«list.__init__» ⟨[.ref S, .ref r], []⟩)
      (fun fin s' => match fin with | .done f => R (.ok f) s' | .again c' => c'.quiet = true ∧ codeAny (model prog w) A c' R s') (fun e s' => R (.error e) s') s := by
  have hSr : S ≠ r := fun e => by
    obtain ⟨o, ho, hc, _⟩ := hit
    rw [e, ho] at hS
    cases hS
    exact absurd hc (by simp)
  have hSl : S ≠ l := fun e => by
    obtain ⟨o, ho, hc, _⟩ := hl
    rw [e, ho] at hS
    cases hS
    exact absurd hc (by simp)
  show wpAny _ _ (do let old ← Builtin.List.listItems (.ref S); Builtin.List.listUpdate (.ref S) (fun _ => #[]); letGo old.toList.reverse; Builtin.List.listExtendWith (.ref S) (.ref r) .none) _ _ s
  refine wpAny_bind ?_
  unfold Builtin.List.listItems
  refine wpAny_bind (wpAny_seqItems hS rfl (wpAny_pure ?_))
  show wpAny _ _ (updateSeq S (fun _ => #[]) >>= fun _ => letGo (#[] : Array Value).toList.reverse >>= fun _ => Builtin.List.listExtendWith (.ref S) (.ref r) .none) _ _ s
  refine wpAny_bind (wpAny_updateSeq hS rfl ?_)
  have hS₂ := Heap.get?_update_self (Obj.mapSeq (fun _ => (#[] : Array Value))) hS rfl
  have oth : ∀ b o, b ≠ S → s.heap.get? b = some o → (s.heap.update S (Obj.mapSeq (fun _ => (#[] : Array Value)))).get? b = some o :=
    fun b o hb e => (Heap.get?_update_other _ _ (Ne.symm hb)).trans e
  refine wpAny_bind (wpAny_letGo ?_)
  refine extend_rt hh (hit.at fun o e => oth r o (Ne.symm hSr) e) (let ⟨o, ho, z⟩ := hl; ⟨o, oth l o (Ne.symm hSl) ho, z⟩) hne hn S .none _ hS₂ fun h' tk acc' c' hk hS' hacc => ?_
  exact hR h' tk acc' c' (fun b o hb hb2 e => hk b o hb hb2 (oth b o hb e)) hS' hacc
theorem call_list_rt {Q : Value → Shared → Prop} {r l : Addr} {items : Array Value} (hh : A.handled = none) (hit : IsRt s.heap r l ((items.size : Int) - 1)) (hl : IsTup s.heap l items) (hne : l ≠ r) (hn : items.size ≤ sizeLine)
    (hQ : ∀ h' tk acc' c', (∀ b o, b ≠ r → s.heap.get? b = some o → h'.get? b = some o) →
      h'.get? s.heap.objs.size = some { cls := .type "list", dict := none, data := .seq acc' c', slots := #[] } → ItemsOf (fun i v => items[items.size - 1 - i]? = some v) acc' items.size → Q (.ref s.heap.objs.size) { s with heap := h', toks := tk }) :
    wpAny (model prog w) A (call (.type "list") [.ref r]) Q E s := by
  refine callType_codes (Q₁ := fun obj s₁ => obj = .ref s.heap.objs.size ∧ s₁ = { s with heap := s.heap.push { cls := .type "list", data := .seq #[] } }) F.called_list (F.typeCall_list_1 _) F.entry_list_init
    (code_list_new _ ⟨rfl, rfl⟩) fun obj s₁ h₁ => ?_
  obtain ⟨rfl, rfl⟩ := h₁
  have hS : (s.heap.push { cls := .type "list", data := .seq #[] }).get? s.heap.objs.size = some { cls := .type "list", data := .seq #[] } := Heap.get?_push_size _ rfl
  refine ⟨⟨_, hS, rfl⟩, F.args_list_init_2 _ _, list_init_rt (A := A.in1) hh (hit.at fun o e => Heap.get?_push_of_some _ e) (hl.push _) hne hn _ hS fun h' tk acc' c' hk hS' hacc => ?_⟩
  exact ⟨rfl, hQ h' tk acc' c' (fun b o hb e => hk b o (Nat.ne_of_lt (Heap.lt_size e)) hb (Heap.get?_push_of_some _ e)) hS' hacc⟩
end
/-- list(reversed(x)), x a tuple: a new list -/
def tLstRev (K : PySem.W.Frag) (te : TE) : TE := fun σ H Q => te σ H fun v H1 => ∃ (a : Addr) (xs : List V), v = .ref a ∧ SqT K H1 a xs ∧ ∀ q, H1 q = none → Q (.ref q) (upd H1 q (.lst xs.reverse))
section
variable {X : Cx}
theorem pe_lstRev {e : Expr} {te : TE} {p p2 pos pos2 : Pos} (hc : X.calm = true) (hg : Gl X "list") (hm : X.mg "list" = none) (hg2 : Gl X "reversed") (hm2 : X.mg "reversed" = none) (he : PE X e te)
    (hs : starEach [e] X.env = (false, eval e X.env) :: starEach [] X.env := by rfl)
    (hs2 : starEach [.Call (.Name "reversed" p2) [e] [] pos2] X.env = (false, eval (.Call (.Name "reversed" p2) [e] [] pos2) X.env) :: starEach [] X.env := by rfl) :
    PE X (.Call (.Name "list" p) [.Call (.Name "reversed" p2) [e] [] pos2] [] pos) (tLstRev X.K te) := by
  refine ⟨fun pins s σ H Q I h => ?_⟩
  refine Call_ (ld_blt I hg hm boot_list (PyProof.Rows.callWith_type1 (args_cons (Call_ (ld_blt I hg2 hm2 PyProof.Rows.boot_reversed (PyProof.Rows.callWith_type1 (args_cons (thn (he.run pins s σ H _ I h) fun u s1 ⟨v, H1, I1, r1, q1⟩ => args_nil ?_) hs) hs rfl))) hs2) hs2 rfl))
  obtain ⟨a, xs, ev, hq, q⟩ := q1
  subst ev
  obtain rfl : u = Value.ref a := r1
  obtain ⟨its, rv, p', hz⟩ := I1.tuple hq
  have hl := rv.length
  have hn := line63
  refine call_reversed_tup p' (fun A E Q k => len_tuple p' (by simp only [List.size_toArray] <;> omega) k) (args_nil ?_)
  have k0 : ∀ b o, s1.heap.get? b = some o → (s1.heap.push (rtObj a ((its.toArray.size : Int) - 1))).get? b = some o := fun b o e => Heap.get?_push_of_some _ e
  have I2 : Inv X pins σ H1 { s1 with heap := s1.heap.push (rtObj a ((its.toArray.size : Int) - 1)), toks := s1.toks + 1 + 1 } := I1.kept (t' := s1.toks + 1 + 1) k0
  obtain ⟨f0, f1, f2, f3, f4, f5⟩ := I1.fpOk (H' := H1) (b := s1.heap.objs.size) (Nat.le_refl _) (I1.hok.fresh (Nat.le_refl _))
  have hne : a ≠ s1.heap.objs.size := Nat.ne_of_lt p'.lt
  have hn : its.toArray.size ≤ sizeLine := by rw [List.size_toArray, ← rv.length]; exact hz
  refine call_list_rt (s := { s1 with heap := s1.heap.push (rtObj a ((its.toArray.size : Int) - 1)), toks := s1.toks + 1 + 1 }) (I1.ok.hd hc) ⟨_, Heap.get?_push_size _ rfl, rfl, rfl⟩ (p'.push _) hne hn fun h' tk acc c' hk hS hi => ?_
  have hq1 : s1.heap.objs.size ≤ (s1.heap.push (rtObj a ((its.toArray.size : Int) - 1))).objs.size := by simp [Heap.push]
  refine ⟨.ref (s1.heap.push (rtObj a ((its.toArray.size : Int) - 1))).objs.size, upd H1 (s1.heap.push (rtObj a ((its.toArray.size : Int) - 1))).objs.size (.lst xs.reverse), I1.laid (t' := tk) (fun b u e => hk b u (Nat.ne_of_lt (Heap.lt_size e)) (Heap.get?_push_of_some _ e)) hq1 (show ObjOk X.prog X.w _ _ _ (.lst xs.reverse) from ⟨by rw [List.length_reverse]; exact hz, acc.toList, c', vals_rev rv hi, ?_⟩), rfl, q _ (I1.hok.fresh hq1)⟩
  rw [Array.toArray_toList]
  exact hS
/-- tuple(range(a, b, -1)) -/
def rgD (i j : Int) : List V := (List.range (i - j).toNat).map fun k => V.int (i - (k : Nat))
theorem vals_rgD {i j : Int} {acc : Array Value} (h : ItemsOf (fun k v => ∃ t, v = .int (i + k * (-1)) t) acc (i - j).toNat) : Vals (rgD i j) acc.toList := by
  have e : acc.toList.length = (i - j).toNat := by rw [Array.length_toList]; exact h.1
  unfold rgD
  rw [← e]
  refine vals_of_get acc.toList _ fun k u hk => ?_
  obtain ⟨t, rfl⟩ := h.2 k u (by rw [← hk, Array.getElem?_toList])
  exact ⟨t, by rw [show i + (k : Int) * (-1) = i - (k : Int) by omega]⟩
theorem rangeSize_m (i j : Int) : Builtin.Range.rangeSize i j (-1) = ((i - j).toNat : Int) := by
  unfold Builtin.Range.rangeSize
  rw [if_neg (by decide)]
  split
  · rw [show -(-1 : Int) = 1 by decide, Int.ediv_one]; omega
  · omega
theorem small_m {a b : Int} (ha : -(2 ^ 62) ≤ a) (ha' : a < 2 ^ 62) (hb : -(2 ^ 62) ≤ b) (hb' : b < 2 ^ 62) : Builtin.Range.small a b (-1) = true := by
  unfold Builtin.Range.small
  rw [rangeSize_m]
  simp only [Builtin.Range.rangeFitsLong, Bool.and_eq_true, Bool.or_eq_true, decide_eq_true_eq, beq_iff_eq, show ¬ ((-1 : Int) > 0) by decide, if_false]
  omega
def tTupRgM (ta tb tc : TE) : TE := fun σ H Q => ta σ H fun x H1 => tb σ H1 fun y H2 => tc σ H2 fun z H3 => ∃ i j, x = .int i ∧ y = .int j ∧ z = .int (-1) ∧ RgOk j i ∧ ∀ q, H3 q = none → Q (.ref q) (upd H3 q (.tup (rgD i j)))
theorem pe_tupRgM {a b c : Expr} {ta tb tc : TE} {p pos p2 pos2 : Pos} (hcalm : X.calm = true) (hg : Gl X "tuple") (hm : X.mg "tuple" = none) (hg2 : Gl X "range") (hm2 : X.mg "range" = none) (ha : PE X a ta) (hb : PE X b tb) (hc : PE X c tc)
    (na : starEach [a, b, c] X.env = (false, eval a X.env) :: starEach [b, c] X.env := by rfl) (nb : starEach [b, c] X.env = (false, eval b X.env) :: starEach [c] X.env := by rfl) (nc : starEach [c] X.env = (false, eval c X.env) :: starEach [] X.env := by rfl)
    (hp : (backTo pos2 (starEach [b, c] X.env)).any (·.1) = false := by rfl) (nt : starEach [.Call (.Name "range" p2) [a, b, c] [] pos2] X.env = (false, eval (.Call (.Name "range" p2) [a, b, c] [] pos2) X.env) :: starEach [] X.env := by rfl) :
    PE X (.Call (.Name "tuple" p) [.Call (.Name "range" p2) [a, b, c] [] pos2] [] pos) (tTupRgM ta tb tc) := by
  refine ⟨fun pins s σ H Q I h => ?_⟩
  refine Call_ (ld_blt I hg hm boot_tuple (PyProof.Rows.callWith_type1 (args_cons (Call_ (ld_blt I hg2 hm2 boot_range (PyProof.Rows.callWith_type1 (args_cons (thn (ha.run pins s σ H _ I h) fun v s1 ⟨x, H1, I1, r1, q1⟩ => args_cons (thn (hb.run pins s1 σ H1 _ I1 q1) fun u s2 ⟨y, H2, I2, r2, q2⟩ => one_arg hc I2 q2 (fun z s3 w H3 I3 r3 q => ?_) nc) nb) na) na hp))) nt) nt rfl))
  obtain ⟨i, j, rfl, rfl, rfl, ⟨b1, b2, b3, b4, b5⟩, q⟩ := q
  obtain ⟨t, rfl⟩ := r1
  obtain ⟨t', rfl⟩ := r2
  obtain ⟨t2, rfl⟩ := r3
  refine call_range_3 (by decide) (args_nil ?_) (.inl (PyProof.noPylong_small (by decide)))
  have I4 : Inv X pins σ H3 { s3 with heap := s3.heap.push { cls := .type "range", data := .fields #[.int i t, .int j t', .int (-1) t2] }, toks := s3.toks } := I3.kept (t' := s3.toks) fun b u e => Heap.get?_push_of_some _ e
  refine call_tuple_range (s := { s3 with heap := s3.heap.push { cls := .type "range", data := .fields #[.int i t, .int j t', .int (-1) t2] }, toks := s3.toks }) (n := (i - j).toNat) (I4.ok.hd hcalm) (IsRange.new _ _ _ _ _ _ _) (small_m b3 b4 b1 b2) (rangeSize_m i j) b5 fun h' tk acc hk hi => ?_
  have I5 : Inv X pins σ H3 { s3 with heap := h', toks := tk } := I4.kept (t' := tk) hk
  refine ⟨.ref h'.objs.size, upd H3 h'.objs.size (.tup (rgD i j)), I5.laid (t' := tk) (fun c o e => Heap.get?_push_of_some _ e) (Nat.le_refl _) (show ObjOk X.prog X.w _ _ _ (.tup (rgD i j)) from ⟨?_, acc.toList, vals_rgD hi, ?_⟩), rfl, q _ (I5.hok.fresh (Nat.le_refl _))⟩
  · unfold rgD
    rw [List.length_map, List.length_range, sizeLine_eq]; omega
  · rw [Array.toArray_toList]; exact IsTup.new _ _
end
/-! ### every second of a list -/
def ev0 {α : Type} : List α → List α
  | [] => []
  | [x] => [x]
  | x :: _ :: r => x :: ev0 r
theorem ev0_range {α : Type} : ∀ l : List α, (List.range ((l.length + 1) / 2)).filterMap (fun k => l[2 * k]?) = ev0 l
  | [] => by
    have e : (([] : List α).length + 1) / 2 = 0 := by simp
    rw [e]
    rfl
  | [x] => by
    rw [show ([x].length + 1) / 2 = 1 by rw [List.length_singleton]]
    rfl
  | x :: y :: r => by
    rw [show ((x :: y :: r).length + 1) / 2 = (r.length + 1) / 2 + 1 by rw [List.length_cons, List.length_cons]; omega, List.range_succ_eq_map, List.filterMap_cons, List.filterMap_map]
    show x :: _ = x :: ev0 r
    rw [← ev0_range r]
    rfl
theorem ev0_le {α : Type} : ∀ l : List α, (ev0 l).length ≤ l.length
  | [] => Nat.le_refl _
  | [x] => Nat.le_refl _
  | x :: y :: r => by
    have := ev0_le r
    show (ev0 r).length + 1 ≤ r.length + 2
    omega
def evJ {α : Type} (b : Bool) (l : List α) : List α := ev0 (l.drop (if b then 1 else 0))
theorem evJ_le {α : Type} (b : Bool) (l : List α) : (evJ b l).length ≤ l.length := Nat.le_trans (ev0_le _) (by rw [List.length_drop]; omega)
theorem slice_two (items : Array Value) (b : Bool) : slicePick items (some (if b then 1 else 0)) none (some 2) = (evJ b items.toList).toArray := by
  unfold slicePick evJ
  rw [← ev0_range]
  have hc : (sliceRange (sliceBounds (some (if b then 1 else 0)) none (some 2) items.size).1 (sliceBounds (some (if b then 1 else 0)) none (some 2) items.size).2.1 (sliceBounds (some (if b then 1 else 0)) none (some 2) items.size).2.2) = (List.range (((items.toList.drop (if b then 1 else 0)).length + 1) / 2)).map fun k => (if b then 1 else 0) + 2 * k := by
    unfold sliceRange sliceBounds
    rw [List.length_drop, Array.length_toList]
    cases b
    · simp only [Bool.false_eq_true, if_false, Option.getD_some]
      have e1 : max (0 : Int) (min 0 (items.size : Int)) = 0 := by omega
      simp only [show ((2 : Int) > 0) by decide, show ¬ ((0 : Int) < 0) by decide, if_true, if_false, e1]
      have e2 : ((if (0 : Int) < (items.size : Int) then ((items.size : Int) - 0 + 2 - 1) / 2 else 0)).toNat = (items.size - 0 + 1) / 2 := by
        split <;> omega
      rw [e2]
      refine List.map_congr_left fun k _ => ?_
      omega
    · simp only [if_true, Option.getD_some]
      simp only [show ((2 : Int) > 0) by decide, show ¬ ((1 : Int) < 0) by decide, if_true, if_false]
      have e2 : ((if max (0 : Int) (min 1 (items.size : Int)) < (items.size : Int) then ((items.size : Int) - max (0 : Int) (min 1 (items.size : Int)) + 2 - 1) / 2 else 0)).toNat = (items.size - 1 + 1) / 2 := by
        split <;> omega
      rw [e2]
      refine List.map_congr_left fun k hk => ?_
      have := List.mem_range.mp hk
      omega
  rw [hc, List.filterMap_map]
  congr 2
  funext k
  show items[(if b = true then 1 else 0) + 2 * k]? = _
  rw [List.getElem?_drop, Array.getElem?_toList]
theorem vals_ev0 : ∀ {xs : List V} {us : List Value}, Vals xs us → Vals (ev0 xs) (ev0 us)
  | _, _, .nil => .nil
  | _, _, .cons a .nil => .cons a .nil
  | _, _, .cons a (.cons _ r) => .cons a (vals_ev0 r)
theorem vals_drop : ∀ {xs : List V} {us : List Value} (n : Nat), Vals xs us → Vals (xs.drop n) (us.drop n)
  | _, _, 0, r => r
  | _, _, _ + 1, .nil => .nil
  | _, _, n + 1, .cons _ r => vals_drop n r
def tSl2 (K : PySem.W.Frag) (b : Bool) (te : TE) : TE := fun σ H Q => te σ H fun x H1 => ∃ a xs, x = .ref a ∧ SqL K H1 a xs ∧ ∀ p, H1 p = none → Q (.ref p) (upd H1 p (.lst (evJ b xs)))
section
variable {X : Cx}
theorem pe_sl2 {e : Expr} {te : TE} {b : Bool} {j : Int} {k k2 : Nat} {p1 p2 p3 pos : Pos} (hj : j = if b then 1 else 0) (he : PE X e te) : PE X (.Subscript e (.Slice (some (.Constant (.int j) k p1)) none (some (.Constant (.int 2) k2 p2)) p3) pos) (tSl2 X.K b te) := by
  subst hj
  refine ⟨fun pins s σ H Q I h => ?_⟩
  refine Subscript_ (thn (he.run pins s σ H _ I h) fun v s1 ⟨x, H1, I1, r1, q1⟩ => ?_)
  obtain ⟨a, xs, ex, hx, q⟩ := q1
  subst ex
  cases r1
  have hlo : PO X (some (.Constant (.int (if b then 1 else 0)) k p1)) (tPart (tC (.int (if b then 1 else 0)))) := po_some pe_int
  have hst : PO X (some (.Constant (.int 2) k2 p2)) (tPart (tC (.int 2))) := po_some pe_int
  refine wpAny_Slice (thn (hlo.run pins s1 σ H1 (fun o H2 => o = some (if b then 1 else 0) ∧ H2 = H1) I1 ⟨_, rfl, rfl, rfl⟩) fun vl s2 ⟨l, H2, I2, pl, el, e2⟩ => ?_)
  subst el e2
  refine thn (po_none.run pins s2 σ H2 (fun o H3 => o = none ∧ H3 = H2) I2 ⟨rfl, rfl⟩) fun vu s3 ⟨u, H3, I3, pu, eu, e3⟩ => ?_
  subst eu e3
  refine thn (hst.run pins s3 σ H3 (fun o H4 => o = some 2 ∧ H4 = H3) I3 ⟨2, rfl, rfl, rfl⟩) fun vs s4 ⟨o, H4, I4, ps, eo, e4⟩ => ?_
  subst eo e4
  have I5 : Inv X pins σ H4 { s4 with heap := s4.heap.push { cls := .type "slice", data := .fields #[vl, vu, vs] } } := I4.kept (t' := s4.toks) fun b ob q => Heap.get?_push_of_some _ q
  show wpAny (model X.prog X.w) X.A (subscriptTail e (.Slice (some (.Constant (.int (if b then 1 else 0)) k p1)) none (some (.Constant (.int 2) k2 p2)) p3) (.ref a) (.ref s4.heap.objs.size)) (EP X pins σ Q) X.xe { s4 with heap := s4.heap.push { cls := .type "slice", data := .fields #[vl, vu, vs] } }
  obtain ⟨its, r, ht, hz⟩ := I5.list hx
  have hlen := r.length
  refine tail_any (ops := [.ref a, .ref s4.heap.objs.size]) ht.isList.typeIs (PySem.slot_list_getitem.lookup) ?_ (by with_unfolding_all rfl)
  refine wpAny_getItem_list_slice ht.isList (Heap.IsSliceOf.new _ vl vu vs) pl pu ps (by decide) ?_ (by rw [List.size_toArray]; omega)
  rw [slice_two]
  refine ⟨.ref _, _, I5.laid (t' := s4.toks) (o := .lst (evJ b xs)) (fun b ob q => Heap.get?_push_of_some _ q) (Nat.le_refl _) ?_, rfl, q _ (I5.hok.fresh (Nat.le_refl _))⟩
  exact ⟨Nat.le_trans (evJ_le _ _) hz, _, 0, vals_ev0 (vals_drop _ r), Heap.get?_push_size _ rfl⟩
end
end DL

/-! list(zip(a, b)) of two lists -/
namespace DL
open PySem PySem.Spec PyProof.Rows L2 LiI
theorem neV {a b : Nat} (h : a ≠ b) : (show Addr from a) ≠ (show Addr from b) := h
theorem nolen_zip : typeLookup (.type "zip") "__len__" = pure none := by rw [typeLookup_type, builtinLookup_eq_fast]; kernel_rfl
theorem nohint_zip : typeLookup (.type "zip") "__length_hint__" = pure none := by rw [typeLookup_type, builtinLookup_eq_fast]; kernel_rfl
/-- where a zip stands: the cells that it works with -/
structure ZW where
  z : Addr
  TI : Addr
  TO : Addr
  i1 : Addr
  i2 : Addr
  l1 : Addr
  l2 : Addr
structure ZW.Und (Z : ZW) (S : Addr) : Prop where
  z : Z.z < S
  TI : Z.TI < S
  TO : Z.TO < S
  i1 : Z.i1 < S
  i2 : Z.i2 < S
  l1 : Z.l1 < S
  l2 : Z.l2 < S
def ZSt (Z : ZW) (S : Addr) (xs ys : Array Value) (h : Heap) (i : Nat) : Prop :=
  IsPair h Z.TI (.ref Z.i1) (.ref Z.i2) ∧ h.IsListIter Z.i1 Z.l1 i ∧ h.IsListIter Z.i2 Z.l2 i ∧ h.IsList Z.l1 xs ∧ h.IsList Z.l2 ys ∧
    ((IsZip h Z.z Z.TI Z.TO .none ∧ ∃ a b, IsPair h Z.TO a b) ∨ ∃ T f oT, IsZipHeld h Z.z Z.TI Z.TO T f ∧ h.get? T = some oT ∧ S < T)
structure ZG (xs ys : Array Value) (lo : Addr) (h : Heap) (as : List Addr) : Prop where
  rise : as.Pairwise (· < ·)
  above : ∀ a ∈ as, lo < a
  pairs : ∀ (j : Nat) (a : Addr), as[j]? = some a → ∃ x y, xs[j]? = some x ∧ ys[j]? = some y ∧ h.get? a = some { cls := .type "tuple", data := .seq #[x, y] }
theorem ZG.there {xs ys : Array Value} {lo : Addr} {h : Heap} {as : List Addr} (g : ZG xs ys lo h as) {a : Addr} (ha : a ∈ as) : a < h.objs.size := by
  obtain ⟨j, hj⟩ := List.mem_iff_getElem?.mp ha
  obtain ⟨_, _, _, _, e⟩ := g.pairs j a hj
  exact Heap.lt_size e
theorem ZSt.keep {Z : ZW} {S : Addr} {xs ys : Array Value} {h h' : Heap} {i : Nat} (x : ZSt Z S xs ys h i) (u : Z.Und S) (k : ∀ b o, b ≠ S → h.get? b = some o → h'.get? b = some o) : ZSt Z S xs ys h' i := by
  obtain ⟨a1, a2, a3, a4, a5, a6⟩ := x
  refine ⟨k _ _ (Nat.ne_of_lt u.TI) a1, a2.at fun o e => k _ o (Nat.ne_of_lt u.i1) e, a3.at fun o e => k _ o (Nat.ne_of_lt u.i2) e, a4.at fun o e => k _ o (Nat.ne_of_lt u.l1) e, a5.at fun o e => k _ o (Nat.ne_of_lt u.l2) e, ?_⟩
  rcases a6 with ⟨b1, c, d, b2⟩ | ⟨T, f, oT, b1, b2, b3⟩
  · exact .inl ⟨k _ _ (Nat.ne_of_lt u.z) b1, c, d, k _ _ (Nat.ne_of_lt u.TO) b2⟩
  · exact .inr ⟨T, f, oT, k _ _ (Nat.ne_of_lt u.z) b1, k _ _ (Nat.ne_of_gt b3) b2, b3⟩
section
variable {prog : Program} {w : World} {A : Around} {E : Value → Shared → Prop} {s : Shared} {Z : ZW} {S : Addr} {xs ys : Array Value}
abbrev ZAp (Z : ZW) : Prop := ZipApart Z.z Z.TI Z.TO Z.i1 Z.i2 Z.l1 Z.l2
theorem z_item {i : Nat} {x y : Value} {Q : Option Value → Shared → Prop} (D : ZAp Z) (u : Z.Und S) (hS : S < s.heap.objs.size) (st : ZSt Z S xs ys s.heap i) (hx : xs[i]? = some x) (hy : ys[i]? = some y)
    (hQ : ∀ h', ZSt Z S xs ys h' (i + 1) → IsPair h' s.heap.objs.size x y → h'.objs.size = s.heap.objs.size + 1 →
      (∀ c o, c ≠ Z.z → c ≠ Z.TO → c ≠ Z.i1 → c ≠ Z.i2 → s.heap.get? c = some o → h'.get? c = some o) → Q (some (.ref s.heap.objs.size)) { s with heap := h' }) :
    wpAny (model prog w) A (pyNext (.ref Z.z)) Q E s := by
  obtain ⟨a1, a2, a3, a4, a5, a6⟩ := st
  rcases a6 with ⟨b1, c, d, b2⟩ | ⟨T, f, oT, b1, b2, b3⟩
  · refine wpAny_pyNext_zip_item D b1 a1 b2 a2 a3 a4 a5 hx hy fun h' c1 c2 c3 c4 c5 c6 c7 => hQ h' ⟨?_, c3, c4, ?_, ?_, .inr ⟨_, false, _, c1, c5, hS⟩⟩ c5 c6 c7
    · exact c7 _ _ D.TIz D.TITO D.TIi1 D.TIi2 a1
    · exact a4.at fun o e => c7 _ o D.l1z D.l1TO D.l1i1 D.l1i2 e
    · exact a5.at fun o e => c7 _ o D.l2z D.l2TO D.l2i1 D.l2i2 e
  · refine wpAny_pyNext_zip_item_held D b1 b2 a1 a2 a3 a4 a5 hx hy fun h' c1 c3 c4 c5 c6 c7 => hQ h' ⟨?_, c3, c4, ?_, ?_, .inr ⟨T, true, oT, c1, ?_, b3⟩⟩ c5 c6 fun c o h1 h2 h3 h4 e => c7 c o h1 h3 h4 e
    · exact c7 _ _ D.TIz D.TIi1 D.TIi2 a1
    · exact a4.at fun o e => c7 _ o D.l1z D.l1i1 D.l1i2 e
    · exact a5.at fun o e => c7 _ o D.l2z D.l2i1 D.l2i2 e
    · exact c7 _ _ (Nat.ne_of_gt (Nat.lt_trans u.z b3)) (Nat.ne_of_gt (Nat.lt_trans u.i1 b3)) (Nat.ne_of_gt (Nat.lt_trans u.i2 b3)) b2
theorem z_end {i : Nat} {Q : Option Value → Shared → Prop} (hh : A.handled = none) (D : ZAp Z) (st : ZSt Z S xs ys s.heap i) (he : xs[i]? = none ∨ ys[i]? = none)
    (hQ : ∀ h', (∀ c o, c ≠ Z.z → c ≠ Z.TO → c ≠ Z.i1 → c ≠ Z.i2 → s.heap.get? c = some o → h'.get? c = some o) → Q none { s with heap := h' }) :
    wpAny (model prog w) A (pyNext (.ref Z.z)) Q E s := by
  obtain ⟨a1, a2, a3, a4, a5, a6⟩ := st
  rcases a6 with ⟨b1, c, d, b2⟩ | ⟨T, f, oT, b1, b2, b3⟩
  · exact wpAny_pyNext_zip_end hh D b1 a1 b2 a2 a3 a4 a5 he hQ
  · exact wpAny_pyNext_zip_end_held hh D b1 b2 a1 a2 a3 a4 a5 he fun h' c7 => hQ h' fun c o h1 h2 h3 h4 e => c7 c o h1 h3 h4 e
end
section
variable {prog : Program} {w : World} {A : Around} {s : Shared} {R : Result → Shared → Prop} {Z : ZW} {S : Addr} {xs ys : Array Value}
theorem z_loop (hh : A.handled = none) (D : ZAp Z) (u : Z.Und S) (hn : min xs.size ys.size ≤ sizeLine) (res : Value) {h₁ : Heap}
    (hR : ∀ h' tk acc c as, (∀ b o, b ≠ S → b ≠ Z.z → b ≠ Z.TO → b ≠ Z.i1 → b ≠ Z.i2 → h₁.get? b = some o → h'.get? b = some o) → h'.get? S = some { cls := .type "list", dict := none, data := .seq acc c, slots := #[] } → as.length = min xs.size ys.size → ZG xs ys S h' as →
      acc.toList = as.map Value.ref → R (.ok (.ret res)) { s with heap := h', toks := tk }) :
    ∀ (k i : Nat) (h : Heap) (tk c : Nat) (acc : Array Value) (as : List Addr), min xs.size ys.size - i = k → i ≤ min xs.size ys.size → ZSt Z S xs ys h i → (∀ b o, b ≠ S → b ≠ Z.z → b ≠ Z.TO → b ≠ Z.i1 → b ≠ Z.i2 → h₁.get? b = some o → h.get? b = some o) →
      h.get? S = some { cls := .type "list", dict := none, data := .seq acc c, slots := #[] } → acc.toList = as.map Value.ref → as.length = i → ZG xs ys S h as →
      codeAny (model prog w) A (.builtin "list.extend.loop" ⟨[.ref S, .ref Z.z, res], []⟩) R { s with heap := h, toks := tk } := by
  have n1 := Nat.ne_of_gt u.z
  have n2 := Nat.ne_of_gt u.TO
  have n3 := Nat.ne_of_gt u.i1
  have n4 := Nat.ne_of_gt u.i2
  have far : ∀ {a : Addr}, S < a → a ≠ Z.z ∧ a ≠ Z.TO ∧ a ≠ Z.i1 ∧ a ≠ Z.i2 := fun q => ⟨Nat.ne_of_gt (Nat.lt_trans u.z q), Nat.ne_of_gt (Nat.lt_trans u.TO q), Nat.ne_of_gt (Nat.lt_trans u.i1 q), Nat.ne_of_gt (Nat.lt_trans u.i2 q)⟩
  intro k
  induction k with
  | zero =>
    intro i h tk c acc as hk hi hst hkeep hS hacc hal hG
    have hin : i = min xs.size ys.size := by omega
    refine codeAny_builtin PySem.F.entry_extend_loop ?_
    rw [Around.under_plainId PySem.F.plain_extend_loop _]
    show wpAny _ A.in1 (pyNext (.ref Z.z) >>= _) _ _ _
    have hend : xs[i]? = none ∨ ys[i]? = none := by
      rcases Nat.le_total xs.size ys.size with h | h
      · exact .inl (Array.getElem?_eq_none (by rw [hin]; omega))
      · exact .inr (Array.getElem?_eq_none (by rw [hin]; omega))
    refine wpAny_bind (z_end (s := { s with heap := h, toks := tk }) (A := A.in1) hh D hst hend fun h' he => ?_)
    refine wpAny_pure (hR h' tk acc c as (fun b o h0 h1 h2 h3 h4 e => he b o h1 h2 h3 h4 (hkeep b o h0 h1 h2 h3 h4 e)) (he S _ n1 n2 n3 n4 hS) (by omega) ⟨hG.rise, hG.above, fun j a hj => ?_⟩ hacc)
    obtain ⟨x, y, e1, e2, e3⟩ := hG.pairs j a hj
    obtain ⟨f1, f2, f3, f4⟩ := far (hG.above a (List.mem_of_getElem? hj))
    exact ⟨x, y, e1, e2, he a _ f1 f2 f3 f4 e3⟩
  | succ k ih =>
    intro i h tk c acc as hk hi hst hkeep hS hacc hal hG
    have hlt : i < min xs.size ys.size := by omega
    have hl1 : i < xs.size := by omega
    have hl2 : i < ys.size := by omega
    have hsz : acc.size = i := by rw [← Array.length_toList, hacc, List.length_map, hal]
    have hSl : S < h.objs.size := Heap.lt_size hS
    refine codeAny_builtin PySem.F.entry_extend_loop ?_
    rw [Around.under_plainId PySem.F.plain_extend_loop _]
    show wpAny _ A.in1 (pyNext (.ref Z.z) >>= _) _ _ _
    refine wpAny_bind (z_item (s := { s with heap := h, toks := tk }) D u hSl hst (Array.getElem?_eq_getElem hl1) (Array.getElem?_eq_getElem hl2) fun h' hst' ht hz hkp => ?_)
    dsimp only at ht hz hkp ⊢
    have hS' := hkp S _ n1 n2 n3 n4 hS
    have up : ∀ b o, b ≠ S → h'.get? b = some o → (h'.update S (Obj.mapSeq (·.push (Value.ref h.objs.size)))).get? b = some o := fun b o hb e => (Heap.get?_update_other _ _ (Ne.symm hb)).trans e
    show wpAny _ A.in1 (updateSeq S (·.push (Value.ref h.objs.size)) >>= _) _ _ _
    refine wpAny_bind ?_
    refine wpAny_updateSeq hS' rfl (wpAny_pure ⟨plainId_quiet PySem.F.plain_extend_loop _, ih (i + 1) _ tk _ (acc.push (Value.ref h.objs.size)) (as ++ [h.objs.size]) (by omega) hlt (hst'.keep u up)
      (fun b o h0 h1 h2 h3 h4 e => up b o h0 (hkp b o h1 h2 h3 h4 (hkeep b o h0 h1 h2 h3 h4 e))) (Heap.get?_update_self _ hS' rfl) (by rw [Array.toList_push, hacc, List.map_append]; rfl) (by rw [List.length_append, hal]; rfl) ⟨?_, ?_, ?_⟩⟩) (by rw [hsz]; omega) (by show (acc.push (Value.ref h.objs.size)).size ≤ sizeLine + 1; rw [Array.size_push, hsz]; omega)
    · refine List.pairwise_append.mpr ⟨hG.rise, List.pairwise_singleton _ _, fun a ha b hb => ?_⟩
      rw [List.mem_singleton.mp hb]
      exact hG.there ha
    · intro a ha
      rcases List.mem_append.mp ha with ha | ha
      · exact hG.above a ha
      · rw [List.mem_singleton.mp ha]; exact hSl
    · intro j b hj
      rcases Nat.lt_trichotomy j as.length with h1 | h1 | h1
      · rw [List.getElem?_append_left h1] at hj
        obtain ⟨x', y', e1, e2, e3⟩ := hG.pairs j b hj
        have hb := hG.above b (List.mem_of_getElem? hj)
        obtain ⟨f1, f2, f3, f4⟩ := far hb
        exact ⟨x', y', e1, e2, up b _ (Nat.ne_of_gt hb) (hkp b _ f1 f2 f3 f4 e3)⟩
      · subst h1
        have hb : h.objs.size = b := by simpa using hj
        subst hb
        exact ⟨_, _, by rw [hal]; exact Array.getElem?_eq_getElem hl1, by rw [hal]; exact Array.getElem?_eq_getElem hl2, up _ _ (Nat.ne_of_gt hSl) ht⟩
      · have hnone : (as ++ [h.objs.size])[j]? = none := List.getElem?_eq_none (by rw [List.length_append, List.length_singleton]; omega)
        rw [hnone] at hj; cases hj
theorem z_extend (hh : A.handled = none) (D : ZAp Z) (u : Z.Und S) (hn : min xs.size ys.size ≤ sizeLine) (st : ZSt Z S xs ys s.heap 0) (hzz : IsZip s.heap Z.z Z.TI Z.TO .none) (res : Value) (c₀ : Nat) (hS : s.heap.get? S = some { cls := .type "list", data := .seq #[] c₀ })
    (hR : ∀ h' tk acc c as, (∀ b o, b ≠ S → b ≠ Z.z → b ≠ Z.TO → b ≠ Z.i1 → b ≠ Z.i2 → s.heap.get? b = some o → h'.get? b = some o) → h'.get? S = some { cls := .type "list", dict := none, data := .seq acc c, slots := #[] } → as.length = min xs.size ys.size → ZG xs ys S h' as →
      acc.toList = as.map Value.ref → R (.ok (.ret res)) { s with heap := h', toks := tk }) :
    wpAny (model prog w) A.in1 (Builtin.List.listExtendWith (.ref S) (.ref Z.z) res)
      (fun fin s' => match fin with | .done f => R (.ok f) s' | .again c' => c'.quiet = true ∧ codeAny (model prog w) A c' R s') (fun e s' => R (.error e) s') s := by
  have hT : ∀ {h : Heap} {tk : Nat}, IsZip h Z.z Z.TI Z.TO .none → ({ s with heap := h, toks := tk } : Shared).TypeIs (.ref Z.z) "zip" := fun e => ⟨_, e, rfl⟩
  have hSz : S ≠ Z.z := Nat.ne_of_gt u.z
  unfold Builtin.List.listExtendWith
  refine wpAny_bind (wpAny_typeOf (T := "zip") (hT hzz) ?_)
  have h1 : Builtin.List.listSameRef (.ref S) (.ref Z.z) = false := by simp [Builtin.List.listSameRef, hSz]
  have h2 : (Value.type "zip" == Value.type "list") = false := by decide
  have h3 : (Value.type "zip" == Value.type "tuple") = false := by decide
  simp only [h1, h2, h3, Bool.or_false, Bool.false_eq_true, if_false]
  refine wpAny_bind (wpAny_pyIter_zip hzz ?_)
  refine wpAny_bind (wpAny_holding ?_)
  unfold Builtin.List.listLengthHint
  refine wpAny_bind (wpAny_specialOf (hT hzz) nolen_zip ?_)
  show wpAny _ A.in1 (specialOf (Value.ref Z.z) (Str.ofString "__length_hint__") >>= _) _ _ _
  refine wpAny_bind (wpAny_specialOf (hT hzz) nohint_zip ?_)
  refine wpAny_pure ?_
  have key : ∀ (h : Heap) (c₁ tk : Nat), (∀ b o, b ≠ S → s.heap.get? b = some o → h.get? b = some o) →
      h.get? S = some { cls := .type "list", data := .seq #[] c₁ } → codeAny (model prog w) A (.builtin "list.extend.loop" ⟨[.ref S, .ref Z.z, res], []⟩) R { s with heap := h, toks := tk } := by
    intro h c₁ tk hk hS₁
    exact z_loop (s := s) (h₁ := s.heap) hh D u hn res hR (min xs.size ys.size) 0 h tk c₁ #[] [] (Nat.sub_zero _) (Nat.zero_le _) (st.keep u hk) (fun b o hb _ _ _ _ e => hk b o hb e) hS₁ rfl rfl
      ⟨List.Pairwise.nil, (fun _ ha => nomatch ha), (fun j a hj => by simp at hj)⟩
  show wpAny _ A.in1 (rule "list.extend.makes-room" >>= fun _ => Builtin.List.listTouch (.ref S) >>= fun _ => again (.builtin "list.extend.loop" ⟨[.ref S, .ref Z.z, res], []⟩)) _ _ _
  refine wpAny_bind (wpAny_rule ?_)
  refine wpAny_bind ?_
  show wpAny _ _ (updateSeq S (·.push .none) >>= fun _ => updateSeq S (·.pop)) _ _ _
  refine wpAny_bind (wpAny_updateSeq hS rfl ?_)
  have hS₂ := Heap.get?_update_self (Obj.mapSeq (·.push Value.none)) hS rfl
  refine wpAny_updateSeq (hz := by seq_fits) hS₂ rfl ?_
  have hS₃ := Heap.get?_update_self (Obj.mapSeq (·.pop)) hS₂ rfl
  refine wpAny_pure ⟨plainId_quiet PySem.F.plain_extend_loop _, key _ _ _ (fun b o hb e => ?_) hS₃⟩
  exact (Heap.get?_update_other _ _ (Ne.symm hb)).trans ((Heap.get?_update_other _ _ (Ne.symm hb)).trans e)
theorem z_init (hh : A.handled = none) (D : ZAp Z) (u : Z.Und S) (hn : min xs.size ys.size ≤ sizeLine) (st : ZSt Z S xs ys s.heap 0) (hzz : IsZip s.heap Z.z Z.TI Z.TO .none) (hS : s.heap.get? S = some { cls := .type "list", data := .seq #[] })
    (hR : ∀ h' tk acc c as, (∀ b o, b ≠ S → b ≠ Z.z → b ≠ Z.TO → b ≠ Z.i1 → b ≠ Z.i2 → s.heap.get? b = some o → h'.get? b = some o) → h'.get? S = some { cls := .type "list", dict := none, data := .seq acc c, slots := #[] } → as.length = min xs.size ys.size → ZG xs ys S h' as →
      acc.toList = as.map Value.ref → R (.ok (.ret .none)) { s with heap := h', toks := tk }) :
    wpAny (model prog w) A.in1 (Builtin.«list.__init__» ⟨[.ref S, .ref Z.z], []⟩)
      (fun fin s' => match fin with | .done f => R (.ok f) s' | .again c' => c'.quiet = true ∧ codeAny (model prog w) A c' R s') (fun e s' => R (.error e) s') s := by
  show wpAny _ _ (do let old ← Builtin.List.listItems (.ref S); Builtin.List.listUpdate (.ref S) (fun _ => #[]); letGo old.toList.reverse; Builtin.List.listExtendWith (.ref S) (.ref Z.z) .none) _ _ s
  refine wpAny_bind ?_
  unfold Builtin.List.listItems
  refine wpAny_bind (wpAny_seqItems hS rfl (wpAny_pure ?_))
  show wpAny _ _ (updateSeq S (fun _ => #[]) >>= fun _ => letGo (#[] : Array Value).toList.reverse >>= fun _ => Builtin.List.listExtendWith (.ref S) (.ref Z.z) .none) _ _ s
  refine wpAny_bind (wpAny_updateSeq hS rfl ?_)
  have hS₂ := Heap.get?_update_self (Obj.mapSeq (fun _ => (#[] : Array Value))) hS rfl
  have oth : ∀ b o, b ≠ S → s.heap.get? b = some o → (s.heap.update S (Obj.mapSeq (fun _ => (#[] : Array Value)))).get? b = some o :=
    fun b o hb e => (Heap.get?_update_other _ _ (Ne.symm hb)).trans e
  refine wpAny_bind (wpAny_letGo ?_)
  refine z_extend hh D u hn (st.keep u oth) (oth _ _ (Nat.ne_of_lt u.z) hzz) .none _ hS₂ (fun h' tk acc c as hk hS' hl hG hacc => ?_)
  exact hR h' tk acc c as (fun b o hb h1 h2 h3 h4 e => hk b o hb h1 h2 h3 h4 (oth b o hb e)) hS' hl hG hacc
end
section
variable {prog : Program} {w : World} {A : Around} {E : Value → Shared → Prop} {s : Shared} {xs ys : Array Value} {l1 l2 : Addr}
theorem z_call {Q : Value → Shared → Prop} (hh : A.handled = none) (hl1 : s.heap.IsList l1 xs) (hl2 : s.heap.IsList l2 ys) (hn : min xs.size ys.size ≤ sizeLine)
    (hQ : ∀ h' tk S acc c as, s.heap.objs.size ≤ S → (∀ b o, s.heap.get? b = some o → h'.get? b = some o) → h'.get? S = some { cls := .type "list", dict := none, data := .seq acc c, slots := #[] } → as.length = min xs.size ys.size → ZG xs ys S h' as →
      acc.toList = as.map Value.ref → Q (.ref S) { s with heap := h', toks := tk }) :
    wpAny (model prog w) A (call (.type "zip") [.ref l1, .ref l2]) (fun z s' => wpAny (model prog w) A (call (.type "list") [z]) Q E s') E s := by
  have k1 : @LT.lt Nat _ l1 s.heap.objs.size := let ⟨_, ho, _⟩ := hl1; Heap.lt_size ho
  have k2 : @LT.lt Nat _ l2 s.heap.objs.size := let ⟨_, ho, _⟩ := hl2; Heap.lt_size ho
  refine call_zip_2 hl1 hl2 fun h' a1 a2 a3 a4 a5 a6 a7 => ?_
  refine callType_codes (Q₁ := fun obj s₁ => obj = .ref h'.objs.size ∧ s₁ = { s with heap := h'.push { cls := .type "list", data := .seq #[] } }) PySem.F.called_list (PySem.F.typeCall_list_1 _) PySem.F.entry_list_init
    (code_list_new _ ⟨rfl, rfl⟩) fun obj s₁ h₁ => ?_
  obtain ⟨rfl, rfl⟩ := h₁
  have hS : (h'.push { cls := .type "list", data := .seq #[] }).get? h'.objs.size = some { cls := .type "list", data := .seq #[] } := Heap.get?_push_size _ rfl
  have D : ZAp ⟨s.heap.objs.size + 4, s.heap.objs.size + 2, s.heap.objs.size + 3, s.heap.objs.size, s.heap.objs.size + 1, l1, l2⟩ := by
    constructor <;> (refine neV ?_; dsimp only; omega)
  have u : ZW.Und ⟨s.heap.objs.size + 4, s.heap.objs.size + 2, s.heap.objs.size + 3, s.heap.objs.size, s.heap.objs.size + 1, l1, l2⟩ h'.objs.size := by
    constructor <;> (rw [a6]; first | exact Nat.lt_of_lt_of_le k1 (Nat.le_add_right _ _) | exact Nat.lt_of_lt_of_le k2 (Nat.le_add_right _ _) | exact Nat.lt_add_of_pos_right (by decide) | exact Nat.add_lt_add_left (by decide) _)
  have p1 : ∀ b o, h'.get? b = some o → (h'.push { cls := .type "list", data := .seq #[] }).get? b = some o := fun b o e => Heap.get?_push_of_some _ e
  refine ⟨⟨_, hS, rfl⟩, PySem.F.args_list_init_2 _ _, z_init (A := A.in1) (Z := ⟨s.heap.objs.size + 4, s.heap.objs.size + 2, s.heap.objs.size + 3, s.heap.objs.size, s.heap.objs.size + 1, l1, l2⟩) (xs := xs) (ys := ys) hh D u hn ?_ (p1 _ _ a1) hS (fun h2 tk acc c as hk hS' hl hG hacc => ?_)⟩
  · exact ⟨p1 _ _ a2, a4.at fun o e => p1 _ o e, a5.at fun o e => p1 _ o e, hl1.at fun o e => p1 _ o (a7 _ o e), hl2.at fun o e => p1 _ o (a7 _ o e), .inl ⟨p1 _ _ a1, _, _, p1 _ _ a3⟩⟩
  · refine ⟨rfl, hQ h2 tk _ acc c as (by rw [a6]; omega) (fun b o e => ?_) hS' hl hG hacc⟩
    have lb := Heap.lt_size e
    have far : ∀ k : Nat, b ≠ (show Addr from s.heap.objs.size + k) := fun k => Nat.ne_of_lt (Nat.lt_of_lt_of_le lb (Nat.le_add_right _ _))
    exact hk b o (by rw [a6]; exact far 5) (far 4) (far 3) (far 0) (far 1) (p1 _ _ (a7 b o e))
end
/-! the tuples laid, one behind the other -/
def putP : Hp → List Addr → List (V × V) → Hp
  | H, a :: as, p :: ps => putP (upd H a (.tup [p.1, p.2])) as ps
  | H, _, _ => H
theorem putP_off {b : Addr} : ∀ (as : List Addr) (ps : List (V × V)) (H : Hp), b ∉ as → putP H as ps b = H b
  | [], _, _, _ => rfl
  | _ :: _, [], _, _ => rfl
  | a :: as, p :: ps, H, h => by
    show putP (upd H a (.tup [p.1, p.2])) as ps b = H b
    rw [putP_off as ps _ (fun z => h (List.mem_cons_of_mem _ z)), upd_ne (fun z => h (by rw [z]; exact List.mem_cons_self))]
theorem putP_at : ∀ (as : List Addr) (ps : List (V × V)) (H : Hp), as.length = ps.length → as.Nodup → Paired (fun (t : Addr) (p : V × V) => putP H as ps t = some (.tup [p.1, p.2])) as ps
  | [], [], _, _, _ => .nil
  | [], _ :: _, _, h, _ => by cases h
  | _ :: _, [], _, h, _ => by cases h
  | a :: as, p :: ps, H, h, hn => by
    have hn' := List.nodup_cons.mp hn
    have ih := putP_at as ps (upd H a (.tup [p.1, p.2])) (Nat.succ.inj h) hn'.2
    refine .cons ?_ ih
    show putP (upd H a (.tup [p.1, p.2])) as ps a = some (.tup [p.1, p.2])
    rw [putP_off as ps _ hn'.1, upd_same]
theorem vals_ix : ∀ {xs : List V} {us : List Value}, Vals xs us → ∀ {j : Nat} {x : V} {u : Value}, xs[j]? = some x → us[j]? = some u → RelV x u
  | _, _, .nil, j, x, u, h, _ => by cases h
  | _, _, .cons r t, 0, x, u, h, h' => by
    cases Option.some.inj h
    cases Option.some.inj h'
    exact r
  | _, _, .cons r t, j + 1, x, u, h, h' => vals_ix t h h'
def tLstZip (K : PySem.W.Frag) (ta : TA) : TE := fun σ H Q => ta σ H fun vs H1 => ∃ (a b : Addr) (xs ys : List V), vs = [.ref a, .ref b] ∧ SqL K H1 a xs ∧ SqL K H1 b ys ∧
  ∀ (p : Addr) (ts : List Addr), ts.length = (xs.zip ys).length → ts.Nodup → (∀ t ∈ ts, H1 t = none) → H1 p = none → p ∉ ts → Q (.ref p) (upd (putP H1 ts (xs.zip ys)) p (.lst (ts.map V.ref)))
section
variable {X : Cx} {ta : TA} {e1 e2 : Expr} {p p2 pos pos2 : Pos}
theorem pe_lstZip (hc : X.calm = true) (hg : Gl X "list") (hm : X.mg "list" = none) (hg2 : Gl X "zip") (hm2 : X.mg "zip" = none) (ha : PA X [e1, e2] ta)
    (hs : starEach [e1, e2] X.env = (false, eval e1 X.env) :: starEach [e2] X.env) (hpl : (backTo pos2 (starEach [e2] X.env)).any (·.1) = false)
    (hs2 : starEach [.Call (.Name "zip" p2) [e1, e2] [] pos2] X.env = (false, eval (.Call (.Name "zip" p2) [e1, e2] [] pos2) X.env) :: starEach [] X.env) :
    PE X (.Call (.Name "list" p) [.Call (.Name "zip" p2) [e1, e2] [] pos2] [] pos) (tLstZip X.K ta) := by
  refine ⟨fun pins s σ H Q I h => ?_⟩
  refine Call_ (ld_blt I hg hm boot_list (PyProof.Rows.callWith_type1 (args_cons (Call_ (ld_blt I hg2 hm2 PyProof.Rows.boot_zip (PyProof.Rows.callWith_type1 (thn (ha.run pos2 pins s σ H _ I h) fun us s1 ⟨vs, H1, I1, r1, q1⟩ => ?_) hs hpl))) hs2) hs2 rfl))
  obtain ⟨a, b, xs, ys, rfl, hx, hy, q⟩ := q1
  cases r1 with
  | cons ra r2 =>
  cases r2 with
  | cons rb r3 =>
  cases r3
  cases ra
  cases rb
  obtain ⟨i1, v1, d1, z1⟩ := I1.list hx
  obtain ⟨i2, v2, d2, z2⟩ := I1.list hy
  have e1 := v1.length
  have e2 := v2.length
  have hn : min i1.toArray.size i2.toArray.size ≤ sizeLine := by rw [List.size_toArray, List.size_toArray]; omega
  refine wpAny_mono (z_call (s := s1) (xs := i1.toArray) (ys := i2.toArray) (I1.ok.hd hc) d1.isList d2.isList hn fun h' tk S acc c as hS hk hL hl hG hacc => ?_) (fun u s2 hu => args_nil hu) fun _ _ h => h
  have hl' : as.length = (xs.zip ys).length := by rw [hl, List.length_zip, List.size_toArray, List.size_toArray]; omega
  have hSn : S ∉ as := fun z => Nat.lt_irrefl _ (hG.above _ z)
  have nd : as.Nodup := List.Pairwise.imp (fun {a b} (h : a < b) => Nat.ne_of_lt h) hG.rise
  have new : ∀ t ∈ as, H1 t = none := fun t ht => I1.hok.fresh (Nat.le_trans hS (Nat.le_of_lt (hG.above t ht)))
  have newS : H1 S = none := I1.hok.fresh hS
  have atP := putP_at as (xs.zip ys) H1 hl' nd
  refine ⟨.ref S, upd (putP H1 as (xs.zip ys)) S (.lst (as.map V.ref)), ?_, rfl, q S as hl' nd new newS hSn⟩
  have offS : ∀ b, b ≠ S → (upd (putP H1 as (xs.zip ys)) S (.lst (as.map V.ref))) b = putP H1 as (xs.zip ys) b := fun b h => upd_ne h
  have low : ∀ b o, s1.heap.get? b = some o → b ∉ as ∧ b ≠ S := fun b o e => ⟨fun z => absurd (Heap.lt_size e) (Nat.not_lt.mpr (Nat.le_trans hS (Nat.le_of_lt (hG.above b z)))), fun z => absurd (Heap.lt_size e) (Nat.not_lt.mpr (by rw [z]; exact hS))⟩
  have kp : ∀ b u, H1 b = some u → (upd (putP H1 as (xs.zip ys)) S (.lst (as.map V.ref))) b = some u := fun b u e => by
    have n1 : b ≠ S := fun z => by rw [z, newS] at e; cases e
    have n2 : b ∉ as := fun z => by rw [new b z] at e; cases e
    rw [offS b n1, putP_off as _ _ n2]
    exact e
  refine I1.call' (ch := []) rfl ⟨fun b o q _ _ _ => hk b o q, fun b o q _ _ _ => ⟨o.slots, hk b o q⟩, fun b o q n _ => ?_, fun b o q _ => ⟨o, hk b o q⟩, fun b xs q => kp b _ q, fun b o u q => kp b _ q, fun b ps q => ⟨#[], by rw [kp b _ q]; simp⟩⟩ (fun b u q => ?_) I1.bare fun b z => by simp at z
  · obtain ⟨n1, n2⟩ := low b o q
    rw [offS b n2, putP_off as _ _ n1]
    exact n
  · by_cases hb2 : b = S
    · rw [hb2] at q ⊢
      rw [upd_same] at q
      cases q
      refine ⟨by rw [List.length_map]; omega, acc.toList, c, by rw [hacc]; exact LiI.vals_refs as, ?_⟩
      rw [Array.toArray_toList]
      exact hL
    rw [offS b hb2] at q
    by_cases hb : b ∈ as
    · obtain ⟨j, pk, f1, f2, f3⟩ := paired_ix atP hb
      rw [f3] at q
      cases q
      obtain ⟨x, y, g1, g2, g3⟩ := hG.pairs j b f1
      have zz := List.getElem?_zip_eq_some.mp f2
      exact ⟨by show 2 ≤ sizeLine; decide, [x, y], .cons (vals_ix v1 zz.1 (by simpa using g1)) (.cons (vals_ix v2 zz.2 (by simpa using g2)) .nil), ⟨_, g3, rfl, _, rfl⟩⟩
    · rw [putP_off as _ _ hb] at q
      exact (I1.hok b u q).stay (fun d v _ y => hk d v y) (fun d y => kp d _ y) fun d xs y => kp d _ y
end
end DL

/-! defs called within an except suite, whose bodies neither raise nor walk: the handled refusal may be tracked -/
namespace DL
open PySem PySem.Spec PyProof.Rows L2 L2H
structure FnQ (P : Program) (w : World) (K : PySem.W.Frag) (mg : Str → Option Value) (base : Heap) (CX : CXT) (k : Nat) (f : Addr) (fd : FuncData) (ps : List Str) (sp : Sp) : Prop where
  len : ∀ vs H Q E, sp vs H Q E → vs.length = ps.length
  run : ∀ (A : Around) (outer : List Env) (s : Shared) (H : Hp) (args : Args) (us : List Value) (vs : List V) (Q : VK) (E : XK), RoomH k A → Env0 P w K mg base A outer s H → BindsTo s fd args (ps.zip us) → Vals vs us → sp vs H Q E →
    codeAny (model P w) A (.call (.ref f) args) (CR CX outer P w H s Q E) s
theorem FnQ.mono {P : Program} {w : World} {K : PySem.W.Frag} {mg : Str → Option Value} {base : Heap} {CX : CXT} {j k : Nat} {f : Addr} {fd : FuncData} {ps : List Str} {sp : Sp} (F : FnQ P w K mg base CX j f fd ps sp) (h : j ≤ k) : FnQ P w K mg base CX k f fd ps sp :=
  ⟨F.len, fun A outer s H args us vs Q E r => F.run A outer s H args us vs Q E (r.mono h)⟩
def cxQ (CX : CXT) (P : Program) (w : World) (K : PySem.W.Frag) (mg : Str → Option Value) (base : Heap) (N : List Str) (qual : Str) (scope : Scope) (f : Addr) (cd : Value) (A : Around) (outer : List Env) (s : Shared) (H : Hp) (E : XK) : Cx :=
  { cxOf CX P w K mg base N qual scope f cd A outer s H E with calm := false, pn := [] }
theorem inv_startQ {CX : CXT} {P : Program} {w : World} {K : PySem.W.Frag} {mg : Str → Option Value} {base : Heap} {N ps : List Str} {qual : Str} {scope : Scope} {f : Addr} {cd : Value} {A : Around} {outer : List Env} {s s1 : Shared} {H : Hp} {E : XK} {us : List Value} {vs : List V}
    (S : FnScope N ps scope) (e0 : Env0 P w K mg base A outer s H) (hl : vs.length = ps.length) (r : Vals vs us)
    (x : InCallC s s.heap.objs.size (bindL (envOfC qual scope s.heap.objs.size f cd).kindOf (ps.zip us) fun _ => none) (cellsFrom (s.heap.objs.size + 1) scope.names []) (bindC (envOfC qual scope s.heap.objs.size f cd).kindOf (ps.zip us) fun _ => none) s1) :
    Inv (cxQ CX P w K mg base N qual scope f cd A outer s H E) [] (L2.start N vs) H s1 := by
  have hpl : ps.length ≤ N.length := by have := congrArg List.length S.pre; rw [List.length_take] at this; omega
  obtain ⟨h1, tk, rfl, hk⟩ := x.done
  have noA : ∀ b : Addr, b ∉ (cxQ CX P w K mg base N qual scope f cd A outer s H E).ex := fun b z => absurd (show b ∈ ([] : List Addr) from z) (by simp)
  refine ⟨⟨e0.mod, S.kind, rfl, rfl, Nat.le_refl _, fun y z c h1 h2 => ?_, fun y hy => ?_, fun y c _ h => ?_, (fun z => Bool.noConfusion (show false = true from z)), Around.frames_deeper e0.frames, .inr ⟨rfl, rfl⟩, fun b z => absurd z (noA b), e0.bs, e0.bsz, fun b _ _ => noA b, fun b z => absurd z (noA b), e0.funs, e0.frf⟩,
    rfl, e0.bare, Un.kept hk, ⟨_, x.toInCall.ns, fun i y v h1 h2 h3 => ?_⟩, fun y c h => ⟨_, x.cell y c h⟩, e0.hok.fresh (Nat.le_refl _), fun y c h => ?_, fun q hq => ?_, e0.hok.kept hk, ?_⟩
  · exact name_of_addr x.apart (PySem.mem_of_lookup h1) (PySem.mem_of_lookup h2)
  · have hy : scope.names.lookup y = some .cell ∨ scope.names.lookup y = some .free := hy
    rcases hy with hy | hy
    · exact cell_has hy
    · exact absurd rfl (S.nofree _ (PySem.mem_of_lookup hy))
  · exact Nat.le_of_lt (x.above y c (PySem.mem_of_lookup h))
  · have hi : i < vs.length := by
      unfold L2.start at h2
      by_cases hi : i < vs.length
      · exact hi
      · rw [List.getElem?_append_right (by simpa using hi)] at h2
        rw [List.getElem?_replicate] at h2
        split at h2 <;> cases h2
    have ha : vs[i]? = some v := by
      unfold L2.start at h2
      rw [List.getElem?_append_left (by simpa using hi), List.getElem?_map] at h2
      cases e : vs[i]? with
      | none => rw [e] at h2; cases h2
      | some a => rw [e] at h2; cases h2; rfl
    obtain ⟨u, hu, rv⟩ := r.get ha
    have hp : ps[i]? = some y := by
      rw [← S.pre, List.getElem?_take_of_lt (by omega)]; exact h1
    have ndP : ps.Nodup := by rw [← S.pre]; exact S.nd.sublist (List.take_sublist _ _)
    refine ⟨u, rv, ?_⟩
    rcases S.par y (List.mem_of_getElem? hp) with k | k
    · exact .inl ⟨k, bindL_get ndP hp hu k⟩
    · obtain ⟨c, e⟩ := cell_has (n := s.heap.objs.size + 1) k
      refine .inr ⟨.inl k, c, e, ?_⟩
      have q := x.cell y c e
      rw [bindC_get ndP hp hu (by show scope.names.lookup y ≠ _; rw [k]; decide)] at q
      exact q
  · exact e0.hok.fresh (Nat.le_of_lt (x.above y c (PySem.mem_of_lookup h)))
  · exact absurd (show q ∈ ([] : List (Addr × Obj)) ++ ([] : List (Addr × Obj)) from hq) (by simp)
  · unfold L2.start
    show _ = N.length
    rw [List.length_append, List.length_map, List.length_replicate]
    omega
theorem fn_ofQ {CX : CXT} {P : Program} {w : World} {K : PySem.W.Frag} {mg : Str → Option Value} {base : Heap} {k : Nat} {f : Addr} {name qual : Str} {params : Arguments} {body : List Stmt} {scope : Scope} {dV kV doc pm cdv ct oc : Value} {an od : Option Addr}
    {osl : Array (Option Value)} {N ps : List Str} {sp : Sp} (lk : K.lookup f = some ⟨oc, od, .func (PySem.W.fnOf name qual params body scope dV kV doc pm an cdv ct), osl⟩) (hcd : PySem.W.codeIn K cdv qual = true) (S : FnScope N ps scope)
    (len : ∀ vs H Q E, sp vs H Q E → vs.length = ps.length)
    (hbody : ∀ (A : Around) (outer : List Env) (s : Shared) (H : Hp) (vs : List V) (Q : VK) (E : XK), RoomH k (A.deeper (envOfC qual scope s.heap.objs.size f cdv)) → sp vs H Q E →
      ∃ t, PSs (cxQ CX P w K mg base N qual scope f cdv A outer s H E) body t ∧ t { nx := fun _ H' => Q .non H', rt := Q } (L2.start N vs) H) :
    FnQ P w K mg base CX (k + 1) f (PySem.W.fnOf name qual params body scope dV kV doc pm an cdv ct) ps sp := by
  refine ⟨len, fun A outer s H args us vs Q E hr e0 hb r hsp => ?_⟩
  have hl := len _ _ _ _ hsp
  have KX : K.In s.heap := e0.mod.kin.keeps fun b o e => (e0.bs b o e).1
  have lim : s.heap.NoLimit := e0.mod.nolimit.keeps fun b o e => (e0.bs b o e).1
  have hkind : ∀ y ∈ ps.zip us, scope.names.lookup y.1 = some .local ∨ (scope.names.lookup y.1 = some .cell ∧ ((cellsFrom (s.heap.objs.size + 1) scope.names []).lookup y.1).isSome = true) := fun ⟨n, v⟩ hy => by
    rcases S.par n (List.of_mem_zip hy).1 with q | q
    · exact .inl q
    · exact .inr ⟨q, PySem.W.cellsFrom_some _ _ _ (.inl q)⟩
  refine codeAny_call_function hr.depth (KX _ _ lk) rfl S.co S.gen rfl (PySem.W.codeRec_of KX hcd) (hb _ _ _ _ ?_)
  refine wpAny_newFunctionEnv_cells S.kind hkind fun env he s1 x => ?_
  subst he
  refine ⟨lim.keeps x.toInCall.keep, codeAny_func ?_⟩
  obtain ⟨t, ht, hq⟩ := hbody A outer s H vs Q E (hr.deeper _) hsp
  have I : Inv (cxQ CX P w K mg base N qual scope f cdv A outer s H E) [] (L2.start N vs) H s1 := inv_startQ S e0 hl r x
  refine wpAny_mono (ht.run [] s1 (L2.start N vs) H _ I hq) (fun fl s' hs => ?_) fun e s' hs => hs
  have fin : ∀ {σ' : L2.St} {H' : Hp} {v : V} {u : Value}, Inv (cxQ CX P w K mg base N qual scope f cdv A outer s H E) [] σ' H' s' → RelV v u → Q v H' → CE outer P w H s Q u s' :=
    fun {σ' H' v u} J rv q => ⟨v, H', J.os, J.bare, J.base, J.hok, rv, q⟩
  cases fl with
  | ret u =>
    obtain ⟨v, σ', H', J, rv, q⟩ := hs
    exact fin J rv q
  | next =>
    obtain ⟨σ', H', J, q⟩ := hs
    exact fin (v := V.non) (u := Value.none) J rfl q
  | brk =>
    obtain ⟨_, _, _, q⟩ := hs
    exact False.elim q
  | cont =>
    obtain ⟨_, _, _, q⟩ := hs
    exact False.elim q
section
variable {X : Cx} {CX : CXT} {k : Nat} {f : Addr} {fd : FuncData} {ps : List Str} {sp : Sp} {E : L2.St → XK} {x : Str} {q pos : Pos} {e : Expr} {es : List Expr} {t : TA}
theorem run_fnQ {pins : List (Addr × Obj)} {σ : L2.St} {H : Hp} {s : Shared} {Q : VK} {us : List Value} {vs : List V} (F : FnQ X.prog X.w X.K X.mg X.base CX k f fd ps sp) (hr : RoomH k X.A) (hb : Binds X.K fd ps []) (hx : PassesAt CX X σ (E σ))
    (I : Inv X pins σ H s) (r : Vals vs us) (h : sp vs H Q (E σ)) : wpAny (model X.prog X.w) X.A (call (.ref f) us) (EP X pins σ Q) X.xe s := by
  have hl : us.length = ps.length := by rw [← r.length]; exact F.len _ _ _ _ h
  have b := hb s us I.kIn (by rw [List.append_nil]; exact hl)
  rw [List.append_nil] at b
  refine wpAny_call (codeAny_mono (F.run X.A X.stack s H ⟨us, []⟩ us vs Q (E σ) hr I.env0 b r h) fun r s' hq => ?_)
  cases r with
  | error e => exact hx pins H s e s' I hq
  | ok fl =>
    cases fl with
    | ret u => exact I.after hq
    | next => exact False.elim hq
    | brk => exact False.elim hq
    | cont => exact False.elim hq
theorem pe_callQ (F : FnQ X.prog X.w X.K X.mg X.base CX k f fd ps sp) (hr : RoomH k X.A) (hg : Gl X x) (hm : X.mg x = some (.ref f)) (hk : PySem.W.keepIn X.K (.ref f) = true) (hb : Binds X.K fd ps []) (hx : ∀ σ, PassesAt CX X σ (E σ))
    (ha : PA X (e :: es) t) (hdb : (x == ("__debug__" : Str)) = false := by decide) (he : starEach (e :: es) X.env = (false, eval e X.env) :: starEach es X.env := by rfl) (hpl : (backTo pos (starEach es X.env)).any (·.1) = false := by rfl) :
    PE X (.Call (.Name x q) (e :: es) [] pos) (tCallS sp E t) := by
  refine ⟨fun pins s σ H Q I h => ?_⟩
  refine wpAny_Call_Name_kw (ld_glob I hg hm ?_ hdb)
  refine PySem.W.callWith_K (h₀ := X.base) I.ok.mod.kin hk (thn (ha.run pos pins s σ H _ I h) fun us s1 ⟨vs, H1, I1, r, q⟩ => ⟨I1.kIn, ?_⟩) he hpl
  exact run_fnQ F hr hb (hx σ) I1 r q
end
theorem okQ {P : Program} {w : World} {K : PySem.W.Frag} {mg : Str → Option Value} {base : Heap} {CX : CXT} {x qual : Str} {st : Stmt} {f : Addr} {fd : FuncData} {N ps : List Str} {k : Nat} {sp : Sp} (F : Fun K x qual st f fd) (S : FnScope N ps (defScope st)) (len : ∀ vs H Q E, sp vs H Q E → vs.length = ps.length)
    (hbody : ∀ (cdv : Value) (A : Around) (outer : List Env) (s : Shared) (H : Hp) (vs : List V) (Q : VK) (E : XK), RoomH k (A.deeper (envOfC qual (defScope st) s.heap.objs.size f cdv)) → sp vs H Q E →
      ∃ t, PSs (cxQ CX P w K mg base N qual (defScope st) f cdv A outer s H E) (defBody st) t ∧ t { nx := fun _ H' => Q .non H', rt := Q } (L2.start N vs) H) : FnQ P w K mg base CX (k + 1) f fd ps sp := by
  obtain ⟨oc, od, kV, doc, pm, an, cdv, ct, osl, rfl, lk, hcd⟩ := F.ex
  exact fn_ofQ lk hcd S len fun A outer s H vs Q E hr hsp => hbody cdv A outer s H vs Q E hr hsp
end DL

/-! a dict of the module's top, read -/
namespace DL
open PySem PySem.Spec PyProof.Rows L2
def ModD (P : Program) (w : World) (K : PySem.W.Frag) (a : Addr) (us : List (Key × Value)) : Prop := (a == sysModules) = false ∧ ∀ h : Heap, K.In h → h.DictOf (mixKind P w) a us
section
variable {X : Cx} {o i : Expr} {pos : Pos} {td ty : TE}
def tMGet (X : Cx) (td ty : TE) : TE := fun σ H Q => td σ H fun x H1 => ty σ H1 fun y H2 => ∃ a us k w v, x = .ref a ∧ ModD X.prog X.w X.K a us ∧ y = kV k ∧ valueAt us k = some w ∧ RelV v w ∧ Q v H2
theorem pe_mget (ho : PE X o td) (hi : PE X i ty) (hs : NoSl i) : PE X (.Subscript o i pos) (tMGet X td ty) := by
  refine ⟨fun pins s σ H Q I h => ?_⟩
  refine subD_of PySem.F.slot_dict_getitem.lookup hs (thn (ho.run pins s σ H _ I h) fun u s1 ⟨x, H1, I1, rx, q1⟩ => thn (hi.run pins s1 σ H1 _ I1 q1) fun iv s2 ⟨y, H2, I2, ry, a, us, k, w', v, ex, m, ey, hv, rv, q2⟩ => ?_)
  subst ex ey
  obtain rfl : u = Value.ref a := rx
  have dd := m.2 _ I2.kIn
  exact ⟨dd.typeIs, wpAny_getItem_of (kV_is ry) dd.mapOf hv ⟨v, H2, I2.tok _, rv, q2⟩⟩
def tMIn (X : Cx) (b : Bool) (ty td : TE) : TE := fun σ H Q => ty σ H fun y H1 => td σ H1 fun x H2 => ∃ a us k, x = .ref a ∧ ModD X.prog X.w X.K a us ∧ y = kV k ∧ Q (.bl ((valueAt us k).isSome == b)) H2
theorem pc_min (hi : PE X i ty) (ho : PE X o td) : PC X .In i o (tMIn X true ty td) := by
  refine ⟨fun pins s σ H Q I h => ?_⟩
  refine thn (hi.run pins s σ H _ I h) fun iv s1 ⟨y, H1, I1, ry, q1⟩ => thn (ho.run pins s1 σ H1 _ I1 q1) fun u s2 ⟨x, H2, I2, rx, a, us, k, ex, m, ey, q2⟩ => ?_
  subst ex ey
  obtain rfl : u = Value.ref a := rx
  have dd := m.2 _ I2.kIn
  rw [show ∀ b : Bool, (b == true) = b by decide] at q2
  exact wpAny_in_of (kV_is ry) m.1 dd.mapOf ⟨.bl _, H2, I2.tok _, rfl, q2⟩
theorem pc_mnotin (hi : PE X i ty) (ho : PE X o td) : PC X .NotIn i o (tMIn X false ty td) := by
  refine ⟨fun pins s σ H Q I h => ?_⟩
  refine thn (hi.run pins s σ H _ I h) fun iv s1 ⟨y, H1, I1, ry, q1⟩ => thn (ho.run pins s1 σ H1 _ I1 q1) fun u s2 ⟨x, H2, I2, rx, a, us, k, ex, m, ey, q2⟩ => ?_
  subst ex ey
  obtain rfl : u = Value.ref a := rx
  have dd := m.2 _ I2.kIn
  rw [show ∀ b : Bool, (b == false) = !b by decide] at q2
  exact wpAny_notIn_of (kV_is ry) m.1 dd.mapOf ⟨.bl _, H2, I2.tok _, rfl, q2⟩
end
def tCallLS (i : Nat) (f : Addr) (sp : Sp) (E : L2.St → XK) (t : TA) : TE := fun σ H Q => σ[i]? = some (some (.ref f)) ∧ t σ H fun vs H1 => sp vs H1 Q (E σ)
section
variable {X : Cx} {CX : CXT} {k i : Nat} {f : Addr} {fd : FuncData} {ps : List Str} {sp : Sp} {E : L2.St → XK} {x : Str} {p pos : Pos} {e : Expr} {es : List Expr} {t : TA}
theorem pe_callLS (F : FnOk X.prog X.w X.K X.mg X.base CX k f fd ps sp) (hr : Room k X.A) (hN : X.N[i]? = some x) (hv : Vis X.env.scope x) (hk : PySem.W.keepIn X.K (.ref f) = true) (hb : Binds X.K fd ps []) (hx : ∀ σ, PassesAt CX X σ (E σ)) (ha : PA X (e :: es) t)
    (hdb : (x == ("__debug__" : Str)) = false) (hcd : (x == ("__classdict__" : Str)) = false)
    (he : starEach (e :: es) X.env = (false, eval e X.env) :: starEach es X.env) (hpl : (backTo pos (starEach es X.env)).any (·.1) = false) : PE X (.Call (.Name x p) (e :: es) [] pos) (tCallLS i f sp E t) := by
  refine ⟨fun pins s σ H Q I h => ?_⟩
  obtain ⟨hs, ht⟩ := h
  refine wpAny_Call_Name_kw (thn ((pe_var (pos := p) hN hv hdb hcd).run pins s σ H (fun v H1 => v = .ref f ∧ H1 = H) I ⟨.ref f, hs, rfl, rfl⟩) fun u s1 ⟨v, H1, I1, r1, q1⟩ => ?_)
  obtain ⟨rfl, rfl⟩ := q1
  cases r1
  refine PySem.W.callWith_K (h₀ := X.base) I.ok.mod.kin hk (thn (ha.run pos pins s1 σ _ _ I1 ht) fun us s2 ⟨vs, H2, I2, r, q⟩ => ⟨I2.kIn, ?_⟩) he hpl
  exact run_fnSD F hr hb .nil (hx σ) I2 r (by rw [List.append_nil]; exact q)
/-- what the top's names stand for is known where a piece runs -/
theorem pe_ns {y : Str} {v : Value} {e : Expr} {t : TE} (hC : PySem.W.nsIn X.K mainGlobals y = some (some v)) (h : X.mg y = some v → PE X e t) : PE X e t :=
  ⟨fun pins s σ H Q I hq => (h (PySem.W.mg_of I.ok.mod.kin I.ok.mod.glob hC)).run pins s σ H Q I hq⟩
end
end DL

namespace DL
open PySem PySem.Spec PyProof.Rows L2

/-! ### data: immutable trees, and names of mutable objects -/
inductive D where
  | non
  | bl (b : Bool)
  | int (i : Int)
  | str (x : Str)
  | tup (xs : List D)
  | lst (xs : List D)
  | klst (xs : List D)
  | obj (a : Addr)
  | op (v : V)
  | dic
  | dic0
  | cls (x : Str) (t : Bool)
  | exc (x : Str) (ns : List Str) (ds : List D)
  | ins (x : Str) (ns : List Str) (ds : List D)
  /-- a dict of the module's top: read by its name alone -/
  | dkk (ks : List Key) (ds : List D)
  | dct (ks : List (List Key)) (ds : List D)
instance : Inhabited D := ⟨.non⟩

/-- the class that stands at the top under a name -/
def clsAt (K : PySem.W.Frag) (x : Str) (C : Addr) : Prop := PySem.W.nsIn K mainGlobals x = some (some (.ref C))
theorem clsAt_one {K : PySem.W.Frag} {x : Str} {C C' : Addr} (h : clsAt K x C) (h' : clsAt K x C') : C = C' := by
  have e := h.symm.trans h'
  cases e
  rfl
/-- a caught exception that is kept -/
def exv (a : Addr) (c : Value) (d : Option Addr) : HO := .ext fun h => ∃ oe vs, h.get? a = some oe ∧ oe.cls = c ∧ oe.dict = d ∧ oe.data = .fields vs
mutual
inductive Rep (K : PySem.W.Frag) (F : Hp) : D → V → Prop
  | non : Rep K F .non .non
  | bl (b : Bool) : Rep K F (.bl b) (.bl b)
  | int (i : Int) : Rep K F (.int i) (.int i)
  | str (x : Str) : Rep K F (.str x) (.str x)
  | tup {a : Addr} {vs : List V} {ds : List D} : SqT K F a vs → Reps K F ds vs → Rep K F (.tup ds) (.ref a)
  | lst {a : Addr} {vs : List V} {ds : List D} : F a = some (.lst vs) → Reps K F ds vs → Rep K F (.lst ds) (.ref a)
  | klst {a : Addr} {vs : List V} {ds : List D} : SqL K F a vs → Reps K F ds vs → Rep K F (.klst ds) (.ref a)
  | obj (a : Addr) : Rep K F (.obj a) (.ref a)
  | op (v : V) : Rep K F (.op v) v
  | dic {a : Addr} {kvs : List (Key × V)} : F a = some (.dK kvs) → Rep K F .dic (.ref a)
  | dic0 {a : Addr} : F a = some (.dK []) → Rep K F .dic0 (.ref a)
  | cls {x : Str} {t : Bool} {C : Addr} : clsAt K x C → Rep K F (.cls x t) (.ref C)
  | exc0 {x : Str} {a C : Addr} : clsAt K x C → F a = some (exv a (.ref C) none) → Rep K F (.exc x [] []) (.ref a)
  | exc {x : Str} {a C d : Addr} {vs : List V} {ns : List Str} {ds : List D} : clsAt K x C → F a = some (exv a (.ref C) (some d)) → F d = some (.xd (ns.zip vs)) → ns.length = vs.length → Reps K F ds vs → Rep K F (.exc x ns ds) (.ref a)
  | ins {x : Str} {a C d : Addr} {vs : List V} {ns : List Str} {ds : List D} : clsAt K x C → F a = some (.ins C d (ns.zip vs)) → ns.length = vs.length → Reps K F ds vs → Rep K F (.ins x ns ds) (.ref a)
  | dkk (ks : List Key) (ds : List D) (v : V) : Rep K F (.dkk ks ds) v
  | dct {a : Addr} {vs : List V} {ks : List (List Key)} {ds : List D} : F a = some (.dT (ks.zip vs)) → ks.length = vs.length → Reps K F ds vs → Rep K F (.dct ks ds) (.ref a)
inductive Reps (K : PySem.W.Frag) (F : Hp) : List D → List V → Prop
  | nil : Reps K F [] []
  | cons {d : D} {ds : List D} {v : V} {vs : List V} : Rep K F d v → Reps K F ds vs → Reps K F (d :: ds) (v :: vs)
end

theorem rd_mono {F F' : Hp} {a : Addr} {u : HO} (h : Same F F') (r : Rd F a u) : Rd F' a u := by
  rcases r with r | ⟨o, r⟩
  · exact .inl (h _ _ r)
  · exact .inr ⟨o, h _ _ r⟩
theorem sqT_mono {K : PySem.W.Frag} {F F' : Hp} {a : Addr} {xs : List V} (h : Same F F') (r : SqT K F a xs) : SqT K F' a xs := by
  rcases r with r | r
  · exact .inl (rd_mono h r)
  · exact .inr r
theorem sqL_mono {K : PySem.W.Frag} {F F' : Hp} {a : Addr} {xs : List V} (h : Same F F') (r : SqL K F a xs) : SqL K F' a xs := by
  rcases r with r | r
  · exact .inl (rd_mono h r)
  · exact .inr r
mutual
theorem Rep.mono {K : PySem.W.Frag} {F F' : Hp} (h : Same F F') : ∀ {d : D} {v : V}, Rep K F d v → Rep K F' d v
  | _, _, .non => .non
  | _, _, .bl b => .bl b
  | _, _, .int i => .int i
  | _, _, .str x => .str x
  | _, _, .tup a r => .tup (sqT_mono h a) (Reps.mono h r)
  | _, _, .lst a r => .lst (h _ _ a) (Reps.mono h r)
  | _, _, .klst a r => .klst (sqL_mono h a) (Reps.mono h r)
  | _, _, .obj a => .obj a
  | _, _, .op v => .op v
  | _, _, .dic a => .dic (h _ _ a)
  | _, _, .dic0 a => .dic0 (h _ _ a)
  | _, _, .cls c => .cls c
  | _, _, .exc0 c a => .exc0 c (h _ _ a)
  | _, _, .exc c a d l r => .exc c (h _ _ a) (h _ _ d) l (Reps.mono h r)
  | _, _, .ins c a l r => .ins c (h _ _ a) l (Reps.mono h r)
  | _, _, .dkk ks ds v => .dkk ks ds v
  | _, _, .dct a l r => .dct (h _ _ a) l (Reps.mono h r)
theorem Reps.mono {K : PySem.W.Frag} {F F' : Hp} (h : Same F F') : ∀ {ds : List D} {vs : List V}, Reps K F ds vs → Reps K F' ds vs
  | _, _, .nil => .nil
  | _, _, .cons a r => .cons (Rep.mono h a) (Reps.mono h r)
end
section
variable {K : PySem.W.Frag} {F F' G H H' : Hp}
theorem Reps.length : ∀ {ds : List D} {vs : List V}, Reps K F ds vs → ds.length = vs.length
  | _, _, .nil => rfl
  | _, _, .cons _ r => by rw [List.length_cons, List.length_cons, Reps.length r]
theorem Reps.get : ∀ {ds : List D} {vs : List V} {i : Nat} {d : D}, Reps K F ds vs → ds[i]? = some d → ∃ v, vs[i]? = some v ∧ Rep K F d v
  | _, _, _, _, .nil, h => by simp at h
  | _, _, 0, _, .cons a r, h => by
    simp at h; subst h; exact ⟨_, rfl, a⟩
  | _, _, i + 1, _, .cons a r, h => by
    obtain ⟨v, h1, h2⟩ := Reps.get (i := i) r (by simpa using h)
    exact ⟨v, by simpa using h1, h2⟩
theorem Reps.get' : ∀ {ds : List D} {vs : List V} {i : Nat} {v : V}, Reps K F ds vs → vs[i]? = some v → ∃ d, ds[i]? = some d ∧ Rep K F d v
  | _, _, _, _, .nil, h => by simp at h
  | _, _, 0, _, .cons a r, h => by
    simp at h; subst h; exact ⟨_, rfl, a⟩
  | _, _, i + 1, _, .cons a r, h => by
    obtain ⟨v, h1, h2⟩ := Reps.get' (i := i) r (by simpa using h)
    exact ⟨v, by simpa using h1, h2⟩
theorem Reps.append : ∀ {ds es : List D} {vs us : List V}, Reps K F ds vs → Reps K F es us → Reps K F (ds ++ es) (vs ++ us)
  | _, _, _, _, .nil, s => s
  | _, _, _, _, .cons a r, s => .cons a (Reps.append r s)
theorem Reps.take : ∀ {ds : List D} {vs : List V} (n : Nat), Reps K F ds vs → Reps K F (ds.take n) (vs.take n)
  | _, _, 0, _ => .nil
  | _, _, _ + 1, .nil => .nil
  | _, _, n + 1, .cons a r => .cons a (Reps.take n r)
theorem Reps.drop : ∀ {ds : List D} {vs : List V} (n : Nat), Reps K F ds vs → Reps K F (ds.drop n) (vs.drop n)
  | _, _, 0, r => r
  | _, _, _ + 1, .nil => .nil
  | _, _, n + 1, .cons _ r => Reps.drop n r
theorem Reps.set : ∀ {ds : List D} {vs : List V} {d : D} {v : V} (n : Nat), Rep K F d v → Reps K F ds vs → Reps K F (ds.set n d) (vs.set n v)
  | _, _, _, _, _, _, .nil => .nil
  | _, _, _, _, 0, a, .cons _ r => .cons a r
  | _, _, _, _, n + 1, a, .cons b r => .cons b (Reps.set n a r)
theorem Reps.rev {ds : List D} {vs : List V} (r : Reps K F ds vs) : Reps K F ds.reverse vs.reverse := by
  induction ds generalizing vs with
  | nil => cases r; exact .nil
  | cons d ds ih =>
    cases r with
    | cons a r =>
      rw [List.reverse_cons, List.reverse_cons]
      exact (ih r).append (.cons a .nil)
theorem Reps.replicate {d : D} {v : V} (a : Rep K F d v) : ∀ n, Reps K F (List.replicate n d) (List.replicate n v)
  | 0 => .nil
  | n + 1 => .cons a (Reps.replicate a n)
theorem Reps.flat {ds : List D} {vs : List V} (r : Reps K F ds vs) : ∀ n, Reps K F (List.replicate n ds).flatten (List.replicate n vs).flatten
  | 0 => .nil
  | n + 1 => by
    rw [List.replicate_succ, List.replicate_succ, List.flatten_cons, List.flatten_cons]
    exact r.append (Reps.flat r n)
theorem Reps.ints : ∀ (ns : List Int), Reps K F (ns.map D.int) (ns.map V.int)
  | [] => .nil
  | n :: ns => .cons (.int n) (Reps.ints ns)
theorem Reps.eraseIdx : ∀ {ds : List D} {vs : List V} (n : Nat), Reps K F ds vs → Reps K F (ds.eraseIdx n) (vs.eraseIdx n)
  | _, _, _, .nil => .nil
  | _, _, 0, .cons _ r => r
  | _, _, n + 1, .cons a r => .cons a (Reps.eraseIdx n r)
end

/-! ### mutable objects -/
/-- pairs of a dict with keys that are whole numbers or texts -/
inductive KReps {κ : Type} (K : PySem.W.Frag) (F : Hp) : List (κ × D) → List (κ × V) → Prop
  | nil : KReps K F [] []
  | cons {k : κ} {d : D} {v : V} {r : List (κ × D)} {s : List (κ × V)} : Rep K F d v → KReps K F r s → KReps K F ((k, d) :: r) ((k, v) :: s)
theorem KReps.mono {κ : Type} {K : PySem.W.Frag} {F F' : Hp} (h : Same F F') {r : List (κ × D)} {s : List (κ × V)} (x : KReps K F r s) : KReps K F' r s := by
  induction x with
  | nil => exact .nil
  | cons a _ ih => exact .cons (a.mono h) ih
theorem KReps.len {κ : Type} {K : PySem.W.Frag} {F : Hp} {r : List (κ × D)} {s : List (κ × V)} (x : KReps K F r s) : r.length = s.length := by
  induction x with
  | nil => rfl
  | cons a _ ih => rw [List.length_cons, List.length_cons, ih]
def dgetD {κ : Type} [DecidableEq κ] : List (κ × D) → κ → Option D
  | [], _ => none
  | (j, d) :: r, k => if j = k then some d else dgetD r k
def dputD {κ : Type} [DecidableEq κ] (r : List (κ × D)) (k : κ) (d : D) : List (κ × D) :=
  if (dgetD r k).isSome = true then r.map (fun p => if p.1 = k then (p.1, d) else p) else r ++ [(k, d)]
theorem KReps.get {κ : Type} [DecidableEq κ] {K : PySem.W.Frag} {F : Hp} {r : List (κ × D)} {s : List (κ × V)} (x : KReps K F r s) (k : κ) : (dgetD r k = none ∧ valV s k = none) ∨ ∃ d v, dgetD r k = some d ∧ valV s k = some v ∧ Rep K F d v := by
  induction x with
  | nil => exact .inl ⟨rfl, rfl⟩
  | @cons j d v r s a _ ih =>
    by_cases e : j = k
    · exact .inr ⟨d, v, by unfold dgetD; rw [if_pos e], valV_pos e, a⟩
    · unfold dgetD
      rw [if_neg e, valV_neg e]
      exact ih
theorem KReps.some {κ : Type} [DecidableEq κ] {K : PySem.W.Frag} {F : Hp} {r : List (κ × D)} {s : List (κ × V)} (x : KReps K F r s) (k : κ) : (dgetD r k).isSome = (valV s k).isSome := by
  rcases x.get k with ⟨e1, e2⟩ | ⟨d, v, e1, e2, _⟩ <;> rw [e1, e2] <;> rfl
theorem KReps.map {κ : Type} [DecidableEq κ] {K : PySem.W.Frag} {F : Hp} {k : κ} {d : D} {v : V} (a : Rep K F d v) {r : List (κ × D)} {s : List (κ × V)} (x : KReps K F r s) : KReps K F (r.map fun p => if p.1 = k then (p.1, d) else p) (s.map fun p => if p.1 = k then (p.1, v) else p) := by
  induction x with
  | nil => exact .nil
  | @cons j d' v' r s a' _ ih =>
    rw [List.map_cons, List.map_cons]
    by_cases e : j = k
    · rw [if_pos e, if_pos e]
      exact .cons a ih
    · rw [if_neg e, if_neg e]
      exact .cons a' ih
theorem KReps.snoc {κ : Type} {K : PySem.W.Frag} {F : Hp} {k : κ} {d : D} {v : V} (a : Rep K F d v) {r : List (κ × D)} {s : List (κ × V)} (x : KReps K F r s) : KReps K F (r ++ [(k, d)]) (s ++ [(k, v)]) := by
  induction x with
  | nil => exact .cons a .nil
  | cons a' _ ih => exact .cons a' ih
theorem KReps.put {κ : Type} [DecidableEq κ] {K : PySem.W.Frag} {F : Hp} {r : List (κ × D)} {s : List (κ × V)} (x : KReps K F r s) (k : κ) {d : D} {v : V} (a : Rep K F d v) : KReps K F (dputD r k d) (L2.putK s k v) := by
  unfold dputD L2.putK
  rw [x.some k, valV_any]
  split
  · exact x.map a
  · exact x.snoc a
theorem kreps_zip {κ : Type} {K : PySem.W.Frag} {F : Hp} : ∀ {ks : List κ} {ds : List D} {vs : List V}, ks.length = vs.length → Reps K F ds vs → KReps K F (ks.zip ds) (ks.zip vs)
  | [], _, _, _, _ => .nil
  | _ :: _, _, [], h, _ => by cases h
  | k :: ks, _, v :: vs, h, .cons a r => .cons a (kreps_zip (by simpa using h) r)
inductive MO where
  | dic (kds : List (Key × D))
  | dct (kds : List (List Key × D))
  | lst (ds : List D)
  | ins (x : Str) (ns : List Str) (ds : List D)
abbrev Mu := List (Addr × MO)
inductive MOk (K : PySem.W.Frag) (F : Hp) : MO → HO → Prop
  | dic {kds : List (Key × D)} {kvs : List (Key × V)} (r : KReps K F kds kvs) : MOk K F (.dic kds) (.dK kvs)
  | dct {kds : List (List Key × D)} {kvs : List (List Key × V)} (r : KReps K F kds kvs) : MOk K F (.dct kds) (.dT kvs)
  | lst {ds : List D} {vs : List V} (r : Reps K F ds vs) : MOk K F (.lst ds) (.lst vs)
  | ins {x : Str} {C d : Addr} {ns : List Str} {ds : List D} {vs : List V} (c : clsAt K x C) (l : ns.length = vs.length) (r : Reps K F ds vs) : MOk K F (.ins x ns ds) (.ins C d (ns.zip vs))
theorem MOk.mono {K : PySem.W.Frag} {F F' : Hp} (h : Same F F') {m : MO} {o : HO} (x : MOk K F m o) : MOk K F' m o := by
  cases x with
  | dic r => exact .dic (r.mono h)
  | dct r => exact .dct (r.mono h)
  | lst r => exact .lst (r.mono h)
  | ins c l r => exact .ins c l (r.mono h)
theorem MOk.ins_inv {K : PySem.W.Frag} {F : Hp} {x : Str} {ns : List Str} {ds : List D} {o : HO} (h : MOk K F (.ins x ns ds) o) : ∃ C d vs, o = .ins C d (ns.zip vs) ∧ clsAt K x C ∧ ns.length = vs.length ∧ Reps K F ds vs := by
  cases h with
  | ins c l r => exact ⟨_, _, _, rfl, c, l, r⟩
theorem MOk.dic_inv {K : PySem.W.Frag} {F : Hp} {kds : List (Key × D)} {o : HO} (h : MOk K F (.dic kds) o) : ∃ kvs, o = .dK kvs ∧ KReps K F kds kvs := by
  cases h with
  | dic r => exact ⟨_, rfl, r⟩
theorem MOk.dct_inv {K : PySem.W.Frag} {F : Hp} {kds : List (List Key × D)} {o : HO} (h : MOk K F (.dct kds) o) : ∃ kvs, o = .dT kvs ∧ KReps K F kds kvs := by
  cases h with
  | dct r => exact ⟨_, rfl, r⟩
theorem MOk.lst_inv {K : PySem.W.Frag} {F : Hp} {ds : List D} {o : HO} (h : MOk K F (.lst ds) o) : ∃ vs, o = .lst vs ∧ Reps K F ds vs := by
  cases h with
  | lst r => exact ⟨_, rfl, r⟩
/-- F: what is read and stays; G: what stays; mu: what may change -/
structure Ag (K : PySem.W.Frag) (F G : Hp) (μ : Mu) (H : Hp) : Prop where
  f : Same F H
  g : Same G H
  fg : ∀ a, F a = none ∨ G a = none
  own : ∀ x ∈ μ, F x.1 = none ∧ G x.1 = none ∧ ∃ o, H x.1 = some o ∧ MOk K F x.2 o
  nd : (μ.map (·.1)).Nodup
def Mu.get (μ : Mu) (a : Addr) : Option MO := μ.lookup a
def Mu.put : Mu → Addr → MO → Mu
  | [], _, _ => []
  | (b, m) :: r, a, o => if b = a then (b, o) :: r else (b, m) :: Mu.put r a o
theorem Mu.put_keys : ∀ (μ : Mu) (a : Addr) (o : MO), (Mu.put μ a o).map (·.1) = μ.map (·.1)
  | [], _, _ => rfl
  | (b, m) :: r, a, o => by
    unfold Mu.put
    split
    · rfl
    · rw [List.map_cons, List.map_cons, Mu.put_keys r a o]
theorem Mu.mem_of_get : ∀ {μ : Mu} {a : Addr} {m : MO}, Mu.get μ a = some m → (a, m) ∈ μ
  | [], _, _, h => by cases h
  | (b, n) :: r, a, m, h => by
    unfold Mu.get at h
    rw [List.lookup_cons] at h
    by_cases e : a = b
    · subst e
      rw [beq_self_eq_true] at h
      cases h
      exact List.mem_cons_self
    · rw [beq_eq_false_iff_ne.mpr e] at h
      exact List.mem_cons_of_mem _ (Mu.mem_of_get h)
theorem Mu.mem_put : ∀ {μ : Mu} {a : Addr} {o : MO} {x : Addr × MO}, (μ.map (·.1)).Nodup → x ∈ Mu.put μ a o → (x.1 = a ∧ x.2 = o) ∨ (x ∈ μ ∧ x.1 ≠ a)
  | [], _, _, _, _, h => by cases h
  | (b, n) :: r, a, o, x, nd, h => by
    unfold Mu.put at h
    have nd' := List.nodup_cons.mp nd
    split at h
    · rename_i e
      subst e
      rcases List.mem_cons.mp h with rfl | h
      · exact .inl ⟨rfl, rfl⟩
      · refine .inr ⟨List.mem_cons_of_mem _ h, fun z => ?_⟩
        exact nd'.1 (by rw [← z]; exact List.mem_map_of_mem (f := (·.1)) h)
    · rename_i e
      rcases List.mem_cons.mp h with rfl | h
      · exact .inr ⟨List.mem_cons_self, e⟩
      · rcases Mu.mem_put nd'.2 h with q | ⟨q1, q2⟩
        · exact .inl q
        · exact .inr ⟨List.mem_cons_of_mem _ q1, q2⟩
section
variable {K : PySem.W.Frag} {F F' G H H' : Hp} {μ μ' : Mu} {p a : Addr} {o : HO} {m : MO}
theorem same_upd {H : Hp} {p : Addr} {o : HO} (h : H p = none) : Same H (upd H p o) := fun b x e => by
  rw [upd_ne (ne_of_none e h)]
  exact e
theorem none_of_same (h : Same F H) (n : H p = none) : F p = none := h.free n
theorem Ag.fresh (A : Ag K F G μ H) (n : H p = none) : ∀ x ∈ μ, x.1 ≠ p := fun x hx z => by
  obtain ⟨_, _, o, ho, _⟩ := A.own x hx
  rw [z, n] at ho
  cases ho
/-- a new thing that is read and stays -/
theorem Ag.laid (A : Ag K F G μ H) (n : H p = none) : Ag K (upd F p o) G μ (upd H p o) where
  f := fun b x e => by
    unfold upd at e ⊢
    split
    · rename_i z; rw [if_pos z] at e; exact e
    · rename_i z; rw [if_neg z] at e; exact A.f b x e
  g := fun b x e => same_upd n b x (A.g b x e)
  fg := fun b => by
    by_cases z : b = p
    · subst z; exact .inr (none_of_same A.g n)
    · rw [upd_ne z]; exact A.fg b
  own := fun x hx => by
    obtain ⟨h1, h2, o', h3, h4⟩ := A.own x hx
    have ne := A.fresh n x hx
    refine ⟨by rw [upd_ne ne]; exact h1, h2, o', by rw [upd_ne ne]; exact h3, h4.mono (same_upd (none_of_same A.f n))⟩
  nd := A.nd
theorem Ag.laidF (A : Ag K F G μ H) (n : H p = none) : Same F (upd F p o) := same_upd (none_of_same A.f n)
/-- a new object of one's own -/
theorem Ag.new (A : Ag K F G μ H) (n : H p = none) (r : MOk K F m o) : Ag K F G ((p, m) :: μ) (upd H p o) where
  f := fun b x e => same_upd n b x (A.f b x e)
  g := fun b x e => same_upd n b x (A.g b x e)
  fg := A.fg
  own := fun x hx => by
    rcases List.mem_cons.mp hx with rfl | hx
    · exact ⟨none_of_same A.f n, none_of_same A.g n, o, upd_same, r⟩
    · obtain ⟨h1, h2, o', h3, h4⟩ := A.own x hx
      exact ⟨h1, h2, o', by rw [upd_ne (A.fresh n x hx)]; exact h3, h4⟩
  nd := by
    rw [List.map_cons, List.nodup_cons]
    refine ⟨fun z => ?_, A.nd⟩
    obtain ⟨x, hx, e⟩ := List.mem_map.mp z
    exact A.fresh n x hx e
theorem Ag.at (A : Ag K F G μ H) (h : Mu.get μ a = some m) : ∃ o, H a = some o ∧ MOk K F m o := by
  obtain ⟨_, _, o, h3, h4⟩ := A.own (a, m) (Mu.mem_of_get h)
  exact ⟨o, h3, h4⟩
theorem Ag.put (A : Ag K F G μ H) {m' : MO} (h : Mu.get μ a = some m') (r : MOk K F m o) : Ag K F G (Mu.put μ a m) (upd H a o) := by
  have hm := Mu.mem_of_get h
  obtain ⟨na, nb, _⟩ := A.own (a, m') hm
  refine ⟨fun b x e => ?_, fun b x e => ?_, A.fg, fun x hx => ?_, ?_⟩
  · rw [upd_ne (ne_of_none e na)]; exact A.f b x e
  · rw [upd_ne (ne_of_none e nb)]; exact A.g b x e
  · rcases Mu.mem_put A.nd hx with ⟨e1, e2⟩ | ⟨h1, h2⟩
    · rw [e1, e2]; exact ⟨na, nb, o, upd_same, r⟩
    · obtain ⟨q1, q2, o', q3, q4⟩ := A.own x h1
      exact ⟨q1, q2, o', by rw [upd_ne h2]; exact q3, q4⟩
  · rw [Mu.put_keys]; exact A.nd
/-- fewer objects of one's own (another order) -/
theorem Ag.sub (A : Ag K F G μ H) (h : ∀ x ∈ μ', x ∈ μ) (nd : (μ'.map (·.1)).Nodup) : Ag K F G μ' H := ⟨A.f, A.g, A.fg, fun x hx => A.own x (h x hx), nd⟩
/-- an object of one's own changes no more -/
theorem Ag.freeze {ds : List D} (A : Ag K F G ((a, .lst ds) :: μ) H) : ∃ vs, Ag K (upd F a (.lst vs)) G μ H ∧ Same F (upd F a (.lst vs)) ∧ Rep K (upd F a (.lst vs)) (.lst ds) (.ref a) := by
  obtain ⟨na, nb, o, ho, r⟩ := A.own _ List.mem_cons_self
  obtain ⟨vs, rfl, rr⟩ := r.lst_inv
  have s1 : Same F (upd F a (.lst vs)) := same_upd na
  have nd := List.nodup_cons.mp A.nd
  have ne : ∀ x ∈ μ, x.1 ≠ a := fun x hx z => nd.1 (by rw [← z]; exact List.mem_map_of_mem (f := (·.1)) hx)
  refine ⟨vs, ⟨fun b x e => ?_, A.g, fun b => ?_, fun x hx => ?_, nd.2⟩, s1, .lst upd_same (Reps.mono s1 rr)⟩
  · unfold upd at e
    split at e
    · rename_i z; subst z; cases e; exact ho
    · exact A.f b x e
  · by_cases z : b = a
    · subst z; exact .inr nb
    · rw [upd_ne z]; exact A.fg b
  · obtain ⟨h1, h2, o', h3, h4⟩ := A.own x (List.mem_cons_of_mem _ hx)
    exact ⟨by rw [upd_ne (ne x hx)]; exact h1, h2, o', h3, h4.mono s1⟩
/-- an instance of one's own changes no more -/
theorem Ag.freezeI {x : Str} {ns : List Str} {ds : List D} (A : Ag K F G ((a, .ins x ns ds) :: μ) H) : ∃ F', Ag K F' G μ H ∧ Same F F' ∧ Rep K F' (.ins x ns ds) (.ref a) := by
  obtain ⟨na, nb, o, ho, r⟩ := A.own _ List.mem_cons_self
  obtain ⟨C, d, vs, rfl, hc, hl, rr⟩ := r.ins_inv
  have s1 : Same F (upd F a (.ins C d (ns.zip vs))) := same_upd na
  have nd := List.nodup_cons.mp A.nd
  have ne : ∀ x ∈ μ, x.1 ≠ a := fun x hx z => nd.1 (by rw [← z]; exact List.mem_map_of_mem (f := (·.1)) hx)
  refine ⟨upd F a (.ins C d (ns.zip vs)), ⟨fun b x e => ?_, A.g, fun b => ?_, fun x hx => ?_, nd.2⟩, s1, .ins hc upd_same hl (Reps.mono s1 rr)⟩
  · unfold upd at e
    split at e
    · rename_i z; subst z; cases e; exact ho
    · exact A.f b x e
  · by_cases z : b = a
    · subst z; exact .inr nb
    · rw [upd_ne z]; exact A.fg b
  · obtain ⟨h1, h2, o', h3, h4⟩ := A.own x (List.mem_cons_of_mem _ hx)
    exact ⟨by rw [upd_ne (ne x hx)]; exact h1, h2, o', h3, h4.mono s1⟩
/-- some objects are handed on, the others wait in the frame -/
def over (G : Hp) (μ : Mu) (H : Hp) : Hp := fun a => if a ∈ μ.map (·.1) then H a else G a
theorem Ag.lend {μr : Mu} (A : Ag K F G (μ ++ μr) H) : Ag K F (over G μr H) μ H := by
  have nd := A.nd
  rw [List.map_append, List.nodup_append] at nd
  have fre : ∀ b ∈ μr.map (·.1), F b = none ∧ G b = none := fun b hb => by
    obtain ⟨x, hx, e⟩ := List.mem_map.mp hb
    obtain ⟨h1, h2, _⟩ := A.own x (List.mem_append_right _ hx)
    rw [← e]; exact ⟨h1, h2⟩
  refine ⟨A.f, fun b x e => ?_, fun b => ?_, fun x hx => ?_, nd.1⟩
  · unfold over at e
    split at e
    · exact e
    · exact A.g b x e
  · unfold over
    split
    · rename_i z; exact .inl (fre b z).1
    · exact A.fg b
  · obtain ⟨h1, h2, h3⟩ := A.own x (List.mem_append_left _ hx)
    refine ⟨h1, ?_, h3⟩
    unfold over
    rw [if_neg fun z => nd.2.2 x.1 (List.mem_map_of_mem (f := (·.1)) hx) x.1 z rfl]
    exact h2
theorem Ag.back {μp μr : Mu} (A0 : Ag K F G (μ ++ μr) H) (s : Same F F') (A : Ag K F' (over G μr H) μp H') : Ag K F' G (μp ++ μr) H' := by
  have nd := A0.nd
  rw [List.map_append, List.nodup_append] at nd
  have own0 : ∀ x ∈ μr, G x.1 = none ∧ ∃ o, H x.1 = some o ∧ MOk K F x.2 o := fun x hx => (A0.own x (List.mem_append_right _ hx)).2
  have inG : ∀ x ∈ μr, ∀ o, H x.1 = some o → over G μr H x.1 = some o := fun x hx o e => by
    unfold over; rw [if_pos (List.mem_map_of_mem (f := (·.1)) hx)]; exact e
  have keyG : ∀ b, over G μr H b = none → G b = none ∧ b ∉ μr.map (·.1) := fun b e => by
    unfold over at e
    split at e
    · rename_i z
      obtain ⟨x, hx, ex⟩ := List.mem_map.mp z
      obtain ⟨_, o, ho, _⟩ := own0 x hx
      have ho' : H b = some o := by rw [← ex]; exact ho
      rw [ho'] at e; cases e
    · rename_i z; exact ⟨e, z⟩
  refine ⟨A.f, fun b x e => ?_, fun b => ?_, fun x hx => ?_, ?_⟩
  · by_cases z : b ∈ μr.map (·.1)
    · obtain ⟨y, hy, ey⟩ := List.mem_map.mp z
      have := (own0 y hy).1
      have e2 : G b = none := by rw [← ey]; exact this
      rw [e2] at e; cases e
    · exact A.g b x (by unfold over; rw [if_neg z]; exact e)
  · rcases A.fg b with h | h
    · exact .inl h
    · exact .inr (keyG b h).1
  · rcases List.mem_append.mp hx with hx | hx
    · obtain ⟨h1, h2, h3⟩ := A.own x hx
      exact ⟨h1, (keyG _ h2).1, h3⟩
    · obtain ⟨hG, o, ho, r⟩ := own0 x hx
      have e := inG x hx o ho
      refine ⟨?_, hG, o, A.g _ _ e, r.mono s⟩
      rcases A.fg x.1 with h | h
      · exact h
      · rw [e] at h; cases h
  · rw [List.map_append, List.nodup_append]
    refine ⟨A.nd, nd.2.1, fun y hy z hz e => ?_⟩
    subst e
    obtain ⟨x, hx, ex⟩ := List.mem_map.mp hy
    obtain ⟨_, h2, _⟩ := A.own x hx
    exact (keyG _ h2).2 (by rw [ex]; exact hz)
/-- a thing that is made in the meantime: nobody reads or writes it -/
theorem Ag.guard (A : Ag K F G μ H) (n : H p = none) : Ag K F (upd G p o) μ (upd H p o) where
  f := fun b x e => same_upd n b x (A.f b x e)
  g := fun b x e => by
    unfold upd at e ⊢
    split
    · rename_i z; rw [if_pos z] at e; exact e
    · rename_i z; rw [if_neg z] at e; exact A.g b x e
  fg := fun b => by
    by_cases z : b = p
    · subst z; exact .inl (none_of_same A.f n)
    · rw [upd_ne z]; exact A.fg b
  own := fun x hx => by
    obtain ⟨h1, h2, o', h3, h4⟩ := A.own x hx
    have ne := A.fresh n x hx
    exact ⟨h1, by rw [upd_ne ne]; exact h2, o', by rw [upd_ne ne]; exact h3, h4⟩
  nd := A.nd
theorem Ag.guarded {o' : HO} (A : Ag K F (upd G p o) μ H) : Ag K F (upd G p o') μ (upd H p o') where
  f := fun b x e => by
    have ne : b ≠ p := fun z => by
      subst z
      rcases A.fg b with h | h
      · rw [h] at e; cases e
      · rw [upd_same] at h; cases h
    rw [upd_ne ne]; exact A.f b x e
  g := fun b x e => by
    unfold upd at e ⊢
    split
    · rename_i z; rw [if_pos z] at e; exact e
    · rename_i z; rw [if_neg z] at e
      exact A.g b x (by unfold upd; rw [if_neg z]; exact e)
  fg := fun b => by
    by_cases z : b = p
    · subst z
      rcases A.fg b with h | h
      · exact .inl h
      · rw [upd_same] at h; cases h
    · have := A.fg b
      rw [upd_ne z] at this ⊢
      exact this
  own := fun x hx => by
    obtain ⟨h1, h2, o2, h3, h4⟩ := A.own x hx
    have ne : x.1 ≠ p := fun z => by rw [z, upd_same] at h2; cases h2
    rw [upd_ne ne] at h2
    exact ⟨h1, by rw [upd_ne ne]; exact h2, o2, by rw [upd_ne ne]; exact h3, h4⟩
  nd := A.nd
theorem Ag.gAt (A : Ag K F (upd G p o) μ H) : H p = some o := A.g p o upd_same
theorem Ag.gF (A : Ag K F (upd G p o) μ H) : F p = none := by
  rcases A.fg p with h | h
  · exact h
  · rw [upd_same] at h; cases h
theorem Ag.gNe (A : Ag K F (upd G p o) μ H) : ∀ x ∈ μ, x.1 ≠ p := fun x hx z => by
  obtain ⟨_, h2, _⟩ := A.own x hx
  rw [z, upd_same] at h2
  cases h2
/-- .. is laid -/
theorem Ag.laidG (A : Ag K F (upd G p o) μ H) (n : G p = none) : Ag K (upd F p o) G μ H ∧ Same F (upd F p o) := by
  have sF : Same F (upd F p o) := same_upd A.gF
  refine ⟨⟨fun b x e => ?_, fun b x e => ?_, fun b => ?_, fun x hx => ?_, A.nd⟩, sF⟩
  · unfold upd at e
    split at e
    · rename_i z; subst z; cases e; exact A.gAt
    · exact A.f b x e
  · exact A.g b x (by rw [upd_ne (ne_of_none e n)]; exact e)
  · by_cases z : b = p
    · subst z; exact .inr n
    · have := A.fg b
      rw [upd_ne z] at this ⊢
      exact this
  · obtain ⟨h1, h2, o2, h3, h4⟩ := A.own x hx
    have ne := A.gNe x hx
    rw [upd_ne ne] at h2
    exact ⟨by rw [upd_ne ne]; exact h1, h2, o2, h3, h4.mono sF⟩
/-- .. is one's own -/
theorem Ag.newG (A : Ag K F (upd G p o) μ H) (n : G p = none) (r : MOk K F m o) : Ag K F G ((p, m) :: μ) H := by
  refine ⟨A.f, fun b x e => A.g b x (by rw [upd_ne (ne_of_none e n)]; exact e), fun b => ?_, fun x hx => ?_, ?_⟩
  · by_cases z : b = p
    · subst z; exact .inr n
    · have := A.fg b
      rw [upd_ne z] at this
      exact this
  · rcases List.mem_cons.mp hx with rfl | hx
    · exact ⟨A.gF, n, o, A.gAt, r⟩
    · obtain ⟨h1, h2, o2, h3, h4⟩ := A.own x hx
      rw [upd_ne (A.gNe x hx)] at h2
      exact ⟨h1, h2, o2, h3, h4⟩
  · rw [List.map_cons, List.nodup_cons]
    refine ⟨fun z => ?_, A.nd⟩
    obtain ⟨x, hx, e⟩ := List.mem_map.mp z
    exact A.gNe x hx e
end
end DL

namespace DL
open PySem PySem.Spec PyProof.Rows L2

/-! ### the core text -/
inductive BO where | add | sub | mul | fdiv | mod | pow | addO | mulO | shl
inductive CO where | eq | ne | lt | le | gt | ge | isin | notin | isN | notN | isB (b : Bool) | notB (b : Bool) | neX | eqT
inductive Bi where | len | abs | min2 | max2 | int | bool | list | listO | tuple | sum | all | any | divmod | str | minL | maxL | sorted | minP | max3
inductive Me where | append | pop | count | index | extend
mutual
inductive C where
  | var (i : Nat)
  | int (n : Int)
  | str (x : Str)
  | bl (b : Bool)
  | non
  | glob (i : Nat)
  | bin (o : BO) (a b : C)
  | neg (a : C)
  | cmp (o : CO) (a b : C)
  | chain (o o' : CO) (a b c : C)
  | and (a b : C)
  | or (a b : C)
  | not (a : C)
  | ite (t : T) (a b : C)
  | idx (a i : C)
  | sl (own : Bool) (a lo hi : C)
  | revs (a : C)
  | sl2 (own b : Bool) (a : C)
  | absent
  | tup (as : Cs)
  | lst (own : Bool) (as : Cs)
  | call (f : Nat) (as : Cs)
  | bi (b : Bi) (as : Cs)
  | isi (a : C) (t : String)
  | me0 (m : Me) (o : C)
  | me1 (m : Me) (o a : C)
  | dict (as : Cs)
  | dict0
  | dnew
  | dget (a i : C)
  | disp (as : Cs)
  | split (a b : C)
  | join (a b : C)
  | idxS (a i : C)
  | sw (a b : C)
  | intS (a : C)
  | look (ps : List (Str × Int)) (a : C)
  | isx (a b : C)
  | isv (a : C)
  | fld (a : C) (n : Str)
  | new0 (x : Str) (i : Nat)
  | callN (f : Nat) (as : Cs)
  | meth (o : C) (m : Str) (rs : List (Str × Nat)) (as : Cs)
  | attr (a : C) (n : Str)
  | lrng (own : Bool) (as : Cs)
  | trng (as : Cs)
  | revT (own : Bool) (a : C)
  | lzip (own : Bool) (as : Cs)
  | callH (f : Nat) (as : Cs)
  | mget (i : Nat) (a : C)
  | callV (i : Nat) (fs : List (Str × Nat)) (as : Cs)
  | newI (own : Bool) (x : Str) (i j : Nat) (as : Cs)
  | comp (own : Bool) (vs : List Nat) (tg : Tg) (it : Ic) (cond : T) (elt : C)
inductive Cs where
  | nil
  | cons (a : C) (as : Cs)
inductive T where
  | and (a b : T)
  | or (a b : T)
  | not (a : T)
  | of (a : C)
  | cmp (o : CO) (a b : C)
  | din (b : Bool) (y x : C)
  | mdin (b : Bool) (y : C) (i : Nat)
  | chain (o o' : CO) (a b c : C)
  | yes
inductive Ic where
  | seq (a : C)
  | rng (as : Cs)
  | enum (a : C)
  | zip (a b : C)
  | zip3 (a b c : C)
  | rev (a : C)
inductive Tg where
  | name (i : Nat)
  | tup (is : List Nat)
end
def Cs.len : Cs → Nat
  | .nil => 0
  | .cons _ as => as.len + 1

/-! ### what the operators do to data -/
/-- a refusal: its class, its fields -/
structure DX where
  x : Str
  ns : List Str
  ds : List D
abbrev DQ := D → Mu → Prop
abbrev DE := DX → Mu → Prop
abbrev DSp := List D → Mu → DQ → DE → Prop
abbrev DSt := List (Option D)

def seqL (μ : Mu) : D → Option (List D)
  | .lst ds => some ds
  | .klst ds => some ds
  | .obj a => match Mu.get μ a with
    | some (.lst ds) => some ds
    | _ => none
  | _ => none
/-- a list that may be put together with others -/
def seqR (μ : Mu) : D → Option (List D)
  | .lst ds => some ds
  | .obj a => match Mu.get μ a with
    | some (.lst ds) => some ds
    | _ => none
  | _ => none
def seqT : D → Option (List D)
  | .tup ds => some ds
  | _ => none
/-- a list, a tuple -/
def seqA (μ : Mu) (d : D) : Option (List D) := match seqT d with
  | some ds => some ds
  | none => seqL μ d
def fresh (p : Addr) (μ : Mu) : Prop := ∀ x ∈ μ, x.1 ≠ p
/-- a new list: one's own, or never changed -/
def newL (own : Bool) (ds : List D) (μ : Mu) (Q : DQ) : Prop :=
  match own with
  | true => ∀ p, fresh p μ → Q (.obj p) ((p, .lst ds) :: μ)
  | false => Q (.lst ds) μ
mutual
def pd : D → PyData
  | .non => .none
  | .bl b => .bool b
  | .int i => .int i
  | .str x => .str x
  | .tup ds => .tuple (pds ds)
  | .lst ds => .list (pds ds)
  | .klst ds => .list (pds ds)
  | .obj _ => .dict []
  | .op _ => .dict []
  | .dic => .dict []
  | .dic0 => .dict []
  | .cls _ _ => .dict []
  | .exc _ _ _ => .dict []
  | .ins _ _ _ => .dict []
  | .dkk _ _ => .dict []
  | .dct _ _ => .dict []
def pds : List D → List PyData
  | [] => []
  | d :: ds => pd d :: pds ds
end
def pdm (μ : Mu) : D → PyData
  | .obj a => match Mu.get μ a with
    | some (.lst ds) => .list (pds ds)
    | _ => .dict []
  | d => pd d
def eqG (μ : Mu) (x y : D) (k : Bool → Prop) : Prop := SeqAt.shaped (pdm μ x) = true ∧ SeqAt.shaped (pdm μ y) = true ∧ k (PyData.eqv (pdm μ x) (pdm μ y))
def eqW (μ : Mu) (x y : D) (k : Bool → Prop) : Prop :=
  match x, y with
  | .int i, .int j => k (decide (i = j))
  | .str a, .str b => k (decide (a = b))
  | .bl a, .bl b => k (decide (a = b))
  | x, y => eqG μ x y k
/-- flat things, and their == -/
def flB : D → Bool
  | .non => true | .bl _ => true | .int _ => true | .str _ => true
  | _ => false
def eqF : D → D → Bool
  | .non, .non => true
  | .bl a, .bl b => a == b
  | .bl a, .int b => (if a then 1 else 0) == b
  | .int a, .bl b => a == (if b then 1 else 0)
  | .int a, .int b => decide (a = b)
  | .str a, .str b => decide (a = b)
  | _, _ => false
def inD (x : D) (ds : List D) : Bool := ds.any fun y => eqF y x
def inW (μ : Mu) (x y : D) (k : Bool → Prop) : Prop := match y with
  | .str t => match x with
    | .str s => k (!(Builtin.Str.occurrences t s 0 t.length 1).isEmpty)
    | _ => False
  | y => ∃ ds, seqA μ y = some ds ∧ flB x = true ∧ ds.all flB = true ∧ k (inD x ds)
def DivOk (i j : Int) : Prop := 0 < j ∧ Builtin.divisionGoesByPylong i j = false
def binW (o : BO) (x y : D) (μ : Mu) (Q : DQ) : Prop :=
  match o, x, y with
  | .add, .int i, .int j => Q (.int (i + j)) μ
  | .add, .str a, .str b => a.length + b.length ≤ sizeLine ∧ Q (.str (a ++ b)) μ
  | .add, .tup a, .tup b => a.length + b.length ≤ sizeLine ∧ Q (.tup (a ++ b)) μ
  | .add, .int i, .bl b => Q (.int (i + (if b then 1 else 0))) μ
  | .add, .bl b, .int i => Q (.int ((if b then 1 else 0) + i)) μ
  | .add, .bl b, .bl c => Q (.int ((if b then 1 else 0) + (if c then 1 else 0))) μ
  | .add, x, y => ∃ a b, seqR μ x = some a ∧ seqR μ y = some b ∧ a.length + b.length ≤ sizeLine ∧ newL false (a ++ b) μ Q
  | .addO, x, y => ∃ a b, seqR μ x = some a ∧ seqR μ y = some b ∧ a.length + b.length ≤ sizeLine ∧ newL true (a ++ b) μ Q
  | .sub, .int i, .int j => Q (.int (i - j)) μ
  | .sub, .bl b, .int j => Q (.int ((if b then 1 else 0) - j)) μ
  | .mul, .int i, .int j => IntMulOk i j ∧ Q (.int (i * j)) μ
  | .mul, .str x, .int k => MulOk x k ∧ Q (.str (Txt.mul x k)) μ
  | .mul, .tup a, .int k => -(2 ^ 63) ≤ k ∧ k < 2 ^ 63 ∧ a.length * k.toNat ≤ sizeLine ∧ Q (.tup (List.replicate k.toNat a).flatten) μ
  | .mul, x, .int k => ∃ a, seqR μ x = some a ∧ -(2 ^ 63) ≤ k ∧ k < 2 ^ 63 ∧ a.length * k.toNat ≤ sizeLine ∧ newL false (List.replicate k.toNat a).flatten μ Q
  | .mulO, x, .int k => ∃ a, seqR μ x = some a ∧ -(2 ^ 63) ≤ k ∧ k < 2 ^ 63 ∧ a.length * k.toNat ≤ sizeLine ∧ newL true (List.replicate k.toNat a).flatten μ Q
  | .fdiv, .int i, .int j => DivOk i j ∧ Q (.int (i / j)) μ
  | .mod, .int i, .int j => 0 < j ∧ Q (.int (i % j)) μ
  | .pow, .int i, .int j => CPow i j ∧ Q (.int (i ^ j.toNat)) μ
  | .shl, .int i, .int j => CShl i j ∧ Q (.int (i * 2 ^ j.toNat)) μ
  | _, _, _ => False
/-- a thing of any kind beside one without dicts -/
def isDic : D → Bool
  | .dic => true
  | .dic0 => true
  | _ => false
def eqX (x y : D) : Option Bool :=
  match isDic x, y with
  | true, .non => some false
  | true, .int _ => some false
  | true, .tup _ => some false
  | true, _ => none
  | false, y => if ((pd x).canLay0 && (pd y).canLay0 && decide ((pd y).depth ≤ 60)) = true then some (PyData.eqv (pd x) (pd y)) else none
def eqXs : List D → List D → Option Bool
  | x :: xs, y :: ys => match eqX x y, eqXs xs ys with
    | some a, some b => some (a && b)
    | _, _ => none
  | _, _ => some true
def neX : D → D → Option Bool
  | .dic0, .dic0 => some false
  | .tup xs, .tup ys => (eqXs xs ys).map fun b => !(b && xs.length == ys.length)
  | x, .tup _ => match isDic x with
    | true => some true
    | false => none
  | _, _ => none
def neXW (μ : Mu) (x y : D) (k : Bool → Prop) : Prop := eqG μ x y (fun b => k (!b)) ∨ ∃ b, neX x y = some b ∧ k b
def cmpW (o : CO) (x y : D) (μ : Mu) (k : Bool → Prop) : Prop :=
  match o with
  | .eq => eqW μ x y k
  | .ne => eqW μ x y fun b => k (!b)
  | .neX => neXW μ x y k
  | .eqT => match x, y with
    | .tup xs, .tup ys => ∃ c, eqXs xs ys = some c ∧ k (c && xs.length == ys.length)
    | _, _ => False
  | .lt => match x, y with
    | .int i, .int j => k (decide (i < j))
    | x, y => ∃ ns ms : List Int, x = .tup (ns.map D.int) ∧ y = .tup (ms.map D.int) ∧ k (decide (HT.lexLt ns ms = true))
  | .le => match x, y with
    | .int i, .int j => k (decide (i ≤ j))
    | _, _ => False
  | .gt => match x, y with
    | .int i, .int j => k (decide (j < i))
    | _, _ => False
  | .ge => match x, y with
    | .int i, .int j => k (decide (j ≤ i))
    | _, _ => False
  | .isin => inW μ x y k
  | .notin => inW μ x y fun b => k (!b)
  | .isN => match x with
    | .non => k true
    | .bl _ | .int _ | .str _ | .tup _ | .lst _ | .klst _ | .obj _ | .dic | .dic0 | .exc _ _ _ | .ins _ _ _ | .dct _ _ | .cls _ _ => k false
    | .op _ => False
    | .dkk _ _ => False
  | .notN => match x with
    | .non => k false
    | .bl _ | .int _ | .str _ | .tup _ | .lst _ | .klst _ | .obj _ | .dic | .dic0 | .exc _ _ _ | .ins _ _ _ | .dct _ _ | .cls _ _ => k true
    | .op _ => False
    | .dkk _ _ => False
  | .isB b => match x with
    | .bl c => k (decide (c = b))
    | _ => False
  | .notB b => match x with
    | .bl c => k (!decide (c = b))
    | _ => False
def idxW (x y : D) (μ : Mu) (Q : DQ) : Prop :=
  match y with
  | .int i => ∃ ds d, seqA μ x = some ds ∧ atI ds i = some d ∧ Q d μ
  | _ => False
def keyK : D → Option Key
  | .int i => some (.inl i)
  | .str x => some (.inr x)
  | _ => none
/-- x[y], x a dict that changes -/
def dgetW (x y : D) (μ : Mu) (Q : DQ) : Prop := match x with
  | .obj a => ∃ kds k d, Mu.get μ a = some (.dic kds) ∧ keyK y = some k ∧ dgetD kds k = some d ∧ Q d μ
  | _ => False
def dinW (x y : D) (μ : Mu) (q : Bool → Prop) : Prop := match x with
  | .obj a => ∃ kds k, Mu.get μ a = some (.dic kds) ∧ keyK y = some k ∧ q (dgetD kds k).isSome
  | _ => False
def dputW (x y v : D) (μ : Mu) (q : Mu → Prop) : Prop := match x with
  | .obj a => ∃ kds k, Mu.get μ a = some (.dic kds) ∧ keyK y = some k ∧ kds.length < sizeLine ∧ q (Mu.put μ a (.dic (dputD kds k v)))
  | _ => False
/-- a dict of the module's top, read -/
def mgetW (g y : D) (μ : Mu) (Q : DQ) : Prop := match g with
  | .dkk ks ds => ∃ k d, keyK y = some k ∧ dgetD (ks.zip ds) k = some d ∧ Q d μ
  | _ => False
def mdinW (g y : D) (q : Bool → Prop) : Prop := match g with
  | .dkk ks ds => ∃ k, keyK y = some k ∧ q (dgetD (ks.zip ds) k).isSome
  | _ => False
def cutD (xs : List D) (lo hi : Option Int) : List D := (xs.drop (HT.sIx xs.length 0 lo)).take (HT.sIx xs.length xs.length hi - HT.sIx xs.length 0 lo)
def slW (own : Bool) (x : D) (lo hi : Option Int) (μ : Mu) (Q : DQ) : Prop :=
  match x with
  | .str z => z.length ≤ sizeLine ∧ Q (.str (cutS z lo hi)) μ
  | .tup ds => Q (.tup (cutD ds lo hi)) μ
  | x => ∃ ds, seqL μ x = some ds ∧ newL own (cutD ds lo hi) μ Q
def revW (x : D) (μ : Mu) (Q : DQ) : Prop :=
  match x with
  | .tup ds => Q (.tup ds.reverse) μ
  | x => ∃ ds, seqL μ x = some ds ∧ Q (.lst ds.reverse) μ
def asBls : List D → Option (List Bool)
  | [] => some []
  | .bl b :: r => (asBls r).map (b :: ·)
  | _ => none
def asInts : List D → Option (List Int)
  | [] => some []
  | .int i :: r => (asInts r).map (i :: ·)
  | _ => none
def on1 (xs : List D) (k : D → Prop) : Prop := match xs with
  | [x] => k x
  | _ => False
def on2 (xs : List D) (k : D → D → Prop) : Prop := match xs with
  | [x, y] => k x y
  | _ => False
def onI (x : D) (k : Int → Prop) : Prop := match x with
  | .int i => k i
  | _ => False
def pairD (q : Int × Int) : D := .tup [.int q.1, .int q.2]
def biW (b : Bi) (xs : List D) (μ : Mu) (Q : DQ) : Prop :=
  match b with
  | .len => on1 xs fun x => match x with
    | .str s => s.length ≤ sizeLine ∧ Q (.int s.length) μ
    | x => ∃ ds, seqA μ x = some ds ∧ Q (.int ds.length) μ
  | .str => on1 xs fun x => onI x fun i => i.natAbs.log2 < 1920 ∧ Q (.str (toString i)) μ
  | .minP => on1 xs fun x => ∃ ps : List (Int × Int), seqL μ x = some (ps.map pairD) ∧ ps ≠ [] ∧ ∀ q ∈ ps, (∀ r ∈ ps, ¬ ltP r q) → Q (pairD q) μ
  | .minL => on1 xs fun x => ∃ ds ns, seqL μ x = some ds ∧ asInts ds = some ns ∧ 0 < ns.length ∧ ∀ m, m ∈ ns → (∀ y, y ∈ ns → m ≤ y) → Q (.int m) μ
  | .maxL => on1 xs fun x => ∃ ds ns, seqL μ x = some ds ∧ asInts ds = some ns ∧ 0 < ns.length ∧ ∀ m, m ∈ ns → (∀ y, y ∈ ns → y ≤ m) → Q (.int m) μ
  | .abs => on1 xs fun x => onI x fun i => Q (.int (if i < 0 then -i else i)) μ
  | .min2 => on2 xs fun x y => onI x fun i => onI y fun j => Q (.int (if j < i then j else i)) μ
  | .max3 => match xs with
    | [.int i, .int j, .int k] => Q (.int (max (max i j) k)) μ
    | _ => False
  | .max2 => on2 xs fun x y => onI x fun i => onI y fun j => Q (.int (if j > i then j else i)) μ
  | .int => on1 xs fun x => match x with
    | .int i => Q (.int i) μ
    | .bl k => Q (.int (if k then 1 else 0)) μ
    | _ => False
  | .bool => on1 xs fun x => onI x fun i => Q (.bl (i != 0)) μ
  | .list => on1 xs fun x => ∃ ds, seqA μ x = some ds ∧ newL false ds μ Q
  | .listO => on1 xs fun x => ∃ ds, seqA μ x = some ds ∧ newL true ds μ Q
  | .tuple => on1 xs fun x => ∃ ds, seqA μ x = some ds ∧ Q (.tup ds) μ
  | .sorted => on1 xs fun x => ∃ ds ns, seqL μ x = some ds ∧ asInts ds = some ns ∧ ∀ ns' : List Int, ns'.Perm ns → ns'.Pairwise (· ≤ ·) → Q (.lst (ns'.map D.int)) μ
  | .sum => on1 xs fun x => ∃ ds ns, seqA μ x = some ds ∧ asInts ds = some ns ∧ Q (.int ns.sum) μ
  | .all => on1 xs fun x => ∃ ds bs, seqL μ x = some ds ∧ asBls ds = some bs ∧ Q (.bl (bs.all id)) μ
  | .any => on1 xs fun x => ∃ ds bs, seqL μ x = some ds ∧ asBls ds = some bs ∧ Q (.bl (bs.any id)) μ
  | .divmod => on2 xs fun x y => onI x fun i => onI y fun j => DivOk i j ∧ Q (.tup [.int (i / j), .int (i % j)]) μ
def me0W (m : Me) (o : D) (μ : Mu) (Q : DQ) : Prop :=
  match m, o with
  | .pop, .obj a => ∃ ds d, Mu.get μ a = some (.lst ds) ∧ ds[ds.length - 1]? = some d ∧ Q d (Mu.put μ a (.lst ds.dropLast))
  | _, _ => False
/-- keys of a displayed dict: numbers, texts -/
def keyD : D → Option Key
  | .int i => some (.inl i)
  | .str x => some (.inr x)
  | _ => none
def keysD : List D → Bool
  | [] => true
  | k :: _ :: r => (keyD k).isSome && keysD r
  | _ => false
/-- pairs of a displayed dict -/
def pairsD : List D → Option (List (Key × D))
  | [] => some []
  | k :: d :: r => match keyD k, pairsD r with
    | some k, some r => some ((k, d) :: r)
    | _, _ => none
  | _ => none
def onStr (x : D) (k : Str → Prop) : Prop := match x with
  | .str s => k s
  | _ => False
def asStrs : List D → Option (List Str)
  | [] => some []
  | .str b :: r => (asStrs r).map (b :: ·)
  | _ => none
def splitW (s t : Str) (μ : Mu) (Q : DQ) : Prop := (t.length == 0) = false ∧ s.length + 2 ≤ sizeLine ∧ Q (.lst ((Txt.split s t).map D.str)) μ
def joinW (s : Str) (y : D) (μ : Mu) (Q : DQ) : Prop := ∃ ds ss, seqA μ y = some ds ∧ asStrs ds = some ss ∧ (ss.map (·.length)).sum + ss.length * s.length ≤ 16777216 ∧ Q (.str (Txt.join s ss)) μ
def chrW (s : Str) (i : Int) (Q : D → Prop) : Prop := s.length ≤ sizeLine ∧ ∃ c, atI s.cps.toList i = some c ∧ Q (.str ⟨#[c]⟩)
def dispW (ds : List D) (μ : Mu) (Q : DQ) : Prop := ∃ kds, pairsD ds = some kds ∧ (kds.map (·.1)).Nodup ∧ ∀ p, fresh p μ → Q (.obj p) ((p, .dic kds) :: μ)
def cntD (x : D) (ds : List D) : Nat := ds.countP fun y => eqF y x
def me1W (m : Me) (o x : D) (μ : Mu) (Q : DQ) : Prop :=
  match m, o with
  | .count, o => ∃ ds, seqL μ o = some ds ∧ flB x = true ∧ ds.all flB = true ∧ Q (.int (cntD x ds)) μ
  | .index, o => ∃ ds j z, seqL μ o = some ds ∧ flB x = true ∧ ds.all flB = true ∧ ds[j]? = some z ∧ eqF z x = true ∧ (∀ m z', m < j → ds[m]? = some z' → eqF z' x = false) ∧ Q (.int (j : Nat)) μ
  | .append, .obj a => ∃ ds, Mu.get μ a = some (.lst ds) ∧ ds.length < sizeLine ∧ Q .non (Mu.put μ a (.lst (ds ++ [x])))
  | .extend, .obj a => match x with
    | .lst es => ∃ ds, Mu.get μ a = some (.lst ds) ∧ ds.length + es.length ≤ sizeLine ∧ Q .non (Mu.put μ a (.lst (ds ++ es)))
    | _ => False
  | .pop, .obj a => match x with
    | .int i => ∃ ds k d, Mu.get μ a = some (.lst ds) ∧ -(2 ^ 63) ≤ i ∧ i < 2 ^ 63 ∧ seqIndex? i ds.length = some k ∧ ds[k]? = some d ∧ Q d (Mu.put μ a (.lst (ds.eraseIdx k)))
    | _ => False
  | _, _ => False
/-- a method's receiver -/
def recvW (m : Me) (x : D) (μ : Mu) : Prop :=
  match m with
  | .append => (seqL μ x).isSome = true
  | .extend => (seqL μ x).isSome = true
  | .pop => (seqL μ x).isSome = true
  | .count => (seqL μ x).isSome = true
  | .index => (seqL μ x).isSome = true
/-- a value's type's name -/
def tyN : D → Option String
  | .non => some "NoneType"
  | .bl _ => some "bool"
  | .int _ => some "int"
  | .str _ => some "str"
  | .tup _ => some "tuple"
  | .lst _ => some "list"
  | .klst _ => some "list"
  | .obj _ => none
  | .op _ => none
  | .dic => some "dict"
  | .dic0 => some "dict"
  | .cls _ _ => none
  | .exc _ _ _ => none
  | .ins _ _ _ => none
  | .dkk _ _ => none
  | .dct _ _ => none
def tyM (μ : Mu) : D → Option String
  | .obj a => match Mu.get μ a with
    | some (.lst _) => some "list"
    | _ => none
  | d => tyN d
def isiW (t : String) (x : D) (μ : Mu) (k : Bool → Prop) : Prop := ∃ n b, tyM μ x = some n ∧ kitB n t = some b ∧ k b
/-- the program's refusals: is one of the first class one of the other -/
def exSub (x y : Str) : Bool := x == y || y == ("MillError" : Str)
def clsL : List D → Option (List Str)
  | [] => some []
  | .cls y _ :: r => (clsL r).map (y :: ·)
  | _ => none
/-- isinstance of a kept refusal -/
def isxW (gl : Nat → D) (x b : D) (k : Bool → Prop) : Prop :=
  match x with
  | .exc n _ _ => ∃ ys, (match b with
      | .cls y _ => some [y]
      | .tup ds => clsL ds
      | _ => none) = some ys ∧ (∃ i, gl i = .cls n true) ∧ (∀ y ∈ ys, ∃ i t, gl i = .cls y t) ∧ k (ys.any (exSub n))
  | _ => False
/-- classes without an __init__ of their own -/
def exPlain (x : Str) : Bool := [("Below" : Str), "NoDivisor", "NoRoot", "TooGreat", "NoText", "NoLine"].contains x
def exFields (x : Str) : List Str := if x == ("Shared" : Str) then ["first", "second"] else ["step"]
def fldNs : List Str := ["step", "first", "second"]
/-- a kept refusal's field -/
def fldW (gl : Nat → D) (x : D) (n : Str) (k : D → Prop) : Prop := match x with
  | .exc c ns ds => (∃ i, gl i = .cls c true) ∧ exPlain c = false ∧ n ∈ fldNs ∧ ∃ d, (ns.zip ds).lookup n = some d ∧ k d
  | _ => False
def raiseW (gl : Nat → D) (i : Nat) (k : Str → Prop) : Prop := match gl i with
  | .cls x true => exPlain x = false ∧ k x
  | _ => False
def isvW (gl : Nat → D) (x : D) (k : Bool → Prop) : Prop := match x with
  | .exc n _ _ => (∃ i, gl i = .cls n true) ∧ k true
  | _ => False
def callW (S : DSp) (ds : List D) (μ : Mu) (Q : DQ) (E : DE) : Prop :=
  ∃ μp μr, List.Perm μ (μp ++ μr) ∧ S ds μp (fun d μ' => Q d (μ' ++ μr)) (fun x μ' => E x (μ' ++ μr))
/-- a call behind which the objects are known to be different ones -/
def callWN (S : DSp) (ds : List D) (μ : Mu) (Q : DQ) (E : DE) : Prop :=
  ∃ μp μr, List.Perm μ (μp ++ μr) ∧ S ds μp (fun d μ' => ((μ' ++ μr).map (·.1)).Nodup → Q d (μ' ++ μr)) (fun x μ' => E x (μ' ++ μr))
/-- the program's own classes' fields -/
def attrNs : List (Str × Str) := [("Bench", "first_size"), ("Bench", "second_size"), ("Bench", "laid_steps"), ("TurnSteps", "told_steps"), ("TurnSteps", "next_cell"), ("Parting", "bench"), ("Parting", "plan"), ("Parting", "size"), ("Parting", "parts"), ("Parting", "high"), ("Parting", "low"), ("Form", "degree"), ("Form", "numbers"), ("Desk", "kept_base"), ("Desk", "kept_plan")]
def attrOk (gl : Nat → D) (c n : Str) : Prop := (c, n) ∈ attrNs ∧ ∃ i, gl i = .cls c false
/-- an instance, that changes or not -/
def insOf (μ : Mu) (x : D) : Option (Str × List Str × List D) := match x with
  | .ins c ns ds => some (c, ns, ds)
  | .obj a => match Mu.get μ a with
    | some (.ins c ns ds) => some (c, ns, ds)
    | _ => none
  | _ => none
def attrW (gl : Nat → D) (μ : Mu) (x : D) (n : Str) (k : D → Prop) : Prop := ∃ c ns ds d, insOf μ x = some (c, ns, ds) ∧ attrOk gl c n ∧ (ns.zip ds).lookup n = some d ∧ k d
def putN : List Str → Str → List Str
  | [], f => [f]
  | g :: ns, f => if g = f then g :: ns else g :: putN ns f
def putX {α : Type} : List Str → List α → Str → α → List α
  | g :: ns, x :: xs, f, v => if g = f then v :: xs else x :: putX ns xs f v
  | _, _, _, v => [v]
/-- a field's store -/
def fputW (gl : Nat → D) (x : D) (n : Str) (v : D) (μ : Mu) (k : Mu → Prop) : Prop := match x with
  | .obj a => ∃ c ns ds, Mu.get μ a = some (.ins c ns ds) ∧ attrOk gl c n ∧ ns.length < 900 ∧ k (Mu.put μ a (.ins c (putN ns n) (putX ns ds n v)))
  | _ => False
/-- a new instance, as it is kept -/
def keepW (own : Bool) (x : Str) (p : Addr) (μ : Mu) (Q : DQ) : Prop := match own with
  | true => Q (.obj p) μ
  | false => ∃ ns ds μ3, List.Perm μ ((p, .ins x ns ds) :: μ3) ∧ Q (.ins x ns ds) μ3
/-- an instance's method -/
def methW (m : Str) (rs : List (Str × Nat)) (x : D) (k : Nat → Prop) (μ : Mu) : Prop := ∃ c ns ds, insOf μ x = some (c, ns, ds) ∧ m ∉ ns ∧ ∃ j, (c, j) ∈ rs ∧ k j
def setAll : List Nat → List D → DSt → Option DSt
  | [], [], σ => some σ
  | i :: is, d :: ds, σ => setAll is ds (σ.set i (some d))
  | _, _, _ => none
def tgW (tg : Tg) (d : D) (σ : DSt) (k : DSt → Prop) : Prop :=
  match tg with
  | .name i => k (σ.set i (some d))
  | .tup is => ∃ ds σ', seqT d = some ds ∧ setAll is ds σ = some σ' ∧ k σ'
def dwipe (σ : DSt) : List Nat → DSt
  | [] => σ
  | v :: vs => (dwipe σ vs).set v none
def noE : DE := fun _ _ => False
def rngD (a b : Int) : List D := (List.range (b - a).toNat).map fun (i : Nat) => D.int (a + (i : Int))
def sl2W (own b : Bool) (x : D) (μ : Mu) (Q : DQ) : Prop := ∃ ds, seqL μ x = some ds ∧ newL own (evJ b ds) μ Q
def revLW (own : Bool) (x : D) (μ : Mu) (Q : DQ) : Prop := match x with
  | .tup ds => newL own ds.reverse μ Q
  | _ => False
def RngOk (a b : Int) : Prop := -2 ^ 62 ≤ a ∧ a < 2 ^ 62 ∧ -2 ^ 62 ≤ b ∧ b < 2 ^ 62 ∧ (b - a).toNat ≤ 2 ^ 24
def rngDD (i j : Int) : List D := (List.range (i - j).toNat).map fun k => D.int (i - (k : Nat))
def trngW (xs : List D) (μ : Mu) (Q : DQ) : Prop := match xs with
  | [.int n] => RngOk 0 n ∧ Q (.tup (rngD 0 n)) μ
  | [.int i, .int j] => RngOk i j ∧ Q (.tup (rngD i j)) μ
  | [.int i, .int j, .int k] => k = -1 ∧ RngOk j i ∧ Q (.tup (rngDD i j)) μ
  | _ => False
/-- list(zip(a, b)) of two lists -/
def lzipW (own : Bool) (xs : List D) (μ : Mu) (Q : DQ) : Prop := match xs with
  | [x, y] => ∃ ds es, seqL μ x = some ds ∧ seqL μ y = some es ∧ newL own ((ds.zip es).map fun p => D.tup [p.1, p.2]) μ Q
  | _ => False
def lrngW (own : Bool) (xs : List D) (μ : Mu) (Q : DQ) : Prop := match xs with
  | [.int n] => RngOk 0 n ∧ newL own (rngD 0 n) μ Q
  | [.int i, .int j] => RngOk i j ∧ newL own (rngD i j) μ Q
  | _ => False
/-- what is walked: its items, and what must hold at each turn -/
abbrev IQ := List D → (Mu → Prop) → Mu → Prop
/-- the places of a sequence that stands still -/
def stands (x : D) (ds : List D) (μ : Mu) : Prop := match x with
  | .obj a => Mu.get μ a = some (.lst ds)
  | _ => True
def itSeq (x : D) (μ : Mu) (R : IQ) : Prop :=
  match x with
  | .str x => R (x.cps.toList.map fun c => .str ⟨#[c]⟩) (fun _ => True) μ
  | x => ∃ ds, seqA μ x = some ds ∧ R ds (stands x ds) μ
def rngL (lo : Int) (n : Nat) : List D := (List.range n).map fun (i : Nat) => D.int (lo + (i : Int))
def itRng (xs : List D) (μ : Mu) (R : IQ) : Prop :=
  match xs with
  | [.int n] => (-(2 ^ 62) ≤ n ∧ n < 2 ^ 62) ∧ R (rngL 0 n.toNat) (fun _ => True) μ
  | [.int i, .int j] => (-(2 ^ 62) ≤ i ∧ i < 2 ^ 62 ∧ -(2 ^ 62) ≤ j ∧ j < 2 ^ 62) ∧ R (rngL i (j - i).toNat) (fun _ => True) μ
  | [.int i, .int j, .int c] => ∃ n, RgC i j c n ∧ R ((List.range n).map fun (k : Nat) => D.int (i + (k : Int) * c)) (fun _ => True) μ
  | _ => False
def itEnum (x : D) (μ : Mu) (R : IQ) : Prop := ∃ ds, seqA μ x = some ds ∧ R (ds.mapIdx fun (i : Nat) d => D.tup [.int (i : Int), d]) (stands x ds) μ
def itZip (x y : D) (μ : Mu) (R : IQ) : Prop := ∃ ds es, seqA μ x = some ds ∧ seqA μ y = some es ∧ R ((ds.zip es).map fun p => D.tup [p.1, p.2]) (fun μ' => stands x ds μ' ∧ stands y es μ') μ
def itZip3 (x y z : D) (μ : Mu) (R : IQ) : Prop := ∃ ds es fs, seqA μ x = some ds ∧ seqA μ y = some es ∧ seqA μ z = some fs ∧ R ((ds.zip (es.zip fs)).map fun p => D.tup [p.1, p.2.1, p.2.2]) (fun μ' => stands x ds μ' ∧ stands y es μ' ∧ stands z fs μ') μ
def itRev (x : D) (μ : Mu) (R : IQ) : Prop := ∃ ds, seqA μ x = some ds ∧ R ds.reverse (stands x ds) μ
/-- a comprehension's turns -/
def compW (tg : Tg) (vs : List Nat) (wc : DSt → Mu → (Bool → Mu → Prop) → Prop) (we : DSt → Mu → DQ → Prop) (stab : Mu → Prop) (σ : DSt) : List D → List D → Mu → (List D → Mu → Prop) → Prop
  | [], acc, μ, Q => Q acc μ
  | d :: r, acc, μ, Q => tgW tg d (dwipe σ vs) fun σ1 => wc σ1 μ fun b μ1 =>
      match b with
      | true => we σ1 μ1 fun y μ2 => stab μ2 ∧ compW tg vs wc we stab σ r (acc ++ [y]) μ2 Q
      | false => stab μ1 ∧ compW tg vs wc we stab σ r acc μ1 Q

def isAbs : C → Bool
  | .absent => true
  | _ => false
/-- a part of a slice -/
def optW (ab : Bool) (w : Mu → DQ → Prop) (μ : Mu) (k : Option Int → Mu → Prop) : Prop :=
  match ab with
  | true => k none μ
  | false => w μ fun d μ' => match d with
    | .int n => k (some n) μ'
    | _ => False
/-! ### weakest preconditions -/
section
variable (Γ : Nat → DSp) (gl : Nat → D)
mutual
def wpE : C → DSt → Mu → DQ → DE → Prop
  | .var i, σ, μ, Q, _ => match σ[i]? with
    | some (some d) => Q d μ
    | _ => False
  | .int n, _, μ, Q, _ => Q (.int n) μ
  | .str x, _, μ, Q, _ => Q (.str x) μ
  | .bl b, _, μ, Q, _ => Q (.bl b) μ
  | .non, _, μ, Q, _ => Q .non μ
  | .glob i, _, μ, Q, _ => Q (gl i) μ
  | .bin o a b, σ, μ, Q, E => wpE a σ μ (fun x μ1 => wpE b σ μ1 (fun y μ2 => binW o x y μ2 Q) E) E
  | .neg a, σ, μ, Q, E => wpE a σ μ (fun x μ1 => match x with
    | .int i => Q (.int (-i)) μ1
    | _ => False) E
  | .cmp o a b, σ, μ, Q, E => wpE a σ μ (fun x μ1 => wpE b σ μ1 (fun y μ2 => cmpW o x y μ2 fun k => Q (.bl k) μ2) E) E
  | .chain o o' a b c, σ, μ, Q, E => wpE a σ μ (fun x μ1 => wpE b σ μ1 (fun y μ2 => cmpW o x y μ2 fun k =>
      match k with
      | true => wpE c σ μ2 (fun z μ3 => cmpW o' y z μ3 fun k' => Q (.bl k') μ3) E
      | false => Q (.bl false) μ2) E) E
  | .and a b, σ, μ, Q, E => wpE a σ μ (fun x μ1 => match x with
    | .bl true => wpE b σ μ1 Q E
    | .bl false => Q (.bl false) μ1
    | _ => False) E
  | .or a b, σ, μ, Q, E => wpE a σ μ (fun x μ1 => match x with
    | .bl true => Q (.bl true) μ1
    | .bl false => wpE b σ μ1 Q E
    | _ => False) E
  | .not a, σ, μ, Q, E => wpE a σ μ (fun x μ1 => match x with
    | .bl k => Q (.bl (!k)) μ1
    | _ => False) E
  | .ite t a b, σ, μ, Q, E => wpT t σ μ (fun k μ1 => match k with
    | true => wpE a σ μ1 Q E
    | false => wpE b σ μ1 Q E) E
  | .idx a i, σ, μ, Q, E => wpE a σ μ (fun x μ1 => wpE i σ μ1 (fun y μ2 => idxW x y μ2 Q) E) E
  | .sl own a lo hi, σ, μ, Q, E => wpE a σ μ (fun x μ1 => optW (isAbs lo) (fun m q => wpE lo σ m q E) μ1 fun l μ2 => optW (isAbs hi) (fun m q => wpE hi σ m q E) μ2 fun h μ3 => slW own x l h μ3 Q) E
  | .sl2 own b a, σ, μ, Q, E => wpE a σ μ (fun x μ1 => sl2W own b x μ1 Q) E
  | .revs a, σ, μ, Q, E => wpE a σ μ (fun x μ1 => revW x μ1 Q) E
  | .absent, _, _, _, _ => False
  | .tup as, σ, μ, Q, E => wpA as σ μ (fun ds μ1 => Q (.tup ds) μ1) E
  | .lst own as, σ, μ, Q, E => wpA as σ μ (fun ds μ1 => newL own ds μ1 Q) E
  | .mget i a, σ, μ, Q, E => wpE a σ μ (fun y μ1 => mgetW (gl i) y μ1 Q) E
  | .callV i fs as, σ, μ, Q, E => match σ[i]? with
    | some (some (.cls y _)) => ∃ j, (y, j) ∈ fs ∧ wpA as σ μ (fun ds μ1 => callW (Γ j) ds μ1 Q E) E
    | _ => False
  | .callH f as, σ, μ, Q, E => wpA as σ μ (fun ds μ1 => callW (Γ f) ds μ1 Q E) E
  | .call f as, σ, μ, Q, E => wpA as σ μ (fun ds μ1 => callW (Γ f) ds μ1 Q E) E
  | .bi b as, σ, μ, Q, E => wpA as σ μ (fun ds μ1 => biW b ds μ1 Q) E
  | .isi a t, σ, μ, Q, E => wpE a σ μ (fun x μ1 => isiW t x μ1 fun k => Q (.bl k) μ1) E
  | .me0 m o, σ, μ, Q, E => wpE o σ μ (fun x μ1 => me0W m x μ1 Q) E
  | .me1 m o a, σ, μ, Q, E => wpE o σ μ (fun x μ1 => recvW m x μ1 ∧ wpE a σ μ1 (fun y μ2 => me1W m x y μ2 Q) E) E
  | .dict0, _, μ, Q, _ => Q .dic0 μ
  | .dnew, _, μ, Q, _ => ∀ p, fresh p μ → Q (.obj p) ((p, .dic []) :: μ)
  | .disp as, σ, μ, Q, E => wpA as σ μ (fun ds μ1 => dispW ds μ1 Q) E
  | .split a b, σ, μ, Q, E => wpE a σ μ (fun x μ1 => onStr x fun s => wpE b σ μ1 (fun y μ2 => onStr y fun t => splitW s t μ2 Q) E) E
  | .join a b, σ, μ, Q, E => wpE a σ μ (fun x μ1 => onStr x fun s => wpE b σ μ1 (fun y μ2 => joinW s y μ2 Q) E) E
  | .idxS a i, σ, μ, Q, E => wpE a σ μ (fun x μ1 => wpE i σ μ1 (fun y μ2 => onStr x fun s => onI y fun n => chrW s n fun d => Q d μ2) E) E
  | .sw a b, σ, μ, Q, E => wpE a σ μ (fun x μ1 => onStr x fun s => wpE b σ μ1 (fun y μ2 => onStr y fun t => Q (.bl (Txt.startswith s t)) μ2) E) E
  | .intS a, σ, μ, Q, E => wpE a σ μ (fun x μ1 => onStr x fun s => ∃ n, PySem.intText? s = some n ∧ s.length ≤ 640 ∧ Q (.int n) μ1) E
  | .dget a i, σ, μ, Q, E => wpE a σ μ (fun x μ1 => wpE i σ μ1 (fun y μ2 => dgetW x y μ2 Q) E) E
  | .dict as, σ, μ, Q, E => wpA as σ μ (fun ds μ1 => keysD ds = true ∧ Q .dic μ1) E
  | .look ps a, σ, μ, Q, E => wpE a σ μ (fun x μ1 => match x with
    | .str s => ∃ n, ps.lookup s = some n ∧ Q (.int n) μ1
    | _ => False) E
  | .isx a b, σ, μ, Q, E => wpE a σ μ (fun x μ1 => wpE b σ μ1 (fun y μ2 => isxW gl x y fun k => Q (.bl k) μ2) E) E
  | .fld a n, σ, μ, Q, E => wpE a σ μ (fun x μ1 => fldW gl x n fun d => Q d μ1) E
  | .callN f as, σ, μ, Q, E => wpA as σ μ (fun ds μ1 => callWN (Γ f) ds μ1 Q E) E
  | .new0 x i, _, μ, Q, _ => (∃ t, gl i = .cls x t) ∧ Q (.ins x [] []) μ
  | .meth o m rs as, σ, μ, Q, E => wpE o σ μ (fun x μ1 => methW m rs x (fun j => wpA as σ μ1 (fun ds μ2 => callW (Γ j) (x :: ds) μ2 Q E) E) μ1) E
  | .revT own a, σ, μ, Q, E => wpE a σ μ (fun x μ1 => revLW own x μ1 Q) E
  | .trng as, σ, μ, Q, E => wpA as σ μ (fun ds μ1 => trngW ds μ1 Q) E
  | .lzip own as, σ, μ, Q, E => wpA as σ μ (fun ds μ1 => lzipW own ds μ1 Q) E
  | .lrng own as, σ, μ, Q, E => wpA as σ μ (fun ds μ1 => lrngW own ds μ1 Q) E
  | .attr a n, σ, μ, Q, E => wpE a σ μ (fun x μ1 => attrW gl μ1 x n fun d => Q d μ1) E
  | .newI own x i j as, σ, μ, Q, E => (gl i = .cls x false) ∧ wpA as σ μ (fun ds μ1 => ∀ p, fresh p μ1 → callW (Γ j) (.obj p :: ds) ((p, .ins x [] []) :: μ1) (fun d μ2 => d = .non ∧ keepW own x p μ2 Q) noE) E
  | .isv a, σ, μ, Q, E => wpE a σ μ (fun x μ1 => isvW gl x fun k => Q (.bl k) μ1) E
  | .comp own vs tg it cond elt, σ, μ, Q, E => wpI it σ μ (fun items stab μ1 => items.length ≤ sizeLine ∧
      compW tg vs (fun σ' μ' k => wpT cond σ' μ' k noE) (fun σ' μ' k => wpE elt σ' μ' k noE) stab σ items [] μ1 fun ds μ2 => newL own ds μ2 Q) E
def wpA : Cs → DSt → Mu → (List D → Mu → Prop) → DE → Prop
  | .nil, _, μ, Q, _ => Q [] μ
  | .cons a as, σ, μ, Q, E => wpE a σ μ (fun d μ1 => wpA as σ μ1 (fun ds μ2 => Q (d :: ds) μ2) E) E
def wpT : T → DSt → Mu → (Bool → Mu → Prop) → DE → Prop
  | .and a b, σ, μ, Q, E => wpT a σ μ (fun k μ1 => match k with
    | true => wpT b σ μ1 Q E
    | false => Q false μ1) E
  | .or a b, σ, μ, Q, E => wpT a σ μ (fun k μ1 => match k with
    | true => Q true μ1
    | false => wpT b σ μ1 Q E) E
  | .not a, σ, μ, Q, E => wpT a σ μ (fun k μ1 => Q (!k) μ1) E
  | .of a, σ, μ, Q, E => wpE a σ μ (fun x μ1 => match x with
    | .bl k => Q k μ1
    | _ => False) E
  | .cmp o a b, σ, μ, Q, E => wpE a σ μ (fun x μ1 => wpE b σ μ1 (fun y μ2 => cmpW o x y μ2 fun k => Q k μ2) E) E
  | .mdin b a i, σ, μ, Q, E => wpE a σ μ (fun y μ1 => mdinW (gl i) y fun k => Q (k == b) μ1) E
  | .din b i a, σ, μ, Q, E => wpE i σ μ (fun y μ1 => wpE a σ μ1 (fun x μ2 => dinW x y μ2 fun k => Q (k == b) μ2) E) E
  | .chain o o' a b c, σ, μ, Q, E => wpE a σ μ (fun x μ1 => wpE b σ μ1 (fun y μ2 => cmpW o x y μ2 fun k =>
      match k with
      | true => wpE c σ μ2 (fun z μ3 => cmpW o' y z μ3 fun k' => Q k' μ3) E
      | false => Q false μ2) E) E
  | .yes, _, μ, Q, _ => Q true μ
def wpI : Ic → DSt → Mu → IQ → DE → Prop
  | .seq a, σ, μ, R, E => wpE a σ μ (fun x μ1 => itSeq x μ1 R) E
  | .rng as, σ, μ, R, E => wpA as σ μ (fun ds μ1 => itRng ds μ1 R) E
  | .enum a, σ, μ, R, E => wpE a σ μ (fun x μ1 => itEnum x μ1 R) E
  | .zip a b, σ, μ, R, E => wpE a σ μ (fun x μ1 => wpE b σ μ1 (fun y μ2 => itZip x y μ2 R) E) E
  | .zip3 a b c, σ, μ, R, E => wpE a σ μ (fun x μ1 => wpE b σ μ1 (fun y μ2 => wpE c σ μ2 (fun z μ3 => itZip3 x y z μ3 R) E) E) E
  | .rev a, σ, μ, R, E => wpE a σ μ (fun x μ1 => itRev x μ1 R) E
end
end
end DL

namespace DL
open PySem PySem.Spec PyProof.Rows L2

/-! ### what is wanted, lifted to the heap -/
def LQ (K : PySem.W.Frag) (F G : Hp) (Q : DQ) : VK := fun v H' => ∃ F' d μ', Same F F' ∧ Ag K F' G μ' H' ∧ Rep K F' d v ∧ Q d μ'
theorem LQ.mk {K : PySem.W.Frag} {F F' G H' : Hp} {Q : DQ} {d : D} {v : V} {μ' : Mu} (s : Same F F') (A : Ag K F' G μ' H') (r : Rep K F' d v) (q : Q d μ') : LQ K F G Q v H' := ⟨F', d, μ', s, A, r, q⟩
theorem LQ.weak {K : PySem.W.Frag} {F F1 G H' : Hp} {Q : DQ} {v : V} (s : Same F F1) (h : LQ K F1 G Q v H') : LQ K F G Q v H' := by
  obtain ⟨F', d, μ', s', A, r, q⟩ := h
  exact ⟨F', d, μ', s.trans s', A, r, q⟩
section
variable {K : PySem.W.Frag} {F G H : Hp} {μ : Mu} {Q : DQ}
theorem LQ.here {d : D} {v : V} (A : Ag K F G μ H) (r : Rep K F d v) (q : Q d μ) : LQ K F G Q v H := ⟨F, d, μ, Same.refl F, A, r, q⟩
/-- a new list -/
theorem newL_ok {own : Bool} {ds : List D} {vs : List V} {p : Addr} (A : Ag K F G μ H) (n : H p = none) (r : Reps K F ds vs) (q : newL own ds μ Q) : LQ K F G Q (.ref p) (upd H p (.lst vs)) := by
  cases own with
  | true => exact ⟨F, .obj p, (p, .lst ds) :: μ, Same.refl F, A.new n (.lst r), .obj p, q p (A.fresh n)⟩
  | false => exact ⟨_, .lst ds, μ, A.laidF n, A.laid n, .lst upd_same (r.mono (A.laidF n)), q⟩
theorem newT_ok {ds : List D} {vs : List V} {p : Addr} (A : Ag K F G μ H) (n : H p = none) (r : Reps K F ds vs) (q : Q (.tup ds) μ) : LQ K F G Q (.ref p) (upd H p (.tup vs)) :=
  ⟨_, .tup ds, μ, A.laidF n, A.laid n, .tup (SqT.of upd_same) (r.mono (A.laidF n)), q⟩
theorem seqL_ok {x : D} {v : V} {ds : List D} (A : Ag K F G μ H) (r : Rep K F x v) (h : seqL μ x = some ds) : ∃ a vs, v = .ref a ∧ SqL K H a vs ∧ Reps K F ds vs := by
  cases r with
  | lst a r =>
    cases h
    exact ⟨_, _, rfl, SqL.of (A.f _ _ a), r⟩
  | klst a r =>
    cases h
    exact ⟨_, _, rfl, sqL_mono A.f a, r⟩
  | obj a =>
    unfold seqL at h
    cases e : Mu.get μ a with
    | none => simp only [e] at h; cases h
    | some m =>
      cases m with
      | lst ds' =>
        simp only [e] at h
        cases h
        obtain ⟨o, ho, r⟩ := A.at e
        obtain ⟨vs, rfl, rr⟩ := r.lst_inv
        exact ⟨a, vs, rfl, SqL.of ho, rr⟩
      | ins x ns ds' => simp only [e] at h; cases h
      | dic kds => simp only [e] at h; cases h
      | dct kds => simp only [e] at h; cases h
  | _ => cases h
theorem seqR_ok {x : D} {v : V} {ds : List D} (A : Ag K F G μ H) (r : Rep K F x v) (h : seqR μ x = some ds) : ∃ a vs, v = .ref a ∧ H a = some (.lst vs) ∧ Reps K F ds vs := by
  cases r with
  | lst a r =>
    cases h
    exact ⟨_, _, rfl, A.f _ _ a, r⟩
  | obj a =>
    unfold seqR at h
    cases e : Mu.get μ a with
    | none => simp only [e] at h; cases h
    | some m =>
      cases m with
      | lst ds' =>
        simp only [e] at h
        cases h
        obtain ⟨o, ho, r⟩ := A.at e
        obtain ⟨vs, rfl, rr⟩ := r.lst_inv
        exact ⟨a, vs, rfl, ho, rr⟩
      | ins x ns ds' => simp only [e] at h; cases h
      | dic kds => simp only [e] at h; cases h
      | dct kds => simp only [e] at h; cases h
  | _ => cases h
theorem insOf_ok {x : D} {v : V} {c : Str} {ns : List Str} {ds : List D} (A : Ag K F G μ H) (r : Rep K F x v) (h : insOf μ x = some (c, ns, ds)) : ∃ a C dx vs, v = .ref a ∧ H a = some (.ins C dx (ns.zip vs)) ∧ clsAt K c C ∧ ns.length = vs.length ∧ Reps K F ds vs := by
  unfold insOf at h
  split at h
  · cases h
    cases r with
    | ins hc ha hl hr => exact ⟨_, _, _, _, rfl, A.f _ _ ha, hc, hl, hr⟩
  · split at h
    · rename_i hm
      cases h
      cases r with
      | obj a =>
        obtain ⟨o, ho, m⟩ := A.at hm
        obtain ⟨C, d, vs, rfl, hc, hl, rr⟩ := m.ins_inv
        exact ⟨_, _, _, _, rfl, ho, hc, hl, rr⟩
    · cases h
  · cases h
theorem putF_zip {n : Str} {y : V} : ∀ {ns : List Str} {vs : List V}, ns.length = vs.length → putF n y (ns.zip vs) = (putN ns n).zip (putX ns vs n y)
  | [], [], _ => rfl
  | [], _ :: _, h => by cases h
  | _ :: _, [], h => by cases h
  | g :: ns, v :: vs, h => by
    rw [List.zip_cons_cons]
    show (if g = n then (g, y) :: ns.zip vs else (g, v) :: putF n y (ns.zip vs)) = _
    unfold putN putX
    split
    · rfl
    · rw [putF_zip (by simpa using h), List.zip_cons_cons]
theorem putN_len {α : Type} {n : Str} {y : α} : ∀ {ns : List Str} {vs : List α}, ns.length = vs.length → (putN ns n).length = (putX ns vs n y).length
  | [], [], _ => rfl
  | [], _ :: _, h => by cases h
  | _ :: _, [], h => by cases h
  | g :: ns, v :: vs, h => by
    unfold putN putX
    split
    · simpa using h
    · rw [List.length_cons, List.length_cons, putN_len (by simpa using h)]
theorem Reps.putX {n : Str} {d : D} {y : V} (r : Rep K F d y) : ∀ {ns : List Str} {ds : List D} {vs : List V}, Reps K F ds vs → Reps K F (DL.putX ns ds n d) (DL.putX ns vs n y)
  | [], _, _, h => .cons r .nil
  | _ :: _, _, _, .nil => .cons r .nil
  | g :: ns, _, _, .cons a h => by
    unfold DL.putX
    split
    · exact .cons r h
    · exact .cons a (Reps.putX r h)
theorem fput_ok {a : Addr} {c n : Str} {ns : List Str} {ds : List D} {d : D} {y : V} (A : Ag K F G μ H) (h : Mu.get μ a = some (.ins c ns ds)) (r : Rep K F d y) : ∃ C dx fs, H a = some (.ins C dx fs) ∧ clsAt K c C ∧ fs.length ≤ ns.length ∧ Ag K F G (Mu.put μ a (.ins c (putN ns n) (putX ns ds n d))) (upd H a (.ins C dx (putF n y fs))) := by
  obtain ⟨o, ho, m⟩ := A.at h
  obtain ⟨C, dx, vs, rfl, hc, hl, rr⟩ := m.ins_inv
  refine ⟨C, dx, _, ho, hc, by rw [List.length_zip]; exact Nat.min_le_left _ _, ?_⟩
  rw [putF_zip hl]
  exact A.put h (.ins hc (putN_len hl) (Reps.putX r rr))
theorem seqT_ok {x : D} {v : V} {ds : List D} (A : Ag K F G μ H) (r : Rep K F x v) (h : seqT x = some ds) : ∃ a vs, v = .ref a ∧ SqT K H a vs ∧ Reps K F ds vs := by
  cases r with
  | tup a r =>
    cases h
    exact ⟨_, _, rfl, sqT_mono A.f a, r⟩
  | _ => cases h
theorem seqA_ok {x : D} {v : V} {ds : List D} (A : Ag K F G μ H) (r : Rep K F x v) (h : seqA μ x = some ds) : ∃ a vs, v = .ref a ∧ (SqL K H a vs ∨ SqT K H a vs) ∧ Reps K F ds vs := by
  unfold seqA at h
  cases e : seqT x with
  | some es =>
    simp only [e] at h
    cases h
    obtain ⟨a, vs, q1, q2, q3⟩ := seqT_ok A r e
    exact ⟨a, vs, q1, .inr q2, q3⟩
  | none =>
    simp only [e] at h
    obtain ⟨a, vs, q1, q2, q3⟩ := seqL_ok A r h
    exact ⟨a, vs, q1, .inl q2, q3⟩
theorem Reps.asInts : ∀ {ds : List D} {vs : List V} {ns : List Int}, Reps K F ds vs → asInts ds = some ns → vs = ns.map V.int ∧ ds = ns.map D.int
  | _, _, _, .nil, h => by cases h; exact ⟨rfl, rfl⟩
  | _, _, ns, .cons a r, h => by
    cases a with
    | int i =>
      unfold DL.asInts at h
      cases e : DL.asInts _ with
      | none => rw [e] at h; cases h
      | some ms =>
        rw [e] at h
        cases h
        obtain ⟨h1, h2⟩ := Reps.asInts r e
        exact ⟨by rw [h1]; rfl, by rw [h2]; rfl⟩
    | _ => cases h
theorem Reps.asBls : ∀ {ds : List D} {vs : List V} {bs : List Bool}, Reps K F ds vs → asBls ds = some bs → vs = bs.map V.bl
  | _, _, _, .nil, h => by cases h; rfl
  | _, _, ns, .cons a r, h => by
    cases a with
    | bl i =>
      unfold DL.asBls at h
      cases e : DL.asBls _ with
      | none => rw [e] at h; cases h
      | some ms =>
        rw [e] at h
        cases h
        rw [Reps.asBls r e]
        rfl
    | _ => cases h
mutual
theorem Rep.dp (A : Same F H) : ∀ {d : D} {v : V}, Rep K F d v → (pd d).canLay0 = true → Dp K H v (pd d)
  | _, _, .non, _ => .non
  | _, _, .bl b, _ => .bl b
  | _, _, .int i, _ => .int i
  | _, _, .str x, _ => .str x
  | _, _, .tup a r, h => .tup (sqT_mono A a) (Reps.dp A r h)
  | _, _, .lst a r, h => .lst (SqL.of (A _ _ a)) (Reps.dp A r h)
  | _, _, .klst a r, h => .lst (sqL_mono A a) (Reps.dp A r h)
  | _, _, .obj a, h => by cases h
  | _, _, .op v, h => by cases h
  | _, _, .dic a, h => by cases h
  | _, _, .dic0 a, h => by cases h
  | _, _, .cls a, h => by cases h
  | _, _, .exc0 a b, h => by cases h
  | _, _, .exc a b c d e, h => by cases h
  | _, _, .ins a b c d, h => by cases h
  | _, _, .dkk a b c, h => by cases h
  | _, _, .dct a b c, h => by cases h
theorem Reps.dp (A : Same F H) : ∀ {ds : List D} {vs : List V}, Reps K F ds vs → PyData.canLayAll0 (pds ds) = true → DpAll K H vs (pds ds)
  | _, _, .nil, _ => .nil
  | d :: ds, _, .cons a r, h => by
    have h' := Bool.and_eq_true_iff.mp (show ((pd d).canLay0 && PyData.canLayAll0 (pds ds)) = true from h)
    exact .cons (Rep.dp A a h'.1) (Reps.dp A r h'.2)
end
theorem Rep.dpm {d : D} {v : V} (A : Ag K F G μ H) (r : Rep K F d v) (h : SeqAt.shaped (pdm μ d) = true) : Dp K H v (pdm μ d) := by
  have hl := SeqAt.canLay_of_shaped h
  cases r with
  | obj a =>
    show Dp K H (.ref a) (pdm μ (.obj a))
    have hl : (pdm μ (.obj a)).canLay0 = true := hl
    unfold pdm at hl ⊢
    cases e : Mu.get μ a with
    | none => simp only [e] at hl; cases hl
    | some m =>
      cases m with
      | lst ds =>
        simp only [e] at hl ⊢
        obtain ⟨o, ho, r⟩ := A.at e
        obtain ⟨vs, rfl, rr⟩ := r.lst_inv
        exact .lst (SqL.of ho) (Reps.dp A.f rr hl)
      | ins x ns ds => simp only [e] at hl; cases hl
      | dic kds => simp only [e] at hl; cases hl
      | dct kds => simp only [e] at hl; cases hl
  | non => exact Rep.dp A.f .non hl
  | bl b => exact Rep.dp A.f (.bl b) hl
  | int b => exact Rep.dp A.f (.int b) hl
  | str b => exact Rep.dp A.f (.str b) hl
  | tup a r => exact Rep.dp A.f (.tup a r) hl
  | lst a r => exact Rep.dp A.f (.lst a r) hl
  | klst a r => exact Rep.dp A.f (.klst a r) hl
  | op v => exact Rep.dp A.f (.op v) hl
  | dic a => exact Rep.dp A.f (.dic a) hl
  | dic0 a => exact Rep.dp A.f (.dic0 a) hl
  | cls a => exact Rep.dp A.f (.cls a) hl
  | exc0 a b => exact Rep.dp A.f (.exc0 a b) hl
  | exc a b c d e => exact Rep.dp A.f (.exc a b c d e) hl
  | ins a b c d => exact Rep.dp A.f (.ins a b c d) hl
  | dkk a b => exact Rep.dp A.f (.dkk a b _) hl
  | dct a b c => exact Rep.dp A.f (.dct a b c) hl
end

/-! ### the meaning of a piece of text as a reading -/
section
variable (X : Cx)
def tS (e : Expr) : TE := fun σ H Q => ∀ pins s, Inv X pins σ H s → wpAny (model X.prog X.w) X.A (eval e X.env) (EP X pins σ Q) X.xe s
def tA (es : List Expr) : TA := fun σ H Q => ∀ pos pins s, Inv X pins σ H s → wpAny (model X.prog X.w) X.A (spliced (backTo pos (starEach es X.env))) (AP X pins σ Q) X.xe s
def tT (e : Expr) : TT := fun σ H Q => ∀ pins s, Inv X pins σ H s → wpAny (model X.prog X.w) X.A (isTrue e X.env (eval e X.env)) (TP X pins σ Q) X.xe s
def tI (tg e : Expr) : TI := fun σ H R => ∀ pins s, Inv X pins σ H s → wpAny (model X.prog X.w) X.A (eval e X.env) (fun v s1 => wpAny (model X.prog X.w) X.A (pyIter v) (PIE X pins σ tg R) X.xe s1) X.xe s
theorem tS_pe (e : Expr) : PE X e (tS X e) := ⟨fun pins s σ H Q I h => h pins s I⟩
theorem tA_pa (es : List Expr) : PA X es (tA X es) := ⟨fun pos pins s σ H Q I h => h pos pins s I⟩
theorem tT_pt (e : Expr) : PT X e (tT X e) := ⟨fun pins s σ H Q I h => h pins s I⟩
theorem tI_pi (tg e : Expr) : PI X tg e (tI X tg e) := ⟨fun pins s σ H Q I h => h pins s I⟩
end
section
variable {X : Cx} {e : Expr} {es : List Expr} {σ : L2.St} {H : Hp}
theorem PE.to {t : TE} {Q : VK} (h : PE X e t) (q : t σ H Q) : tS X e σ H Q := fun pins s I => h.run pins s σ H Q I q
theorem PA.to {t : TA} {Q : List V → Hp → Prop} (h : PA X es t) (q : t σ H Q) : tA X es σ H Q := fun pos pins s I => h.run pos pins s σ H Q I q
theorem PT.to {t : TT} {Q : Bool → Hp → Prop} (h : PT X e t) (q : t σ H Q) : tT X e σ H Q := fun pins s I => h.run pins s σ H Q I q
theorem PI.to {tg : Expr} {t : TI} {R : L2.It → Hp → Prop} (h : PI X tg e t) (q : t σ H R) : tI X tg e σ H R := fun pins s I => h.run pins s σ H R I q
theorem tS.mono {Q Q' : VK} (h : tS X e σ H Q) (hq : ∀ v H', Q v H' → Q' v H') : tS X e σ H Q' := fun pins s I =>
  thn (h pins s I) fun u s' ⟨v, H', I', r, q⟩ => ⟨v, H', I', r, hq v H' q⟩
theorem tA.mono {Q Q' : List V → Hp → Prop} (h : tA X es σ H Q) (hq : ∀ v H', Q v H' → Q' v H') : tA X es σ H Q' := fun pos pins s I =>
  thn (h pos pins s I) fun u s' ⟨v, H', I', r, q⟩ => ⟨v, H', I', r, hq v H' q⟩
theorem tT.mono {Q Q' : Bool → Hp → Prop} (h : tT X e σ H Q) (hq : ∀ v H', Q v H' → Q' v H') : tT X e σ H Q' := fun pins s I =>
  thn (h pins s I) fun u s' ⟨H', I', q⟩ => ⟨H', I', hq u H' q⟩
theorem tI.mono {tg : Expr} {R R' : L2.It → Hp → Prop} (h : tI X tg e σ H R) (hq : ∀ v H', R v H' → R' v H') : tI X tg e σ H R' := fun pins s I =>
  thn (h pins s I) fun u s' h' => thn h' fun it s2 ⟨i, fp, tn, J, H', a, b, c, d, f, q⟩ => ⟨i, fp, tn, J, H', a, b, c, d, f, hq J H' q⟩
end
def rSem (X : Cx) (f : Value → Value → Sem Value) : R2 := fun x y H Q => ∀ pins s σ v u, Inv X pins σ H s → RelV x v → RelV y u → wpAny (model X.prog X.w) X.A (f v u) (EP X pins σ Q) X.xe s
theorem opSem {X : Cx} {f : Value → Value → Sem Value} : OpR X f (rSem X f) := fun pins s σ H x y v u Q I rx ry h => h pins s σ v u I rx ry
theorem opTo {X : Cx} {f : Value → Value → Sem Value} {r : R2} {x y : V} {H : Hp} {Q : VK} (h : OpR X f r) (q : r x y H Q) : rSem X f x y H Q := fun pins s σ v u I rx ry => h pins s σ H x y v u Q I rx ry q
def rUn (X : Cx) (f : Value → Sem Value) : V → Hp → VK → Prop := fun x H Q => ∀ pins s σ v, Inv X pins σ H s → RelV x v → wpAny (model X.prog X.w) X.A (f v) (EP X pins σ Q) X.xe s
def rCall (X : Cx) (f : Value) : List V → Hp → VK → Prop := fun xs H Q => ∀ pins s σ us, Inv X pins σ H s → Vals xs us → wpAny (model X.prog X.w) X.A (call f us) (EP X pins σ Q) X.xe s
theorem callSem {X : Cx} {f : Value} : CallR X f (rCall X f) := fun pins s σ H xs us Q I r h => h pins s σ us I r
theorem callTo {X : Cx} {f : Value} {r : List V → Hp → VK → Prop} {xs : List V} {H : Hp} {Q : VK} (h : CallR X f r) (q : r xs H Q) : rCall X f xs H Q := fun pins s σ us I rv => h pins s σ H xs us Q I rv q

/-! ### the operators -/
def boOp : BO → Operator
  | .add => .Add | .addO => .Add | .sub => .Sub | .mul => .Mult | .mulO => .Mult | .fdiv => .FloorDiv | .mod => .Mod | .pow => .Pow | .shl => .LShift
section
variable {X : Cx} {F G H : Hp} {μ : Mu} {Q : DQ}
theorem op_mulS : OpR X (binaryOp .Mult) (fun x y H Q => ∃ a k, x = .str a ∧ y = .int k ∧ MulOk a k ∧ Q (.str (Txt.mul a k)) H) := by
  intro pins s σ H x y v u Q I rx ry h
  obtain ⟨a, k, rfl, rfl, ok, q⟩ := h
  obtain ⟨t, rfl⟩ := rx
  obtain ⟨t', rfl⟩ := ry
  exact SB.mul ok fun t2 tk => ⟨.str (Txt.mul a k), H, I.tok _, ⟨_, rfl⟩, q⟩
theorem op_mulI : OpR X (binaryOp .Mult) (rI IntMulOk fun i j => .int (i * j)) := opI fun _ _ _ _ _ _ _ hc q => mul_int q hc
theorem op_fdivI : OpR X (binaryOp .FloorDiv) (rI DivOk fun i j => .int (i / j)) := opI fun i j _ _ _ _ _ hc q => by
  have h1 : (0 : Int) < j := hc.1
  exact floordiv_int (by omega) (by rw [Int.fdiv_eq_ediv_of_nonneg i (by omega)]; exact q) (.inl hc.2)
/-- tuple times a number: itself, or a new one -/
abbrev tupO (its : Array Value) (n : Nat) (dd : Option Addr) (sl : Array (Option Value)) : Obj := { cls := .type "tuple", dict := dd, data := .seq its n, slots := sl }
section
variable (t : Addr) (its : Array Value) (n : Nat) (dd : Option Addr) (sl : Array (Option Value)) (k : Int) (u : Tok)
theorem tmul_same (c0 : (decide (k < -(2 ^ 63)) || decide (k ≥ 2 ^ 63)) = false) (c1 : (its.isEmpty || k == 1) = true) :
    Meets (Builtin.«tuple.__mul__» ⟨[.ref t, .int k u], []⟩) fun _ R s => s.heap.get? t = some (tupO its n dd sl) ∧ R (.ok (.ret (.ref t))) s := .of_wp fun prog w A R s h => by
  obtain ⟨hp, g, d, tk, os⟩ := s
  obtain ⟨hl, h⟩ := h
  have f1 := AutoSeq1.idx_int
  wp_walk using wpAny_loadPart' hl
  repeat (first
    | (refine wpAny_ite_false (decide_eq_false (by rw [c0]; exact Bool.false_ne_true)) ?_
       wp_walk using wpAny_loadPart' hl)
    | (refine wpAny_ite_true (decide_eq_true (by rw [c1])) ?_
       wp_walk using wpAny_loadPart' hl)
    | (rw [if_pos c1]
       wp_walk using wpAny_loadPart' hl))
  exact ⟨_, rfl, h⟩
theorem tmul_none (c0 : (decide (k < -(2 ^ 63)) || decide (k ≥ 2 ^ 63)) = false) (c1 : (its.isEmpty || k == 1) = false) (c2 : (decide (k ≤ 0) || its.isEmpty) = true) :
    Meets (Builtin.«tuple.__mul__» ⟨[.ref t, .int k u], []⟩) fun _ R s => s.heap.get? t = some (tupO its n dd sl) ∧ R (.ok (.ret (.ref s.heap.objs.size))) { s with heap := s.heap.push { cls := .type "tuple", data := .seq #[] }, toks := s.toks } := .of_wp fun prog w A R s h => by
  obtain ⟨hp, g, d, tk, os⟩ := s
  obtain ⟨hl, h⟩ := h
  have f1 := AutoSeq1.idx_int
  wp_walk using wpAny_loadPart' hl
  repeat (first
    | (refine wpAny_ite_false (decide_eq_false (by rw [c0]; exact Bool.false_ne_true)) ?_
       wp_walk using wpAny_loadPart' hl)
    | (refine wpAny_ite_false (decide_eq_false (by rw [c1]; exact Bool.false_ne_true)) ?_
       wp_walk using wpAny_loadPart' hl)
    | (refine wpAny_ite_true (decide_eq_true (by rw [c2])) ?_
       wp_walk using wpAny_loadPart' hl)
    | (rw [if_pos c2]
       wp_walk using wpAny_loadPart' hl))
  exact ⟨_, rfl, h⟩
end
theorem flat_arr (its : List Value) (m : Nat) : List.foldl (fun a b => a ++ b) #[] (List.replicate m its.toArray) = (List.replicate m its).flatten.toArray := by
  have e := foldl_rep its m []
  rwa [List.nil_append] at e
theorem tup_push {h : Heap} {its : List Value} : IsTup (h.push { cls := .type "tuple", data := .seq its.toArray }) h.objs.size its.toArray := IsTup.new _ _
theorem op_repTA : OpR X (binaryOp .Mult) (fun x y H Q => ∃ l k xs, x = .ref l ∧ y = .int k ∧ SqT X.K H l xs ∧ -(2 ^ 63) ≤ k ∧ k < 2 ^ 63 ∧ xs.length * k.toNat ≤ sizeLine ∧
    (xs = [] ∨ k = 1 → Q (.ref l) H) ∧ ∀ p, H p = none → Q (.ref p) (upd H p (.tup (List.replicate k.toNat xs).flatten))) := by
  intro pins s σ H x y v u Q I rx ry h
  obtain ⟨l, k, xs, rfl, rfl, hT, k1, k2, hz, q1, q2⟩ := h
  cases rx
  obtain ⟨t, rfl⟩ := ry
  obtain ⟨its, r, ⟨⟨cls, dd, data, sl⟩, ho, hc, n, hd⟩, hs⟩ := I.tuple hT
  dsimp only at hc hd
  subst hc hd
  have len := r.length
  have c0 : (decide (k < -(2 ^ 63)) || decide (k ≥ 2 ^ 63)) = false := by
    rw [Bool.or_eq_false_iff]
    exact ⟨decide_eq_false (by omega), decide_eq_false (by omega)⟩
  have road : ∀ {R : Value → Shared → Prop}, wpAny (model X.prog X.w) X.A (call (.builtin "tuple.__mul__") [.ref l, .int k t]) R X.xe s → wpAny (model X.prog X.w) X.A (binaryOp .Mult (.ref l) (.int k t)) R X.xe s := fun {R} hw =>
    wpAny_binaryOp_repeat_ref (T := "tuple") (U := "int") (by decide) ⟨_, ho, rfl⟩ (fun s' => typeIs_int s' k t) noFill_tuple_mul F.fills_int_mul F.slot_int_rmul repeat_tuple F.slot_int_index.lookup
      (call_meets F.slot_int_rmul (typeIs_int s k t) F.entry_int_rmul (F.args_int_rmul_2 _ _) (int_rmul_tuple k t l its.toArray n dd sl) ⟨ho, rfl, ⟨_, ho, rfl⟩, hw⟩)
  refine road ?_
  by_cases e1 : (its.toArray.isEmpty || k == 1) = true
  · refine call_meets F.slot_tuple_mul ⟨_, ho, rfl⟩ F.entry_tuple_mul (F.args_tuple_mul_2 _ _) (tmul_same l its.toArray n dd sl k t c0 e1) ⟨ho, ⟨.ref l, H, I, rfl, q1 ?_⟩⟩
    rcases Bool.or_eq_true_iff.mp e1 with z | z
    · have z' : its = [] := by
        cases its with
        | nil => rfl
        | cons a b => cases z
      subst z'
      exact .inl (List.eq_nil_of_length_eq_zero len)
    · exact .inr (eq_of_beq z)
  · have c1 : (its.toArray.isEmpty || k == 1) = false := by
      cases z : (its.toArray.isEmpty || k == 1) with
      | true => exact absurd z e1
      | false => rfl
    by_cases e2 : (decide (k ≤ 0) || its.toArray.isEmpty) = true
    · have k0 : k ≤ 0 := by
        rcases Bool.or_eq_true_iff.mp e2 with z | z
        · exact of_decide_eq_true z
        · rw [z] at c1; cases c1
      refine call_meets F.slot_tuple_mul ⟨_, ho, rfl⟩ F.entry_tuple_mul (F.args_tuple_mul_2 _ _) (tmul_none l its.toArray n dd sl k t c0 c1 e2) ⟨ho, ?_⟩
      have e3 : k.toNat = 0 := by omega
      have q3 := q2 _ I.fresh
      rw [e3] at q3
      refine ⟨.ref s.heap.objs.size, _, I.laid (t' := s.toks) (o := .tup []) (fun b ob q => Heap.get?_push_of_some _ q) (Nat.le_refl _) ?_, rfl, q3⟩
      exact ⟨Nat.zero_le _, [], .nil, tup_push (its := [])⟩
    · have c2 : (decide (k ≤ 0) || its.toArray.isEmpty) = false := by
        cases z : (decide (k ≤ 0) || its.toArray.isEmpty) with
        | true => exact absurd z e2
        | false => rfl
      have k0 : ¬ k ≤ 0 := of_decide_eq_false (Bool.or_eq_false_iff.mp c2).1
      have size : its.toArray.size = xs.length := by rw [List.size_toArray, ← len]
      have hn : (((its.toArray.size : Nat) : Int) * k) = ((xs.length * k.toNat : Nat) : Int) := by
        rw [size, Int.natCast_mul]
        congr 1
        omega
      have line : (sizeLine : Nat) = 16777216 := sizeLine_eq
      have c4 : Builtin.Tuple.tupleTooMany (((its.toArray.size : Nat) : Int) * k) = false := by
        unfold Builtin.Tuple.tupleTooMany
        rw [hn]
        exact decide_eq_false (by omega)
      have flen : (List.replicate k.toNat its).flatten.length ≤ sizeLine := by
        rw [PyProof.Rows.lm_len_rep_flat, ← len, Nat.mul_comm]
        exact hz
      refine call_meets F.slot_tuple_mul ⟨_, ho, rfl⟩ F.entry_tuple_mul (F.args_tuple_mul_2 _ _) (tuple_mulW l its.toArray n dd sl k t c0 c1 c2 (by rw [hn]; omega) c4 (by rw [flat_arr, List.size_toArray]; exact flen)) ⟨ho, ?_⟩
      rw [flat_arr]
      refine ⟨.ref s.heap.objs.size, _, I.laid (t' := s.toks) (o := .tup (List.replicate k.toNat xs).flatten) (fun b ob q => Heap.get?_push_of_some _ q) (Nat.le_refl _) ?_, rfl, q2 _ I.fresh⟩
      exact ⟨by rw [PyProof.Rows.lm_len_rep_flat, Nat.mul_comm]; exact hz, _, r.rep k.toNat, tup_push⟩
theorem int_add_bool_bool (a b : Bool) : Gives (Builtin.«int.__add__» ⟨[.bool a, .bool b], []⟩) (.int ((if a = true then (1 : Int) else 0) + (if b = true then (1 : Int) else 0))) :=
  .of_wp fun M A E s Q h => by obtain ⟨hp, g, d, tk, os⟩ := s; wp_walk; exact ⟨_, rfl, h⟩
theorem add_bool_bool {prog : Program} {w : World} {A : Around} {E : Value → Shared → Prop} {s : Shared} {Q : Value → Shared → Prop} {a b : Bool} (h : Q (.int ((if a = true then (1 : Int) else 0) + (if b = true then (1 : Int) else 0)) s.toks) { s with toks := s.toks + 1 }) : wpAny (model prog w) A (binaryOp .Add (.bool a) (.bool b)) Q E s :=
  binaryOp_gives (op := .Add) (T := "bool") rfl rfl F.fills_bool_add F.slot_bool_add F.entry_int_add (F.args_int_add_2 _ _) (int_add_bool_bool a b) trivial h
theorem op_add_bi : OpR X (binaryOp .Add) (fun x y H Q => ∃ (k : Bool) (i : Int), x = .bl k ∧ y = .int i ∧ Q (.int ((if k = true then 1 else 0) + i)) H) := by
  intro pins s σ H x y v u Q I rx ry h
  obtain ⟨k, i, rfl, rfl, q⟩ := h
  obtain ⟨t, rfl⟩ := ry
  cases rx
  exact PySem.IntBool.add_bool_int ⟨.int _, H, I.tok _, ⟨_, rfl⟩, q⟩
theorem op_add_bb : OpR X (binaryOp .Add) (fun x y H Q => ∃ (k l : Bool), x = .bl k ∧ y = .bl l ∧ Q (.int ((if k = true then 1 else 0) + (if l = true then 1 else 0))) H) := by
  intro pins s σ H x y v u Q I rx ry h
  obtain ⟨k, i, rfl, rfl, q⟩ := h
  cases ry
  cases rx
  exact add_bool_bool ⟨.int _, H, I.tok _, ⟨_, rfl⟩, q⟩
theorem op_sub_bi : OpR X (binaryOp .Sub) (fun x y H Q => ∃ (k : Bool) (i : Int), x = .bl k ∧ y = .int i ∧ Q (.int ((if k = true then 1 else 0) - i)) H) := by
  intro pins s σ H x y v u Q I rx ry h
  obtain ⟨k, i, rfl, rfl, q⟩ := h
  obtain ⟨t, rfl⟩ := ry
  cases rx
  exact PySem.IntBool.sub_bool_int ⟨.int _, H, I.tok _, ⟨_, rfl⟩, q⟩
theorem bin_ok (hu : X.A.units + 64 < cLine) (o : BO) {x y : D} {a b : V} (A : Ag X.K F G μ H) (rx : Rep X.K F x a) (ry : Rep X.K F y b) (q : binW o x y μ Q) : rSem X (binaryOp (boOp o)) a b H (LQ X.K F G Q) := by
  have cat : ∀ (own : Bool), (∃ ds es, seqR μ x = some ds ∧ seqR μ y = some es ∧ ds.length + es.length ≤ sizeLine ∧ newL own (ds ++ es) μ Q) → rSem X (binaryOp .Add) a b H (LQ X.K F G Q) := by
    rintro own ⟨ds, es, h1, h2, h3, h4⟩
    obtain ⟨p1, vs, rfl, hv, rv⟩ := seqR_ok A rx h1
    obtain ⟨p2, us, rfl, hu', ru⟩ := seqR_ok A ry h2
    exact opTo op_cat ⟨_, _, _, _, rfl, rfl, hv, hu', by rw [← rv.length, ← ru.length]; exact h3, fun p np => newL_ok A np (rv.append ru) h4⟩
  have rep : ∀ (own : Bool) (k : Int), b = .int k → (∃ ds, seqR μ x = some ds ∧ -(2 ^ 63) ≤ k ∧ k < 2 ^ 63 ∧ ds.length * k.toNat ≤ sizeLine ∧ newL own (List.replicate k.toNat ds).flatten μ Q) → rSem X (binaryOp .Mult) a b H (LQ X.K F G Q) := by
    rintro own k rfl ⟨ds, h1, h2, h3, h4, h5⟩
    obtain ⟨p1, vs, rfl, hv, rv⟩ := seqR_ok A rx h1
    exact opTo op_rep ⟨_, _, _, rfl, rfl, hv, h2, h3, by rw [← rv.length]; exact h4, fun p np => newL_ok A np (rv.flat _) h5⟩
  cases o with
  | addO => exact cat true (by cases x <;> cases y <;> exact q)
  | add =>
    cases rx <;> cases ry <;> first
      | exact cat false q
      | exact opTo op_add ⟨_, _, rfl, rfl, LQ.here A (.int _) q⟩
      | exact opTo op_add_str ⟨_, _, rfl, rfl, q.1, LQ.here A (.str _) q.2⟩
      | exact opTo op_add_ib ⟨_, _, rfl, rfl, LQ.here A (.int _) q⟩
      | exact opTo op_add_bi ⟨_, _, rfl, rfl, LQ.here A (.int _) q⟩
      | exact opTo op_add_bb ⟨_, _, rfl, rfl, LQ.here A (.int _) q⟩
      | skip
    rename_i p1 vs ds t1 r1 p2 us es t2 r2
    refine opTo op_catA ⟨_, _, _, _, rfl, rfl, sqT_mono A.f t1, sqT_mono A.f t2, by rw [← r1.length, ← r2.length]; exact q.1, fun e => ?_, fun _ e => ?_, fun _ _ p np => newT_ok A np (r1.append r2) q.2⟩
    · subst e
      cases r1
      exact LQ.here A (.tup t2 r2) q.2
    · subst e
      cases r2
      exact LQ.here A (.tup t1 r1) (by have := q.2; rw [List.append_nil] at this; exact this)
  | sub =>
    cases rx <;> cases ry <;> first
      | exact opTo op_sub_bi ⟨_, _, rfl, rfl, LQ.here A (.int _) q⟩
      | exact opTo op_sub ⟨_, _, rfl, rfl, LQ.here A (.int _) q⟩
      | exact q.elim
  | mulO => 
    cases ry with
    | int k => exact rep true k rfl (by cases x <;> exact q)
    | _ => cases x <;> exact q.elim
  | mul =>
    cases ry with
    | int k =>
      cases rx with
      | int i => exact opTo op_mulI ⟨_, _, rfl, rfl, q.1, LQ.here A (.int _) q.2⟩
      | str x => exact opTo op_mulS ⟨_, _, rfl, rfl, q.1, LQ.here A (.str _) q.2⟩
      | tup t r =>
        rename_i p1 vs ds
        refine opTo op_repTA ⟨_, _, _, rfl, rfl, sqT_mono A.f t, q.1, q.2.1, by rw [← r.length]; exact q.2.2.1, fun e => ?_, fun p np => newT_ok A np (r.flat _) q.2.2.2⟩
        have e2 : (List.replicate k.toNat ds).flatten = ds := by
          rcases e with e | e
          · subst e
            cases r
            simp
          · subst e
            simp
        have q4 := q.2.2.2
        rw [e2] at q4
        exact LQ.here A (.tup t r) q4
      | _ => exact rep false k rfl q
    | _ => cases x <;> exact q.elim
  | fdiv =>
    cases rx <;> cases ry <;> first
      | exact opTo op_fdivI ⟨_, _, rfl, rfl, q.1, LQ.here A (.int _) q.2⟩
      | exact q.elim
  | mod =>
    cases rx <;> cases ry <;> first
      | exact opTo op_mod ⟨_, _, rfl, rfl, q.1, LQ.here A (.int _) q.2⟩
      | exact q.elim
  | pow =>
    cases rx <;> cases ry <;> first
      | exact opTo op_pow ⟨_, _, rfl, rfl, q.1, LQ.here A (.int _) q.2⟩
      | exact q.elim
  | shl =>
    cases rx <;> cases ry <;> first
      | exact opTo op_shlW ⟨_, _, rfl, rfl, q.1, LQ.here A (.int _) q.2⟩
      | exact q.elim
end
end DL

namespace DL
open PySem PySem.Spec PyProof.Rows
section
variable {prog : Program} {w : World} {A : Around} {E : Value → Shared → Prop} {s : Shared}
theorem places_back (n : Nat) : Builtin.Slice.slicePlaces ((n : Int) - 1) (-1) (-1) = n := by
  unfold Builtin.Slice.slicePlaces
  have h1 : ¬ ((-1 : Int) > 0) := by omega
  simp only [h1, if_false]
  have e : (- -1 : Int) = 1 := by omega
  rw [e]
  by_cases h : (n : Int) - 1 > -1
  · rw [if_pos h, Int.ediv_one]; omega
  · rw [if_neg h]; omega
theorem adjust_back (n : Nat) : Builtin.Slice.sliceAdjust none none (-1) (n : Int) = ((n : Int) - 1, -1) := by
  unfold Builtin.Slice.sliceAdjust
  simp
theorem pick_back (xs : Array Value) : ((List.range xs.size).filterMap fun (m : Nat) => xs[(((xs.size : Int) - 1) + (m : Int) * (-1)).toNat]?).toArray = xs.toList.reverse.toArray := by
  congr 1
  have e : ∀ m ∈ List.range xs.size, xs[(((xs.size : Int) - 1) + (m : Int) * (-1)).toNat]? = (fun k => xs[k]?) (xs.size - 1 - m) := by
    intro m hm
    have h := List.mem_range.mp hm
    have : (((xs.size : Int) - 1) + (m : Int) * (-1)).toNat = xs.size - 1 - m := by omega
    rw [this]
  have e0 : (List.range xs.size).filterMap (fun (m : Nat) => xs[(((xs.size : Int) - 1) + (m : Int) * (-1)).toNat]?) = (List.range xs.size).filterMap (fun m => (fun k => xs[k]?) (xs.size - 1 - m)) := by
    have h := List.map_congr_left e
    have h2 : ∀ f : Nat → Option Value, (List.range xs.size).filterMap f = ((List.range xs.size).map f).filterMap id := fun f => by rw [List.filterMap_map]; rfl
    rw [h2, h2, h]
  rw [e0]
  have h2 := PySem.W.krv_range xs.size
  have h3 : (List.range xs.size).filterMap (fun m => (fun k => xs[k]?) (xs.size - 1 - m)) = ((List.range xs.size).map (fun k => xs.size - 1 - k)).filterMap (fun k => xs[k]?) := by
    rw [List.filterMap_map]
    rfl
  rw [h3, h2, List.filterMap_reverse, PySem.W.krv_all]
theorem applied_back {sl : Addr} {vs : Value} {n : Nat} {Q : Int × Int × Nat → Shared → Prop} (hs : s.heap.IsSliceOf sl .none .none vs) (ps : IsPart vs (some (-1)))
    (h : Q ((n : Int) - 1, -1, n) s) : wpAny (model prog w) A (Builtin.Slice.sliceApplied (.ref sl) (pure (n : Int))) Q E s := by
  obtain ⟨os, hos, hcs, hds⟩ := id hs
  unfold Builtin.Slice.sliceApplied Builtin.Slice.sliceFields
  refine wpAny_bind (wpAny_bind (wpAny_field hos hds (x := .none) rfl (wpAny_bind (wpAny_field hos hds (x := .none) rfl (wpAny_bind (wpAny_field hos hds (x := vs) rfl (wpAny_pure ?_)))))))
  refine wpAny_bind (HT.slicePart_ ps ?_)
  show wpAny _ _ (if ((-1 : Int) == 0) = true then _ else _) _ _ s
  rw [if_neg (by decide)]
  refine wpAny_bind (HT.slicePart_ .none (wpAny_bind (HT.slicePart_ .none (wpAny_bind (wpAny_pure ?_)))))
  show wpAny _ _ (match Builtin.Slice.sliceAdjust none none (-1) (n : Int) with | (lo, hi) => pure (lo, (-1 : Int), Builtin.Slice.slicePlaces lo hi (-1))) _ _ s
  rw [adjust_back n]
  show wpAny _ _ (pure (((n : Int) - 1), (-1 : Int), Builtin.Slice.slicePlaces ((n : Int) - 1) (-1) (-1))) _ _ s
  rw [places_back]
  exact wpAny_pure h
theorem getItem_tuple_back {t sl : Addr} {items : Array Value} {vs : Value} {Q : Value → Shared → Prop} (ht : IsTup s.heap t items) (hs : s.heap.IsSliceOf sl .none .none vs) (ps : IsPart vs (some (-1)))
    (h : Q (.ref s.heap.objs.size) { s with heap := s.heap.push { cls := .type "tuple", data := .seq items.toList.reverse.toArray } })
    (hsz : items.size ≤ sizeLine) : wpAny (model prog w) A (getItem (.ref t) (.ref sl)) Q E s := by
  have htake : sizeOk (.seq items.toList.reverse.toArray) := by
    show items.toList.reverse.toArray.size ≤ sizeLine
    rw [List.size_toArray, List.length_reverse, Array.length_toList]
    exact hsz
  obtain ⟨os, hos, hcs, hds⟩ := id hs
  have hTs : s.TypeIs (.ref sl) "slice" := ⟨os, hos, hcs⟩
  unfold getItem
  try with_reducible refine wpAny_holding ?_
  first | refine wpAny_bind (wpAny_pure ?_) | skip
  refine wpAny_bind (wpAny_sequenceKey ht.typeIs (by decide) ?_)
  refine wpAny_bind (wpAny_callSpecial?_slot (name := Str.ofString "__getitem__") ht.typeIs PyProof.Rows.slot_tuple_getitem
    (wpAny_call_entry PyProof.Rows.slot_tuple_getitem ht.typeIs entry_tuple_getitem ?_ (args_tuple_getitem _ _)))
  show wpAny _ _ (Builtin.Tuple.tupleItemsOf (.ref t) >>= _) _ _ s
  refine wpAny_bind (tupleItemsOf_ ht ?_)
  refine wpAny_bind (wpAny_typeOf hTs ?_)
  rw [if_pos (by decide)]
  refine wpAny_bind (applied_back hs ps ?_)
  have hno : ¬ ((((items.size : Int) - 1) == 0 && (-1 : Int) == 1 && items.size == items.size) = true) := by
    intro q
    rw [Bool.and_eq_true, Bool.and_eq_true] at q
    exact absurd q.1.2 (by decide)
  show wpAny _ _ (if (((items.size : Int) - 1) == 0 && (-1 : Int) == 1 && items.size == items.size) = true then _ else _) _ _ s
  rw [if_neg hno, pick_back]
  first
    | exact wpAny_bind (m := Builtin.Tuple.tupleExact _) (wpAny_newObj_type (wpAny_pure ⟨_, rfl, wpAny_pure h⟩) htake)
    | exact wpAny_bind (m := Builtin.Tuple.tupleExact _) (wpAny_newObj_type (wpAny_bind (wpAny_pure (wpAny_pure ⟨_, rfl, wpAny_pure h⟩))) htake)
    | exact wpAny_bind (wpAny_bind (m := Builtin.Tuple.tupleExact _) (wpAny_newObj_type (wpAny_pure (wpAny_pure ⟨_, rfl, wpAny_pure h⟩)) htake))
    | exact wpAny_bind (wpAny_bind (m := Builtin.Tuple.tupleExact _) (wpAny_newObj_type (wpAny_pure ⟨_, rfl, wpAny_pure h⟩) htake))
end
end DL
namespace L2
open PySem PySem.Spec PyProof.Rows
variable {X : Cx}
def tRevA (K : PySem.W.Frag) (te : TE) : TE := fun σ H Q => te σ H fun x H1 => (∃ a xs, x = .ref a ∧ SqL K H1 a xs ∧ ∀ p, H1 p = none → Q (.ref p) (upd H1 p (.lst xs.reverse))) ∨ ∃ a xs, x = .ref a ∧ SqT K H1 a xs ∧ ∀ p, H1 p = none → Q (.ref p) (upd H1 p (.tup xs.reverse))
theorem pe_revA {e : Expr} {te : TE} {k : Nat} {p1 p2 p3 pos : Pos} (he : PE X e te) : PE X (.Subscript e (.Slice none none (some (.UnaryOp .USub (.Constant (.int 1) k p1) p2)) p3) pos) (tRevA X.K te) := by
  refine ⟨fun pins s σ H Q I h => ?_⟩
  refine Subscript_ (thn (he.run pins s σ H _ I h) fun v s1 ⟨x, H1, I1, r1, q1⟩ => ?_)
  have ⟨a, ex⟩ : ∃ a, x = .ref a := by rcases q1 with ⟨a, xs, ex, _⟩ | ⟨a, xs, ex, _⟩ <;> exact ⟨a, ex⟩
  subst ex
  cases r1
  have hst : PO X (some (.UnaryOp .USub (.Constant (.int 1) k p1) p2)) (tPart (tUn (rU fun i => .int (-i)) (tC (.int 1)))) := po_some (pe_un un_neg pe_int)
  refine wpAny_Slice (thn (po_none.run pins s1 σ H1 (fun o H2 => o = none ∧ H2 = H1) I1 ⟨rfl, rfl⟩) fun vl s2 ⟨l, H2, I2, pl, el, e2⟩ => ?_)
  subst el e2
  refine thn (po_none.run pins s2 σ H2 (fun o H3 => o = none ∧ H3 = H2) I2 ⟨rfl, rfl⟩) fun vu s3 ⟨u, H3, I3, pu, eu, e3⟩ => ?_
  subst eu e3
  refine thn (hst.run pins s3 σ H3 (fun o H4 => o = some (-1) ∧ H4 = H3) I3 ⟨1, rfl, -1, rfl, rfl, rfl⟩) fun vs s4 ⟨o, H4, I4, ps, eo, e4⟩ => ?_
  subst eo e4
  have I5 : Inv X pins σ H4 { s4 with heap := s4.heap.push { cls := .type "slice", data := .fields #[vl, vu, vs] } } := I4.kept (t' := s4.toks) fun b ob q => Heap.get?_push_of_some _ q
  show wpAny (model X.prog X.w) X.A (subscriptTail e (.Slice none none (some (.UnaryOp .USub (.Constant (.int 1) k p1) p2)) p3) (.ref a) (.ref s4.heap.objs.size)) (EP X pins σ Q) X.xe { s4 with heap := s4.heap.push { cls := .type "slice", data := .fields #[vl, vu, vs] } }
  rcases q1 with ⟨a', xs, ex, hx, q⟩ | ⟨a', xs, ex, hx, q⟩
  · cases ex
    obtain ⟨its, r, ht, hz⟩ := I5.list hx
    have hlen := r.length
    refine tail_any (ops := [.ref a, .ref s4.heap.objs.size]) ht.isList.typeIs (PySem.slot_list_getitem.lookup) ?_ (by with_unfolding_all rfl)
    refine wpAny_getItem_list_slice ht.isList (Heap.IsSliceOf.new _ vl vu vs) pl pu ps (by decide) ?_ (by rw [List.size_toArray]; omega)
    rw [PySem.W.krv_pick]
    refine ⟨.ref _, _, I5.laid (t' := s4.toks) (o := .lst xs.reverse) (fun b ob q => Heap.get?_push_of_some _ q) (Nat.le_refl _) ?_, rfl, q _ (I5.hok.fresh (Nat.le_refl _))⟩
    exact ⟨by rw [List.length_reverse]; exact hz, _, 0, r.reverse, Heap.get?_push_size _ rfl⟩
  · cases ex
    obtain ⟨its, r, ht, hz⟩ := I5.tuple hx
    have hlen := r.length
    cases pl
    cases pu
    refine tail_any (ops := [.ref a, .ref s4.heap.objs.size]) ht.typeIs (PyProof.Rows.slot_tuple_getitem.lookup) ?_ (by with_unfolding_all rfl)
    refine DL.getItem_tuple_back ht (Heap.IsSliceOf.new _ _ _ vs) ps ?_ (by rw [List.size_toArray]; omega)
    refine ⟨.ref _, _, I5.laid (t' := s4.toks) (o := .tup xs.reverse) (fun b ob q => Heap.get?_push_of_some _ q) (Nat.le_refl _) ?_, rfl, q _ (I5.hok.fresh (Nat.le_refl _))⟩
    exact ⟨by rw [List.length_reverse]; exact hz, _, r.reverse, IsTup.new _ _⟩
end L2
namespace DL
open PySem PySem.Spec PyProof.Rows L2

def coOp : CO → CmpOp
  | .eq => .Eq | .ne => .NotEq | .neX => .NotEq | .eqT => .Eq | .lt => .Lt | .le => .LtE | .gt => .Gt | .ge => .GtE | .isin => .In | .notin => .NotIn
  | .isN => .Is | .notN => .IsNot | .isB _ => .Is | .notB _ => .IsNot
/-- comparisons with a written None, True, False are told by their left side -/
def coR (o : CO) (y : D) : Prop := match o with
  | .isN | .notN => y = .non
  | .isB b | .notB b => y = .bl b
  | _ => True
section
variable {X : Cx} {F G H : Hp} {μ : Mu} {Q : DQ}
theorem eqv_scal {x y : D} (k : Bool → Prop) : eqW μ x y k → (∃ i j, x = .int i ∧ y = .int j ∧ k (decide (i = j))) ∨ (∃ i j, x = .str i ∧ y = .str j ∧ k (decide (i = j))) ∨ (∃ i j, x = .bl i ∧ y = .bl j ∧ k (decide (i = j))) ∨ eqG μ x y k := by
  intro h
  cases x <;> cases y <;> first
    | exact .inl ⟨_, _, rfl, rfl, h⟩
    | exact .inr (.inl ⟨_, _, rfl, rfl, h⟩)
    | exact .inr (.inr (.inl ⟨_, _, rfl, rfl, h⟩))
    | exact .inr (.inr (.inr h))
theorem eq_ok (hu : X.A.units + 64 < cLine) {x y : D} {a b : V} (A : Ag X.K F G μ H) (rx : Rep X.K F x a) (ry : Rep X.K F y b) (q : eqW μ x y fun k => Q (.bl k) μ) : rSem X (compareOp .Eq) a b H (LQ X.K F G Q) := by
  rcases eqv_scal _ q with ⟨i, j, rfl, rfl, q⟩ | ⟨i, j, rfl, rfl, q⟩ | ⟨i, j, rfl, rfl, q⟩ | q
  · cases rx; cases ry
    refine opTo op_eq ⟨rfl, LQ.here A (.bl _) ?_⟩
    have e : decide (V.int i = V.int j) = decide (i = j) := decide_eq_decide.mpr ⟨fun z => V.int.inj z, fun z => by rw [z]⟩
    rw [e]; exact q
  · cases rx; cases ry
    refine opTo op_eq ⟨rfl, LQ.here A (.bl _) ?_⟩
    have e : decide (V.str i = V.str j) = decide (i = j) := decide_eq_decide.mpr ⟨fun z => V.str.inj z, fun z => by rw [z]⟩
    rw [e]; exact q
  · cases rx; cases ry
    refine opTo op_eq ⟨rfl, LQ.here A (.bl _) ?_⟩
    have e : decide (V.bl i = V.bl j) = decide (i = j) := decide_eq_decide.mpr ⟨fun z => V.bl.inj z, fun z => by rw [z]⟩
    rw [e]; exact q
  · exact opTo (op_eqD hu) ⟨_, _, rx.dpm A q.1, ry.dpm A q.2.1, q.1, q.2.1, LQ.here A (.bl _) q.2.2⟩
theorem ne_ok (hu : X.A.units + 64 < cLine) {x y : D} {a b : V} (A : Ag X.K F G μ H) (rx : Rep X.K F x a) (ry : Rep X.K F y b) (q : eqW μ x y fun k => Q (.bl (!k)) μ) : rSem X (compareOp .NotEq) a b H (LQ X.K F G Q) := by
  rcases eqv_scal _ q with ⟨i, j, rfl, rfl, q⟩ | ⟨i, j, rfl, rfl, q⟩ | ⟨i, j, rfl, rfl, q⟩ | q
  · cases rx; cases ry
    refine opTo op_ne ⟨rfl, LQ.here A (.bl _) ?_⟩
    have e : decide (V.int i = V.int j) = decide (i = j) := decide_eq_decide.mpr ⟨fun z => V.int.inj z, fun z => by rw [z]⟩
    rw [e]; exact q
  · cases rx; cases ry
    refine opTo op_ne ⟨rfl, LQ.here A (.bl _) ?_⟩
    have e : decide (V.str i = V.str j) = decide (i = j) := decide_eq_decide.mpr ⟨fun z => V.str.inj z, fun z => by rw [z]⟩
    rw [e]; exact q
  · cases rx; cases ry
    refine opTo op_ne ⟨rfl, LQ.here A (.bl _) ?_⟩
    have e : decide (V.bl i = V.bl j) = decide (i = j) := decide_eq_decide.mpr ⟨fun z => V.bl.inj z, fun z => by rw [z]⟩
    rw [e]; exact q
  · exact opTo (op_neD hu) ⟨_, _, rx.dpm A q.1, ry.dpm A q.2.1, q.1, q.2.1, LQ.here A (.bl _) q.2.2⟩
theorem Reps.map_int {K : PySem.W.Frag} {F : Hp} {ns : List Int} {vs : List V} (r : Reps K F (ns.map D.int) vs) : vs = ns.map V.int := by
  induction ns generalizing vs with
  | nil => cases r; rfl
  | cons n ns ih =>
    cases r with
    | cons a r =>
      cases a
      rw [ih r]
      rfl
section
variable {K : PySem.W.Frag} {F : Hp}
theorem Rep.flat {d : D} {v : V} (r : Rep K F d v) (h : flB d = true) : flatV v = true := by
  cases r <;> first | rfl | cases h
theorem Reps.flatAll : ∀ {ds : List D} {vs : List V}, Reps K F ds vs → ds.all flB = true → vs.all flatV = true
  | _, _, .nil, _ => rfl
  | _, _, .cons a r, h => by
    rw [List.all_cons, Bool.and_eq_true] at h ⊢
    exact ⟨Rep.flat a h.1, Reps.flatAll r h.2⟩
theorem Rep.eqF {x y : D} {v u : V} (r : Rep K F x v) (s : Rep K F y u) (h : flB x = true) (h2 : flB y = true) : DL.eqF x y = eqV v u := by
  cases r with
  | op v => cases h
  | tup _ _ => cases h
  | lst _ _ => cases h
  | klst _ _ => cases h
  | obj _ => cases h
  | dic _ => cases h
  | dic0 _ => cases h
  | cls _ => cases h
  | exc0 _ _ => cases h
  | exc _ _ _ _ _ => cases h
  | ins _ _ _ _ => cases h
  | dkk _ _ => cases h
  | dct _ _ _ => cases h
  | _ =>
    cases s with
    | op v => cases h2
    | tup _ _ => cases h2
    | lst _ _ => cases h2
    | klst _ _ => cases h2
    | obj _ => cases h2
    | dic _ => cases h2
    | dic0 _ => cases h2
    | cls _ => cases h2
    | exc0 _ _ => cases h2
    | exc _ _ _ _ _ => cases h2
    | ins _ _ _ _ => cases h2
    | dkk _ _ => cases h2
    | dct _ _ _ => cases h2
    | _ => first
        | rfl
        | (show decide _ = (_ == _); exact Bool.eq_iff_iff.mpr (by simp))
theorem Reps.inD {x : D} {v : V} (s : Rep K F x v) (h2 : flB x = true) : ∀ {ds : List D} {vs : List V}, Reps K F ds vs → ds.all flB = true → DL.inD x ds = inV v vs
  | _, _, .nil, _ => rfl
  | _, _, .cons a r, h => by
    rw [List.all_cons, Bool.and_eq_true] at h
    have ih := Reps.inD s h2 r h.2
    unfold DL.inD inV at ih ⊢
    rw [List.any_cons, List.any_cons, ih, Rep.eqF a s h.1 h2]
theorem Reps.cnt {x : D} {v : V} : ∀ {ds : List D} {vs : List V}, Reps K F ds vs → Rep K F x v → flB x = true → ds.all flB = true → cntD x ds = vs.countP fun z => eqV z v
  | _, _, .nil, _, _, _ => rfl
  | _, _, .cons a r, s, h2, h => by
    rw [List.all_cons, Bool.and_eq_true] at h
    have ih := Reps.cnt r s h2 h.2
    unfold cntD at ih ⊢
    rw [List.countP_cons, List.countP_cons, ih, Rep.eqF a s h.1 h2]
end
section
variable {X : Cx}
theorem cnt_eqU {x : V} : ∀ {xs : List V} {us : List Value}, Vals xs us → xs.all flatV = true → us.countP (eqU x) = xs.countP fun z => eqV z x
  | _, _, .nil, _ => rfl
  | _ :: _, _ :: _, .cons r t, f => by
    rw [List.all_cons, Bool.and_eq_true] at f
    rw [List.countP_cons, List.countP_cons, eqU_of r f.1, cnt_eqU t f.2]
/-- l.count(x) of plain things -/
theorem mt_cnt : MtR X "list.count" (fun x xs H Q => ∃ p ys y, x = V.ref p ∧ xs = [y] ∧ SqL X.K H p ys ∧ flatV y = true ∧ ys.all flatV = true ∧ Q (.int ((ys.countP fun z => eqV z y : Nat) : Int)) H) := by
  intro pins s σ H x xs v us Q I rx rxs h
  obtain ⟨p, ys, y, rfl, rfl, hs, fy, fys, q⟩ := h
  cases rx
  obtain ⟨u, rfl, ru⟩ := rxs.one
  obtain ⟨its, rv, ⟨⟨cls, dd, data, sl⟩, n, ho, hc, hdn, hd⟩, hlen⟩ := I.list hs
  dsimp only at hc hd
  subst hc hd
  have ec : its.toArray.toList.countP (eqU y) = ys.countP fun z => eqV z y := cnt_eqU rv fys
  refine call_meets PySem.F.slot_list_count ⟨_, ho, rfl⟩ PySem.F.entry_list_count (PySem.F.args_list_count_2 _ _)
    (SeqAt.list_countAt p its.toArray n dd sl u (eqU y)) ⟨ho, fun z hz => mem_eqAt ru fy rv fys z (by simpa using hz), ?_⟩
  refine ⟨.int ((ys.countP fun z => eqV z y : Nat) : Int), H, I.tok _, ⟨s.toks, ?_⟩, q⟩
  show Value.int ((its.toArray.toList.countP (eqU y) : Nat) : Int) s.toks = Value.int ((ys.countP fun z => eqV z y : Nat) : Int) s.toks
  rw [ec]
end
/-! ### a thing of any kind beside one without dicts -/
theorem dic_at {pins : List (Addr × Obj)} {σ : L2.St} {s : Shared} {a : Addr} {kvs : List (Key × V)} (I : Inv X pins σ H s) (e : H a = some (.dK kvs)) : SeqAt.IsDic s.heap a ∧ (a == sysModules) = false ∧ ∃ vs, KV kvs vs ∧ s.heap.DictOf (mixKind X.prog X.w) a vs := by
  obtain ⟨_, h2, vs, h3, h4⟩ := dk_of I.hok e
  refine ⟨?_, h2, vs, h3, h4⟩
  obtain ⟨o', h8, h9⟩ := h4.typeIs
  obtain ⟨⟨c, d, da, sl⟩, es, n, h5, h6, h7, _⟩ := h4
  rw [h5] at h8
  cases h8
  dsimp only at h9 h7
  subst h9 h7
  exact ⟨es, n, d, sl, h5⟩
theorem Rep.dicA {x : D} {v : V} (r : Rep X.K F x v) (h : isDic x = true) : ∃ a kvs, v = .ref a ∧ F a = some (.dK kvs) := by
  cases r with
  | dic e => exact ⟨_, _, rfl, e⟩
  | dic0 e => exact ⟨_, _, rfl, e⟩
  | _ => cases h
theorem eqX_ok {A : Around} {pins : List (Addr × Obj)} {σ : L2.St} {s : Shared} (hu : A.in1.units + 60 < cLine) (I : Inv X pins σ H s) (Ag0 : Ag X.K F G μ H) {x y : D} {v u : V} {v' u' : Value} {b : Bool} (rx : Rep X.K F x v) (ry : Rep X.K F y u) (rv : RelV v v') (ru : RelV u u') (h : eqX x y = some b) : SeqAt.EqAt A.in1 s v' u' b := by
  unfold eqX at h
  cases hd : isDic x with
  | true =>
    rw [hd] at h
    obtain ⟨a, kvs, rfl, ea⟩ := rx.dicA hd
    cases (show v' = Value.ref a from rv)
    have da := (dic_at I (Ag0.f _ _ ea)).1
    cases ry <;> first | cases h | skip
    · cases ru
      exact SeqAt.EqAt.dict_none da (by omega)
    · obtain ⟨t, rfl⟩ := ru
      exact SeqAt.EqAt.dict_int _ t da (by omega)
    · rename_i p us ds t r
      cases (show u' = Value.ref p from ru)
      obtain ⟨its, rits, ht, _⟩ := I.tuple (sqT_mono Ag0.f t)
      exact SeqAt.EqAt.dict_tuple da (by obtain ⟨o, h1, h2, n, h3⟩ := ht; exact ⟨o, h1, h2, n, h3⟩) (by omega)
  | false =>
    rw [hd] at h
    dsimp only at h
    split at h
    · rename_i hs
      cases h
      have hs := Bool.and_eq_true_iff.mp hs
      have hs1 := Bool.and_eq_true_iff.mp hs.1
      have hs2 := of_decide_eq_true hs.2
      obtain ⟨as, r1⟩ := Dp.reads I _ v v' (Rep.dp Ag0.f rx hs1.1) rv
      obtain ⟨bs, r2⟩ := Dp.reads I _ u u' (Rep.dp Ag0.f ry hs1.2) ru
      exact SeqAt.eqAt_reads _ _ A.in1 s v' u' as bs r1 r2 hs1.1 hs1.2 (by
        have := Nat.min_le_right (pd x).depth (pd y).depth
        omega)
    · cases h
theorem eqXs_ok {A : Around} {pins : List (Addr × Obj)} {σ : L2.St} {s : Shared} (hu : A.in1.units + 60 < cLine) (I : Inv X pins σ H s) (Ag0 : Ag X.K F G μ H) : ∀ {xs ys : List D} {vs us : List V} {ws zs : List Value} {b : Bool}, Reps X.K F xs vs → Reps X.K F ys us → Vals vs ws → Vals us zs → eqXs xs ys = some b →
    ∃ e : Nat → Bool, (∀ j (h1 : j < ws.length) (h2 : j < zs.length), SeqAt.EqAt A.in1 s ws[j] zs[j] (e j)) ∧ (List.range (min ws.length zs.length)).all e = b
  | [], _, _, _, _, _, b, .nil, _, .nil, _, h => by
    have h : some true = some b := by unfold eqXs at h; exact h
    cases h
    exact ⟨fun _ => true, fun j h1 => absurd h1 (Nat.not_lt_zero _), by simp⟩
  | _ :: _, [], _, _, _, _, b, _, .nil, _, .nil, h => by
    have h : some true = some b := by unfold eqXs at h; exact h
    cases h
    exact ⟨fun _ => true, fun j _ h2 => absurd h2 (Nat.not_lt_zero _), by simp⟩
  | x :: xs, y :: ys, _, _, _, _, b, .cons rx rxs, .cons ry rys, .cons rv rvs, .cons ru rus, h => by
    unfold eqXs at h
    split at h
    · rename_i a c e1 e2
      cases h
      obtain ⟨e, h3, h4⟩ := eqXs_ok hu I Ag0 rxs rys rvs rus e2
      refine ⟨fun j => match j with | 0 => a | j + 1 => e j, fun j h1 h2 => ?_, ?_⟩
      · cases j with
        | zero => exact eqX_ok hu I Ag0 rx ry rv ru e1
        | succ j => exact h3 j (Nat.lt_of_succ_lt_succ h1) (Nat.lt_of_succ_lt_succ h2)
      · rw [List.length_cons, List.length_cons, Nat.succ_min_succ, List.range_succ_eq_map, List.all_cons, List.all_map]
        rw [← h4]
        rfl
    · cases h
theorem neX_ok (hu : X.A.units + 64 < cLine) {x y : D} {a b : V} {k : Bool} (A : Ag X.K F G μ H) (rx : Rep X.K F x a) (ry : Rep X.K F y b) (h : neX x y = some k) (q : Q (.bl k) μ) : rSem X (compareOp .NotEq) a b H (LQ X.K F G Q) := by
  intro pins s σ v u I rv ru
  have fin : ∀ s', Inv X pins σ H s' → EP X pins σ (LQ X.K F G Q) (.bool k) s' := fun s' I' => ⟨.bl k, H, I', rfl, LQ.here A (.bl _) q⟩
  have dt : ∀ {ys : List D} {x : D}, isDic x = true → Rep X.K F x a → Rep X.K F (.tup ys) b → k = true → wpAny (model X.prog X.w) X.A (compareOp .NotEq v u) (EP X pins σ (LQ X.K F G Q)) X.xe s := by
    intro ys x hd rx ry hk
    obtain ⟨p, kvs, rfl, ep⟩ := rx.dicA hd
    cases (show v = Value.ref p from rv)
    have da := (dic_at I (A.f _ _ ep)).1
    cases ry with
    | tup t r =>
      rename_i p2 us
      cases (show u = Value.ref p2 from ru)
      obtain ⟨its, rits, ⟨o, h1, h2, n, h3⟩, _⟩ := I.tuple (sqT_mono A.f t)
      have z := SeqAt.RcNeAt.dict_tuple (A := X.A) da (show s.heap.IsTuple p2 its.toArray from ⟨o, h1, h2, n, h3⟩) (by omega)
      exact z _ _ _ _ (by rw [hk] at fin; exact fin s I)
  unfold neX at h
  split at h
  · cases h
    cases rx with
    | dic0 e1 =>
      cases ry with
      | dic0 e2 =>
        rename_i p1 p2
        cases (show v = Value.ref p1 from rv)
        cases (show u = Value.ref p2 from ru)
        obtain ⟨_, n1, vs1, k1, d1⟩ := dic_at I (A.f _ _ e1)
        obtain ⟨_, n2, vs2, k2, d2⟩ := dic_at I (A.f _ _ e2)
        cases k1
        cases k2
        exact PySem.W.keq_ne (r := true) n1 n2 d1 d2 (by omega) (fun _ => .nil) (fin s I)
  · rename_i xs ys
    cases e : eqXs xs ys with
    | none => rw [e] at h; cases h
    | some c =>
      rw [e] at h
      cases h
      cases rx with
      | tup t1 r1 =>
        cases ry with
        | tup t2 r2 =>
          rename_i p1 vs p2 us
          cases (show v = Value.ref p1 from rv)
          cases (show u = Value.ref p2 from ru)
          obtain ⟨its1, q1, ⟨o1, h11, h12, n1, h13⟩, _⟩ := I.tuple (sqT_mono A.f t1)
          obtain ⟨its2, q2, ⟨o2, h21, h22, n2, h23⟩, _⟩ := I.tuple (sqT_mono A.f t2)
          obtain ⟨e', h3, h4⟩ := eqXs_ok (A := X.A) (by show X.A.units + 1 + 60 < cLine; omega) I A r1 r2 q1 q2 e
          have l1 : its1.length = xs.length := by rw [r1.length]; exact (Paired.length q1).symm
          have l2 : its2.length = ys.length := by rw [r2.length]; exact (Paired.length q2).symm
          have z := SeqAt.RcNeAt.tuples (A := X.A) (e := e') (show s.heap.IsTuple p1 its1.toArray from ⟨o1, h11, h12, n1, h13⟩) (show s.heap.IsTuple p2 its2.toArray from ⟨o2, h21, h22, n2, h23⟩) (by omega) fun j h1 h2 => by simpa using h3 j (by simpa using h1) (by simpa using h2)
          refine z _ _ _ _ ?_
          have e3 : (!((List.range (min its1.toArray.size its2.toArray.size)).all e' && its1.toArray.size == its2.toArray.size)) = (!(c && xs.length == ys.length)) := by
            rw [List.size_toArray, List.size_toArray, h4, l1, l2]
          rw [e3]
          exact fin s I
  · rename_i ys hn
    split at h
    · rename_i hd
      cases h
      exact dt hd rx ry rfl
    · cases h
  · cases h
theorem cmp_ok (hu : X.A.units + 64 < cLine) (o : CO) {x y : D} {a b : V} (A : Ag X.K F G μ H) (rx : Rep X.K F x a) (ry : Rep X.K F y b) (cy : coR o y) (q : cmpW o x y μ fun k => Q (.bl k) μ) : rSem X (compareOp (coOp o)) a b H (LQ X.K F G Q) := by
  cases o with
  | eq => exact eq_ok hu A rx ry q
  | ne => exact ne_ok hu A rx ry q
  | eqT =>
    cases x <;> first | exact q.elim | skip
    cases y <;> first | exact q.elim | skip
    rename_i xs ys
    obtain ⟨c, e, q⟩ := q
    intro pins s σ v u I rv ru
    cases rx with
    | tup t1 r1 =>
      cases ry with
      | tup t2 r2 =>
        rename_i p1 vs p2 us
        cases (show v = Value.ref p1 from rv)
        cases (show u = Value.ref p2 from ru)
        obtain ⟨its1, q1, ⟨o1, h11, h12, n1, h13⟩, _⟩ := I.tuple (sqT_mono A.f t1)
        obtain ⟨its2, q2, ⟨o2, h21, h22, n2, h23⟩, _⟩ := I.tuple (sqT_mono A.f t2)
        obtain ⟨e', h3, h4⟩ := eqXs_ok (A := X.A) (by show X.A.units + 1 + 60 < cLine; omega) I A r1 r2 q1 q2 e
        have l1 : its1.length = xs.length := by rw [r1.length]; exact (Paired.length q1).symm
        have l2 : its2.length = ys.length := by rw [r2.length]; exact (Paired.length q2).symm
        have z := SeqAt.RcAt.tuples (A := X.A) (e := e') (show s.heap.IsTuple p1 its1.toArray from ⟨o1, h11, h12, n1, h13⟩) (show s.heap.IsTuple p2 its2.toArray from ⟨o2, h21, h22, n2, h23⟩) (by omega) fun j h1 h2 => by simpa using h3 j (by simpa using h1) (by simpa using h2)
        refine z _ _ _ _ ?_
        have e3 : ((List.range (min its1.toArray.size its2.toArray.size)).all e' && its1.toArray.size == its2.toArray.size) = (c && xs.length == ys.length) := by
          rw [List.size_toArray, List.size_toArray, h4, l1, l2]
        rw [e3]
        exact ⟨.bl _, H, I, rfl, LQ.here A (.bl _) q⟩
  | neX =>
    rcases q with q | ⟨k, h, q⟩
    · exact opTo (op_neD hu) ⟨_, _, rx.dpm A q.1, ry.dpm A q.2.1, q.1, q.2.1, LQ.here A (.bl _) q.2.2⟩
    · exact neX_ok hu A rx ry h q
  | lt =>
    have tup : (∃ ns ms : List Int, x = .tup (ns.map D.int) ∧ y = .tup (ms.map D.int) ∧ Q (.bl (decide (HT.lexLt ns ms = true))) μ) → rSem X (compareOp .Lt) a b H (LQ X.K F G Q) := by
      rintro ⟨ns, ms, rfl, rfl, q2⟩
      cases rx with
      | tup t1 r1 =>
        cases ry with
        | tup t2 r2 =>
          rw [r1.map_int] at t1
          rw [r2.map_int] at t2
          refine opTo (op_ltT (by omega)) ⟨_, _, _, _, rfl, rfl, sqT_mono A.f t1, sqT_mono A.f t2, LQ.here A (.bl _) ?_⟩
          have e : decide (HT.lexLt ns ms = true) = HT.lexLt ns ms := by cases HT.lexLt ns ms <;> rfl
          rw [e] at q2
          exact q2
    cases rx <;> cases ry <;> first
      | exact opTo op_lt ⟨_, _, rfl, rfl, LQ.here A (.bl _) q⟩
      | exact tup q
  | le =>
    cases rx <;> cases ry <;> first
      | exact opTo op_le ⟨_, _, rfl, rfl, LQ.here A (.bl _) q⟩
      | exact q.elim
  | gt =>
    cases rx <;> cases ry <;> first
      | exact opTo op_gt ⟨_, _, rfl, rfl, LQ.here A (.bl _) q⟩
      | exact q.elim
  | ge =>
    cases rx <;> cases ry <;> first
      | exact opTo op_ge ⟨_, _, rfl, rfl, LQ.here A (.bl _) q⟩
      | exact q.elim
  | isin =>
    have seq : ∀ {k : Bool → Prop}, (∃ ds, seqA μ y = some ds ∧ flB x = true ∧ ds.all flB = true ∧ k (inD x ds)) → ∃ p vs, b = .ref p ∧ (SqL X.K H p vs ∨ SqT X.K H p vs) ∧ flatV a = true ∧ vs.all flatV = true ∧ k (inV a vs) := by
      rintro k ⟨ds, h1, h2, h3, h4⟩
      obtain ⟨p, vs, rfl, hv, rv⟩ := seqA_ok A ry h1
      exact ⟨p, vs, rfl, hv, rx.flat h2, rv.flatAll h3, by rw [← Reps.inD rx h2 rv h3]; exact h4⟩
    cases ry with
    | str t =>
      cases rx <;> first
        | exact opTo op_in_str ⟨_, _, rfl, rfl, LQ.here A (.bl _) q⟩
        | exact q.elim
    | _ =>
      obtain ⟨p, vs, e1, e2, e3, e4, e5⟩ := seq (k := fun b => Q (.bl b) μ) q
      exact opTo op_in_seq ⟨p, vs, e1, e2, e3, e4, LQ.here A (.bl _) e5⟩
  | notin =>
    have seq : ∀ {k : Bool → Prop}, (∃ ds, seqA μ y = some ds ∧ flB x = true ∧ ds.all flB = true ∧ k (inD x ds)) → ∃ p vs, b = .ref p ∧ (SqL X.K H p vs ∨ SqT X.K H p vs) ∧ flatV a = true ∧ vs.all flatV = true ∧ k (inV a vs) := by
      rintro k ⟨ds, h1, h2, h3, h4⟩
      obtain ⟨p, vs, rfl, hv, rv⟩ := seqA_ok A ry h1
      exact ⟨p, vs, rfl, hv, rx.flat h2, rv.flatAll h3, by rw [← Reps.inD rx h2 rv h3]; exact h4⟩
    cases ry with
    | str t =>
      cases rx <;> first
        | exact opTo op_notin_str ⟨_, _, rfl, rfl, LQ.here A (.bl _) q⟩
        | exact q.elim
    | _ =>
      obtain ⟨p, vs, e1, e2, e3, e4, e5⟩ := seq (k := fun b => Q (.bl (!b)) μ) q
      exact opTo op_notIn_seq ⟨p, vs, e1, e2, e3, e4, LQ.here A (.bl _) e5⟩
  | isN =>
    have cy : y = .non := cy
    subst cy
    cases ry
    cases rx <;> first
      | exact opTo op_isN ⟨rfl, LQ.here A (.bl _) q⟩
      | exact q.elim
  | notN =>
    have cy : y = .non := cy
    subst cy
    cases ry
    cases rx <;> first
      | exact opTo op_notN ⟨rfl, LQ.here A (.bl _) q⟩
      | exact q.elim
  | isB c =>
    have cy : y = .bl c := cy
    subst cy
    cases ry
    cases rx <;> first
      | exact opTo op_isBl ⟨_, _, rfl, rfl, LQ.here A (.bl _) q⟩
      | exact q.elim
  | notB c =>
    have cy : y = .bl c := cy
    subst cy
    cases ry
    cases rx <;> first
      | exact opTo op_notBl ⟨_, _, rfl, rfl, LQ.here A (.bl _) q⟩
      | exact q.elim

/-! ### items and slices -/
theorem atI_rep {K : PySem.W.Frag} {F : Hp} {ds : List D} {vs : List V} {i : Int} {d : D} (r : Reps K F ds vs) (h : atI ds i = some d) : ∃ v, atI vs i = some v ∧ Rep K F d v := by
  unfold atI at h ⊢
  rw [← r.length]
  cases e : ixN ds.length i with
  | none => rw [e] at h; cases h
  | some j =>
    rw [e] at h
    exact r.get h
theorem cut_rep {K : PySem.W.Frag} {F : Hp} {ds : List D} {vs : List V} {lo hi : Option Int} (r : Reps K F ds vs) : Reps K F (cutD ds lo hi) (cutV vs lo hi) := by
  unfold cutD cutV
  rw [r.length]
  exact (r.drop _).take _
def rSl (X : Cx) : V → Option Int → Option Int → Hp → VK → Prop := fun x lo hi H Q => ∀ pins s σ v vl vu sl, Inv X pins σ H s → RelV x v → s.heap.IsSliceOf sl vl vu .none → IsPart vl lo → IsPart vu hi →
    ∃ T id, typeLookup (.type T) "__getitem__" = pure (some (.builtin id)) ∧ s.TypeIs v T ∧ wpAny (model X.prog X.w) X.A (getItem v (.ref sl)) (EP X pins σ Q) X.xe s
theorem slSem : SlR X (rSl X) := fun pins s σ H x v vl vu lo hi sl Q I rx hs pl pu h => h pins s σ v vl vu sl I rx hs pl pu
theorem slTo {r : V → Option Int → Option Int → Hp → VK → Prop} {x : V} {lo hi : Option Int} {Q : VK} (h : SlR X r) (q : r x lo hi H Q) : rSl X x lo hi H Q := fun pins s σ v vl vu sl I rx hs pl pu => h pins s σ H x v vl vu lo hi sl Q I rx hs pl pu q
theorem sl_ok (own : Bool) {x : D} {a : V} {lo hi : Option Int} (A : Ag X.K F G μ H) (rx : Rep X.K F x a) (q : slW own x lo hi μ Q) : rSl X a lo hi H (LQ X.K F G Q) := by
  have lst : (∃ ds, seqL μ x = some ds ∧ newL own (cutD ds lo hi) μ Q) → rSl X a lo hi H (LQ X.K F G Q) := by
    rintro ⟨ds, h1, h2⟩
    obtain ⟨p, vs, rfl, hv, rv⟩ := seqL_ok A rx h1
    exact slTo sl_list ⟨_, _, rfl, hv, fun p np => newL_ok A np (cut_rep rv) h2⟩
  cases rx with
  | str z => exact slTo sl_str ⟨z, rfl, q.1, LQ.here A (.str _) q.2⟩
  | tup t r =>
    rename_i p vs ds
    have q : Q (.tup (cutD ds lo hi)) μ := q
    refine slTo sl_tupA ⟨_, _, rfl, sqT_mono A.f t, fun e => ?_, fun _ p np => newT_ok A np (cut_rep r) q⟩
    have e2 : cutD ds lo hi = ds := by
      unfold cutD
      rw [r.length, e.1, e.2, List.drop_zero, Nat.sub_zero]
      exact List.take_of_length_le (by rw [r.length]; exact Nat.le_refl _)
    rw [e2] at q
    exact LQ.here A (.tup t r) q
  | _ => exact lst q
theorem rev_ok {te : TE} {x : D} {a : V} (A : Ag X.K F G μ H) (rx : Rep X.K F x a) (q : revW x μ Q) : (∃ p xs, a = .ref p ∧ SqL X.K H p xs ∧ ∀ r, H r = none → LQ X.K F G Q (.ref r) (upd H r (.lst xs.reverse))) ∨ ∃ p xs, a = .ref p ∧ SqT X.K H p xs ∧ ∀ r, H r = none → LQ X.K F G Q (.ref r) (upd H r (.tup xs.reverse)) := by
  have lst : (∃ ds, seqL μ x = some ds ∧ Q (.lst ds.reverse) μ) → (∃ p xs, a = .ref p ∧ SqL X.K H p xs ∧ ∀ r, H r = none → LQ X.K F G Q (.ref r) (upd H r (.lst xs.reverse))) := by
    rintro ⟨ds, h1, h2⟩
    obtain ⟨p, vs, rfl, hv, rv⟩ := seqL_ok A rx h1
    exact ⟨_, _, rfl, hv, fun p np => newL_ok (own := false) A np rv.rev h2⟩
  cases rx with
  | tup t r =>
    exact .inr ⟨_, _, rfl, sqT_mono A.f t, fun p np => newT_ok A np r.rev q⟩
  | _ => exact .inl (lst q)
/-! ### dicts that change -/
theorem keyK_ok {K : PySem.W.Frag} {F : Hp} {y : D} {u : V} {k : Key} (r : Rep K F y u) (h : keyK y = some k) : u = kV k := by
  cases r <;> first | cases h; rfl | cases h
theorem dget_ok {K : PySem.W.Frag} {F G H : Hp} {μ : Mu} {x y : D} {v u : V} {Q : DQ} (A : Ag K F G μ H) (rx : Rep K F x v) (ry : Rep K F y u) (q : dgetW x y μ Q) : ∃ a w d, v = .ref a ∧ DGet H a u (some w) ∧ Rep K F d w ∧ Q d μ := by
  cases rx <;> first | exact q.elim | skip
  rename_i a
  obtain ⟨kds, k, d, h1, h2, h3, q⟩ := q
  obtain ⟨o, ho, hm⟩ := A.at h1
  obtain ⟨kvs, rfl, rr⟩ := hm.dic_inv
  obtain rfl := keyK_ok ry h2
  rcases rr.get k with ⟨e1, _⟩ | ⟨d2, w, e1, e2, rw⟩
  · rw [h3] at e1; cases e1
  · rw [h3] at e1; cases e1
    exact ⟨a, w, d, rfl, e2 ▸ DGet.k ho, rw, q⟩
theorem din_ok {K : PySem.W.Frag} {F G H : Hp} {μ : Mu} {x y : D} {v u : V} {q : Bool → Prop} (A : Ag K F G μ H) (rx : Rep K F x v) (ry : Rep K F y u) (h : dinW x y μ q) : ∃ a o, v = .ref a ∧ DGet H a u o ∧ q o.isSome := by
  cases rx <;> first | exact h.elim | skip
  rename_i a
  obtain ⟨kds, k, h1, h2, q⟩ := h
  obtain ⟨o, ho, hm⟩ := A.at h1
  obtain ⟨kvs, rfl, rr⟩ := hm.dic_inv
  obtain rfl := keyK_ok ry h2
  exact ⟨a, _, rfl, DGet.k ho, by rw [← rr.some k]; exact q⟩
theorem dput_ok {K : PySem.W.Frag} {F G H : Hp} {μ : Mu} {x y z : D} {v u w : V} {q : Mu → Prop} (A : Ag K F G μ H) (rx : Rep K F x v) (ry : Rep K F y u) (rz : Rep K F z w) (h : dputW x y z μ q) : ∃ a H2 μ2, v = .ref a ∧ DPut H a u w H2 ∧ Ag K F G μ2 H2 ∧ q μ2 := by
  cases rx <;> first | exact h.elim | skip
  rename_i a
  obtain ⟨kds, k, h1, h2, hl, q⟩ := h
  obtain ⟨o, ho, hm⟩ := A.at h1
  obtain ⟨kvs, rfl, rr⟩ := hm.dic_inv
  obtain rfl := keyK_ok ry h2
  exact ⟨a, _, _, rfl, DPut.k ho (by rw [← rr.len]; exact hl), A.put h1 (.dic (rr.put k rz)), q⟩
/-! ### subscripts -/
def rIx (X : Cx) : R2 := fun x y H Q => ∀ (value slice : Expr) pins s σ v u, Inv X pins σ H s → RelV x v → RelV y u → subscripted slice false v u = operate [v, u] (getItem v u) →
    wpAny (model X.prog X.w) X.A (subscriptTail value slice v u) (EP X pins σ Q) X.xe s
theorem ixSem : IxR X (rIx X) := fun value slice pins s σ H x y v u Q I rx ry h hs => h value slice pins s σ v u I rx ry hs
theorem ixTo {r : R2} {x y : V} {Q : VK} (h : IxR X r) (q : r x y H Q) : rIx X x y H Q := fun value slice pins s σ v u I rx ry hs => h value slice pins s σ H x y v u Q I rx ry q hs
theorem idx_ok {x y : D} {a b : V} (A : Ag X.K F G μ H) (rx : Rep X.K F x a) (ry : Rep X.K F y b) (q : idxW x y μ Q) : rIx X a b H (LQ X.K F G Q) := by
  cases ry with
  | int i =>
    obtain ⟨ds, d, h1, h2, h3⟩ := q
    unfold seqA at h1
    cases e : seqT x with
    | some es =>
      simp only [e] at h1
      cases h1
      obtain ⟨p, vs, rfl, hv, rv⟩ := seqT_ok A rx e
      obtain ⟨v, h4, rd⟩ := atI_rep rv h2
      exact ixTo ix_tup ⟨_, _, _, _, rfl, rfl, hv, h4, LQ.here A rd h3⟩
    | none =>
      simp only [e] at h1
      obtain ⟨p, vs, rfl, hv, rv⟩ := seqL_ok A rx h1
      obtain ⟨v, h4, rd⟩ := atI_rep rv h2
      exact ixTo ix_list ⟨_, _, _, _, rfl, rfl, hv, h4, LQ.here A rd h3⟩
  | _ => exact q.elim

theorem max3_inv {xs : List D} {μ : Mu} {Q : DQ} (h : biW .max3 xs μ Q) : ∃ i j k, xs = [.int i, .int j, .int k] ∧ Q (.int (max (max i j) k)) μ := by
  unfold biW at h
  dsimp only at h
  split at h
  · exact ⟨_, _, _, rfl, h⟩
  · exact h.elim
theorem reps3 {K : PySem.W.Frag} {F : Hp} {i j k : Int} {vs : List V} (r : Reps K F [.int i, .int j, .int k] vs) : vs = [.int i, .int j, .int k] := by
  cases r with
  | cons r1 r =>
  cases r with
  | cons r2 r =>
  cases r with
  | cons r3 r =>
  cases r
  cases r1
  cases r2
  cases r3
  rfl
theorem nu3 (i j k : Int) : nuMax3 (.int i) (.int j) (.int k) = some (.int (max (max i j) k)) := by
  have h2 : ∀ a b : Int, nuMax2 (.int a) (.int b) = some (.int (max a b)) := by
    intro a b
    show ((some (decide (a < b))).map fun c => if c = true then V.int b else V.int a) = _
    by_cases h : a < b
    · simp [h, Int.max_eq_right (Int.le_of_lt h)]
    · simp [h, Int.max_eq_left (Int.not_lt.mp h)]
  show (nuMax2 (.int i) (.int j)).bind _ = _
  rw [h2]
  exact h2 _ _
/-! ### built-in functions -/
def biName : Bi → Str
  | .len => "len" | .abs => "abs" | .min2 => "min" | .max2 => "max" | .max3 => "max" | .int => "int" | .bool => "bool" | .list => "list" | .listO => "list" | .tuple => "tuple"
  | .sum => "sum" | .all => "all" | .any => "any" | .divmod => "divmod" | .str => "str" | .minL => "min" | .minP => "min" | .maxL => "max" | .sorted => "sorted"
def biVal : Bi → Value
  | .len => .builtin "len" | .abs => .builtin "abs" | .min2 => .builtin "min" | .max2 => .builtin "max" | .max3 => .builtin "max" | .int => .type "int" | .bool => .type "bool" | .list => .type "list" | .listO => .type "list"
  | .tuple => .type "tuple" | .sum => .builtin "sum" | .all => .builtin "all" | .any => .builtin "any" | .divmod => .builtin "divmod" | .str => .type "str" | .minL => .builtin "min" | .minP => .builtin "min" | .maxL => .builtin "max" | .sorted => .builtin "sorted"
theorem bi_boot (b : Bi) : bootBuiltins (biName b) = some (biVal b) := by cases b <;> decide +kernel
theorem bi_dunder (b : Bi) : biName b ≠ "__name__" ∧ (biName b == ("__debug__" : Str)) = false := by cases b <;> decide +kernel
theorem on1_inv {xs : List D} {k : D → Prop} (h : on1 xs k) : ∃ x, xs = [x] ∧ k x := by
  match xs, h with
  | [x], h => exact ⟨x, rfl, h⟩
theorem on2_inv {xs : List D} {k : D → D → Prop} (h : on2 xs k) : ∃ x y, xs = [x, y] ∧ k x y := by
  match xs, h with
  | [x, y], h => exact ⟨x, y, rfl, h⟩
theorem onI_inv {x : D} {k : Int → Prop} (h : onI x k) : ∃ i, x = .int i ∧ k i := by
  match x, h with
  | .int i, h => exact ⟨i, rfl, h⟩
theorem Reps.one {K : PySem.W.Frag} {F : Hp} {x : D} {vs : List V} (r : Reps K F [x] vs) : ∃ v, vs = [v] ∧ Rep K F x v := by
  cases r with
  | cons a r => cases r; exact ⟨_, rfl, a⟩
theorem Reps.two {K : PySem.W.Frag} {F : Hp} {x y : D} {vs : List V} (r : Reps K F [x, y] vs) : ∃ v w, vs = [v, w] ∧ Rep K F x v ∧ Rep K F y w := by
  cases r with
  | cons a r =>
    obtain ⟨w, rfl, b⟩ := r.one
    exact ⟨_, _, rfl, a, b⟩
theorem reps_ints {K : PySem.W.Frag} {F : Hp} : ∀ ns : List Int, Reps K F (ns.map D.int) (ns.map V.int)
  | [] => .nil
  | _ :: ns => .cons (.int _) (reps_ints ns)
theorem cr_sumT (hc : X.calm = true) : CallR X (.builtin "sum") (fun vs H Q => ∃ (a : Addr) (ns : List Int), vs = [V.ref a] ∧ SqT X.K H a (ns.map V.int) ∧ Q (.int ns.sum) H) := by
  intro pins s σ H vs us Q I r h
  obtain ⟨a, ns, rfl, hs, q⟩ := h
  obtain ⟨its, rv, hl, _⟩ := I.tuple hs
  rw [Vals.ref1 r]
  have hi := rv.ints
  obtain ⟨xs, e⟩ := hi.allInts.items
  have hn : numsOf (intItems xs).toList = ns := by rw [← e]; exact hi.numsOf
  rw [nums_intItems] at hn
  rw [e] at hl
  refine PySem.W.ktm_sumG (I.ok.hd hc) hl fun h' tk t' hk => ⟨.int _, H, I.kept hk, ⟨_, rfl⟩, ?_⟩
  rw [preSum_eq, List.take_of_length_le (by simp), hn]
  exact q
theorem pds_pair : ∀ ps : List (Int × Int), pds (ps.map pairD) = ps.map pairP
  | [] => rfl
  | p :: ps => by
    show pd (pairD p) :: pds (ps.map pairD) = _
    rw [pds_pair ps]
    rfl
theorem canLay_pair : ∀ ps : List (Int × Int), PyData.canLayAll0 (ps.map pairP) = true
  | [] => rfl
  | p :: ps => by
    show ((pairP p).canLay0 && PyData.canLayAll0 (ps.map pairP)) = true
    rw [canLay_pair ps]
    rfl
theorem bi_ok (hc : X.calm = true) (hu : X.A.units + 64 < cLine) (b : Bi) {xs : List D} {vs : List V} (A : Ag X.K F G μ H) (r : Reps X.K F xs vs) (q : biW b xs μ Q) : rCall X (biVal b) vs H (LQ X.K F G Q) := by
  have ii : ∀ {k : Int → Int → Prop}, (on2 xs fun x y => onI x fun i => onI y fun j => k i j) → ∃ i j, vs = [.int i, .int j] ∧ k i j := by
    intro k h
    obtain ⟨x, y, rfl, h⟩ := on2_inv h
    obtain ⟨i, rfl, h⟩ := onI_inv h
    obtain ⟨j, rfl, h⟩ := onI_inv h
    obtain ⟨v, w, rfl, r1, r2⟩ := r.two
    cases r1; cases r2
    exact ⟨i, j, rfl, h⟩
  have lst : ∀ own, (on1 xs fun x => ∃ ds, seqA μ x = some ds ∧ newL own ds μ Q) → rCall X (.type "list") vs H (LQ X.K F G Q) := by
    intro own h
    obtain ⟨x, rfl, ds, h1, h2⟩ := on1_inv h
    obtain ⟨v, rfl, r1⟩ := r.one
    obtain ⟨p, us, rfl, hv, rv⟩ := seqA_ok A r1 h1
    exact callTo call_list_of ⟨_, _, rfl, hv, fun l nl => newL_ok A nl rv h2⟩
  cases b with
  | min2 =>
    obtain ⟨i, j, rfl, q⟩ := ii q
    exact callTo (call_min2 hc) ⟨_, _, rfl, LQ.here A (.int _) q⟩
  | max3 =>
    obtain ⟨i, j, k, rfl, q⟩ := max3_inv q
    obtain rfl := reps3 r
    exact callTo (call_max3Nu hc) ⟨_, _, _, .int (max (max i j) k), rfl, nu3 i j k, LQ.here A (.int _) q⟩
  | max2 =>
    obtain ⟨i, j, rfl, q⟩ := ii q
    exact callTo (call_max2 hc) ⟨_, _, rfl, LQ.here A (.int _) q⟩
  | divmod =>
    obtain ⟨i, j, rfl, q⟩ := ii q
    exact callTo call_divmodW ⟨_, _, rfl, q.1, fun p np => newT_ok A np (.cons (.int _) (.cons (.int _) .nil)) q.2⟩
  | bool =>
    obtain ⟨x, rfl, h⟩ := on1_inv q
    obtain ⟨i, rfl, h⟩ := onI_inv h
    obtain ⟨v, rfl, r1⟩ := r.one
    cases r1
    exact callTo call_bool1 (.inl ⟨_, rfl, LQ.here A (.bl _) h⟩)
  | list => exact lst false q
  | listO => exact lst true q
  | len =>
    obtain ⟨x, rfl, q⟩ := on1_inv q
    obtain ⟨v, rfl, r1⟩ := r.one
    have seq : (∃ ds, seqA μ x = some ds ∧ Q (.int ds.length) μ) → rCall X (.builtin "len") [v] H (LQ X.K F G Q) := by
      rintro ⟨ds, h1, h2⟩
      obtain ⟨p, us, rfl, hv, rv⟩ := seqA_ok A r1 h1
      rw [rv.length] at h2
      exact callTo call_len_seq ⟨_, _, rfl, hv, LQ.here A (.int _) h2⟩
    cases r1 with
    | str s => exact callTo call_len_str ⟨_, rfl, q.1, LQ.here A (.int _) q.2⟩
    | _ => exact seq q
  | str =>
    obtain ⟨x, rfl, h⟩ := on1_inv q
    obtain ⟨i, rfl, h⟩ := onI_inv h
    obtain ⟨v, rfl, r1⟩ := r.one
    cases r1
    exact callTo call_str_int ⟨_, rfl, h.1, LQ.here A (.str _) h.2⟩
  | minP =>
    obtain ⟨x, rfl, ps, h1, h2, h3⟩ := on1_inv q
    obtain ⟨v, rfl, r1⟩ := r.one
    obtain ⟨p, us, rfl, hv, rv⟩ := seqL_ok A r1 h1
    have hd : DpAll X.K H us (ps.map pairP) := by
      have := Reps.dp A.f rv (by rw [pds_pair]; exact canLay_pair ps)
      rw [pds_pair] at this
      exact this
    refine callTo (callR_minP hc hu) ⟨_, _, ps, rfl, hv, hd, h2, fun i v q hv hq hm => ?_⟩
    obtain ⟨d, hd2, rd⟩ := rv.get' hv
    rw [List.getElem?_map, hq] at hd2
    cases hd2
    exact LQ.here A rd (h3 q (List.mem_of_getElem? hq) hm)
  | minL =>
    obtain ⟨x, rfl, ds, ns, h1, h2, h3, h4⟩ := on1_inv q
    obtain ⟨v, rfl, r1⟩ := r.one
    obtain ⟨p, us, rfl, hv, rv⟩ := seqL_ok A r1 h1
    rw [(rv.asInts h2).1] at hv
    exact callTo (cr_min hc) ⟨_, _, rfl, hv, h3, fun m a b => LQ.here A (.int _) (h4 m a b)⟩
  | maxL =>
    obtain ⟨x, rfl, ds, ns, h1, h2, h3, h4⟩ := on1_inv q
    obtain ⟨v, rfl, r1⟩ := r.one
    obtain ⟨p, us, rfl, hv, rv⟩ := seqL_ok A r1 h1
    rw [(rv.asInts h2).1] at hv
    exact callTo (cr_max hc) ⟨_, _, rfl, hv, h3, fun m a b => LQ.here A (.int _) (h4 m a b)⟩
  | abs =>
    obtain ⟨x, rfl, h⟩ := on1_inv q
    obtain ⟨i, rfl, h⟩ := onI_inv h
    obtain ⟨v, rfl, r1⟩ := r.one
    cases r1
    exact callTo call_abs ⟨_, rfl, LQ.here A (.int _) h⟩
  | int =>
    obtain ⟨x, rfl, h⟩ := on1_inv q
    obtain ⟨v, rfl, r1⟩ := r.one
    cases r1 <;> first
      | exact callTo call_int1 (.inl ⟨_, rfl, LQ.here A (.int _) h⟩)
      | exact callTo call_int1 (.inr ⟨_, rfl, LQ.here A (.int _) h⟩)
      | exact h.elim
  | tuple =>
    obtain ⟨x, rfl, ds, h1, h2⟩ := on1_inv q
    obtain ⟨v, rfl, r1⟩ := r.one
    unfold seqA at h1
    cases e : seqT x with
    | some es =>
      simp only [e] at h1
      cases h1
      cases r1 with
      | tup t rv =>
        cases e
        exact callTo call_tuple_of ⟨_, _, rfl, .inr ⟨sqT_mono A.f t, LQ.here A (.tup t rv) h2⟩⟩
      | _ => cases e
    | none =>
      simp only [e] at h1
      obtain ⟨p, us, rfl, hv, rv⟩ := seqL_ok A r1 h1
      exact callTo call_tuple_of ⟨_, _, rfl, .inl ⟨hv, fun l nl => newT_ok A nl rv h2⟩⟩
  | sum =>
    obtain ⟨x, rfl, ds, ns, h1, h2, h3⟩ := on1_inv q
    obtain ⟨v, rfl, r1⟩ := r.one
    unfold seqA at h1
    cases e : seqT x with
    | some es =>
      simp only [e] at h1
      cases h1
      cases r1 with
      | tup t rv =>
        cases e
        rw [(rv.asInts h2).1] at t
        exact callTo (cr_sumT hc) ⟨_, _, rfl, sqT_mono A.f t, LQ.here A (.int _) h3⟩
      | _ => cases e
    | none =>
      simp only [e] at h1
      obtain ⟨p, us, rfl, hv, rv⟩ := seqL_ok A r1 h1
      rw [(rv.asInts h2).1] at hv
      exact callTo (cr_sum hc) ⟨_, _, rfl, hv, LQ.here A (.int _) h3⟩
  | sorted =>
    obtain ⟨x, rfl, ds, ns, h1, h2, h3⟩ := on1_inv q
    obtain ⟨v, rfl, r1⟩ := r.one
    obtain ⟨p, us, rfl, hv, rv⟩ := seqL_ok A r1 h1
    rw [(rv.asInts h2).1] at hv
    exact callTo cr_sortedI ⟨_, _, rfl, hv, fun ns' p h4 h5 np => newL_ok (own := false) A np (reps_ints ns') (h3 ns' h4 h5)⟩
  | all =>
    obtain ⟨x, rfl, ds, ns, h1, h2, h3⟩ := on1_inv q
    obtain ⟨v, rfl, r1⟩ := r.one
    obtain ⟨p, us, rfl, hv, rv⟩ := seqL_ok A r1 h1
    rw [rv.asBls h2] at hv
    exact callTo (cr_all hc) ⟨_, _, rfl, hv, LQ.here A (.bl _) h3⟩
  | any =>
    obtain ⟨x, rfl, ds, ns, h1, h2, h3⟩ := on1_inv q
    obtain ⟨v, rfl, r1⟩ := r.one
    obtain ⟨p, us, rfl, hv, rv⟩ := seqL_ok A r1 h1
    rw [rv.asBls h2] at hv
    exact callTo (cr_any hc) ⟨_, _, rfl, hv, LQ.here A (.bl _) h3⟩

/-! ### isinstance -/
theorem ty_ok {x : D} {v : V} {n : String} (A : Ag X.K F G μ H) (r : Rep X.K F x v) (h : tyM μ x = some n) : TyX X.K H v (.type n) := by
  have seqt : ∀ {a : Addr} {vs : List V}, SqT X.K F a vs → TyX X.K H (.ref a) (.type "tuple") := fun {a vs} t => by
    rcases t with (t | ⟨o, t⟩) | ⟨o, its, k, t1, t2, _⟩
    · exact .base (.tup (A.f _ _ t))
    · exact .fTuple (A.f _ _ t)
    · exact .kTuple t1 t2
  have seql : ∀ {a : Addr} {vs : List V}, SqL X.K F a vs → TyX X.K H (.ref a) (.type "list") := fun {a vs} t => by
    rcases t with (t | ⟨o, t⟩) | ⟨o, its, k, t1, t2, _⟩
    · exact .base (.lst (A.f _ _ t))
    · exact .base (.frz (A.f _ _ t))
    · exact .kList t1 t2
  cases r with
  | non => cases h; exact .base .non
  | bl b => cases h; exact .base (.bl b)
  | int b => cases h; exact .base (.int b)
  | str b => cases h; exact .base (.str b)
  | tup t r => cases h; exact seqt t
  | lst t r => cases h; exact .base (.lst (A.f _ _ t))
  | klst t r => cases h; exact seql t
  | dic e => cases h; exact .base (.dK (A.f _ _ e))
  | dic0 e => cases h; exact .base (.dK (A.f _ _ e))
  | cls _ => cases h
  | exc0 _ _ => cases h
  | exc _ _ _ _ _ => cases h
  | ins _ _ _ _ => cases h
  | dkk _ _ => cases h
  | dct _ _ _ => cases h
  | obj a =>
    unfold tyM at h
    cases e : Mu.get μ a with
    | none => simp only [e] at h; cases h
    | some m =>
      cases m with
      | lst ds =>
        simp only [e] at h
        cases h
        obtain ⟨o, ho, r⟩ := A.at e
        obtain ⟨vs, rfl, rr⟩ := r.lst_inv
        exact .base (.lst ho)
      | ins x ns ds => simp only [e] at h; cases h
      | dic kds => simp only [e] at h; cases h
      | dct kds => simp only [e] at h; cases h
  | op v => cases h
end
end DL

namespace DL
open PySem PySem.Spec PyProof.Rows L2
/-! ### zip of lists and tuples, mixed -/
inductive SK where | l | t
def SIs (k : SK) (h : Heap) (a : Addr) (xs : Array Value) : Prop := match k with | .l => h.IsList a xs | .t => h.IsTuple a xs
def SIt (k : SK) (h : Heap) (i a : Addr) (n : Nat) : Prop := match k with | .l => h.IsListIter i a n | .t => h.IsTupleIter i a n
def itO (k : SK) (a : Addr) : Obj := match k with | .l => { cls := .type "list_iterator", data := .fields #[.ref a, .int 0 0] } | .t => { cls := .type "tuple_iterator", data := .fields #[.ref a, .int 0 0] }
theorem SIs.at {k : SK} {h h' : Heap} {a : Addr} {xs : Array Value} (x : SIs k h a xs) (e : ∀ o, h.get? a = some o → h'.get? a = some o) : SIs k h' a xs := by
  cases k with
  | l => obtain ⟨o, ho, r⟩ := (show h.IsList a xs from x); exact ⟨o, e _ ho, r⟩
  | t => obtain ⟨o, ho, r⟩ := (show h.IsTuple a xs from x); exact ⟨o, e _ ho, r⟩
theorem SIt.at {k : SK} {h h' : Heap} {a b : Addr} {n : Nat} (x : SIt k h a b n) (e : ∀ o, h.get? a = some o → h'.get? a = some o) : SIt k h' a b n := by
  cases k with
  | l => exact Heap.IsListIter.at (show h.IsListIter a b n from x) e
  | t => exact Heap.IsTupleIter.at (show h.IsTupleIter a b n from x) e
theorem SIs.push {k : SK} {h : Heap} {a : Addr} {xs : Array Value} (x : SIs k h a xs) (o : Obj) : SIs k (h.push o) a xs := x.at fun _ e => Heap.get?_push_of_some _ e
theorem SIs.lt {k : SK} {h : Heap} {a : Addr} {xs : Array Value} (x : SIs k h a xs) : a < h.objs.size := by
  cases k with
  | l => obtain ⟨o, ho, r⟩ := (show h.IsList a xs from x); exact Heap.lt_size ho
  | t => obtain ⟨o, ho, r⟩ := (show h.IsTuple a xs from x); exact Heap.lt_size ho
theorem SIt.new {k : SK} {h : Heap} {a b : Addr} (e : h.get? a = some (itO k b)) : SIt k h a b 0 := by
  cases k with
  | l => exact (show h.IsListIter a b 0 from ⟨_, e, rfl, rfl⟩)
  | t => exact (show h.IsTupleIter a b 0 from ⟨_, e, rfl, rfl⟩)
theorem SIt.there {k : SK} {h : Heap} {a b : Addr} {n : Nat} (x : SIt k h a b n) : ∃ o, h.get? a = some o ∧ ∀ v, o.data ≠ .cell v := by
  cases k with
  | l => obtain ⟨o, e, _, d⟩ := (show h.IsListIter a b n from x); exact ⟨o, e, fun v q => by rw [d] at q; cases q⟩
  | t => obtain ⟨o, e, _, d⟩ := (show h.IsTupleIter a b n from x); exact ⟨o, e, fun v q => by rw [d] at q; cases q⟩
theorem itO_free (k : SK) (a : Addr) : (itO k a).isFreed = false := by cases k <;> rfl
theorem neA {a b : Nat} (h : a ≠ b) : (show Addr from a) ≠ (show Addr from b) := h
theorem tc_zip2 (a b : Value) : checkTypeCall "zip" ⟨[a, b], []⟩ = pure () := F.typeCall_zip_2 a b
theorem nc_zip2 (a b : Value) : checkBuiltinCall "zip.__new__" ⟨[.type "zip", a, b], []⟩ = pure () := F.newCall_zip_2 a b
theorem ai_zip2 (o a b : Value) : argsOk "object.__init__" ⟨[o, a, b], []⟩ := F.args_object_init_3 o a b
theorem tc_zip3 (a b c : Value) : checkTypeCall "zip" ⟨[a, b, c], []⟩ = pure () := by kernel_rfl
theorem nc_zip3 (a b c : Value) : checkBuiltinCall "zip.__new__" ⟨[.type "zip", a, b, c], []⟩ = pure () := by kernel_rfl
theorem ai_zip3 (o a b c : Value) : argsOk "object.__init__" ⟨[o, a, b, c], []⟩ := by
  unfold argsOk; kernel_rfl
def SqK (K : PySem.W.Frag) (k : SK) (H : Hp) (a : Addr) (xs : List V) : Prop := match k with | .l => SqL K H a xs | .t => SqT K H a xs
theorem sqK_is {X : Cx} {pins : List (Addr × Obj)} {σ : L2.St} {H : Hp} {s : Shared} (I : Inv X pins σ H s) {k : SK} {a : Addr} {xs : List V} (q : SqK X.K k H a xs) : ∃ its : List Value, Vals xs its ∧ SIs k s.heap a its.toArray := by
  cases k with
  | l => obtain ⟨its, rv, p, _⟩ := I.list (show SqL X.K H a xs from q); exact ⟨its, rv, p.isList⟩
  | t => obtain ⟨its, rv, p, _⟩ := I.tuple (show SqT X.K H a xs from q); exact ⟨its, rv, p⟩
theorem sqK_inj {X : Cx} {pins : List (Addr × Obj)} {σ : L2.St} {H : Hp} {s : Shared} (I : Inv X pins σ H s) {k : SK} {a : Addr} {xs ys : List V} (q : SqK X.K k H a xs) (q2 : SqK X.K k H a ys) : xs = ys := by
  cases k with
  | l => exact I.list_inj (show SqL X.K H a xs from q) (show SqL X.K H a ys from q2)
  | t => exact I.tuple_inj (show SqT X.K H a xs from q) (show SqT X.K H a ys from q2)
theorem vals_c {v : V} {vs : List V} {us : List Value} (r : Vals (v :: vs) us) : ∃ u ws, us = u :: ws ∧ RelV v u ∧ Vals vs ws := by
  cases r with
  | cons a b => exact ⟨_, _, rfl, a, b⟩
section
variable {prog : Program} {w : World} {A : Around} {E : Value → Shared → Prop} {s : Shared} {k : SK} {i a : Addr} {n : Nat} {xs : Array Value}
theorem next_item {x : Value} {Q : Value → Shared → Prop} (h : SIt k s.heap i a n) (d : SIs k s.heap a xs) (e : xs[n]? = some x) (q : ∀ g, SIt k g i a (n + 1) → Heap.SameBut i s.heap g → Q x { s with heap := g }) : wpAny (model prog w) A (Builtin.SmallTypes.nextOf (.ref i)) Q E s := by
  cases k with
  | l => exact wpAny_nextOf_list_item (show s.heap.IsListIter i a n from h) (show s.heap.IsList a xs from d) e q
  | t => exact RZ.nextOf_tuple_item (show s.heap.IsTupleIter i a n from h) (show s.heap.IsTuple a xs from d) e q
theorem next_end {Q : Value → Shared → Prop} (hh : A.handled = none) (h : SIt k s.heap i a n) (d : SIs k s.heap a xs) (e : xs[n]? = none) (q : ∀ g e, Heap.ExtBut i s.heap g → (∃ o, g.get? e = some o ∧ o.cls = .type "StopIteration") → E (.ref e) { s with heap := g }) : wpAny (model prog w) A (Builtin.SmallTypes.nextOf (.ref i)) Q E s := by
  cases k with
  | l => exact wpAny_nextOf_list_end hh (show s.heap.IsListIter i a n from h) (show s.heap.IsList a xs from d) e q
  | t => exact RZ.nextOf_tuple_end hh (show s.heap.IsTupleIter i a n from h) (show s.heap.IsTuple a xs from d) e q
theorem iter_new {Q : Value → Shared → Prop} (d : SIs k s.heap a xs) (q : Q (.ref s.heap.objs.size) { s with heap := s.heap.push (itO k a) }) : wpAny (model prog w) A (pyIter (.ref a)) Q E s := by
  cases k with
  | l => exact wpAny_pyIter_list (show s.heap.IsList a xs from d) q
  | t => exact wpAny_pyIter_tuple (show s.heap.IsTuple a xs from d) q
end
structure Z2.Ap (z TI TO i1 i2 l1 l2 : Addr) : Prop where
  z_TI : z ≠ TI
  z_TO : z ≠ TO
  z_i1 : z ≠ i1
  z_i2 : z ≠ i2
  TI_z : TI ≠ z
  TI_TO : TI ≠ TO
  TI_i1 : TI ≠ i1
  TI_i2 : TI ≠ i2
  TO_z : TO ≠ z
  TO_TI : TO ≠ TI
  TO_i1 : TO ≠ i1
  TO_i2 : TO ≠ i2
  i1_z : i1 ≠ z
  i1_TI : i1 ≠ TI
  i1_TO : i1 ≠ TO
  i1_i2 : i1 ≠ i2
  i2_z : i2 ≠ z
  i2_TI : i2 ≠ TI
  i2_TO : i2 ≠ TO
  i2_i1 : i2 ≠ i1
  l1_z : l1 ≠ z
  l1_TO : l1 ≠ TO
  l1_i1 : l1 ≠ i1
  l1_i2 : l1 ≠ i2
  l2_z : l2 ≠ z
  l2_TO : l2 ≠ TO
  l2_i1 : l2 ≠ i1
  l2_i2 : l2 ≠ i2
theorem Z2.apart (I l1 l2 : Nat) (h1 : l1 < I) (h2 : l2 < I) : Z2.Ap (I + 4) (I + 2) (I + 3) I (I + 1) l1 l2 := by constructor <;> (refine neA ?_; omega)
abbrev Z2.Tup (h : Heap) (T : Addr) (a1 a2 : Value) : Prop := h.get? T = some { cls := .type "tuple", data := .seq #[a1, a2] }
section
variable {prog : Program} {w : World} {A : Around} {E : Value → Shared → Prop} {s : Shared}
theorem Z2.upd {T : Addr} {a1 a2 x : Value} {k : Nat} {Q : Unit → Shared → Prop} (hT : Z2.Tup s.heap T a1 a2) (q : ∀ h1, h1.get? T = some { cls := .type "tuple", data := .seq ((#[a1, a2] : Array Value).setIfInBounds k x) } → Heap.SameBut T s.heap h1 → Q () { s with heap := h1 }) : wpAny (model prog w) A (updateSeq T (·.setIfInBounds k x)) Q E s := by
  refine wpAny_updateSeq hT rfl (q _ ?_ (Heap.SameBut.update ..)); rw [Heap.get?_update_self _ hT rfl]; simp [Obj.mapSeq]
theorem Z2.item {z TI TO i1 i2 l1 l2 : Addr} {n : Nat} {k1 k2 : SK} {xs1 xs2 : Array Value} {a1 a2 : Value} {x1 x2 : Value} {Q : Value → Shared → Prop} (D : Z2.Ap z TI TO i1 i2 l1 l2) (hz : IsZip s.heap z TI TO .none) (hTI : Z2.Tup s.heap TI (.ref i1) (.ref i2)) (hTO : Z2.Tup s.heap TO a1 a2) (h1 : SIt k1 s.heap i1 l1 n) (d1 : SIs k1 s.heap l1 xs1) (h2 : SIt k2 s.heap i2 l2 n) (d2 : SIs k2 s.heap l2 xs2) (e1 : xs1[n]? = some x1) (e2 : xs2[n]? = some x2)
    (q : ∀ g : Heap, IsZip g z TI TO (rawInt s.heap.objs.size) → Z2.Tup g TO x1 x2 → SIt k1 g i1 l1 (n + 1) → SIt k2 g i2 l2 (n + 1) → Z2.Tup g s.heap.objs.size x1 x2 → (∀ c o, c ≠ z → c ≠ TO → c ≠ i1 → c ≠ i2 → s.heap.get? c = some o → g.get? c = some o) → Q (.ref s.heap.objs.size) { s with heap := g }) :
    wpAny (model prog w) A (Builtin.«zip.__next__» ⟨[.ref z], []⟩) (fun fin s1 => ∃ v, fin = .done (.ret v) ∧ Q v s1) E s := by
  show wpAny _ _ (field (.ref z) 2 >>= _) _ _ _; refine wpAny_bind (wpAny_field hz rfl (x := .bool false) rfl ?_)
  show wpAny _ _ (field (.ref z) 3 >>= _) _ _ _; refine wpAny_bind (wpAny_field hz rfl (x := .ref TI) rfl ?_); refine wpAny_bind (wpAny_seqItems hTI rfl ?_)
  show wpAny _ _ (Builtin.SmallTypes.ownedTupleIsFree (.ref z) >>= _) _ _ _; refine wpAny_bind ?_; unfold Builtin.SmallTypes.ownedTupleIsFree
  refine wpAny_bind (wpAny_field hz rfl (x := .none) rfl (wpAny_pure ?_)); simp only [if_true]; refine wpAny_bind (wpAny_rule ?_)
  refine wpAny_bind (wpAny_field hz rfl (x := .ref TO) rfl ?_); refine wpAny_bind (wpAny_setField_rec hz (by simp) fun g0 hz0 sb0 => ?_)
  replace hz0 : IsZip g0 z TI TO .ellipsis := hz0
  refine wpAny_bind ?_; simp only [List.zipIdx_cons, List.zipIdx_nil, List.forIn_cons, List.forIn_nil]
  have K0 : ∀ c o, c ≠ z → s.heap.get? c = some o → g0.get? c = some o := fun c o m => sb0.extBut c o m
  have hTO0 : Z2.Tup g0 TO a1 a2 := K0 _ _ D.TO_z hTO
  have S0 := sb0.1
  refine wpAny_bind (wpAny_bind (wpAny_onRaise ?_)); show wpAny _ _ (Builtin.SmallTypes.nextOf (.ref i1) >>= _) _ _ _
  refine wpAny_bind (next_item (h1.at fun o m => K0 i1 o D.i1_z m) (d1.at fun o m => K0 l1 o D.l1_z m) e1 fun p1 t1 sp1 => wpAny_pure ?_)
  have hTp1 : Z2.Tup p1 TO a1 a2 := sp1.extBut _ _ D.TO_i1 hTO0; refine wpAny_bind (wpAny_seqItems hTp1 rfl ?_)
  refine wpAny_bind (Z2.upd hTp1 fun g1 hTO1 sb1 => ?_); replace hTO1 : Z2.Tup g1 TO x1 a2 := hTO1
  have K1 : ∀ c o, c ≠ z → c ≠ TO → c ≠ i1 → s.heap.get? c = some o → g1.get? c = some o := fun c o m0 mO m1 e => sb1.extBut _ _ mO (sp1.extBut _ _ m1 (K0 c o m0  e))
  have hz1 : IsZip g1 z TI TO .ellipsis := sb1.extBut _ _ D.z_TO (sp1.extBut _ _ D.z_i1 hz0)
  have t11 : SIt k1 g1 i1 l1 (n + 1) := t1.at fun o m => sb1.extBut _ _ D.i1_TO m
  have S1 : g1.objs.size = s.heap.objs.size := by rw [sb1.1, sp1.1, S0]
  refine wpAny_bind (wpAny_letGo (wpAny_pure ?_))
  refine wpAny_bind (wpAny_bind (wpAny_onRaise ?_)); show wpAny _ _ (Builtin.SmallTypes.nextOf (.ref i2) >>= _) _ _ _
  refine wpAny_bind (next_item (h2.at fun o m => K1 i2 o D.i2_z D.i2_TO D.i2_i1 m) (d2.at fun o m => K1 l2 o D.l2_z D.l2_TO D.l2_i1 m) e2 fun p2 t2 sp2 => wpAny_pure ?_)
  have hTp2 : Z2.Tup p2 TO x1 a2 := sp2.extBut _ _ D.TO_i2 hTO1; refine wpAny_bind (wpAny_seqItems hTp2 rfl ?_)
  refine wpAny_bind (Z2.upd hTp2 fun g2 hTO2 sb2 => ?_); replace hTO2 : Z2.Tup g2 TO x1 x2 := hTO2
  have K2 : ∀ c o, c ≠ z → c ≠ TO → c ≠ i1 → c ≠ i2 → s.heap.get? c = some o → g2.get? c = some o := fun c o m0 mO m1 m2 e => sb2.extBut _ _ mO (sp2.extBut _ _ m2 (K1 c o m0 mO m1 e))
  have hz2 : IsZip g2 z TI TO .ellipsis := sb2.extBut _ _ D.z_TO (sp2.extBut _ _ D.z_i2 hz1)
  have t22 : SIt k2 g2 i2 l2 (n + 1) := t2.at fun o m => sb2.extBut _ _ D.i2_TO m
  have t12 : SIt k1 g2 i1 l1 (n + 1) := t11.at fun o e => sb2.extBut _ _ D.i1_TO (sp2.extBut _ _ D.i1_i2 e)
  have S2 : g2.objs.size = s.heap.objs.size := by rw [sb2.1, sp2.1, S1]
  refine wpAny_bind (wpAny_letGo (wpAny_pure (wpAny_pure ?_)))
  refine wpAny_bind (wpAny_seqItems hTO2 rfl ?_); refine wpAny_bind (wpAny_newTuple ?_)
  show wpAny _ _ (Builtin.SmallTypes.ownedTupleHandOut (.ref z) (.ref g2.objs.size) >>= _) _ _ _; refine wpAny_bind ?_; unfold Builtin.SmallTypes.ownedTupleHandOut
  have hzA : IsZip (g2.push { cls := .type "tuple", data := .seq #[x1, x2] }) z TI TO .ellipsis := Heap.get?_push_of_some _ hz2
  refine wpAny_bind (wpAny_setField_rec hzA (by simp) fun gB hzB sbB => ?_); replace hzB : IsZip gB z TI TO (rawInt g2.objs.size) := hzB
  refine wpAny_setField_rec hzB (by simp) fun gC hzC sbC => ?_; replace hzC : IsZip gC z TI TO (rawInt g2.objs.size) := hzC
  have up : ∀ c o, c ≠ z → g2.get? c = some o → gC.get? c = some o := fun c o m e => sbC.extBut _ _ m (sbB.extBut _ _ m (Heap.get?_push_of_some _ e))
  have zl : g2.objs.size ≠ z := Nat.ne_of_gt (Heap.lt_size hz2)
  have hT : Z2.Tup gC g2.objs.size x1 x2 := sbC.extBut _ _ zl (sbB.extBut _ _ zl (Heap.get?_push_size _ rfl))
  rw [S2] at hzC hT; refine wpAny_pure ⟨_, rfl, ?_⟩; show Q (.ref g2.objs.size) _; rw [S2]
  exact q gC hzC (up _ _ D.TO_z hTO2) (t12.at fun o e => up _ o D.i1_z e) (t22.at fun o e => up _ o D.i2_z e) hT fun c o m0 mO m1 m2 e => up c o m0 (K2 c o m0 mO m1 m2 e)
theorem Z2.ended {z TI TO i1 i2 l1 l2 : Addr} {n : Nat} {k1 k2 : SK} {xs1 xs2 : Array Value} {a1 a2 : Value} {Q : Fin → Shared → Prop} (hh : A.handled = none) (D : Z2.Ap z TI TO i1 i2 l1 l2) (hz : IsZip s.heap z TI TO .none) (hTI : Z2.Tup s.heap TI (.ref i1) (.ref i2)) (hTO : Z2.Tup s.heap TO a1 a2) (h1 : SIt k1 s.heap i1 l1 n) (d1 : SIs k1 s.heap l1 xs1) (h2 : SIt k2 s.heap i2 l2 n) (d2 : SIs k2 s.heap l2 xs2) (hend : xs1[n]? = none ∨ xs2[n]? = none)
    (q : ∀ (g : Heap) (e : Addr), (∀ c o, c ≠ z → c ≠ TO → c ≠ i1 → c ≠ i2 → s.heap.get? c = some o → g.get? c = some o) → (∃ o, g.get? e = some o ∧ o.cls = .type "StopIteration") → E (.ref e) { s with heap := g }) :
    wpAny (model prog w) A (Builtin.«zip.__next__» ⟨[.ref z], []⟩) Q E s := by
  show wpAny _ _ (field (.ref z) 2 >>= _) _ _ _; refine wpAny_bind (wpAny_field hz rfl (x := .bool false) rfl ?_)
  show wpAny _ _ (field (.ref z) 3 >>= _) _ _ _; refine wpAny_bind (wpAny_field hz rfl (x := .ref TI) rfl ?_); refine wpAny_bind (wpAny_seqItems hTI rfl ?_)
  show wpAny _ _ (Builtin.SmallTypes.ownedTupleIsFree (.ref z) >>= _) _ _ _; refine wpAny_bind ?_; unfold Builtin.SmallTypes.ownedTupleIsFree
  refine wpAny_bind (wpAny_field hz rfl (x := .none) rfl (wpAny_pure ?_)); simp only [if_true]; refine wpAny_bind (wpAny_rule ?_)
  refine wpAny_bind (wpAny_field hz rfl (x := .ref TO) rfl ?_); refine wpAny_bind (wpAny_setField_rec hz (by simp) fun g0 hz0 sb0 => ?_)
  replace hz0 : IsZip g0 z TI TO .ellipsis := hz0
  refine wpAny_bind ?_; simp only [List.zipIdx_cons, List.zipIdx_nil, List.forIn_cons, List.forIn_nil]
  have K0 : ∀ c o, c ≠ z → s.heap.get? c = some o → g0.get? c = some o := fun c o m => sb0.extBut c o m
  have hTO0 : Z2.Tup g0 TO a1 a2 := K0 _ _ D.TO_z hTO
  refine wpAny_bind (wpAny_bind (wpAny_onRaise ?_)); show wpAny _ _ (Builtin.SmallTypes.nextOf (.ref i1) >>= _) _ _ _
  cases e1 : xs1[n]? with
  | none =>
    refine wpAny_bind (next_end hh (h1.at fun o m => K0 i1 o D.i1_z m) (d1.at fun o m => K0 l1 o D.l1_z m) e1 fun p e sp he => ?_)
    obtain ⟨oe, hoe, hce⟩ := he; have hzp : IsZip p z TI TO .ellipsis := sp _ _ D.z_i1 hz0
    have hez : e ≠ z := fun x => by subst x; rw [hzp] at hoe; cases hoe; simp at hce
    refine wpAny_setField_rec hzp (by simp) fun p3 _ s3 => q p3 e (fun c o m0 mO m1 m2 x => s3.extBut _ _ m0 (sp _ _ m1 (K0 c o m0  x))) ⟨oe, s3.extBut _ _ hez hoe, hce⟩
  | some x1 =>
    refine wpAny_bind (next_item (h1.at fun o m => K0 i1 o D.i1_z m) (d1.at fun o m => K0 l1 o D.l1_z m) e1 fun p1 t1 sp1 => wpAny_pure ?_)
    have hTp1 : Z2.Tup p1 TO a1 a2 := sp1.extBut _ _ D.TO_i1 hTO0; refine wpAny_bind (wpAny_seqItems hTp1 rfl ?_)
    refine wpAny_bind (Z2.upd hTp1 fun g1 hTO1 sb1 => ?_); replace hTO1 : Z2.Tup g1 TO x1 a2 := hTO1
    have K1 : ∀ c o, c ≠ z → c ≠ TO → c ≠ i1 → s.heap.get? c = some o → g1.get? c = some o := fun c o m0 mO m1 e => sb1.extBut _ _ mO (sp1.extBut _ _ m1 (K0 c o m0  e))
    have hz1 : IsZip g1 z TI TO .ellipsis := sb1.extBut _ _ D.z_TO (sp1.extBut _ _ D.z_i1 hz0)
    refine wpAny_bind (wpAny_letGo (wpAny_pure ?_))
    refine wpAny_bind (wpAny_bind (wpAny_onRaise ?_)); show wpAny _ _ (Builtin.SmallTypes.nextOf (.ref i2) >>= _) _ _ _
    cases e2 : xs2[n]? with
    | none =>
      refine wpAny_bind (next_end hh (h2.at fun o m => K1 i2 o D.i2_z D.i2_TO D.i2_i1 m) (d2.at fun o m => K1 l2 o D.l2_z D.l2_TO D.l2_i1 m) e2 fun p e sp he => ?_)
      obtain ⟨oe, hoe, hce⟩ := he; have hzp : IsZip p z TI TO .ellipsis := sp _ _ D.z_i2 hz1
      have hez : e ≠ z := fun x => by subst x; rw [hzp] at hoe; cases hoe; simp at hce
      refine wpAny_setField_rec hzp (by simp) fun p3 _ s3 => q p3 e (fun c o m0 mO m1 m2 x => s3.extBut _ _ m0 (sp _ _ m2 (K1 c o m0 mO m1 x))) ⟨oe, s3.extBut _ _ hez hoe, hce⟩
    | some x2 =>
      exact absurd hend (by simp [e1, e2])
theorem Z2.next {z TI TO i1 i2 l1 l2 : Addr} {n : Nat} {k1 k2 : SK} {xs1 xs2 : Array Value} {a1 a2 : Value} {x1 x2 : Value} {Q : Option Value → Shared → Prop} (D : Z2.Ap z TI TO i1 i2 l1 l2) (hz : IsZip s.heap z TI TO .none) (hTI : Z2.Tup s.heap TI (.ref i1) (.ref i2)) (hTO : Z2.Tup s.heap TO a1 a2) (h1 : SIt k1 s.heap i1 l1 n) (d1 : SIs k1 s.heap l1 xs1) (h2 : SIt k2 s.heap i2 l2 n) (d2 : SIs k2 s.heap l2 xs2) (e1 : xs1[n]? = some x1) (e2 : xs2[n]? = some x2)
    (q : ∀ g : Heap, IsZip g z TI TO (rawInt s.heap.objs.size) → Z2.Tup g TO x1 x2 → SIt k1 g i1 l1 (n + 1) → SIt k2 g i2 l2 (n + 1) → Z2.Tup g s.heap.objs.size x1 x2 → (∀ c o, c ≠ z → c ≠ TO → c ≠ i1 → c ≠ i2 → s.heap.get? c = some o → g.get? c = some o) → Q (some (.ref s.heap.objs.size)) { s with heap := g }) : wpAny (model prog w) A (pyNext (.ref z)) Q E s := by
  have hT : s.TypeIs (.ref z) "zip" := ⟨_, hz, rfl⟩
  unfold pyNext; exact wpAny_bind (wpAny_attempt (wpAny_callSpecial?_slot (name := Str.ofString "__next__") hT F.slot_zip_next (wpAny_call_entry F.slot_zip_next hT F.entry_zip_next (Z2.item D hz hTI hTO h1 d1 h2 d2 e1 e2 fun g b1 b2 c1 c2 b3 b4 => wpAny_pure (q g b1 b2 c1 c2 b3 b4)) (F.args_zip_next_1 _))))
theorem Z2.stop {z TI TO i1 i2 l1 l2 : Addr} {n : Nat} {k1 k2 : SK} {xs1 xs2 : Array Value} {a1 a2 : Value} {Q : Option Value → Shared → Prop} (hh : A.handled = none) (D : Z2.Ap z TI TO i1 i2 l1 l2) (hz : IsZip s.heap z TI TO .none) (hTI : Z2.Tup s.heap TI (.ref i1) (.ref i2)) (hTO : Z2.Tup s.heap TO a1 a2) (h1 : SIt k1 s.heap i1 l1 n) (d1 : SIs k1 s.heap l1 xs1) (h2 : SIt k2 s.heap i2 l2 n) (d2 : SIs k2 s.heap l2 xs2) (hend : xs1[n]? = none ∨ xs2[n]? = none)
    (q : ∀ g : Heap, (∀ c o, c ≠ z → c ≠ TO → c ≠ i1 → c ≠ i2 → s.heap.get? c = some o → g.get? c = some o) → Q none { s with heap := g }) : wpAny (model prog w) A (pyNext (.ref z)) Q E s := by
  have hT : s.TypeIs (.ref z) "zip" := ⟨_, hz, rfl⟩
  unfold pyNext; refine wpAny_bind (wpAny_attempt (wpAny_callSpecial?_slot (name := Str.ofString "__next__") hT F.slot_zip_next (wpAny_call_entry F.slot_zip_next hT F.entry_zip_next (Z2.ended hh D hz hTI hTO h1 d1 h2 d2 hend fun g e hk he => ?_) (F.args_zip_next_1 _))))
  obtain ⟨o, ho, hc⟩ := he; exact wpAny_bind (wpAny_isInstance (T := "StopIteration") (b := true) ⟨o, ho, hc⟩ isSubtype_stop (wpAny_pure (q _ hk)))
end
abbrev Z2.H0 (h : Heap) : Heap := h
abbrev Z2.H1 (h : Heap) (k1 : SK) (l1 : Addr) : Heap := (Z2.H0 h  ).push (itO k1 l1)
abbrev Z2.H2 (h : Heap) (k1 k2 : SK) (l1 l2 : Addr) : Heap := (Z2.H1 h k1 l1).push (itO k2 l2)
abbrev Z2.HI (h : Heap) (k1 k2 : SK) (l1 l2 : Addr) : Heap := (Z2.H2 h k1 k2 l1 l2).push { cls := .type "tuple", data := .seq #[.ref h.objs.size, .ref (Z2.H1 h k1 l1).objs.size] }
abbrev Z2.HO (h : Heap) (k1 k2 : SK) (l1 l2 : Addr) : Heap := (Z2.HI h k1 k2 l1 l2).push { cls := .type "tuple", data := .seq #[.none, .none] }
abbrev Z2.HZ (h : Heap) (k1 k2 : SK) (l1 l2 : Addr) : Heap := (Z2.HO h k1 k2 l1 l2).push { cls := .type "zip", data := .fields #[.none, .bool false, .bool false, .ref (Z2.H2 h k1 k2 l1 l2).objs.size, .ref (Z2.HI h k1 k2 l1 l2).objs.size] }
theorem Z2.meets (k1 k2 : SK) (l1 l2 : Addr) (xs1 xs2 : Array Value) : Meets (Builtin.«zip.__new__» ⟨[.type "zip", .ref l1, .ref l2], []⟩) (fun _ R s => SIs k1 s.heap l1 xs1 ∧ SIs k2 s.heap l2 xs2 ∧ R (.ok (.ret (.ref (Z2.HO s.heap k1 k2 l1 l2).objs.size))) { s with heap := Z2.HZ s.heap k1 k2 l1 l2 }) :=
  .of_wp fun prog w A R s h => by
    obtain ⟨hp, g, dr, tk, os⟩ := s; obtain ⟨d1, d2, h⟩ := h; have hsub := sub_zip
    have q1 : ∀ {A' : Around} {E : Value → Shared → Prop} {Q : Value → Shared → Prop}, Q (.ref (Z2.H0 hp  ).objs.size) ⟨Z2.H1 hp k1 l1, g, dr, tk, os⟩ → wpAny (model prog w) A' (pyIter (.ref l1)) Q E ⟨(Z2.H0 hp  ), g, dr, tk, os⟩ := fun q => iter_new (s := ⟨(Z2.H0 hp  ), g, dr, tk, os⟩) d1 q
    have q2 : ∀ {A' : Around} {E : Value → Shared → Prop} {Q : Value → Shared → Prop}, Q (.ref (Z2.H1 hp k1 l1).objs.size) ⟨Z2.H2 hp k1 k2 l1 l2, g, dr, tk, os⟩ → wpAny (model prog w) A' (pyIter (.ref l2)) Q E ⟨(Z2.H1 hp k1 l1), g, dr, tk, os⟩ := fun q => iter_new (s := ⟨(Z2.H1 hp k1 l1), g, dr, tk, os⟩) (d2.push _) q
    wp_walk using q1, q2
    exact ⟨_, rfl, h⟩
section
variable {prog : Program} {w : World} {A : Around} {E : Value → Shared → Prop} {s : Shared}
theorem Z2.call {l1 l2 : Addr} {k1 k2 : SK} {xs1 xs2 : Array Value} {Q : Value → Shared → Prop} (d1 : SIs k1 s.heap l1 xs1) (d2 : SIs k2 s.heap l2 xs2)
    (q : ∀ g : Heap, IsZip g (s.heap.objs.size + 4) (s.heap.objs.size + 2) (s.heap.objs.size + 3) .none → Z2.Tup g (s.heap.objs.size + 2) (.ref s.heap.objs.size) (.ref (s.heap.objs.size + 1)) → Z2.Tup g (s.heap.objs.size + 3) .none .none → SIt k1 g s.heap.objs.size l1 0 → SIt k2 g (s.heap.objs.size + 1) l2 0 → (∀ c o, s.heap.get? c = some o → g.get? c = some o) → Q (.ref (s.heap.objs.size + 4)) { s with heap := g }) :
    wpAny (model prog w) A (call (.type "zip") [.ref l1, .ref l2]) Q E s := by
  refine callType_new F.called_zip (by decide) (tc_zip2 _ _ ) (nc_zip2 _ _ ) (fun obj => ai_zip2 obj _ _ ) F.entry_zip_new (Z2.meets k1 k2 l1 l2 xs1 xs2) ⟨d1, d2, ?_⟩
  have z1 : (Z2.H1 s.heap k1 l1).objs.size = s.heap.objs.size + 1 := by rw [Heap.size_push]
  have z2 : (Z2.H2 s.heap k1 k2 l1 l2).objs.size = s.heap.objs.size + 2 := by rw [Heap.size_push, z1]
  have zI : (Z2.HI s.heap k1 k2 l1 l2).objs.size = s.heap.objs.size + 3 := by rw [Heap.size_push, z2]
  have zO : (Z2.HO s.heap k1 k2 l1 l2).objs.size = s.heap.objs.size + 4 := by rw [Heap.size_push, zI]
  have gZ : (Z2.HZ s.heap k1 k2 l1 l2).get? (Z2.HO s.heap k1 k2 l1 l2).objs.size = some _ := Heap.get?_push_size _ rfl
  have gO : (Z2.HZ s.heap k1 k2 l1 l2).get? (Z2.HI s.heap k1 k2 l1 l2).objs.size = some _ := Heap.get?_push_of_some _ (Heap.get?_push_size _ rfl)
  have gI : (Z2.HZ s.heap k1 k2 l1 l2).get? (Z2.H2 s.heap k1 k2 l1 l2).objs.size = some _ := Heap.get?_push_of_some _ (Heap.get?_push_of_some _ (Heap.get?_push_size _ rfl))
  have g1 : (Z2.HZ s.heap k1 k2 l1 l2).get? (Z2.H0 s.heap  ).objs.size = some (itO k1 l1) := Heap.get?_push_of_some _ (Heap.get?_push_of_some _ (Heap.get?_push_of_some _ (Heap.get?_push_of_some _ (Heap.get?_push_size _ (itO_free _ _)))))
  have g2 : (Z2.HZ s.heap k1 k2 l1 l2).get? (Z2.H1 s.heap k1 l1).objs.size = some (itO k2 l2) := Heap.get?_push_of_some _ (Heap.get?_push_of_some _ (Heap.get?_push_of_some _ (Heap.get?_push_size _ (itO_free _ _))))
  show _ ∧ _
  rw [zO]
  simp only [zO, zI, z1, z2] at gZ gO gI g1 g2
  exact ⟨⟨_, gZ, rfl⟩, q _ gZ gI gO (SIt.new g1) (SIt.new g2) fun c o x => Heap.get?_push_of_some _ (Heap.get?_push_of_some _ (Heap.get?_push_of_some _ (Heap.get?_push_of_some _ (Heap.get?_push_of_some _ (x)))))⟩
end
def Z2.It (K : PySem.W.Frag) (k1 k2 : SK) (b1 b2 : Addr) : L2.It :=
  ⟨fun i H => ∃ (ys1 ys2 : List V) (y1 y2 : V), SqK K k1 H b1 ys1 ∧ ys1[i]? = some y1 ∧ SqK K k2 H b2 ys2 ∧ ys2[i]? = some y2,
    fun i H v H1 => ∃ T y1 y2, v = .ref T ∧ H T = none ∧ H1 = L2.upd H T (.tup [y1, y2]) ∧ (∀ ys, SqK K k1 H b1 ys → ys[i]? = some y1) ∧ (∀ ys, SqK K k2 H b2 ys → ys[i]? = some y2),
    fun i H => ∃ ys1 ys2 : List V, SqK K k1 H b1 ys1 ∧ SqK K k2 H b2 ys2 ∧ (ys1.length ≤ i ∨ ys2.length ≤ i)⟩
theorem Z2.turn {P : Program} {w : World} {K : PySem.W.Frag} {elts : List Expr} {kk : Nat} {tpos : Pos} {z TI TO i1 i2 b1 b2 : Addr} {k1 k2 : SK} (D : Z2.Ap z TI TO i1 i2 b1 b2) :
    Turn P w K (.Tuple elts kk tpos) (Z2.It K k1 k2 b1 b2) [z, TI, TO, i1, i2] z (fun i h => IsZip h z TI TO .none ∧ Z2.Tup h TI (.ref i1) (.ref i2) ∧ (∃ x1 x2, Z2.Tup h TO x1 x2) ∧ SIt k1 h i1 b1 i ∧ SIt k2 h i2 b2 i) where
  mem := by simp
  obj := fun i h st c hc => by
    obtain ⟨hz, hTI, ⟨x1, x2, hTO⟩, t1, t2⟩ := st
    have e1 : c = z ∨ c = TI ∨ c = TO ∨ c = i1 ∨ c = i2 := by simpa using hc
    rcases e1 with q | q | q | q | q
    · rw [q]; exact ⟨_, hz, fun v q => nomatch q⟩
    · rw [q]; exact ⟨_, hTI, fun v q => nomatch q⟩
    · rw [q]; exact ⟨_, hTO, fun v q => nomatch q⟩
    · rw [q]; exact t1.there
    · rw [q]; exact t2.there
  keep := fun i h h1 st k => by
    obtain ⟨hz, hTI, ⟨x1, x2, hTO⟩, t1, t2⟩ := st
    exact ⟨k z (by simp) _ hz, k TI (by simp) _ hTI, ⟨x1, x2, k TO (by simp) _ hTO⟩, t1.at fun o q => k i1 (by simp) o q, t2.at fun o q => k i2 (by simp) o q⟩
  item := by
    intro X hP hw hK hc i pins s σ H E I hf st hg; subst hP hw hK
    obtain ⟨hz, hTI, ⟨w1, w2, hTO⟩, t1, t2⟩ := st
    obtain ⟨ys1, ys2, y1, y2, hq1, hy1, hq2, hy2⟩ := hg
    obtain ⟨its1, rv1, d1⟩ := sqK_is I hq1; obtain ⟨u1, hu1, ru1⟩ := rv1.get hy1
    obtain ⟨its2, rv2, d2⟩ := sqK_is I hq2; obtain ⟨u2, hu2, ru2⟩ := rv2.get hy2
    have hzl : z < s.heap.objs.size := Heap.lt_size hz
    refine Z2.next D hz hTI hTO t1 d1 t2 d2 (by simpa using hu1) (by simpa using hu2) fun h1 z1 TO1 v1 v2 hT hk => ?_
    refine ⟨_, rfl, wpAny_letOwnedTupleGo_zip (s := { s with heap := h1 }) z1 fun h2 z2 sb => ?_⟩
    have hT2 : h2.get? s.heap.objs.size = some { cls := .type "tuple", data := .seq #[u1, u2] } := (sb.2 _ (Nat.ne_of_gt hzl)).trans hT
    have new : ObjOk X.prog X.w (L2.upd H s.heap.objs.size (.tup [y1, y2])) h2 s.heap.objs.size (.tup [y1, y2]) := ⟨by show 2 ≤ sizeLine; decide, [u1, u2], (.cons ru1 (.cons ru2 .nil)), ⟨_, hT2, rfl, _, rfl⟩⟩
    have I1 : Inv X pins σ (L2.upd H s.heap.objs.size (.tup [y1, y2])) { s with heap := h2 } := I.turnedNew (t' := s.toks) (ch := [z, TI, TO, i1, i2]) (fun c o hb q => (sb.2 c (fun q1 => hb (by simp [q1]))).trans (hk c o (fun q1 => hb (by simp [q1])) (fun q1 => hb (by simp [q1])) (fun q1 => hb (by simp [q1])) (fun q1 => hb (by simp [q1])) q)) hf (Nat.le_refl _) new
    refine ⟨.ref s.heap.objs.size, _, I1, rfl, ⟨_, y1, y2, rfl, I.hok.fresh (Nat.le_refl _), rfl, fun l hl => by rw [sqK_inj I hl hq1]; exact hy1, fun l hl => by rw [sqK_inj I hl hq2]; exact hy2⟩, ⟨z2, ?_, ⟨u1, u2, ?_⟩, ?_, ?_⟩, fun c hcm => ?_⟩
    · exact (sb.2 _ D.TI_z).trans (hk _ _ D.TI_z D.TI_TO D.TI_i1 D.TI_i2 hTI)
    · exact (sb.2 _ D.TO_z).trans TO1
    · exact v1.at fun o q => (sb.2 _ D.i1_z).trans q
    · exact v2.at fun o q => (sb.2 _ D.i2_z).trans q
    · have hlt : c < s.heap.objs.size := by
        have e1 : c = z ∨ c = TI ∨ c = TO ∨ c = i1 ∨ c = i2 := by simpa using hcm
        rcases e1 with q | q | q | q | q
        · rw [q]; exact Heap.lt_size hz
        · rw [q]; exact Heap.lt_size hTI
        · rw [q]; exact Heap.lt_size hTO
        · rw [q]; obtain ⟨_, e2, _⟩ := t1.there; exact Heap.lt_size e2
        · rw [q]; obtain ⟨_, e2, _⟩ := t2.there; exact Heap.lt_size e2
      rw [upd_ne (Nat.ne_of_lt hlt)]; exact (hf c hcm).1
  done := by
    intro X hP hw hK hc i pins s σ H E I hf st hg; subst hP hw hK
    obtain ⟨hz, hTI, ⟨w1, w2, hTO⟩, t1, t2⟩ := st
    obtain ⟨ys1, ys2, hq1, hq2, hend⟩ := hg
    obtain ⟨its1, rv1, d1⟩ := sqK_is I hq1; have l1 := rv1.length
    obtain ⟨its2, rv2, d2⟩ := sqK_is I hq2; have l2 := rv2.length
    have he : its1.toArray[i]? = none ∨ its2.toArray[i]? = none := by
      rcases hend with q | q
      · exact .inl (by simp; omega)
      · exact .inr (by simp; omega)
    exact Z2.stop (I.ok.hd hc) D hz hTI hTO t1 d1 t2 d2 he fun h1 hk => ⟨rfl, I.turnedL (t' := s.toks) (ch := [z, TI, TO, i1, i2]) (fun c o hb q => hk c o (fun q1 => hb (by simp [q1])) (fun q1 => hb (by simp [q1])) (fun q1 => hb (by simp [q1])) (fun q1 => hb (by simp [q1])) q) hf⟩
  self := fun A i s Q E st h => wpAny_pyIter_zip st.1 h
theorem Z2.pi {X : Cx} {e1 e2 : Expr} {ta : TA} {p pos tpos : Pos} {elts : List Expr} {kk : Nat} (hg : Gl X "zip") (hm : X.mg "zip" = none) (ha : PA X [e1, e2] ta) (hs : starEach [e1, e2] X.env = (false, eval e1 X.env) :: starEach [e2] X.env) (hpl : (backTo pos (starEach [e2] X.env)).any (·.1) = false) :
    PI X (.Tuple elts kk tpos) (.Call (.Name "zip" p) [e1, e2] [] pos) (fun σ H R => ta σ H fun vs H1 => ∃ k1 k2 b1 b2 ys1 ys2, vs = [.ref b1, .ref b2] ∧ SqK X.K k1 H1 b1 ys1 ∧ SqK X.K k2 H1 b2 ys2 ∧ R (Z2.It X.K k1 k2 b1 b2) H1) := by
  refine ⟨fun pins s σ H R I h => ?_⟩
  refine Call_ (ld_blt I hg hm PyProof.Rows.boot_zip (PyProof.Rows.callWith_type1 (thn (ha.run pos pins s σ H _ I h) fun us s1 ⟨vs, H1, I1, r1, q1⟩ => ?_) hs hpl))
  obtain ⟨k1, k2, b1, b2, ys1, ys2, rfl, hq1, hq2, q⟩ := q1
  obtain ⟨v1, w1, rfl, rr1, r2⟩ := vals_c r1; cases rr1
  obtain ⟨v2, w2, rfl, rr2, r3⟩ := vals_c r2; cases rr2
  cases r3
  obtain ⟨its1, rv1, d1⟩ := sqK_is I1 hq1
  obtain ⟨its2, rv2, d2⟩ := sqK_is I1 hq2
  refine Z2.call d1 d2 fun g hz hTI hTO t1 t2 hk => wpAny_pyIter_zip hz ?_
  refine ⟨s1.heap.objs.size + 4, [s1.heap.objs.size + 4, s1.heap.objs.size + 2, s1.heap.objs.size + 3, s1.heap.objs.size, s1.heap.objs.size + 1], _, _, H1, rfl, I1.kept (t' := s1.toks) hk, Z2.turn (Z2.apart s1.heap.objs.size b1 b2 d1.lt d2.lt), ⟨hz, hTI, ⟨_, _, hTO⟩, t1, t2⟩, fun c hcm => ?_, q⟩
  have hle : s1.heap.objs.size ≤ c := by
    simp only [List.mem_cons, List.not_mem_nil, or_false] at hcm
    rcases hcm with e | e | e | e | e <;> (rw [e]; first | exact Nat.le_refl _ | exact Nat.le_add_right _ _)
  exact I1.fpOk hle (I1.hok.fresh hle)
structure Z3.Ap (z TI TO i1 i2 i3 l1 l2 l3 : Addr) : Prop where
  z_TI : z ≠ TI
  z_TO : z ≠ TO
  z_i1 : z ≠ i1
  z_i2 : z ≠ i2
  z_i3 : z ≠ i3
  TI_z : TI ≠ z
  TI_TO : TI ≠ TO
  TI_i1 : TI ≠ i1
  TI_i2 : TI ≠ i2
  TI_i3 : TI ≠ i3
  TO_z : TO ≠ z
  TO_TI : TO ≠ TI
  TO_i1 : TO ≠ i1
  TO_i2 : TO ≠ i2
  TO_i3 : TO ≠ i3
  i1_z : i1 ≠ z
  i1_TI : i1 ≠ TI
  i1_TO : i1 ≠ TO
  i1_i2 : i1 ≠ i2
  i1_i3 : i1 ≠ i3
  i2_z : i2 ≠ z
  i2_TI : i2 ≠ TI
  i2_TO : i2 ≠ TO
  i2_i1 : i2 ≠ i1
  i2_i3 : i2 ≠ i3
  i3_z : i3 ≠ z
  i3_TI : i3 ≠ TI
  i3_TO : i3 ≠ TO
  i3_i1 : i3 ≠ i1
  i3_i2 : i3 ≠ i2
  l1_z : l1 ≠ z
  l1_TO : l1 ≠ TO
  l1_i1 : l1 ≠ i1
  l1_i2 : l1 ≠ i2
  l1_i3 : l1 ≠ i3
  l2_z : l2 ≠ z
  l2_TO : l2 ≠ TO
  l2_i1 : l2 ≠ i1
  l2_i2 : l2 ≠ i2
  l2_i3 : l2 ≠ i3
  l3_z : l3 ≠ z
  l3_TO : l3 ≠ TO
  l3_i1 : l3 ≠ i1
  l3_i2 : l3 ≠ i2
  l3_i3 : l3 ≠ i3
theorem Z3.apart (I l1 l2 l3 : Nat) (h1 : l1 < I) (h2 : l2 < I) (h3 : l3 < I) : Z3.Ap (I + 5) (I + 3) (I + 4) I (I + 1) (I + 2) l1 l2 l3 := by constructor <;> (refine neA ?_; omega)
abbrev Z3.Tup (h : Heap) (T : Addr) (a1 a2 a3 : Value) : Prop := h.get? T = some { cls := .type "tuple", data := .seq #[a1, a2, a3] }
section
variable {prog : Program} {w : World} {A : Around} {E : Value → Shared → Prop} {s : Shared}
theorem Z3.upd {T : Addr} {a1 a2 a3 x : Value} {k : Nat} {Q : Unit → Shared → Prop} (hT : Z3.Tup s.heap T a1 a2 a3) (q : ∀ h1, h1.get? T = some { cls := .type "tuple", data := .seq ((#[a1, a2, a3] : Array Value).setIfInBounds k x) } → Heap.SameBut T s.heap h1 → Q () { s with heap := h1 }) : wpAny (model prog w) A (updateSeq T (·.setIfInBounds k x)) Q E s := by
  refine wpAny_updateSeq hT rfl (q _ ?_ (Heap.SameBut.update ..)); rw [Heap.get?_update_self _ hT rfl]; simp [Obj.mapSeq]
theorem Z3.item {z TI TO i1 i2 i3 l1 l2 l3 : Addr} {n : Nat} {k1 k2 k3 : SK} {xs1 xs2 xs3 : Array Value} {a1 a2 a3 : Value} {x1 x2 x3 : Value} {Q : Value → Shared → Prop} (D : Z3.Ap z TI TO i1 i2 i3 l1 l2 l3) (hz : IsZip s.heap z TI TO .none) (hTI : Z3.Tup s.heap TI (.ref i1) (.ref i2) (.ref i3)) (hTO : Z3.Tup s.heap TO a1 a2 a3) (h1 : SIt k1 s.heap i1 l1 n) (d1 : SIs k1 s.heap l1 xs1) (h2 : SIt k2 s.heap i2 l2 n) (d2 : SIs k2 s.heap l2 xs2) (h3 : SIt k3 s.heap i3 l3 n) (d3 : SIs k3 s.heap l3 xs3) (e1 : xs1[n]? = some x1) (e2 : xs2[n]? = some x2) (e3 : xs3[n]? = some x3)
    (q : ∀ g : Heap, IsZip g z TI TO (rawInt s.heap.objs.size) → Z3.Tup g TO x1 x2 x3 → SIt k1 g i1 l1 (n + 1) → SIt k2 g i2 l2 (n + 1) → SIt k3 g i3 l3 (n + 1) → Z3.Tup g s.heap.objs.size x1 x2 x3 → (∀ c o, c ≠ z → c ≠ TO → c ≠ i1 → c ≠ i2 → c ≠ i3 → s.heap.get? c = some o → g.get? c = some o) → Q (.ref s.heap.objs.size) { s with heap := g }) :
    wpAny (model prog w) A (Builtin.«zip.__next__» ⟨[.ref z], []⟩) (fun fin s1 => ∃ v, fin = .done (.ret v) ∧ Q v s1) E s := by
  show wpAny _ _ (field (.ref z) 2 >>= _) _ _ _; refine wpAny_bind (wpAny_field hz rfl (x := .bool false) rfl ?_)
  show wpAny _ _ (field (.ref z) 3 >>= _) _ _ _; refine wpAny_bind (wpAny_field hz rfl (x := .ref TI) rfl ?_); refine wpAny_bind (wpAny_seqItems hTI rfl ?_)
  show wpAny _ _ (Builtin.SmallTypes.ownedTupleIsFree (.ref z) >>= _) _ _ _; refine wpAny_bind ?_; unfold Builtin.SmallTypes.ownedTupleIsFree
  refine wpAny_bind (wpAny_field hz rfl (x := .none) rfl (wpAny_pure ?_)); simp only [if_true]; refine wpAny_bind (wpAny_rule ?_)
  refine wpAny_bind (wpAny_field hz rfl (x := .ref TO) rfl ?_); refine wpAny_bind (wpAny_setField_rec hz (by simp) fun g0 hz0 sb0 => ?_)
  replace hz0 : IsZip g0 z TI TO .ellipsis := hz0
  refine wpAny_bind ?_; simp only [List.zipIdx_cons, List.zipIdx_nil, List.forIn_cons, List.forIn_nil]
  have K0 : ∀ c o, c ≠ z → s.heap.get? c = some o → g0.get? c = some o := fun c o m => sb0.extBut c o m
  have hTO0 : Z3.Tup g0 TO a1 a2 a3 := K0 _ _ D.TO_z hTO
  have S0 := sb0.1
  refine wpAny_bind (wpAny_bind (wpAny_onRaise ?_)); show wpAny _ _ (Builtin.SmallTypes.nextOf (.ref i1) >>= _) _ _ _
  refine wpAny_bind (next_item (h1.at fun o m => K0 i1 o D.i1_z m) (d1.at fun o m => K0 l1 o D.l1_z m) e1 fun p1 t1 sp1 => wpAny_pure ?_)
  have hTp1 : Z3.Tup p1 TO a1 a2 a3 := sp1.extBut _ _ D.TO_i1 hTO0; refine wpAny_bind (wpAny_seqItems hTp1 rfl ?_)
  refine wpAny_bind (Z3.upd hTp1 fun g1 hTO1 sb1 => ?_); replace hTO1 : Z3.Tup g1 TO x1 a2 a3 := hTO1
  have K1 : ∀ c o, c ≠ z → c ≠ TO → c ≠ i1 → s.heap.get? c = some o → g1.get? c = some o := fun c o m0 mO m1 e => sb1.extBut _ _ mO (sp1.extBut _ _ m1 (K0 c o m0  e))
  have hz1 : IsZip g1 z TI TO .ellipsis := sb1.extBut _ _ D.z_TO (sp1.extBut _ _ D.z_i1 hz0)
  have t11 : SIt k1 g1 i1 l1 (n + 1) := t1.at fun o m => sb1.extBut _ _ D.i1_TO m
  have S1 : g1.objs.size = s.heap.objs.size := by rw [sb1.1, sp1.1, S0]
  refine wpAny_bind (wpAny_letGo (wpAny_pure ?_))
  refine wpAny_bind (wpAny_bind (wpAny_onRaise ?_)); show wpAny _ _ (Builtin.SmallTypes.nextOf (.ref i2) >>= _) _ _ _
  refine wpAny_bind (next_item (h2.at fun o m => K1 i2 o D.i2_z D.i2_TO D.i2_i1 m) (d2.at fun o m => K1 l2 o D.l2_z D.l2_TO D.l2_i1 m) e2 fun p2 t2 sp2 => wpAny_pure ?_)
  have hTp2 : Z3.Tup p2 TO x1 a2 a3 := sp2.extBut _ _ D.TO_i2 hTO1; refine wpAny_bind (wpAny_seqItems hTp2 rfl ?_)
  refine wpAny_bind (Z3.upd hTp2 fun g2 hTO2 sb2 => ?_); replace hTO2 : Z3.Tup g2 TO x1 x2 a3 := hTO2
  have K2 : ∀ c o, c ≠ z → c ≠ TO → c ≠ i1 → c ≠ i2 → s.heap.get? c = some o → g2.get? c = some o := fun c o m0 mO m1 m2 e => sb2.extBut _ _ mO (sp2.extBut _ _ m2 (K1 c o m0 mO m1 e))
  have hz2 : IsZip g2 z TI TO .ellipsis := sb2.extBut _ _ D.z_TO (sp2.extBut _ _ D.z_i2 hz1)
  have t22 : SIt k2 g2 i2 l2 (n + 1) := t2.at fun o m => sb2.extBut _ _ D.i2_TO m
  have t12 : SIt k1 g2 i1 l1 (n + 1) := t11.at fun o e => sb2.extBut _ _ D.i1_TO (sp2.extBut _ _ D.i1_i2 e)
  have S2 : g2.objs.size = s.heap.objs.size := by rw [sb2.1, sp2.1, S1]
  refine wpAny_bind (wpAny_letGo (wpAny_pure ?_))
  refine wpAny_bind (wpAny_bind (wpAny_onRaise ?_)); show wpAny _ _ (Builtin.SmallTypes.nextOf (.ref i3) >>= _) _ _ _
  refine wpAny_bind (next_item (h3.at fun o m => K2 i3 o D.i3_z D.i3_TO D.i3_i1 D.i3_i2 m) (d3.at fun o m => K2 l3 o D.l3_z D.l3_TO D.l3_i1 D.l3_i2 m) e3 fun p3 t3 sp3 => wpAny_pure ?_)
  have hTp3 : Z3.Tup p3 TO x1 x2 a3 := sp3.extBut _ _ D.TO_i3 hTO2; refine wpAny_bind (wpAny_seqItems hTp3 rfl ?_)
  refine wpAny_bind (Z3.upd hTp3 fun g3 hTO3 sb3 => ?_); replace hTO3 : Z3.Tup g3 TO x1 x2 x3 := hTO3
  have K3 : ∀ c o, c ≠ z → c ≠ TO → c ≠ i1 → c ≠ i2 → c ≠ i3 → s.heap.get? c = some o → g3.get? c = some o := fun c o m0 mO m1 m2 m3 e => sb3.extBut _ _ mO (sp3.extBut _ _ m3 (K2 c o m0 mO m1 m2 e))
  have hz3 : IsZip g3 z TI TO .ellipsis := sb3.extBut _ _ D.z_TO (sp3.extBut _ _ D.z_i3 hz2)
  have t33 : SIt k3 g3 i3 l3 (n + 1) := t3.at fun o m => sb3.extBut _ _ D.i3_TO m
  have t13 : SIt k1 g3 i1 l1 (n + 1) := t12.at fun o e => sb3.extBut _ _ D.i1_TO (sp3.extBut _ _ D.i1_i3 e)
  have t23 : SIt k2 g3 i2 l2 (n + 1) := t22.at fun o e => sb3.extBut _ _ D.i2_TO (sp3.extBut _ _ D.i2_i3 e)
  have S3 : g3.objs.size = s.heap.objs.size := by rw [sb3.1, sp3.1, S2]
  refine wpAny_bind (wpAny_letGo (wpAny_pure (wpAny_pure ?_)))
  refine wpAny_bind (wpAny_seqItems hTO3 rfl ?_); refine wpAny_bind (wpAny_newTuple ?_)
  show wpAny _ _ (Builtin.SmallTypes.ownedTupleHandOut (.ref z) (.ref g3.objs.size) >>= _) _ _ _; refine wpAny_bind ?_; unfold Builtin.SmallTypes.ownedTupleHandOut
  have hzA : IsZip (g3.push { cls := .type "tuple", data := .seq #[x1, x2, x3] }) z TI TO .ellipsis := Heap.get?_push_of_some _ hz3
  refine wpAny_bind (wpAny_setField_rec hzA (by simp) fun gB hzB sbB => ?_); replace hzB : IsZip gB z TI TO (rawInt g3.objs.size) := hzB
  refine wpAny_setField_rec hzB (by simp) fun gC hzC sbC => ?_; replace hzC : IsZip gC z TI TO (rawInt g3.objs.size) := hzC
  have up : ∀ c o, c ≠ z → g3.get? c = some o → gC.get? c = some o := fun c o m e => sbC.extBut _ _ m (sbB.extBut _ _ m (Heap.get?_push_of_some _ e))
  have zl : g3.objs.size ≠ z := Nat.ne_of_gt (Heap.lt_size hz3)
  have hT : Z3.Tup gC g3.objs.size x1 x2 x3 := sbC.extBut _ _ zl (sbB.extBut _ _ zl (Heap.get?_push_size _ rfl))
  rw [S3] at hzC hT; refine wpAny_pure ⟨_, rfl, ?_⟩; show Q (.ref g3.objs.size) _; rw [S3]
  exact q gC hzC (up _ _ D.TO_z hTO3) (t13.at fun o e => up _ o D.i1_z e) (t23.at fun o e => up _ o D.i2_z e) (t33.at fun o e => up _ o D.i3_z e) hT fun c o m0 mO m1 m2 m3 e => up c o m0 (K3 c o m0 mO m1 m2 m3 e)
theorem Z3.ended {z TI TO i1 i2 i3 l1 l2 l3 : Addr} {n : Nat} {k1 k2 k3 : SK} {xs1 xs2 xs3 : Array Value} {a1 a2 a3 : Value} {Q : Fin → Shared → Prop} (hh : A.handled = none) (D : Z3.Ap z TI TO i1 i2 i3 l1 l2 l3) (hz : IsZip s.heap z TI TO .none) (hTI : Z3.Tup s.heap TI (.ref i1) (.ref i2) (.ref i3)) (hTO : Z3.Tup s.heap TO a1 a2 a3) (h1 : SIt k1 s.heap i1 l1 n) (d1 : SIs k1 s.heap l1 xs1) (h2 : SIt k2 s.heap i2 l2 n) (d2 : SIs k2 s.heap l2 xs2) (h3 : SIt k3 s.heap i3 l3 n) (d3 : SIs k3 s.heap l3 xs3) (hend : xs1[n]? = none ∨ xs2[n]? = none ∨ xs3[n]? = none)
    (q : ∀ (g : Heap) (e : Addr), (∀ c o, c ≠ z → c ≠ TO → c ≠ i1 → c ≠ i2 → c ≠ i3 → s.heap.get? c = some o → g.get? c = some o) → (∃ o, g.get? e = some o ∧ o.cls = .type "StopIteration") → E (.ref e) { s with heap := g }) :
    wpAny (model prog w) A (Builtin.«zip.__next__» ⟨[.ref z], []⟩) Q E s := by
  show wpAny _ _ (field (.ref z) 2 >>= _) _ _ _; refine wpAny_bind (wpAny_field hz rfl (x := .bool false) rfl ?_)
  show wpAny _ _ (field (.ref z) 3 >>= _) _ _ _; refine wpAny_bind (wpAny_field hz rfl (x := .ref TI) rfl ?_); refine wpAny_bind (wpAny_seqItems hTI rfl ?_)
  show wpAny _ _ (Builtin.SmallTypes.ownedTupleIsFree (.ref z) >>= _) _ _ _; refine wpAny_bind ?_; unfold Builtin.SmallTypes.ownedTupleIsFree
  refine wpAny_bind (wpAny_field hz rfl (x := .none) rfl (wpAny_pure ?_)); simp only [if_true]; refine wpAny_bind (wpAny_rule ?_)
  refine wpAny_bind (wpAny_field hz rfl (x := .ref TO) rfl ?_); refine wpAny_bind (wpAny_setField_rec hz (by simp) fun g0 hz0 sb0 => ?_)
  replace hz0 : IsZip g0 z TI TO .ellipsis := hz0
  refine wpAny_bind ?_; simp only [List.zipIdx_cons, List.zipIdx_nil, List.forIn_cons, List.forIn_nil]
  have K0 : ∀ c o, c ≠ z → s.heap.get? c = some o → g0.get? c = some o := fun c o m => sb0.extBut c o m
  have hTO0 : Z3.Tup g0 TO a1 a2 a3 := K0 _ _ D.TO_z hTO
  refine wpAny_bind (wpAny_bind (wpAny_onRaise ?_)); show wpAny _ _ (Builtin.SmallTypes.nextOf (.ref i1) >>= _) _ _ _
  cases e1 : xs1[n]? with
  | none =>
    refine wpAny_bind (next_end hh (h1.at fun o m => K0 i1 o D.i1_z m) (d1.at fun o m => K0 l1 o D.l1_z m) e1 fun p e sp he => ?_)
    obtain ⟨oe, hoe, hce⟩ := he; have hzp : IsZip p z TI TO .ellipsis := sp _ _ D.z_i1 hz0
    have hez : e ≠ z := fun x => by subst x; rw [hzp] at hoe; cases hoe; simp at hce
    refine wpAny_setField_rec hzp (by simp) fun p3 _ s3 => q p3 e (fun c o m0 mO m1 m2 m3 x => s3.extBut _ _ m0 (sp _ _ m1 (K0 c o m0  x))) ⟨oe, s3.extBut _ _ hez hoe, hce⟩
  | some x1 =>
    refine wpAny_bind (next_item (h1.at fun o m => K0 i1 o D.i1_z m) (d1.at fun o m => K0 l1 o D.l1_z m) e1 fun p1 t1 sp1 => wpAny_pure ?_)
    have hTp1 : Z3.Tup p1 TO a1 a2 a3 := sp1.extBut _ _ D.TO_i1 hTO0; refine wpAny_bind (wpAny_seqItems hTp1 rfl ?_)
    refine wpAny_bind (Z3.upd hTp1 fun g1 hTO1 sb1 => ?_); replace hTO1 : Z3.Tup g1 TO x1 a2 a3 := hTO1
    have K1 : ∀ c o, c ≠ z → c ≠ TO → c ≠ i1 → s.heap.get? c = some o → g1.get? c = some o := fun c o m0 mO m1 e => sb1.extBut _ _ mO (sp1.extBut _ _ m1 (K0 c o m0  e))
    have hz1 : IsZip g1 z TI TO .ellipsis := sb1.extBut _ _ D.z_TO (sp1.extBut _ _ D.z_i1 hz0)
    refine wpAny_bind (wpAny_letGo (wpAny_pure ?_))
    refine wpAny_bind (wpAny_bind (wpAny_onRaise ?_)); show wpAny _ _ (Builtin.SmallTypes.nextOf (.ref i2) >>= _) _ _ _
    cases e2 : xs2[n]? with
    | none =>
      refine wpAny_bind (next_end hh (h2.at fun o m => K1 i2 o D.i2_z D.i2_TO D.i2_i1 m) (d2.at fun o m => K1 l2 o D.l2_z D.l2_TO D.l2_i1 m) e2 fun p e sp he => ?_)
      obtain ⟨oe, hoe, hce⟩ := he; have hzp : IsZip p z TI TO .ellipsis := sp _ _ D.z_i2 hz1
      have hez : e ≠ z := fun x => by subst x; rw [hzp] at hoe; cases hoe; simp at hce
      refine wpAny_setField_rec hzp (by simp) fun p3 _ s3 => q p3 e (fun c o m0 mO m1 m2 m3 x => s3.extBut _ _ m0 (sp _ _ m2 (K1 c o m0 mO m1 x))) ⟨oe, s3.extBut _ _ hez hoe, hce⟩
    | some x2 =>
      refine wpAny_bind (next_item (h2.at fun o m => K1 i2 o D.i2_z D.i2_TO D.i2_i1 m) (d2.at fun o m => K1 l2 o D.l2_z D.l2_TO D.l2_i1 m) e2 fun p2 t2 sp2 => wpAny_pure ?_)
      have hTp2 : Z3.Tup p2 TO x1 a2 a3 := sp2.extBut _ _ D.TO_i2 hTO1; refine wpAny_bind (wpAny_seqItems hTp2 rfl ?_)
      refine wpAny_bind (Z3.upd hTp2 fun g2 hTO2 sb2 => ?_); replace hTO2 : Z3.Tup g2 TO x1 x2 a3 := hTO2
      have K2 : ∀ c o, c ≠ z → c ≠ TO → c ≠ i1 → c ≠ i2 → s.heap.get? c = some o → g2.get? c = some o := fun c o m0 mO m1 m2 e => sb2.extBut _ _ mO (sp2.extBut _ _ m2 (K1 c o m0 mO m1 e))
      have hz2 : IsZip g2 z TI TO .ellipsis := sb2.extBut _ _ D.z_TO (sp2.extBut _ _ D.z_i2 hz1)
      refine wpAny_bind (wpAny_letGo (wpAny_pure ?_))
      refine wpAny_bind (wpAny_bind (wpAny_onRaise ?_)); show wpAny _ _ (Builtin.SmallTypes.nextOf (.ref i3) >>= _) _ _ _
      cases e3 : xs3[n]? with
      | none =>
        refine wpAny_bind (next_end hh (h3.at fun o m => K2 i3 o D.i3_z D.i3_TO D.i3_i1 D.i3_i2 m) (d3.at fun o m => K2 l3 o D.l3_z D.l3_TO D.l3_i1 D.l3_i2 m) e3 fun p e sp he => ?_)
        obtain ⟨oe, hoe, hce⟩ := he; have hzp : IsZip p z TI TO .ellipsis := sp _ _ D.z_i3 hz2
        have hez : e ≠ z := fun x => by subst x; rw [hzp] at hoe; cases hoe; simp at hce
        refine wpAny_setField_rec hzp (by simp) fun p3 _ s3 => q p3 e (fun c o m0 mO m1 m2 m3 x => s3.extBut _ _ m0 (sp _ _ m3 (K2 c o m0 mO m1 m2 x))) ⟨oe, s3.extBut _ _ hez hoe, hce⟩
      | some x3 =>
        exact absurd hend (by simp [e1, e2, e3])
theorem Z3.next {z TI TO i1 i2 i3 l1 l2 l3 : Addr} {n : Nat} {k1 k2 k3 : SK} {xs1 xs2 xs3 : Array Value} {a1 a2 a3 : Value} {x1 x2 x3 : Value} {Q : Option Value → Shared → Prop} (D : Z3.Ap z TI TO i1 i2 i3 l1 l2 l3) (hz : IsZip s.heap z TI TO .none) (hTI : Z3.Tup s.heap TI (.ref i1) (.ref i2) (.ref i3)) (hTO : Z3.Tup s.heap TO a1 a2 a3) (h1 : SIt k1 s.heap i1 l1 n) (d1 : SIs k1 s.heap l1 xs1) (h2 : SIt k2 s.heap i2 l2 n) (d2 : SIs k2 s.heap l2 xs2) (h3 : SIt k3 s.heap i3 l3 n) (d3 : SIs k3 s.heap l3 xs3) (e1 : xs1[n]? = some x1) (e2 : xs2[n]? = some x2) (e3 : xs3[n]? = some x3)
    (q : ∀ g : Heap, IsZip g z TI TO (rawInt s.heap.objs.size) → Z3.Tup g TO x1 x2 x3 → SIt k1 g i1 l1 (n + 1) → SIt k2 g i2 l2 (n + 1) → SIt k3 g i3 l3 (n + 1) → Z3.Tup g s.heap.objs.size x1 x2 x3 → (∀ c o, c ≠ z → c ≠ TO → c ≠ i1 → c ≠ i2 → c ≠ i3 → s.heap.get? c = some o → g.get? c = some o) → Q (some (.ref s.heap.objs.size)) { s with heap := g }) : wpAny (model prog w) A (pyNext (.ref z)) Q E s := by
  have hT : s.TypeIs (.ref z) "zip" := ⟨_, hz, rfl⟩
  unfold pyNext; exact wpAny_bind (wpAny_attempt (wpAny_callSpecial?_slot (name := Str.ofString "__next__") hT F.slot_zip_next (wpAny_call_entry F.slot_zip_next hT F.entry_zip_next (Z3.item D hz hTI hTO h1 d1 h2 d2 h3 d3 e1 e2 e3 fun g b1 b2 c1 c2 c3 b3 b4 => wpAny_pure (q g b1 b2 c1 c2 c3 b3 b4)) (F.args_zip_next_1 _))))
theorem Z3.stop {z TI TO i1 i2 i3 l1 l2 l3 : Addr} {n : Nat} {k1 k2 k3 : SK} {xs1 xs2 xs3 : Array Value} {a1 a2 a3 : Value} {Q : Option Value → Shared → Prop} (hh : A.handled = none) (D : Z3.Ap z TI TO i1 i2 i3 l1 l2 l3) (hz : IsZip s.heap z TI TO .none) (hTI : Z3.Tup s.heap TI (.ref i1) (.ref i2) (.ref i3)) (hTO : Z3.Tup s.heap TO a1 a2 a3) (h1 : SIt k1 s.heap i1 l1 n) (d1 : SIs k1 s.heap l1 xs1) (h2 : SIt k2 s.heap i2 l2 n) (d2 : SIs k2 s.heap l2 xs2) (h3 : SIt k3 s.heap i3 l3 n) (d3 : SIs k3 s.heap l3 xs3) (hend : xs1[n]? = none ∨ xs2[n]? = none ∨ xs3[n]? = none)
    (q : ∀ g : Heap, (∀ c o, c ≠ z → c ≠ TO → c ≠ i1 → c ≠ i2 → c ≠ i3 → s.heap.get? c = some o → g.get? c = some o) → Q none { s with heap := g }) : wpAny (model prog w) A (pyNext (.ref z)) Q E s := by
  have hT : s.TypeIs (.ref z) "zip" := ⟨_, hz, rfl⟩
  unfold pyNext; refine wpAny_bind (wpAny_attempt (wpAny_callSpecial?_slot (name := Str.ofString "__next__") hT F.slot_zip_next (wpAny_call_entry F.slot_zip_next hT F.entry_zip_next (Z3.ended hh D hz hTI hTO h1 d1 h2 d2 h3 d3 hend fun g e hk he => ?_) (F.args_zip_next_1 _))))
  obtain ⟨o, ho, hc⟩ := he; exact wpAny_bind (wpAny_isInstance (T := "StopIteration") (b := true) ⟨o, ho, hc⟩ isSubtype_stop (wpAny_pure (q _ hk)))
end
abbrev Z3.H0 (h : Heap) : Heap := h
abbrev Z3.H1 (h : Heap) (k1 : SK) (l1 : Addr) : Heap := (Z3.H0 h  ).push (itO k1 l1)
abbrev Z3.H2 (h : Heap) (k1 k2 : SK) (l1 l2 : Addr) : Heap := (Z3.H1 h k1 l1).push (itO k2 l2)
abbrev Z3.H3 (h : Heap) (k1 k2 k3 : SK) (l1 l2 l3 : Addr) : Heap := (Z3.H2 h k1 k2 l1 l2).push (itO k3 l3)
abbrev Z3.HI (h : Heap) (k1 k2 k3 : SK) (l1 l2 l3 : Addr) : Heap := (Z3.H3 h k1 k2 k3 l1 l2 l3).push { cls := .type "tuple", data := .seq #[.ref h.objs.size, .ref (Z3.H1 h k1 l1).objs.size, .ref (Z3.H2 h k1 k2 l1 l2).objs.size] }
abbrev Z3.HO (h : Heap) (k1 k2 k3 : SK) (l1 l2 l3 : Addr) : Heap := (Z3.HI h k1 k2 k3 l1 l2 l3).push { cls := .type "tuple", data := .seq #[.none, .none, .none] }
abbrev Z3.HZ (h : Heap) (k1 k2 k3 : SK) (l1 l2 l3 : Addr) : Heap := (Z3.HO h k1 k2 k3 l1 l2 l3).push { cls := .type "zip", data := .fields #[.none, .bool false, .bool false, .ref (Z3.H3 h k1 k2 k3 l1 l2 l3).objs.size, .ref (Z3.HI h k1 k2 k3 l1 l2 l3).objs.size] }
theorem Z3.meets (k1 k2 k3 : SK) (l1 l2 l3 : Addr) (xs1 xs2 xs3 : Array Value) : Meets (Builtin.«zip.__new__» ⟨[.type "zip", .ref l1, .ref l2, .ref l3], []⟩) (fun _ R s => SIs k1 s.heap l1 xs1 ∧ SIs k2 s.heap l2 xs2 ∧ SIs k3 s.heap l3 xs3 ∧ R (.ok (.ret (.ref (Z3.HO s.heap k1 k2 k3 l1 l2 l3).objs.size))) { s with heap := Z3.HZ s.heap k1 k2 k3 l1 l2 l3 }) :=
  .of_wp fun prog w A R s h => by
    obtain ⟨hp, g, dr, tk, os⟩ := s; obtain ⟨d1, d2, d3, h⟩ := h; have hsub := sub_zip
    have q1 : ∀ {A' : Around} {E : Value → Shared → Prop} {Q : Value → Shared → Prop}, Q (.ref (Z3.H0 hp  ).objs.size) ⟨Z3.H1 hp k1 l1, g, dr, tk, os⟩ → wpAny (model prog w) A' (pyIter (.ref l1)) Q E ⟨(Z3.H0 hp  ), g, dr, tk, os⟩ := fun q => iter_new (s := ⟨(Z3.H0 hp  ), g, dr, tk, os⟩) d1 q
    have q2 : ∀ {A' : Around} {E : Value → Shared → Prop} {Q : Value → Shared → Prop}, Q (.ref (Z3.H1 hp k1 l1).objs.size) ⟨Z3.H2 hp k1 k2 l1 l2, g, dr, tk, os⟩ → wpAny (model prog w) A' (pyIter (.ref l2)) Q E ⟨(Z3.H1 hp k1 l1), g, dr, tk, os⟩ := fun q => iter_new (s := ⟨(Z3.H1 hp k1 l1), g, dr, tk, os⟩) (d2.push _) q
    have q3 : ∀ {A' : Around} {E : Value → Shared → Prop} {Q : Value → Shared → Prop}, Q (.ref (Z3.H2 hp k1 k2 l1 l2).objs.size) ⟨Z3.H3 hp k1 k2 k3 l1 l2 l3, g, dr, tk, os⟩ → wpAny (model prog w) A' (pyIter (.ref l3)) Q E ⟨(Z3.H2 hp k1 k2 l1 l2), g, dr, tk, os⟩ := fun q => iter_new (s := ⟨(Z3.H2 hp k1 k2 l1 l2), g, dr, tk, os⟩) ((d3.push _).push _) q
    wp_walk using q1, q2, q3
    exact ⟨_, rfl, h⟩
section
variable {prog : Program} {w : World} {A : Around} {E : Value → Shared → Prop} {s : Shared}
theorem Z3.call {l1 l2 l3 : Addr} {k1 k2 k3 : SK} {xs1 xs2 xs3 : Array Value} {Q : Value → Shared → Prop} (d1 : SIs k1 s.heap l1 xs1) (d2 : SIs k2 s.heap l2 xs2) (d3 : SIs k3 s.heap l3 xs3)
    (q : ∀ g : Heap, IsZip g (s.heap.objs.size + 5) (s.heap.objs.size + 3) (s.heap.objs.size + 4) .none → Z3.Tup g (s.heap.objs.size + 3) (.ref s.heap.objs.size) (.ref (s.heap.objs.size + 1)) (.ref (s.heap.objs.size + 2)) → Z3.Tup g (s.heap.objs.size + 4) .none .none .none → SIt k1 g s.heap.objs.size l1 0 → SIt k2 g (s.heap.objs.size + 1) l2 0 → SIt k3 g (s.heap.objs.size + 2) l3 0 → (∀ c o, s.heap.get? c = some o → g.get? c = some o) → Q (.ref (s.heap.objs.size + 5)) { s with heap := g }) :
    wpAny (model prog w) A (call (.type "zip") [.ref l1, .ref l2, .ref l3]) Q E s := by
  refine callType_new F.called_zip (by decide) (tc_zip3 _ _ _ ) (nc_zip3 _ _ _ ) (fun obj => ai_zip3 obj _ _ _ ) F.entry_zip_new (Z3.meets k1 k2 k3 l1 l2 l3 xs1 xs2 xs3) ⟨d1, d2, d3, ?_⟩
  have z1 : (Z3.H1 s.heap k1 l1).objs.size = s.heap.objs.size + 1 := by rw [Heap.size_push]
  have z2 : (Z3.H2 s.heap k1 k2 l1 l2).objs.size = s.heap.objs.size + 2 := by rw [Heap.size_push, z1]
  have z3 : (Z3.H3 s.heap k1 k2 k3 l1 l2 l3).objs.size = s.heap.objs.size + 3 := by rw [Heap.size_push, z2]
  have zI : (Z3.HI s.heap k1 k2 k3 l1 l2 l3).objs.size = s.heap.objs.size + 4 := by rw [Heap.size_push, z3]
  have zO : (Z3.HO s.heap k1 k2 k3 l1 l2 l3).objs.size = s.heap.objs.size + 5 := by rw [Heap.size_push, zI]
  have gZ : (Z3.HZ s.heap k1 k2 k3 l1 l2 l3).get? (Z3.HO s.heap k1 k2 k3 l1 l2 l3).objs.size = some _ := Heap.get?_push_size _ rfl
  have gO : (Z3.HZ s.heap k1 k2 k3 l1 l2 l3).get? (Z3.HI s.heap k1 k2 k3 l1 l2 l3).objs.size = some _ := Heap.get?_push_of_some _ (Heap.get?_push_size _ rfl)
  have gI : (Z3.HZ s.heap k1 k2 k3 l1 l2 l3).get? (Z3.H3 s.heap k1 k2 k3 l1 l2 l3).objs.size = some _ := Heap.get?_push_of_some _ (Heap.get?_push_of_some _ (Heap.get?_push_size _ rfl))
  have g1 : (Z3.HZ s.heap k1 k2 k3 l1 l2 l3).get? (Z3.H0 s.heap  ).objs.size = some (itO k1 l1) := Heap.get?_push_of_some _ (Heap.get?_push_of_some _ (Heap.get?_push_of_some _ (Heap.get?_push_of_some _ (Heap.get?_push_of_some _ (Heap.get?_push_size _ (itO_free _ _))))))
  have g2 : (Z3.HZ s.heap k1 k2 k3 l1 l2 l3).get? (Z3.H1 s.heap k1 l1).objs.size = some (itO k2 l2) := Heap.get?_push_of_some _ (Heap.get?_push_of_some _ (Heap.get?_push_of_some _ (Heap.get?_push_of_some _ (Heap.get?_push_size _ (itO_free _ _)))))
  have g3 : (Z3.HZ s.heap k1 k2 k3 l1 l2 l3).get? (Z3.H2 s.heap k1 k2 l1 l2).objs.size = some (itO k3 l3) := Heap.get?_push_of_some _ (Heap.get?_push_of_some _ (Heap.get?_push_of_some _ (Heap.get?_push_size _ (itO_free _ _))))
  show _ ∧ _
  rw [zO]
  simp only [zO, zI, z1, z2, z3] at gZ gO gI g1 g2 g3
  exact ⟨⟨_, gZ, rfl⟩, q _ gZ gI gO (SIt.new g1) (SIt.new g2) (SIt.new g3) fun c o x => Heap.get?_push_of_some _ (Heap.get?_push_of_some _ (Heap.get?_push_of_some _ (Heap.get?_push_of_some _ (Heap.get?_push_of_some _ (Heap.get?_push_of_some _ (x))))))⟩
end
def Z3.It (K : PySem.W.Frag) (k1 k2 k3 : SK) (b1 b2 b3 : Addr) : L2.It :=
  ⟨fun i H => ∃ (ys1 ys2 ys3 : List V) (y1 y2 y3 : V), SqK K k1 H b1 ys1 ∧ ys1[i]? = some y1 ∧ SqK K k2 H b2 ys2 ∧ ys2[i]? = some y2 ∧ SqK K k3 H b3 ys3 ∧ ys3[i]? = some y3,
    fun i H v H1 => ∃ T y1 y2 y3, v = .ref T ∧ H T = none ∧ H1 = L2.upd H T (.tup [y1, y2, y3]) ∧ (∀ ys, SqK K k1 H b1 ys → ys[i]? = some y1) ∧ (∀ ys, SqK K k2 H b2 ys → ys[i]? = some y2) ∧ (∀ ys, SqK K k3 H b3 ys → ys[i]? = some y3),
    fun i H => ∃ ys1 ys2 ys3 : List V, SqK K k1 H b1 ys1 ∧ SqK K k2 H b2 ys2 ∧ SqK K k3 H b3 ys3 ∧ (ys1.length ≤ i ∨ ys2.length ≤ i ∨ ys3.length ≤ i)⟩
theorem Z3.turn {P : Program} {w : World} {K : PySem.W.Frag} {elts : List Expr} {kk : Nat} {tpos : Pos} {z TI TO i1 i2 i3 b1 b2 b3 : Addr} {k1 k2 k3 : SK} (D : Z3.Ap z TI TO i1 i2 i3 b1 b2 b3) :
    Turn P w K (.Tuple elts kk tpos) (Z3.It K k1 k2 k3 b1 b2 b3) [z, TI, TO, i1, i2, i3] z (fun i h => IsZip h z TI TO .none ∧ Z3.Tup h TI (.ref i1) (.ref i2) (.ref i3) ∧ (∃ x1 x2 x3, Z3.Tup h TO x1 x2 x3) ∧ SIt k1 h i1 b1 i ∧ SIt k2 h i2 b2 i ∧ SIt k3 h i3 b3 i) where
  mem := by simp
  obj := fun i h st c hc => by
    obtain ⟨hz, hTI, ⟨x1, x2, x3, hTO⟩, t1, t2, t3⟩ := st
    have e1 : c = z ∨ c = TI ∨ c = TO ∨ c = i1 ∨ c = i2 ∨ c = i3 := by simpa using hc
    rcases e1 with q | q | q | q | q | q
    · rw [q]; exact ⟨_, hz, fun v q => nomatch q⟩
    · rw [q]; exact ⟨_, hTI, fun v q => nomatch q⟩
    · rw [q]; exact ⟨_, hTO, fun v q => nomatch q⟩
    · rw [q]; exact t1.there
    · rw [q]; exact t2.there
    · rw [q]; exact t3.there
  keep := fun i h h1 st k => by
    obtain ⟨hz, hTI, ⟨x1, x2, x3, hTO⟩, t1, t2, t3⟩ := st
    exact ⟨k z (by simp) _ hz, k TI (by simp) _ hTI, ⟨x1, x2, x3, k TO (by simp) _ hTO⟩, t1.at fun o q => k i1 (by simp) o q, t2.at fun o q => k i2 (by simp) o q, t3.at fun o q => k i3 (by simp) o q⟩
  item := by
    intro X hP hw hK hc i pins s σ H E I hf st hg; subst hP hw hK
    obtain ⟨hz, hTI, ⟨w1, w2, w3, hTO⟩, t1, t2, t3⟩ := st
    obtain ⟨ys1, ys2, ys3, y1, y2, y3, hq1, hy1, hq2, hy2, hq3, hy3⟩ := hg
    obtain ⟨its1, rv1, d1⟩ := sqK_is I hq1; obtain ⟨u1, hu1, ru1⟩ := rv1.get hy1
    obtain ⟨its2, rv2, d2⟩ := sqK_is I hq2; obtain ⟨u2, hu2, ru2⟩ := rv2.get hy2
    obtain ⟨its3, rv3, d3⟩ := sqK_is I hq3; obtain ⟨u3, hu3, ru3⟩ := rv3.get hy3
    have hzl : z < s.heap.objs.size := Heap.lt_size hz
    refine Z3.next D hz hTI hTO t1 d1 t2 d2 t3 d3 (by simpa using hu1) (by simpa using hu2) (by simpa using hu3) fun h1 z1 TO1 v1 v2 v3 hT hk => ?_
    refine ⟨_, rfl, wpAny_letOwnedTupleGo_zip (s := { s with heap := h1 }) z1 fun h2 z2 sb => ?_⟩
    have hT2 : h2.get? s.heap.objs.size = some { cls := .type "tuple", data := .seq #[u1, u2, u3] } := (sb.2 _ (Nat.ne_of_gt hzl)).trans hT
    have new : ObjOk X.prog X.w (L2.upd H s.heap.objs.size (.tup [y1, y2, y3])) h2 s.heap.objs.size (.tup [y1, y2, y3]) := ⟨by show 3 ≤ sizeLine; decide, [u1, u2, u3], (.cons ru1 (.cons ru2 (.cons ru3 .nil))), ⟨_, hT2, rfl, _, rfl⟩⟩
    have I1 : Inv X pins σ (L2.upd H s.heap.objs.size (.tup [y1, y2, y3])) { s with heap := h2 } := I.turnedNew (t' := s.toks) (ch := [z, TI, TO, i1, i2, i3]) (fun c o hb q => (sb.2 c (fun q1 => hb (by simp [q1]))).trans (hk c o (fun q1 => hb (by simp [q1])) (fun q1 => hb (by simp [q1])) (fun q1 => hb (by simp [q1])) (fun q1 => hb (by simp [q1])) (fun q1 => hb (by simp [q1])) q)) hf (Nat.le_refl _) new
    refine ⟨.ref s.heap.objs.size, _, I1, rfl, ⟨_, y1, y2, y3, rfl, I.hok.fresh (Nat.le_refl _), rfl, fun l hl => by rw [sqK_inj I hl hq1]; exact hy1, fun l hl => by rw [sqK_inj I hl hq2]; exact hy2, fun l hl => by rw [sqK_inj I hl hq3]; exact hy3⟩, ⟨z2, ?_, ⟨u1, u2, u3, ?_⟩, ?_, ?_, ?_⟩, fun c hcm => ?_⟩
    · exact (sb.2 _ D.TI_z).trans (hk _ _ D.TI_z D.TI_TO D.TI_i1 D.TI_i2 D.TI_i3 hTI)
    · exact (sb.2 _ D.TO_z).trans TO1
    · exact v1.at fun o q => (sb.2 _ D.i1_z).trans q
    · exact v2.at fun o q => (sb.2 _ D.i2_z).trans q
    · exact v3.at fun o q => (sb.2 _ D.i3_z).trans q
    · have hlt : c < s.heap.objs.size := by
        have e1 : c = z ∨ c = TI ∨ c = TO ∨ c = i1 ∨ c = i2 ∨ c = i3 := by simpa using hcm
        rcases e1 with q | q | q | q | q | q
        · rw [q]; exact Heap.lt_size hz
        · rw [q]; exact Heap.lt_size hTI
        · rw [q]; exact Heap.lt_size hTO
        · rw [q]; obtain ⟨_, e2, _⟩ := t1.there; exact Heap.lt_size e2
        · rw [q]; obtain ⟨_, e2, _⟩ := t2.there; exact Heap.lt_size e2
        · rw [q]; obtain ⟨_, e2, _⟩ := t3.there; exact Heap.lt_size e2
      rw [upd_ne (Nat.ne_of_lt hlt)]; exact (hf c hcm).1
  done := by
    intro X hP hw hK hc i pins s σ H E I hf st hg; subst hP hw hK
    obtain ⟨hz, hTI, ⟨w1, w2, w3, hTO⟩, t1, t2, t3⟩ := st
    obtain ⟨ys1, ys2, ys3, hq1, hq2, hq3, hend⟩ := hg
    obtain ⟨its1, rv1, d1⟩ := sqK_is I hq1; have l1 := rv1.length
    obtain ⟨its2, rv2, d2⟩ := sqK_is I hq2; have l2 := rv2.length
    obtain ⟨its3, rv3, d3⟩ := sqK_is I hq3; have l3 := rv3.length
    have he : its1.toArray[i]? = none ∨ its2.toArray[i]? = none ∨ its3.toArray[i]? = none := by
      rcases hend with q | q | q
      · exact .inl (by simp; omega)
      · exact .inr (.inl (by simp; omega))
      · exact .inr (.inr (by simp; omega))
    exact Z3.stop (I.ok.hd hc) D hz hTI hTO t1 d1 t2 d2 t3 d3 he fun h1 hk => ⟨rfl, I.turnedL (t' := s.toks) (ch := [z, TI, TO, i1, i2, i3]) (fun c o hb q => hk c o (fun q1 => hb (by simp [q1])) (fun q1 => hb (by simp [q1])) (fun q1 => hb (by simp [q1])) (fun q1 => hb (by simp [q1])) (fun q1 => hb (by simp [q1])) q) hf⟩
  self := fun A i s Q E st h => wpAny_pyIter_zip st.1 h
theorem Z3.pi {X : Cx} {e1 e2 e3 : Expr} {ta : TA} {p pos tpos : Pos} {elts : List Expr} {kk : Nat} (hg : Gl X "zip") (hm : X.mg "zip" = none) (ha : PA X [e1, e2, e3] ta) (hs : starEach [e1, e2, e3] X.env = (false, eval e1 X.env) :: starEach [e2, e3] X.env) (hpl : (backTo pos (starEach [e2, e3] X.env)).any (·.1) = false) :
    PI X (.Tuple elts kk tpos) (.Call (.Name "zip" p) [e1, e2, e3] [] pos) (fun σ H R => ta σ H fun vs H1 => ∃ k1 k2 k3 b1 b2 b3 ys1 ys2 ys3, vs = [.ref b1, .ref b2, .ref b3] ∧ SqK X.K k1 H1 b1 ys1 ∧ SqK X.K k2 H1 b2 ys2 ∧ SqK X.K k3 H1 b3 ys3 ∧ R (Z3.It X.K k1 k2 k3 b1 b2 b3) H1) := by
  refine ⟨fun pins s σ H R I h => ?_⟩
  refine Call_ (ld_blt I hg hm PyProof.Rows.boot_zip (PyProof.Rows.callWith_type1 (thn (ha.run pos pins s σ H _ I h) fun us s1 ⟨vs, H1, I1, r1, q1⟩ => ?_) hs hpl))
  obtain ⟨k1, k2, k3, b1, b2, b3, ys1, ys2, ys3, rfl, hq1, hq2, hq3, q⟩ := q1
  obtain ⟨v1, w1, rfl, rr1, r2⟩ := vals_c r1; cases rr1
  obtain ⟨v2, w2, rfl, rr2, r3⟩ := vals_c r2; cases rr2
  obtain ⟨v3, w3, rfl, rr3, r4⟩ := vals_c r3; cases rr3
  cases r4
  obtain ⟨its1, rv1, d1⟩ := sqK_is I1 hq1
  obtain ⟨its2, rv2, d2⟩ := sqK_is I1 hq2
  obtain ⟨its3, rv3, d3⟩ := sqK_is I1 hq3
  refine Z3.call d1 d2 d3 fun g hz hTI hTO t1 t2 t3 hk => wpAny_pyIter_zip hz ?_
  refine ⟨s1.heap.objs.size + 5, [s1.heap.objs.size + 5, s1.heap.objs.size + 3, s1.heap.objs.size + 4, s1.heap.objs.size, s1.heap.objs.size + 1, s1.heap.objs.size + 2], _, _, H1, rfl, I1.kept (t' := s1.toks) hk, Z3.turn (Z3.apart s1.heap.objs.size b1 b2 b3 d1.lt d2.lt d3.lt), ⟨hz, hTI, ⟨_, _, _, hTO⟩, t1, t2, t3⟩, fun c hcm => ?_, q⟩
  have hle : s1.heap.objs.size ≤ c := by
    simp only [List.mem_cons, List.not_mem_nil, or_false] at hcm
    rcases hcm with e | e | e | e | e | e <;> (rw [e]; first | exact Nat.le_refl _ | exact Nat.le_add_right _ _)
  exact I1.fpOk hle (I1.hok.fresh hle)
end DL

namespace DL
open PySem PySem.Spec PyProof.Rows L2

/-! ### enumerate of a tuple -/
/-- the tuple at a, each item in a new pair -/
def ItEt (K : PySem.W.Frag) (a : Addr) : L2.It where
  go := fun i H => ∃ (xs : List V) (x : V), SqT K H a xs ∧ xs[i]? = some x
  yld := fun i H v H' => ∃ T x, v = .ref T ∧ H T = none ∧ H' = upd H T (.tup [.int (i : Nat), x]) ∧ ∀ xs, SqT K H a xs → xs[i]? = some x
  stop := fun i H => ∃ xs : List V, SqT K H a xs ∧ xs.length = i
theorem turn_enumT {P : Program} {w : World} {K : PySem.W.Frag} {elts : List Expr} {kk : Nat} {tpos : Pos} (a e it : Addr) :
    Turn P w K (.Tuple elts kk tpos) (ItEt K a) [e, it] e (fun i h => (∃ old, IsEnum h e it ((i : Nat) : Int) old) ∧ h.IsTupleIter it a i ∧ e ≠ it ∧ a ≠ it ∧ e ≠ a) where
  mem := by simp
  obj := fun i h ⟨⟨old, he⟩, ⟨o, ho, hc, hd⟩, _⟩ b hb => by
    rcases List.mem_cons.mp hb with z | z
    · exact ⟨_, by rw [z]; exact he, fun v q => by cases q⟩
    · rw [List.mem_singleton.mp z]
      exact ⟨o, ho, fun v q => by rw [hd] at q; cases q⟩
  keep := fun i h h' ⟨⟨old, he⟩, hi, n1, n2, n3⟩ k => ⟨⟨old, k e (by simp) _ he⟩, hi.at fun o q => k it (by simp) o q, n1, n2, n3⟩
  item := by
    intro X hP hw hK hc i pins s σ H E I hf ⟨⟨old, he⟩, hit, n1, n2, n3⟩ hg
    subst hP hw hK
    obtain ⟨xs, x, hq, hx⟩ := hg
    obtain ⟨its, rv, p, hz⟩ := I.tuple hq
    obtain ⟨u, hu, ru⟩ := rv.get hx
    have hel : e < s.heap.objs.size := Heap.lt_size he
    have hil : it < s.heap.objs.size := by obtain ⟨_, q, _⟩ := hit; exact Heap.lt_size q
    have hd : (X.A.in1).handled = none := I.ok.hd hc
    have Dr := Draws.tuple (prog := X.prog) (w := X.w) (A := X.A.in1) hd it a n2 its.toArray
    have hlt : i < its.toArray.size := by
      rw [List.size_toArray]
      exact (List.getElem?_eq_some_iff.mp hu).1
    refine wpAny_pyNext_enum_itemD Dr he ⟨hit, p⟩ hlt n1 (by simp [n1, n3]) fun x' h' tk hx' ho hst hT hsz hk => ?_
    have ex : x' = u := by
      have e1 : its.toArray[i]? = some u := by simpa using hu
      have e2 : its.toArray[i]? = some x' := hx'
      rw [e1] at e2
      exact (Option.some.inj e2).symm
    subst ex
    refine ⟨_, rfl, wpAny_letOwnedTupleGo_enum (s := { s with heap := h', toks := tk + 1 }) ho fun h'' he' sb => ?_⟩
    have hT2 : h''.get? s.heap.objs.size = some { cls := .type "tuple", data := .seq #[.int i tk, x'] } := (sb.2 _ (Nat.ne_of_gt hel)).trans hT
    have new : ObjOk X.prog X.w (upd H s.heap.objs.size (.tup [.int (i : Nat), x])) h'' s.heap.objs.size (.tup [.int (i : Nat), x]) :=
      ⟨by show 2 ≤ sizeLine; decide, [.int i tk, x'], .cons ⟨_, rfl⟩ (.cons ru .nil), _, hT2, rfl, _, rfl⟩
    have I1 : Inv X pins σ (upd H s.heap.objs.size (.tup [.int (i : Nat), x])) { s with heap := h'', toks := tk + 1 } :=
      I.turnedNew (ch := [e, it]) (fun b ob hb q => (sb.2 b fun z => hb (by simp [z])).trans (hk b ob (fun z => hb (by simp [z])) (fun z => hb (by simp [z])) q)) hf (Nat.le_refl _) new
    refine ⟨.ref s.heap.objs.size, _, I1, rfl, ⟨_, x, rfl, I.hok.fresh (Nat.le_refl _), rfl, fun ys hy => by rw [I.tuple_inj hy hq]; exact hx⟩, ⟨⟨x', ?_⟩, hst.1.at fun o q => (sb.2 it (Ne.symm n1)).trans q, n1, n2, n3⟩, fun b hb => ?_⟩
    · rw [show ((i + 1 : Nat) : Int) = (i : Int) + 1 by omega]
      exact he'
    · have hb' : b ≠ s.heap.objs.size := by
        rcases List.mem_cons.mp hb with z | z
        · rw [z]; exact Nat.ne_of_lt hel
        · rw [List.mem_singleton.mp z]; exact Nat.ne_of_lt hil
      rw [upd_ne hb']
      exact (hf b hb).1
  done := by
    intro X hP hw hK hc i pins s σ H E I hf ⟨⟨old, he⟩, hit, n1, n2, n3⟩ hg
    subst hP hw hK
    obtain ⟨xs, hq, hx⟩ := hg
    obtain ⟨its, rv, p, hz⟩ := I.tuple hq
    obtain ⟨f0, f1, f2, f3, f4, f5⟩ := hf it (by simp)
    have Dr := Draws.tuple (prog := X.prog) (w := X.w) (A := X.A.in1) (I.ok.hd hc) it a n2 its.toArray
    have en : its.toArray.size = i := by rw [List.size_toArray, ← rv.length, hx]
    refine wpAny_pyNext_enum_endD Dr he ⟨by rw [en]; exact hit, p⟩ fun h' eb => ⟨rfl, I.turned (t' := s.toks) (fun b o hb q => eb b o hb q) f0 f1 f3 f4 f5⟩
  self := fun A i s Q E ⟨⟨_, he⟩, _⟩ h => wpAny_pyIter_enum he h
/-- enumerate(t): its two new cells -/
theorem meets_enum1 {v : Value} {o : Obj} {Hh : Heap → Prop} (B : Begins v o Hh) :
    Meets (Builtin.«enumerate.__new__» ⟨[.type "enumerate", v], []⟩) (fun _ R s => Hh s.heap ∧ R (.ok (.ret (.ref (s.heap.push o).objs.size))) { s with heap := (s.heap.push o).push { cls := .type "enumerate", data := .fields #[.none, .bool false, .ref s.heap.objs.size, rawInt 0, .none, .none] } }) :=
  .of_wp fun prog w A R st hq => by
    obtain ⟨hp, gs, dr, tk, os⟩ := st
    obtain ⟨h1, hR⟩ := hq
    have subE := sub_enumerate
    have qB : ∀ {A' : Around} {E : Value → Shared → Prop} {Q : Value → Shared → Prop}, Q (.ref hp.objs.size) ⟨hp.push o, gs, dr, tk, os⟩ → wpAny (model prog w) A' (pyIter v) Q E ⟨hp, gs, dr, tk, os⟩ :=
      fun q => B.iter prog w _ _ ⟨hp, gs, dr, tk, os⟩ _ h1 q
    wp_walk using qB
    first
      | exact ⟨_, rfl, hR⟩
      | (refine wpAny_stack_any fun sk => wpAny_pure ?_
         split
         · rename_i c _ _ _ _ _
           cases (c == Value.type "enumerate")
           · wp_walk using qB
             exact ⟨_, rfl, hR⟩
           · wp_walk using qB
             exact ⟨_, rfl, hR⟩
         · wp_walk using qB
           exact ⟨_, rfl, hR⟩)
theorem call_enum_tup {prog : Program} {w : World} {A : Around} {E : Value → Shared → Prop} {s : Shared} {t : Addr} {items : Array Value} {Q : Value → Shared → Prop} (ht : s.heap.IsTuple t items)
    (h : ∀ h', IsEnum h' (s.heap.objs.size + 1) s.heap.objs.size 0 .none → h'.IsTupleIter s.heap.objs.size t 0 → (∀ b o, s.heap.get? b = some o → h'.get? b = some o) → Q (.ref (s.heap.objs.size + 1)) { s with heap := h' }) :
    wpAny (model prog w) A (call (.type "enumerate") [.ref t]) Q E s := by
  refine callType_new F.called_enumerate (by decide) (F.typeCall_enumerate_1 _) (F.newCall_enumerate_1 _) (fun ob => F.args_object_init_2 ob _) F.entry_enumerate_new (meets_enum1 (begins_tuple t items)) ⟨ht, ?_⟩
  have hz := Heap.size_push s.heap { cls := .type "tuple_iterator", data := .fields #[.ref t, .int 0 0] }
  show _ ∧ _
  rw [hz]
  have he := Heap.get?_push_size (s.heap.push { cls := .type "tuple_iterator", data := .fields #[.ref t, .int 0 0] }) (o := { cls := .type "enumerate", data := .fields #[.none, .bool false, .ref s.heap.objs.size, rawInt 0, .none, .none] }) rfl
  rw [hz] at he
  exact ⟨⟨_, he, rfl⟩, h _ he ⟨_, Heap.get?_push_of_some _ (Heap.get?_push_size _ rfl), rfl, rfl⟩ fun b o x => Heap.get?_push_of_some _ (Heap.get?_push_of_some _ x)⟩
section
variable {X : Cx} {tg : Expr}
theorem pi_enumA {e : Expr} {ta : TA} {p pos tpos : Pos} {elts : List Expr} {kk : Nat} (hg : Gl X "enumerate") (hm : X.mg "enumerate" = none) (ha : PA X [e] ta) (hs : starEach [e] X.env = [(false, eval e X.env)]) :
    PI X (.Tuple elts kk tpos) (.Call (.Name "enumerate" p) [e] [] pos) (fun σ H R => ta σ H fun vs H1 => ∃ a xs, vs = [.ref a] ∧ ((SqL X.K H1 a xs ∧ R (Ite X.K a) H1) ∨ (SqT X.K H1 a xs ∧ R (ItEt X.K a) H1))) := by
  refine ⟨fun pins s σ H R I h => ?_⟩
  refine Call_ (ld_blt I hg hm boot_enumerate (PyProof.Rows.callWith_type1 (thn (ha.run pos pins s σ H _ I h) fun us s1 ⟨vs, H1, I1, r1, q1⟩ => ?_) hs rfl))
  obtain ⟨a, xs, rfl, q1⟩ := q1
  obtain ⟨u, rfl, ru⟩ := r1.one
  cases ru
  have fp : ∀ b ∈ [s1.heap.objs.size + 1, s1.heap.objs.size], FpOk X pins H1 b := fun b hb => by
    have hle : s1.heap.objs.size ≤ b := by
      rcases List.mem_cons.mp hb with z | z
      · rw [z]; exact Nat.le_succ _
      · rw [List.mem_singleton.mp z]; exact Nat.le_refl _
    exact I1.fpOk hle (I1.hok.fresh hle)
  rcases q1 with ⟨hq, q⟩ | ⟨hq, q⟩
  · obtain ⟨its, rv, p', hz⟩ := I1.list hq
    refine call_enumerate_list p'.isList fun h' he hit hsz hk => wpAny_pyIter_enum he ?_
    exact ⟨s1.heap.objs.size + 1, _, _, _, H1, rfl, I1.kept (t' := s1.toks) hk, turn_enum a _ s1.heap.objs.size, ⟨⟨.none, he⟩, hit, Nat.succ_ne_self _⟩, fp, q⟩
  · obtain ⟨its, rv, p', hz⟩ := I1.tuple hq
    have lt : a < s1.heap.objs.size := p'.lt
    refine call_enum_tup p' fun h' he hit hk => wpAny_pyIter_enum he ?_
    exact ⟨s1.heap.objs.size + 1, _, _, _, H1, rfl, I1.kept (t' := s1.toks) hk, turn_enumT a _ s1.heap.objs.size, ⟨⟨.none, he⟩, hit, Nat.succ_ne_self _, Nat.ne_of_lt lt, fun z => absurd (z ▸ lt) (Nat.not_lt.mpr (Nat.le_succ _))⟩, fp, q⟩
/-- a list, a tuple, a text, by its value -/
theorem pi_seqA {e : Expr} {te : TE} (he : PE X e te) : PI X tg e (fun σ H R => te σ H fun v H1 => (∃ a xs, v = .ref a ∧ ((SqL X.K H1 a xs ∧ R (Itl X.K a) H1) ∨ (SqT X.K H1 a xs ∧ R (Itt X.K a) H1))) ∨ ∃ x, v = .str x ∧ R (Its x) H1) := by
  refine ⟨fun pins s σ H R I h => ?_⟩
  refine thn (he.run pins s σ H _ I h) fun v s1 ⟨x, H1, I1, r1, q1⟩ => ?_
  have fp : ∀ b ∈ [s1.heap.objs.size], FpOk X pins H1 b := fun b hb => by
    rw [List.mem_singleton.mp hb]
    exact I1.fpOk (Nat.le_refl _) I1.fresh
  rcases q1 with ⟨a, xs, rfl, ⟨hq, q⟩ | ⟨hq, q⟩⟩ | ⟨x, rfl, q⟩
  · cases r1
    obtain ⟨its, rv, p, hz⟩ := I1.list hq
    refine wpAny_pyIter_list p.isList ⟨s1.heap.objs.size, _, _, _, H1, rfl, I1.kept (t' := s1.toks) fun b o z => Heap.get?_push_of_some _ z, turn_list a _, ⟨_, Heap.get?_push_size _ rfl, rfl, rfl⟩, fp, q⟩
  · cases r1
    obtain ⟨its, rv, p, hz⟩ := I1.tuple hq
    refine wpAny_pyIter_tuple (show s1.heap.IsTuple a its.toArray from p) ⟨s1.heap.objs.size, _, _, _, H1, rfl, I1.kept (t' := s1.toks) fun b o z => Heap.get?_push_of_some _ z, turn_tuple a _, ⟨_, Heap.get?_push_size _ rfl, rfl, rfl⟩, fp, q⟩
  · obtain ⟨t, rfl⟩ := r1
    cases ha : x.cps.all (· < 128) with
    | false => exact wpAny_pyIter_wide ha (pi_one (tk := s1.toks) I1 _ (turn_str _ x t "str_iterator" (.inr rfl)) ⟨_, Heap.get?_push_size _ rfl, rfl, rfl⟩ q)
    | true => exact wpAny_pyIter_ascii ha (pi_one (tk := s1.toks) I1 _ (turn_str _ x t "str_ascii_iterator" (.inl rfl)) ⟨_, Heap.get?_push_size _ rfl, rfl, rfl⟩ q)
end

/-! ### what is walked, as data -/
def ItOk (K : PySem.W.Frag) (F : Hp) (items : List D) (stab : Mu → Prop) (J : L2.It) : Prop :=
  ∀ (i : Nat) F1 G1 μ H, Same F F1 → Ag K F1 G1 μ H → stab μ →
    (∀ d, items[i]? = some d → J.go i H ∧ ∀ x H', J.yld i H x H' → ∃ F2, Same F1 F2 ∧ Ag K F2 G1 μ H' ∧ Rep K F2 d x) ∧ (i = items.length → J.stop i H)
section
variable {K : PySem.W.Frag} {F : Hp}
def StL (K : PySem.W.Frag) (F : Hp) (a : Addr) (ds : List D) (stab : Mu → Prop) : Prop := ∀ F1 G1 μ H, Same F F1 → Ag K F1 G1 μ H → stab μ → ∃ vs, SqL K H a vs ∧ Reps K F1 ds vs
def StT (K : PySem.W.Frag) (F : Hp) (a : Addr) (ds : List D) (stab : Mu → Prop) : Prop := ∀ F1 G1 μ H, Same F F1 → Ag K F1 G1 μ H → stab μ → ∃ vs, SqT K H a vs ∧ Reps K F1 ds vs
theorem stL_ok {G H : Hp} {μ : Mu} {x : D} {v : V} {ds : List D} (A : Ag K F G μ H) (rx : Rep K F x v) (h : seqL μ x = some ds) : ∃ a vs, v = .ref a ∧ SqL K H a vs ∧ Reps K F ds vs ∧ StL K F a ds (stands x ds) ∧ stands x ds μ := by
  obtain ⟨a0, vs0, e0, q0, r0⟩ := seqL_ok A rx h
  refine ⟨a0, vs0, e0, q0, r0, ?_⟩
  cases rx with
  | lst t r =>
    cases h; cases e0
    exact ⟨fun F1 G1 μ1 H1 s A1 _ => ⟨_, SqL.of (A1.f _ _ (s _ _ t)), r.mono s⟩, trivial⟩
  | klst t r =>
    cases h; cases e0
    exact ⟨fun F1 G1 μ1 H1 s A1 _ => ⟨_, sqL_mono A1.f (sqL_mono s t), r.mono s⟩, trivial⟩
  | obj a =>
    cases e0
    have hg : Mu.get μ a0 = some (.lst ds) := by
      unfold seqL at h
      cases e : Mu.get μ a0 with
      | none => simp only [e] at h; cases h
      | some m =>
        cases m with
        | lst es => simp only [e] at h; cases h; rfl
        | ins x ns es => simp only [e] at h; cases h
        | dic kds => simp only [e] at h; cases h
        | dct kds => simp only [e] at h; cases h
    refine ⟨fun F1 G1 μ1 H1 s A1 hs => ?_, hg⟩
    obtain ⟨o, ho, r⟩ := A1.at hs
    obtain ⟨vs, rfl, rr⟩ := r.lst_inv
    exact ⟨vs, SqL.of ho, rr⟩
  | _ => cases h
theorem stT_ok {G H : Hp} {μ : Mu} {x : D} {v : V} {ds : List D} (A : Ag K F G μ H) (rx : Rep K F x v) (h : seqT x = some ds) : ∃ a vs, v = .ref a ∧ SqT K H a vs ∧ Reps K F ds vs ∧ StT K F a ds (stands x ds) ∧ stands x ds μ := by
  cases rx with
  | tup t r =>
    cases h
    exact ⟨_, _, rfl, sqT_mono A.f t, r, fun F1 G1 μ1 H1 s A1 _ => ⟨_, sqT_mono A1.f (sqT_mono s t), r.mono s⟩, trivial⟩
  | _ => cases h
theorem it_list {a : Addr} {ds : List D} {stab : Mu → Prop} (h : StL K F a ds stab) : ItOk K F ds stab (Itl K a) := by
  intro i F1 G1 μ H s A hs
  obtain ⟨vs, hq, r⟩ := h F1 G1 μ H s A hs
  refine ⟨fun d hd => ?_, fun e => ⟨vs, hq, by rw [e, r.length]; exact Nat.le_refl _⟩⟩
  obtain ⟨v, hv, rd⟩ := r.get hd
  refine ⟨⟨vs, v, hq, hv⟩, fun x H' y => ?_⟩
  obtain ⟨rfl, y⟩ := y
  cases (y vs hq).symm.trans hv
  exact ⟨F1, Same.refl _, A, rd⟩
theorem it_tup {a : Addr} {ds : List D} {stab : Mu → Prop} (h : StT K F a ds stab) : ItOk K F ds stab (Itt K a) := by
  intro i F1 G1 μ H s A hs
  obtain ⟨vs, hq, r⟩ := h F1 G1 μ H s A hs
  refine ⟨fun d hd => ?_, fun e => ⟨vs, hq, by rw [e, r.length]; exact Nat.le_refl _⟩⟩
  obtain ⟨v, hv, rd⟩ := r.get hd
  refine ⟨⟨vs, v, hq, hv⟩, fun x H' y => ?_⟩
  obtain ⟨rfl, y⟩ := y
  cases (y vs hq).symm.trans hv
  exact ⟨F1, Same.refl _, A, rd⟩
theorem rev_get {α : Type} {xs : List α} {i : Nat} {x : α} (h : xs.reverse[i]? = some x) : i < xs.length ∧ xs[xs.length - 1 - i]? = some x := by
  have hi : i < xs.reverse.length := (List.getElem?_eq_some_iff.mp h).1
  rw [List.length_reverse] at hi
  rw [List.getElem?_reverse hi] at h
  exact ⟨hi, h⟩
theorem it_revL {a : Addr} {ds : List D} {stab : Mu → Prop} (h : StL K F a ds stab) : ItOk K F ds.reverse stab (Itv K a ds.length) := by
  intro i F1 G1 μ H s A hs
  obtain ⟨vs, hq, r⟩ := h F1 G1 μ H s A hs
  refine ⟨fun d hd => ?_, fun e => by rw [e, List.length_reverse]; exact Nat.le_refl _⟩
  obtain ⟨hi, hd2⟩ := rev_get hd
  obtain ⟨v, hv, rd⟩ := r.get hd2
  refine ⟨⟨hi, vs, v, hq, hv⟩, fun x H' y => ?_⟩
  obtain ⟨rfl, y⟩ := y
  cases (y vs hq).symm.trans hv
  exact ⟨F1, Same.refl _, A, rd⟩
theorem it_revT {a : Addr} {ds : List D} {stab : Mu → Prop} (h : StT K F a ds stab) : ItOk K F ds.reverse stab (RT.ItvT K a ds.length) := by
  intro i F1 G1 μ H s A hs
  obtain ⟨vs, hq, r⟩ := h F1 G1 μ H s A hs
  refine ⟨fun d hd => ?_, fun e => by rw [e, List.length_reverse]; exact Nat.le_refl _⟩
  obtain ⟨hi, hd2⟩ := rev_get hd
  obtain ⟨v, hv, rd⟩ := r.get hd2
  refine ⟨⟨hi, vs, v, hq, hv⟩, fun x H' y => ?_⟩
  obtain ⟨rfl, y⟩ := y
  cases (y vs hq).symm.trans hv
  exact ⟨F1, Same.refl _, A, rd⟩
/-- a new pair at each turn -/
theorem pair_new {G : Hp} {μ : Mu} {H : Hp} {F1 : Hp} {d1 d2 : D} {v1 v2 : V} {T : Addr} (A : Ag K F1 G μ H) (n : H T = none) (r1 : Rep K F1 d1 v1) (r2 : Rep K F1 d2 v2) :
    ∃ F2, Same F1 F2 ∧ Ag K F2 G μ (upd H T (.tup [v1, v2])) ∧ Rep K F2 (.tup [d1, d2]) (.ref T) :=
  ⟨_, A.laidF n, A.laid n, .tup (SqT.of upd_same) (.cons (r1.mono (A.laidF n)) (.cons (r2.mono (A.laidF n)) .nil))⟩
theorem mapIdx_get {ds : List D} {i : Nat} {d : D} (h : (ds.mapIdx fun (i : Nat) d => D.tup [.int (i : Int), d])[i]? = some d) : ∃ e, ds[i]? = some e ∧ d = .tup [.int (i : Int), e] := by
  rw [List.getElem?_mapIdx] at h
  cases e : ds[i]? with
  | none => rw [e] at h; cases h
  | some x => rw [e] at h; cases h; exact ⟨x, rfl, rfl⟩
theorem it_enumL {a : Addr} {ds : List D} {stab : Mu → Prop} (h : StL K F a ds stab) : ItOk K F (ds.mapIdx fun (i : Nat) d => D.tup [.int (i : Int), d]) stab (Ite K a) := by
  intro i F1 G1 μ H s A hs
  obtain ⟨vs, hq, r⟩ := h F1 G1 μ H s A hs
  refine ⟨fun d hd => ?_, fun e => ⟨vs, hq, by rw [e, List.length_mapIdx, r.length]; exact Nat.le_refl _⟩⟩
  obtain ⟨d', hd2, rfl⟩ := mapIdx_get hd
  obtain ⟨v, hv, rd⟩ := r.get hd2
  refine ⟨⟨vs, v, hq, hv⟩, fun x H' y => ?_⟩
  obtain ⟨T, x', rfl, n, rfl, y⟩ := y
  cases (y vs hq).symm.trans hv
  exact pair_new A n (.int _) rd
theorem it_enumT {a : Addr} {ds : List D} {stab : Mu → Prop} (h : StT K F a ds stab) : ItOk K F (ds.mapIdx fun (i : Nat) d => D.tup [.int (i : Int), d]) stab (ItEt K a) := by
  intro i F1 G1 μ H s A hs
  obtain ⟨vs, hq, r⟩ := h F1 G1 μ H s A hs
  refine ⟨fun d hd => ?_, fun e => ⟨vs, hq, by rw [e, List.length_mapIdx, r.length]⟩⟩
  obtain ⟨d', hd2, rfl⟩ := mapIdx_get hd
  obtain ⟨v, hv, rd⟩ := r.get hd2
  refine ⟨⟨vs, v, hq, hv⟩, fun x H' y => ?_⟩
  obtain ⟨T, x', rfl, n, rfl, y⟩ := y
  cases (y vs hq).symm.trans hv
  exact pair_new A n (.int _) rd
def StK (K : PySem.W.Frag) (F : Hp) (k : SK) (a : Addr) (ds : List D) (stab : Mu → Prop) : Prop := ∀ F1 G1 μ H, Same F F1 → Ag K F1 G1 μ H → stab μ → ∃ vs, SqK K k H a vs ∧ Reps K F1 ds vs
theorem stA_ok {G H : Hp} {μ : Mu} {x : D} {v : V} {ds : List D} (A : Ag K F G μ H) (rx : Rep K F x v) (h : seqA μ x = some ds) : ∃ k a vs, v = .ref a ∧ SqK K k H a vs ∧ Reps K F ds vs ∧ StK K F k a ds (stands x ds) ∧ stands x ds μ := by
  unfold seqA at h
  cases e : seqT x with
  | some es =>
    simp only [e] at h
    cases h
    obtain ⟨a, vs, ev, hq, rv, st, s0⟩ := stT_ok A rx e
    exact ⟨.t, a, vs, ev, hq, rv, st, s0⟩
  | none =>
    simp only [e] at h
    obtain ⟨a, vs, ev, hq, rv, st, s0⟩ := stL_ok A rx h
    exact ⟨.l, a, vs, ev, hq, rv, st, s0⟩
theorem zip_get {ds es : List D} {i : Nat} {d : D} (h : ((ds.zip es).map fun p => D.tup [p.1, p.2])[i]? = some d) : ∃ x y, ds[i]? = some x ∧ es[i]? = some y ∧ d = .tup [x, y] := by
  rw [List.getElem?_map] at h
  cases e : (ds.zip es)[i]? with
  | none => rw [e] at h; cases h
  | some p =>
    rw [e] at h
    cases h
    have q := List.getElem?_zip_eq_some.mp e
    exact ⟨p.1, p.2, q.1, q.2, rfl⟩
theorem it_zip2 {k1 k2 : SK} {a b : Addr} {ds es : List D} {s1 s2 : Mu → Prop} (h : StK K F k1 a ds s1) (h' : StK K F k2 b es s2) : ItOk K F ((ds.zip es).map fun p => D.tup [p.1, p.2]) (fun μ => s1 μ ∧ s2 μ) (Z2.It K k1 k2 a b) := by
  intro i F1 G1 μ H s A hs
  obtain ⟨vs, hq, r⟩ := h F1 G1 μ H s A hs.1
  obtain ⟨us, hq', r'⟩ := h' F1 G1 μ H s A hs.2
  refine ⟨fun d hd => ?_, fun e => ⟨vs, us, hq, hq', ?_⟩⟩
  · obtain ⟨x, y, hx, hy, rfl⟩ := zip_get hd
    obtain ⟨v, hv, rx⟩ := r.get hx
    obtain ⟨u, hu, ry⟩ := r'.get hy
    refine ⟨⟨vs, us, v, u, hq, hv, hq', hu⟩, fun z H' q => ?_⟩
    obtain ⟨T, x', y', rfl, n, rfl, q1, q2⟩ := q
    cases (q1 vs hq).symm.trans hv
    cases (q2 us hq').symm.trans hu
    exact pair_new A n rx ry
  · rw [List.length_map, List.length_zip] at e
    rw [← r.length, ← r'.length]
    omega
theorem zip3_get {ds es fs : List D} {i : Nat} {d : D} (h : ((ds.zip (es.zip fs)).map fun p => D.tup [p.1, p.2.1, p.2.2])[i]? = some d) : ∃ x y z, ds[i]? = some x ∧ es[i]? = some y ∧ fs[i]? = some z ∧ d = .tup [x, y, z] := by
  rw [List.getElem?_map] at h
  cases e : (ds.zip (es.zip fs))[i]? with
  | none => rw [e] at h; cases h
  | some p =>
    rw [e] at h
    cases h
    have q := List.getElem?_zip_eq_some.mp e
    have q2 := List.getElem?_zip_eq_some.mp q.2
    exact ⟨p.1, p.2.1, p.2.2, q.1, q2.1, q2.2, rfl⟩
theorem it_zip3 {k1 k2 k3 : SK} {a b c : Addr} {ds es fs : List D} {s1 s2 s3 : Mu → Prop} (h : StK K F k1 a ds s1) (h' : StK K F k2 b es s2) (h'' : StK K F k3 c fs s3) : ItOk K F ((ds.zip (es.zip fs)).map fun p => D.tup [p.1, p.2.1, p.2.2]) (fun μ => s1 μ ∧ s2 μ ∧ s3 μ) (Z3.It K k1 k2 k3 a b c) := by
  intro i F1 G1 μ H s A hs
  obtain ⟨vs, hq, r⟩ := h F1 G1 μ H s A hs.1
  obtain ⟨us, hq', r'⟩ := h' F1 G1 μ H s A hs.2.1
  obtain ⟨ws, hq'', r''⟩ := h'' F1 G1 μ H s A hs.2.2
  refine ⟨fun d hd => ?_, fun e => ⟨vs, us, ws, hq, hq', hq'', ?_⟩⟩
  · obtain ⟨x, y, z, hx, hy, hz, rfl⟩ := zip3_get hd
    obtain ⟨v, hv, rx⟩ := r.get hx
    obtain ⟨u, hu, ry⟩ := r'.get hy
    obtain ⟨w, hw, rz⟩ := r''.get hz
    refine ⟨⟨vs, us, ws, v, u, w, hq, hv, hq', hu, hq'', hw⟩, fun t H' q => ?_⟩
    obtain ⟨T, x', y', z', rfl, n, rfl, q1, q2, q3⟩ := q
    cases (q1 vs hq).symm.trans hv
    cases (q2 us hq').symm.trans hu
    cases (q3 ws hq'').symm.trans hw
    exact ⟨_, A.laidF n, A.laid n, .tup (SqT.of upd_same) (.cons (rx.mono (A.laidF n)) (.cons (ry.mono (A.laidF n)) (.cons (rz.mono (A.laidF n)) .nil)))⟩
  · rw [List.length_map, List.length_zip, List.length_zip] at e
    rw [← r.length, ← r'.length, ← r''.length]
    omega
theorem it_rng (lo : Int) (n : Nat) : ItOk K F (rngL lo n) (fun _ => True) (Itr lo n) := by
  intro i F1 G1 μ H s A _
  refine ⟨fun d hd => ?_, fun e => by rw [e]; unfold rngL; rw [List.length_map, List.length_range]; exact Nat.le_refl _⟩
  unfold rngL at hd
  rw [List.getElem?_map] at hd
  cases e : (List.range n)[i]? with
  | none => rw [e] at hd; cases hd
  | some k =>
    rw [e] at hd
    obtain ⟨h1, h2⟩ := List.getElem?_eq_some_iff.mp e
    rw [List.length_range] at h1
    rw [List.getElem_range] at h2
    subst h2
    cases hd
    refine ⟨h1, fun x H' y => ?_⟩
    obtain ⟨rfl, rfl⟩ := y
    exact ⟨F1, Same.refl _, A, .int _⟩
theorem it_rngC (lo c : Int) (n : Nat) : ItOk K F ((List.range n).map fun (k : Nat) => D.int (lo + (k : Int) * c)) (fun _ => True) (Itc lo c n) := by
  intro i F1 G1 μ H s A _
  refine ⟨fun d hd => ?_, fun e => by rw [e, List.length_map, List.length_range]; exact Nat.le_refl _⟩
  rw [List.getElem?_map] at hd
  cases e : (List.range n)[i]? with
  | none => rw [e] at hd; cases hd
  | some k =>
    rw [e] at hd
    obtain ⟨h1, h2⟩ := List.getElem?_eq_some_iff.mp e
    rw [List.length_range] at h1
    rw [List.getElem_range] at h2
    subst h2
    cases hd
    refine ⟨h1, fun x H' y => ?_⟩
    obtain ⟨rfl, rfl⟩ := y
    exact ⟨F1, Same.refl _, A, .int _⟩
theorem it_str (x : Str) : ItOk K F (x.cps.toList.map fun c => .str ⟨#[c]⟩) (fun _ => True) (Its x) := by
  intro i F1 G1 μ H s A _
  refine ⟨fun d hd => ?_, fun e => by rw [e, List.length_map, Array.length_toList]; exact Nat.le_refl _⟩
  rw [List.getElem?_map] at hd
  cases e : x.cps.toList[i]? with
  | none => rw [e] at hd; cases hd
  | some k =>
    rw [e] at hd
    cases hd
    have e2 : x.cps[i]? = some k := by rw [← Array.getElem?_toList]; exact e
    refine ⟨(Array.getElem?_eq_some_iff.mp e2).1, fun v H' y => ?_⟩
    obtain ⟨rfl, c, hc, rfl⟩ := y
    rw [e2] at hc
    cases hc
    exact ⟨F1, Same.refl _, A, .str _⟩
end
end DL

namespace DL
open PySem PySem.Spec PyProof.Rows L2

/-! ### a caught refusal that is kept behind its suite -/
theorem exv_ok {P : Program} {w : World} {H : Hp} {h : Heap} {a : Addr} {c : Value} {d : Option Addr} {oe : Obj} {vs : Array Value} (e : h.get? a = some oe) (e1 : oe.cls = c) (e2 : oe.dict = d) (e3 : oe.data = .fields vs) : ObjOk P w H h a (exv a c d) :=
  ⟨⟨oe, vs, e, e1, e2, e3⟩, ⟨oe, e⟩, fun _ _ z k => by
    obtain ⟨o1, v1, q, r⟩ := z
    exact ⟨o1, v1, k _ q, r⟩⟩
theorem exv_at {P : Program} {w : World} {H : Hp} {h : Heap} {a : Addr} {c : Value} {d : Option Addr} (hok : HOk P w H h) (e : H a = some (exv a c d)) : ∃ oe vs, h.get? a = some oe ∧ oe.cls = c ∧ oe.dict = d ∧ oe.data = .fields vs := by
  have z : ObjOk P w H h a (.ext fun h => ∃ oe vs, h.get? a = some oe ∧ oe.cls = c ∧ oe.dict = d ∧ oe.data = .fields vs) := hok a _ e
  exact z.1
/-- a thing that stands, made in this def and tracked by nobody, is tracked -/
theorem Inv.adopt {X : Cx} {pins : List (Addr × Obj)} {σ : L2.St} {H : Hp} {s : Shared} {a : Addr} {o : HO} (I : Inv X pins σ H s) (na : H a = none) (n0 : X.s_0.heap.get? a = none) (nL : a ≠ X.env.locals) (nC : ∀ x c, X.env.cells.lookup x = some c → c ≠ a)
    (nP : ∀ p, p ∈ X.pn ++ pins → p.1 ≠ a) (new : ObjOk X.prog X.w (upd H a o) s.heap a o) : Inv X pins σ (upd H a o) s where
  ok := I.ok
  os := I.os
  bare := I.bare
  base := {
    keep := I.base.keep
    slot := I.base.slot
    free := fun b u e n q => by
      rw [upd_ne fun z => by rw [z, n0] at e; cases e]
      exact I.base.free b u e n q
    there := I.base.there
    tups := fun b xs e => by
      have e2 := I.base.tups b xs e
      rw [upd_ne (ne_of_none e2 na)]
      exact e2
    frzs := fun b u v e => by
      have e2 := I.base.frzs b u v e
      rw [upd_ne (ne_of_none e2 na)]
      exact e2
    tbls := fun b ps e => by
      obtain ⟨m, e2⟩ := I.base.tbls b ps e
      exact ⟨m, by rw [upd_ne (ne_of_none e2 na)]; exact e2⟩ }
  loc := I.loc
  cell := I.cell
  free := by rw [upd_ne (Ne.symm nL)]; exact I.free
  freeC := fun x c e => by rw [upd_ne (nC x c e)]; exact I.freeC x c e
  pin := fun p hp => by
    obtain ⟨h1, h2, h3⟩ := I.pin p hp
    exact ⟨h1, by rw [upd_ne (nP p hp)]; exact h2, h3⟩
  hok := I.hok.laidN (fun _ _ z => z) na new
  len := I.len
/-- what such a clause wishes of a refusal of the body: slot i is the clause's name's -/
def wKeep (K : PySem.W.Frag) (c : Value) (i : Nat) (ts : Addr → TS) (Wo : WX) (D : Ends) : WX := fun cls d σ H =>
  ∃ b, PySem.W.exmOne K cls c = some b ∧ (b = true → ∀ a, H a = none → ts a { nx := fun σ6 H6 => D.nx (σ6.set i none) (upd H6 a (exv a cls d)), rt := fun _ _ => False } (σ.set i (some (.ref a))) H) ∧ (b = false → Wo cls d σ H)
theorem ps_keep {X : Cx} {x n : Str} {c : Value} {i : Nat} {body suite : List Stmt} {b₀ : Stmt} {np pos pos' : Pos} {tb : WX → TS} {ts : Addr → TS} {Wo : WX}
    (stk : X.stack = X.env :: X.outer) (fr : X.env.frame = some X.env.locals) (hex : X.ex = []) (hN : X.N.Nodup) (hi : X.N[i]? = some n) (hln : X.env.kindOf n = some .local) (hc : Names X x c) (tk : Takes X Wo)
    (hb : ∀ (W : WX) (pn : List (Addr × Obj)) (xe : Value → Shared → Prop), Takes (X.tr pn xe) W → PassesOwn (model X.prog X.w) X.A X.env xe → PSs (X.tr pn xe) body (tb W))
    (hsu : ∀ (a : Addr) (oe : Obj) (pn : List (Addr × Obj)), PSs (X.suite a ((a, oe) :: pn)) (b₀ :: suite) (ts a)) :
    PS X (.Try body [.ExceptHandler (some (.Name x np)) (some n) (b₀ :: suite) pos'] [] [] pos) (fun D σ H => tb (wKeep X.K c i ts Wo D) D σ H) := by
  constructor
  intro pins s0 σ0 H0 D I0 hD
  have ok := I0.ok
  have frs0 : X.A.frames = some (X.env :: X.outer) := by rw [← stk]; exact ok.frames
  refine wpAny_Try_except ?_
  have run := (hb (wKeep X.K c i ts Wo D) (X.pn ++ pins)
    (fun e t1 => wpAny (model X.prog X.w) X.A (noteFrame e X.env)
      (fun _ t2 => wpAny (model X.prog X.w) X.A (setFlight e none)
        (fun _ t3 => wpAny (model X.prog X.w) X.A (handleBy e X.env [.ExceptHandler (some (.Name x np)) (some n) (b₀ :: suite) pos']) (SP X pins D) X.xe t3) X.xe t2) X.xe t1)
    ?air PassesOwn.looking).run [] s0 σ0 H0 D (I0.toTry _) hD
  case air =>
    rintro u t ⟨a, B, tI, pinsB, σ1, H1, cls, d, rfl, IB, nb, up, sky, na, os1, ag1, hit, ehit, yes, no⟩
    have I1 := IB.ofTry ok
    rw [stk] at sky
    refine Sky.land Zc.steady frs0 fr sky fun h3 fl up3 => ?_
    have up13 := up.trans up3
    obtain ⟨o3, v3, get3, z3, dat3⟩ := fl.there
    have noFr : a ∉ frs (X.env :: X.outer) := fun hm => by
      obtain ⟨_, o', q, hnf⟩ := fl.2.2.1.mem hm
      rw [get3] at q
      cases q
      exact hnf _ dat3
    have noB : B.get? a = none := fl.2.1
    have notI : tI.heap.get? a = none := by
      cases q : tI.heap.get? a with
      | none => rfl
      | some o' =>
        have z := nb a o' q (by rw [stk]; exact noFr)
        rw [noB] at z
        cases z
    have nL : a ≠ X.env.locals := fun z => noFr (List.mem_filterMap.mpr ⟨X.env, List.mem_cons_self, by rw [fr, z]⟩)
    have nF : a ∉ X.fs := fun hm => by
      obtain ⟨e, he, q⟩ := List.mem_filterMap.mp hm
      exact noFr (List.mem_filterMap.mpr ⟨e, List.mem_cons_of_mem _ he, q⟩)
    have n0 : X.s_0.heap.get? a = none := by
      cases q : X.s_0.heap.get? a with
      | none => rfl
      | some o' =>
        obtain ⟨o2, z⟩ := I1.base.there a o' q (by rw [hex]; exact List.not_mem_nil)
        rw [notI] at z
        cases z
    have nC : ∀ y cc, X.env.cells.lookup y = some cc → cc ≠ a := fun y cc e z => by
      obtain ⟨v, o', q, _⟩ := I1.cell y cc e
      rw [z, notI] at q
      cases q
    have nP : ∀ p, p ∈ X.pn ++ pins → p.1 ≠ a := fun p hp z => by
      have q := (I1.pin p hp).1
      rw [z, notI] at q
      cases q
    have I3 : Inv X pins σ1 H1 { t with heap := h3 } := I1.landed nb fl.1 up13 os1 ag1
    have S3 := I3.suite get3 dat3 na nL nF
    refine wpAny_handleBy_cons (codeAny_handlers_test ?_) fun q => nomatch q
    have look : PySem.W.Looks (model X.prog X.w) h3 (typeOf (.ref a)) cls := fun A' Q' E' s' k q => wpAny_typeOf_ref (k _ _ get3) (by rw [z3.1]; exact q)
    have match_ := PySem.W.exm_one (M := model X.prog X.w) I3.kIn look ehit
    have named : ∀ {Q' : Value → Shared → Prop} {E' : Value → Shared → Prop}, Q' c { t with heap := h3 } → wpAny (model X.prog X.w) (X.A.mark (some (.ref a))) (eval (.Name x np) X.env) Q' E' { t with heap := h3 } := by
      intro Q' E' q
      rcases hc with ⟨g1, g2, g3 | ⟨g3, g4, g5⟩⟩
      · exact ld_glob (X := X.suite a ((a, o3) :: (X.pn ++ pins))) S3 g1 g3 q g2
      · exact ld_blt (X := X.suite a ((a, o3) :: (X.pn ++ pins))) S3 g1 g3 g4 q g5 g2
    refine named (match_.here ?_)
    cases hit with
    | false =>
      have goOn : wpAny (model X.prog X.w) X.A (handleBy (.ref a) X.env []) (SP X pins D) X.xe { t with heap := h3 } := by
        obtain ⟨_, _, _, o5, v5, T5, oT, ts5, get5, z5, dat5, tb5, _⟩ := id fl
        refine wpAny_handleBy_nil ?_
        unfold PySem.passOn
        refine wpAny_bind (wpAny_field get5 dat5 tb5 ?_)
        rw [if_neg (show ¬ ((Value.ref T5 == Value.none) = true) from by simp)]
        have out : wpAny (model X.prog X.w) X.A (setFlight (.ref a) X.env.frame) (fun _ t4 => wpAny (model X.prog X.w) X.A (throw (.ref a) : Sem Flow) (SP X pins D) X.xe t4) X.xe { t with heap := h3 } := by
          rw [fr]
          refine HandSPX.setFlight_upZ fl fun h4 held up4 => wpAny_throw (tk _ _ ?_)
          refine ⟨a, B, tI, pins, σ1, H1, cls, d, rfl, I1, nb, up13.trans up4, .inr (.inr ?_), na, os1, ag1, no rfl⟩
          rw [stk]
          exact held
        first
          | exact wpAny_bind (wpAny_pure (wpAny_bind out))
          | exact wpAny_bind out
      exact goOn
    | true =>
      refine codeAny_handlers_suite_as ?_
      refine HandSPX.lands_againZ fl fun h4 fl4 up4 => ?_
      obtain ⟨o4, v4, get4, z4, dat4⟩ := fl4.there
      have I4 : Inv X pins σ1 H1 { t with heap := h4 } := I1.landed nb fl4.1 (up13.trans up4) os1 ag1
      refine store_ok (X := X.suite a ((a, o4) :: (X.pn ++ pins))) (v := .ref a) (I4.suite get4 dat4 na nL nF) hN hi (.inl hln) rfl (fun t5 S5 => ?_) (.inr hln)
      refine wpAny_mono ((hsu a o4 (X.pn ++ pins)).run [] t5 _ H1 _ S5 (yes rfl a na)) (fun f t6 res => ?_) fun _ _ z => z.elim
      cases f with
      | next =>
        obtain ⟨σ6, H6, S6, q6⟩ := res
        obtain ⟨g6, n6, _⟩ := S6.pin (a, o4) (List.mem_append_left _ List.mem_cons_self)
        have I6 := S6.unsuite ok
        have I7 := Inv.adopt (o := exv a cls d) I6 n6 n0 nL nC nP (exv_ok g6 z4.1 z4.2 dat4)
        exact gone_ok I7 hN hi hln fun t7 I8 => ⟨_, _, I8, q6⟩
      | brk => obtain ⟨_, _, _, q6⟩ := res; exact q6.elim
      | cont => obtain ⟨_, _, _, q6⟩ := res; exact q6.elim
      | ret u => obtain ⟨_, _, _, _, _, q6⟩ := res; exact q6.elim
  refine wpAny_mono run (fun f t1 res => ?_) fun _ _ z => z
  cases f with
  | next =>
    obtain ⟨σ1, H1, J, q⟩ := res
    exact wpAny_execs_nil ⟨σ1, H1, J.ofTry ok, q⟩
  | brk =>
    obtain ⟨σ1, H1, J, q⟩ := res
    exact ⟨σ1, H1, J.ofTry ok, q⟩
  | cont =>
    obtain ⟨σ1, H1, J, q⟩ := res
    exact ⟨σ1, H1, J.ofTry ok, q⟩
  | ret u =>
    obtain ⟨v, σ1, H1, J, r, q⟩ := res
    exact ⟨v, σ1, H1, J.ofTry ok, r, q⟩

/-- the context of an except suite, the refusal tracked like any other thing -/
theorem Inv.toSuite {X : Cx} {pins : List (Addr × Obj)} {σ : L2.St} {H : Hp} {s : Shared} (I : Inv X pins σ H s) (a : Addr) : Inv (X.suite a (X.pn ++ pins)) [] σ H s :=
  ⟨I.ok.suite _ _, I.os, I.bare, I.base, I.loc, I.cell, I.free, I.freeC, fun p hp => I.pin p (by rw [List.append_nil] at hp; exact hp), I.hok, I.len⟩
theorem Inv.ofSuite {X : Cx} {pins pn' : List (Addr × Obj)} {σ : L2.St} {H : Hp} {s : Shared} {a : Addr} (I : Inv (X.suite a (X.pn ++ pins)) pn' σ H s) (ok : X.Ok) : Inv X pins σ H s :=
  ⟨ok, I.os, I.bare, I.base, I.loc, I.cell, I.free, I.freeC, fun p hp => I.pin p (List.mem_append_left _ hp), I.hok, I.len⟩
def wSuite (K : PySem.W.Frag) (c : Value) (i : Nat) (ts : Addr → TS) (Wo : WX) (D : Ends) : WX := fun cls d σ H =>
  ∃ b, PySem.W.exmOne K cls c = some b ∧ (b = true → ∀ a, H a = none → ts a { nx := fun σ6 H6 => D.nx (σ6.set i none) H6, rt := fun _ _ => False } (σ.set i (some (.ref a))) (upd H a (exv a cls d))) ∧ (b = false → Wo cls d σ H)
theorem ps_suite {X : Cx} {x n : Str} {c : Value} {i : Nat} {body suite : List Stmt} {b₀ : Stmt} {np pos pos' : Pos} {tb : WX → TS} {ts : Addr → TS} {Wo : WX}
    (stk : X.stack = X.env :: X.outer) (fr : X.env.frame = some X.env.locals) (hex : X.ex = []) (hN : X.N.Nodup) (hi : X.N[i]? = some n) (hln : X.env.kindOf n = some .local) (hc : Names X x c) (tk : Takes X Wo)
    (hb : ∀ (W : WX) (pn : List (Addr × Obj)) (xe : Value → Shared → Prop), Takes (X.tr pn xe) W → PassesOwn (model X.prog X.w) X.A X.env xe → PSs (X.tr pn xe) body (tb W))
    (hsu : ∀ (a : Addr) (pn : List (Addr × Obj)), PSs (X.suite a pn) (b₀ :: suite) (ts a)) :
    PS X (.Try body [.ExceptHandler (some (.Name x np)) (some n) (b₀ :: suite) pos'] [] [] pos) (fun D σ H => tb (wSuite X.K c i ts Wo D) D σ H) := by
  constructor
  intro pins s0 σ0 H0 D I0 hD
  have ok := I0.ok
  have frs0 : X.A.frames = some (X.env :: X.outer) := by rw [← stk]; exact ok.frames
  refine wpAny_Try_except ?_
  have run := (hb (wSuite X.K c i ts Wo D) (X.pn ++ pins)
    (fun e t1 => wpAny (model X.prog X.w) X.A (noteFrame e X.env)
      (fun _ t2 => wpAny (model X.prog X.w) X.A (setFlight e none)
        (fun _ t3 => wpAny (model X.prog X.w) X.A (handleBy e X.env [.ExceptHandler (some (.Name x np)) (some n) (b₀ :: suite) pos']) (SP X pins D) X.xe t3) X.xe t2) X.xe t1)
    ?air PassesOwn.looking).run [] s0 σ0 H0 D (I0.toTry _) hD
  case air =>
    rintro u t ⟨a, B, tI, pinsB, σ1, H1, cls, d, rfl, IB, nb, up, sky, na, os1, ag1, hit, ehit, yes, no⟩
    have I1 := IB.ofTry ok
    rw [stk] at sky
    refine Sky.land Zc.steady frs0 fr sky fun h3 fl up3 => ?_
    have up13 := up.trans up3
    obtain ⟨o3, v3, get3, z3, dat3⟩ := fl.there
    have noFr : a ∉ frs (X.env :: X.outer) := fun hm => by
      obtain ⟨_, o', q, hnf⟩ := fl.2.2.1.mem hm
      rw [get3] at q
      cases q
      exact hnf _ dat3
    have noB : B.get? a = none := fl.2.1
    have notI : tI.heap.get? a = none := by
      cases q : tI.heap.get? a with
      | none => rfl
      | some o' =>
        have z := nb a o' q (by rw [stk]; exact noFr)
        rw [noB] at z
        cases z
    have nL : a ≠ X.env.locals := fun z => noFr (List.mem_filterMap.mpr ⟨X.env, List.mem_cons_self, by rw [fr, z]⟩)
    have nF : a ∉ X.fs := fun hm => by
      obtain ⟨e, he, q⟩ := List.mem_filterMap.mp hm
      exact noFr (List.mem_filterMap.mpr ⟨e, List.mem_cons_of_mem _ he, q⟩)
    have n0 : X.s_0.heap.get? a = none := by
      cases q : X.s_0.heap.get? a with
      | none => rfl
      | some o' =>
        obtain ⟨o2, z⟩ := I1.base.there a o' q (by rw [hex]; exact List.not_mem_nil)
        rw [notI] at z
        cases z
    have nC : ∀ y cc, X.env.cells.lookup y = some cc → cc ≠ a := fun y cc e z => by
      obtain ⟨v, o', q, _⟩ := I1.cell y cc e
      rw [z, notI] at q
      cases q
    have nP : ∀ p, p ∈ X.pn ++ pins → p.1 ≠ a := fun p hp z => by
      have q := (I1.pin p hp).1
      rw [z, notI] at q
      cases q
    have I3 : Inv X pins σ1 H1 { t with heap := h3 } := I1.landed nb fl.1 up13 os1 ag1
    have S3 := I3.suite get3 dat3 na nL nF
    refine wpAny_handleBy_cons (codeAny_handlers_test ?_) fun q => nomatch q
    have look : PySem.W.Looks (model X.prog X.w) h3 (typeOf (.ref a)) cls := fun A' Q' E' s' k q => wpAny_typeOf_ref (k _ _ get3) (by rw [z3.1]; exact q)
    have match_ := PySem.W.exm_one (M := model X.prog X.w) I3.kIn look ehit
    have named : ∀ {Q' : Value → Shared → Prop} {E' : Value → Shared → Prop}, Q' c { t with heap := h3 } → wpAny (model X.prog X.w) (X.A.mark (some (.ref a))) (eval (.Name x np) X.env) Q' E' { t with heap := h3 } := by
      intro Q' E' q
      rcases hc with ⟨g1, g2, g3 | ⟨g3, g4, g5⟩⟩
      · exact ld_glob (X := X.suite a ((a, o3) :: (X.pn ++ pins))) S3 g1 g3 q g2
      · exact ld_blt (X := X.suite a ((a, o3) :: (X.pn ++ pins))) S3 g1 g3 g4 q g5 g2
    refine named (match_.here ?_)
    cases hit with
    | false =>
      have goOn : wpAny (model X.prog X.w) X.A (handleBy (.ref a) X.env []) (SP X pins D) X.xe { t with heap := h3 } := by
        obtain ⟨_, _, _, o5, v5, T5, oT, ts5, get5, z5, dat5, tb5, _⟩ := id fl
        refine wpAny_handleBy_nil ?_
        unfold PySem.passOn
        refine wpAny_bind (wpAny_field get5 dat5 tb5 ?_)
        rw [if_neg (show ¬ ((Value.ref T5 == Value.none) = true) from by simp)]
        have out : wpAny (model X.prog X.w) X.A (setFlight (.ref a) X.env.frame) (fun _ t4 => wpAny (model X.prog X.w) X.A (throw (.ref a) : Sem Flow) (SP X pins D) X.xe t4) X.xe { t with heap := h3 } := by
          rw [fr]
          refine HandSPX.setFlight_upZ fl fun h4 held up4 => wpAny_throw (tk _ _ ?_)
          refine ⟨a, B, tI, pins, σ1, H1, cls, d, rfl, I1, nb, up13.trans up4, .inr (.inr ?_), na, os1, ag1, no rfl⟩
          rw [stk]
          exact held
        first
          | exact wpAny_bind (wpAny_pure (wpAny_bind out))
          | exact wpAny_bind out
      exact goOn
    | true =>
      refine codeAny_handlers_suite_as ?_
      refine HandSPX.lands_againZ fl fun h4 fl4 up4 => ?_
      obtain ⟨o4, v4, get4, z4, dat4⟩ := fl4.there
      have I4 : Inv X pins σ1 H1 { t with heap := h4 } := I1.landed nb fl4.1 (up13.trans up4) os1 ag1
      have I5 := Inv.adopt (o := exv a cls d) I4 na n0 nL nC nP (exv_ok get4 z4.1 z4.2 dat4)
      refine store_ok (X := X.suite a (X.pn ++ pins)) (v := .ref a) (Inv.toSuite I5 a) hN hi (.inl hln) rfl (fun t5 S5 => ?_) (.inr hln)
      refine wpAny_mono ((hsu a (X.pn ++ pins)).run [] t5 _ _ _ S5 (yes rfl a na)) (fun f t6 res => ?_) fun _ _ z => z.elim
      cases f with
      | next =>
        obtain ⟨σ6, H6, S6, q6⟩ := res
        exact gone_ok (Inv.ofSuite S6 ok) hN hi hln fun t7 I8 => ⟨_, _, I8, q6⟩
      | brk => obtain ⟨_, _, _, q6⟩ := res; exact q6.elim
      | cont => obtain ⟨_, _, _, q6⟩ := res; exact q6.elim
      | ret u => obtain ⟨_, _, _, _, _, q6⟩ := res; exact q6.elim
  refine wpAny_mono run (fun f t1 res => ?_) fun _ _ z => z
  cases f with
  | next =>
    obtain ⟨σ1, H1, J, q⟩ := res
    exact wpAny_execs_nil ⟨σ1, H1, J.ofTry ok, q⟩
  | brk =>
    obtain ⟨σ1, H1, J, q⟩ := res
    exact ⟨σ1, H1, J.ofTry ok, q⟩
  | cont =>
    obtain ⟨σ1, H1, J, q⟩ := res
    exact ⟨σ1, H1, J.ofTry ok, q⟩
  | ret u =>
    obtain ⟨v, σ1, H1, J, r, q⟩ := res
    exact ⟨v, σ1, H1, J.ofTry ok, r, q⟩


theorem attr_ok_name (x : Str) (p : Pos) (m : Str) (env : Env) : attributeBase (.Name x p) m env (eval (.Name x p) env) = eval (.Name x p) env := by
  unfold attributeBase
  rfl
theorem call_attr_eq {o : Expr} {name : Str} {apos pos : Pos} {es : List Expr} {env : Env} (hbase : attributeBase o name env (eval o env) = eval o env) (hfew : methodCallForm (es.length + ([] : List Keyword).length) (backTo pos (starEach es env)) (backToKw pos (keywordEach [] env)) = true) (hline : (apos.endLine == pos.line) = true) :
    eval (.Call (.Attribute o name apos) es [] pos) env = (do
      let ov ← eval o env
      standAt apos.atName
      let (f, first) ← holding [ov] (getMethod ov name (do return (← importBound o env).getD true))
      callWith pos f first (backTo pos (starEach es env)) (backToKw pos (keywordEach [] env))) := by
  rw [arm_eval_Call, hbase]
  unfold methodCall calleeOf methodCallPos
  rw [hfew, hline]
  rfl
/-- B.__init__(self, ..) of a class B of the program that has ValueError's -/
theorem pe_minit {X : Cx} {e : Expr} {es : List Expr} {ta : TA} {x : Str} {CM : Addr} {p1 p2 pos : Pos} (hg : Gl X x) (hm : X.mg x = some (.ref CM)) (gB : PySem.W.specialIn X.K (.ref CM) "__getattribute__" = some (some (.builtin "type.__getattribute__")))
    (tB : PySem.W.typeIn X.K (.ref CM) = some (.type "type")) (rB : PySem.W.readsIn X.K CM (.type "type") = true) (vB : PySem.W.findCls X.K (.ref CM) (.type "type") "__init__" = some (.val (.builtin "ValueError.__init__"))) (ha : PA X (e :: es) ta)
    (hdb : (x == ("__debug__" : Str)) = false) (hline : (p2.endLine == pos.line) = true) (hfew : methodCallForm ((e :: es).length + ([] : List Keyword).length) (backTo pos (starEach (e :: es) X.env)) (backToKw pos (keywordEach [] X.env)) = true)
    (he : starEach (e :: es) X.env = (false, eval e X.env) :: starEach es X.env := by rfl) (hpl : (backTo pos (starEach es X.env)).any (·.1) = false := by rfl) :
    PE X (.Call (.Attribute (.Name x p1) "__init__" p2) (e :: es) [] pos) (tVeI X.K ta) := by
  refine ⟨fun pins s σ H Q I h => ?_⟩
  refine PySem.W.methodCall_KW (ld_glob I hg hm ?_ hdb) (call_attr_eq (attr_ok_name _ _ _ _) hfew hline)
  obtain ⟨m, fr⟩ := I.fr
  refine PySem.W.method_of_cls fr I.ok.mod.kin gB ?_
  refine PySem.W.cls_val fr I.ok.mod.kin tB rB vB (by decide +kernel) ?_
  show wpAny _ _ (callWith pos (Value.builtin "ValueError.__init__") [] (backTo pos (starEach (e :: es) X.env)) []) _ _ _
  refine PyProof.Rows.callWith_method1 (thn (ha.run pos pins _ σ H _ (I.tok _) h) fun us s1 ⟨vs, H1, I1, r1, a, C, ws, ev, hl, T, ea, q⟩ => ?_) he hpl
  subst ev
  cases r1 with
  | @cons _ u0 _ ur ra rw' =>
    obtain rfl : u0 = Value.ref a := ra
    have hlen : ur.length ≤ sizeLine := by
      rw [← Paired.length rw', sizeLine_eq]
      omega
    exact oinit_ok T I1 ea hlen fun s' J => ⟨.non, H1, J, rfl, q⟩

/-! ### own classes -/
/-- a class without an __init__ -/
structure BareC (K : PySem.W.Frag) (C : Addr) : Prop where
  makes : PySem.W.makesIn K C = true
  ini : PySem.W.findIn K (.ref C) "__init__" = some (some (.builtin "object.__init__"))
  kp : PySem.W.keepIn K (.ref C) = true
theorem pe_bare {X : Cx} {x : Str} {C : Addr} {p pos : Pos} (b : BareC X.K C) (hg : Gl X x) (hm : X.mg x = some (.ref C)) (hdb : (x == ("__debug__" : Str)) = false) :
    PE X (.Call (.Name x p) [] [] pos) (fun _ H Q => ∀ a dx, H a = none → H dx = none → dx ≠ a → Q (.ref a) (upd (upd H dx (.own a)) a (.ins C dx []))) := by
  refine ⟨fun pins s σ H Q I h => ?_⟩
  refine wpAny_Call_Name_kw (ld_glob I hg hm ?_ hdb)
  refine PySem.W.callWith_K0 I.kIn b.kp (wpAny_call ?_)
  have I2 := Inv.made (C := C) I
  have hq := h (s.heap.objs.size + 1) s.heap.objs.size (I.hok.fresh (Nat.le_succ _)) (I.hok.fresh (Nat.le_refl _)) (Nat.ne_of_lt (Nat.lt_succ_self _))
  have kX := I.kIn
  have h1 : ((s.heap.push PySem.W.emptyDict).push (PySem.W.instObj C s.heap.objs.size)).get? (s.heap.objs.size + 1) = some (PySem.W.instObj C s.heap.objs.size) := by
    have z := Heap.get?_push_size (s.heap.push PySem.W.emptyDict) (o := PySem.W.instObj C s.heap.objs.size) rfl
    rwa [Heap.size_push] at z
  obtain ⟨hh, g, d, t, os⟩ := s
  have Y := PySem.W.makes_of (M := model X.prog X.w) kX b.makes
  refine PySem.W.make_core Y (PySem.W.looks_findIn kX b.ini) (fun self => PySem.W.Looks.of_pure (PySem.W.oi_bind self)) (.inr ⟨rfl, rfl⟩) ?_
  have t1 : PySem.W.Looks (model X.prog X.w) ((hh.push PySem.W.emptyDict).push (PySem.W.instObj C hh.objs.size)) (typeOf (.ref (hh.objs.size + 1))) (.ref C) := (PySem.W.Looks.ld h1).andThen .now
  have t2 : PySem.W.Looks (model X.prog X.w) ((hh.push PySem.W.emptyDict).push (PySem.W.instObj C hh.objs.size)) (isInstance (.ref (hh.objs.size + 1)) (.type "object")) true := t1.andThen (Y.top.keeps fun b o e => Heap.get?_push_of_some _ (Heap.get?_push_of_some _ e))
  refine codeAny_call_builtin PySem.W.oi_plain PySem.W.entry_oi (@PySem.W.check_slot (model X.prog X.w) _ _ _ "object.__init__" "object" "__init__" (.ref (hh.objs.size + 1)) [] [] _ PySem.W.oi_kind PySem.W.oi_split t2 (PySem.W.oi_args (.ref (hh.objs.size + 1))) ?_)
  show wpAny _ _ (Builtin.«object.__init__» ⟨[.ref (hh.objs.size + 1)], []⟩) _ _ _
  rw [PySem.W.oi_run]
  exact wpAny_pure (And.intro rfl ⟨.ref (hh.objs.size + 1), _, I2, rfl, hq⟩)
def tMethD (X : Cx) (m : Str) (E : L2.St → XK) (ta : TE) (t : TA) : TE := fun σ H Q => ta σ H fun x H1 => ∃ a C dx fs f fd ps k sp, x = .ref a ∧ H1 a = some (.ins C dx fs) ∧ fs.lookup m = none ∧ Cls X.K C ∧ Meth X.K C m f ∧ Room k X.A ∧ Binds X.K fd ps [] ∧
  FnOk X.prog X.w X.K X.mg X.base (L2.CX X.prog X.w) k f fd ps sp ∧ t σ H1 fun vs H2 => sp (.ref a :: vs) H2 Q (E σ)
theorem pe_methD {X : Cx} {o e : Expr} {es : List Expr} {m : Str} {E : L2.St → XK} {ta : TE} {t : TA} {apos pos : Pos} (he : PE X o ta) (hx : ∀ σ, PassesAt (L2.CX X.prog X.w) X σ (E σ)) (ha : PA X (e :: es) t)
    (hb : attributeBase o m X.env (eval o X.env) = eval o X.env) (hfew : methodCallForm ((e :: es).length + ([] : List Keyword).length) (backTo pos (starEach (e :: es) X.env)) (backToKw pos (keywordEach [] X.env)) = true) (hline : (apos.endLine == pos.line) = true)
    (hst : starEach (e :: es) X.env = (false, eval e X.env) :: starEach es X.env) (hpl : (backTo pos (starEach es X.env)).any (·.1) = false) :
    PE X (.Call (.Attribute o m apos) (e :: es) [] pos) (tMethD X m E ta t) := by
  refine ⟨fun pins s σ H Q I h => ?_⟩
  refine PySem.W.methodCall_KW (thn (he.run pins s σ H _ I h) fun u s1 ⟨x, H1, I1, rx, a, C, dx, fs, f, fd, ps, k, sp, ex, ea, l, c, hm, hr, hbi, F, q⟩ => ?_) (call_attr_eq hb hfew hline)
  subst ex
  obtain rfl : u = Value.ref a := rx
  refine getmeth_ok I1 ea c hm l ?_
  refine PySem.W.callWith_K (first := [.ref a]) (h₀ := X.base) I.ok.mod.kin hm.kp (thn (ha.run pos pins s1 σ H1 _ I1 q) fun us s2 ⟨vs, H2, I2, r, q2⟩ => ⟨I2.kIn, ?_⟩) hst hpl
  exact run_fnS (us := .ref a :: us) (vs := .ref a :: vs) F hr hbi (hx σ) I2 (.cons rfl r) q2
theorem pe_methD0 {X : Cx} {o : Expr} {m : Str} {E : L2.St → XK} {ta : TE} {apos pos : Pos} (he : PE X o ta) (hx : ∀ σ, PassesAt (L2.CX X.prog X.w) X σ (E σ))
    (hb : attributeBase o m X.env (eval o X.env) = eval o X.env) (hline : (apos.endLine == pos.line) = true) :
    PE X (.Call (.Attribute o m apos) [] [] pos) (tMethD X m E ta tNil) := by
  refine ⟨fun pins s σ H Q I h => ?_⟩
  refine PySem.W.methodCall_KW (thn (he.run pins s σ H _ I h) fun u s1 ⟨x, H1, I1, rx, a, C, dx, fs, f, fd, ps, k, sp, ex, ea, l, c, hm, hr, hbi, F, q⟩ => ?_) (call_attr_eq hb rfl hline)
  subst ex
  obtain rfl : u = Value.ref a := rx
  refine getmeth_ok I1 ea c hm l ?_
  exact PySem.W.callWith_K0 (first := [.ref a]) I1.kIn hm.kp (run_fnS (us := [.ref a]) (vs := [.ref a]) F hr hbi (hx σ) I1 (.cons rfl .nil) q)

/-! ### what is known of the classes -/
structure ClsT (K : PySem.W.Frag) (mg : Str → Option Value) (x : Str) (C : Addr) : Prop where
  m : mg x = some (.ref C)
structure ClsF (K : PySem.W.Frag) (x : Str) (C : Addr) : Prop where
  k : PySem.W.keepIn K (.ref C) = true
  b : PySem.W.subIn K (.ref C) (.type "BaseException") = some true
  t : PySem.W.typeIn K (.ref C) = some (.type "type")
  i : (PySem.W.clsIn K C).isSome = true
  ga : PySem.W.findIn K (.ref C) "__getattribute__" = some (some (.builtin "BaseException.__getattribute__"))
  gk : PySem.W.findIn K (.ref C) "__getattr__" = some none
  ha : PySem.W.findIn K (.ref C) "__class__" = some (some (.builtin "object.__class__"))
  hn : PySem.W.specialIn K (.builtin "object.__class__") "__get__" = some (some (.builtin "getset_descriptor.__get__"))
  ht : PySem.W.takesIn K (.builtin "object.__class__") = some true
  hm : PySem.W.mroIn K C (.type "object") = some true
  v : PySem.W.kitOne K (.ref C) (.type "ValueError") = some true
  hd : exPlain x = false → PySem.W.hasDictIn K C = true
  nf : exPlain x = false → ∀ n ∈ fldNs, PySem.W.findIn K (.ref C) n = some none
  e : exPlain x = true → PySem.W.excIn K C [.type "ValueError", .type "Exception", .type "BaseException", .type "object"] "ValueError.__new__" = true
/-- isinstance of a kept refusal, one class or several -/
theorem kit_exv {X : Cx} {pins : List (Addr × Obj)} {σ : L2.St} {H : Hp} {s : Shared} {x : Str} {a C : Addr} {d : Option Addr} (I : Inv X pins σ H s) (f : ClsF X.K x C) (e : H a = some (exv a (.ref C) d)) (hd : ∀ dx, d = some dx → ∃ vs, H dx = some (.xd vs)) :
    ∃ P : Heap → Prop, PySem.W.KitX X.K (.ref a) (.ref C) P ∧ P s.heap := by
  obtain ⟨oe, vs, h1, h2, h3, h4⟩ := exv_at I.hok e
  have odx : ∃ od, PySem.W.InstAt s.heap a oe C od := by
    obtain ⟨oc, od, da, sl⟩ := oe
    dsimp only at h2 h3 h4
    subst h2 h3 h4
    cases od with
    | none => exact ⟨none, h1, rfl, rfl, trivial⟩
    | some dx =>
      obtain ⟨ws, hw⟩ := hd dx rfl
      obtain ⟨_, ⟨o, _, _, ho, _⟩, _⟩ := (show ObjOk X.prog X.w H s.heap dx (.xd ws) from I.hok dx _ hw)
      exact ⟨some o, h1, rfl, rfl, ho⟩
  obtain ⟨od, J⟩ := odx
  exact ⟨_, PySem.W.kitx_exc (od := od) f.i f.ga f.gk f.b f.ha f.hn f.ht f.hm, J⟩
theorem call_isx {X : Cx} {x : Str} {C : Addr} (f : ClsF X.K x C) : CallR X (.builtin "isinstance") (fun xs H Q => ∃ (a : Addr) (d : Option Addr) (c : V) (cv : Value) (b : Bool), xs = [.ref a, c] ∧ H a = some (exv a (.ref C) d) ∧ (∀ dx, d = some dx → ∃ vs, H dx = some (.xd vs)) ∧
    ClsV c cv ∧ PySem.W.kitOne X.K (.ref C) cv = some b ∧ Q (.bl b) H) := by
  intro pins s σ H xs us Q I r h
  obtain ⟨a, d, c, cv, b, rfl, ha, hd, kc, e, q⟩ := h
  obtain ⟨u1, u2, rfl, r1, r2⟩ := vals2 r
  cases (show u1 = Value.ref a from r1)
  have e2 := kc.eq r2
  subst e2
  obtain ⟨P, Z, p⟩ := kit_exv I f ha hd
  exact PySem.W.kia_one Z I.kIn p e (fun z => nomatch z) fun tk => ⟨.bl b, H, I.tok tk, rfl, q⟩
theorem call_isxT {X : Cx} {x : Str} {C : Addr} (f : ClsF X.K x C) : CallR X (.builtin "isinstance") (fun xs H Q => ∃ (a tp : Addr) (d : Option Addr) (cs : List V) (us : List Value) (b : Bool), xs = [.ref a, .ref tp] ∧ H a = some (exv a (.ref C) d) ∧ (∀ dx, d = some dx → ∃ vs, H dx = some (.xd vs)) ∧
    SqT X.K H tp cs ∧ Paired ClsV cs us ∧ PySem.W.kitAny X.K (.ref C) us = some b ∧ Q (.bl b) H) := by
  intro pins s σ H xs us0 Q I r h
  obtain ⟨a, tp, d, cs, us, b, rfl, ha, hd, hT, kc, e, q⟩ := h
  obtain ⟨u1, u2, rfl, r1, r2⟩ := vals2 r
  cases (show u1 = Value.ref a from r1)
  cases (show u2 = Value.ref tp from r2)
  obtain ⟨P, Z, p⟩ := kit_exv I f ha hd
  obtain ⟨its, rv, ⟨⟨oc, od, dt, sl⟩, ho, h2, n, h3⟩, hs⟩ := I.tuple hT
  have e3 := ClsV.all kc rv
  subst e3
  dsimp only at h2 h3
  subst h2 h3
  exact PySem.W.kia_tup Z I.kIn p ho e (fun z => nomatch z) fun tk => ⟨.bl b, H, I.tok tk, rfl, q⟩
/-- an attribute as an assignment's target -/
theorem pg_fld {X : Cx} {o : Expr} {f : Str} {pos : Pos} {to : TE} (ho : PE X o to) : PG X (.Attribute o f pos) (fun v σ H Q => to σ H fun x H1 => ∃ a C dx fs, x = .ref a ∧ H1 a = some (.ins C dx fs) ∧ Cls X.K C ∧ NoAttr X.K C f ∧ fs.length < 1000 ∧ Q σ (upd H1 a (.ins C dx (putF f v fs)))) := ⟨fun pins s σ H v u Q I r h => by
  unfold assign
  refine wpAny_bind (wpAny_holding (thn (ho.run pins s σ H _ I h) fun ov s1 ⟨x, H1, I1, r1, a, C, dx, fs, ex, ea, c, n, l, q⟩ => ?_))
  subst ex
  obtain rfl : ov = .ref a := r1
  exact wpAny_bind (wpAny_standAt (wpAny_bind (wpAny_holding (setattr_ok I1 ea c n l r fun s3 I3 => wpAny_release ⟨σ, _, I3, q⟩))))⟩
end DL

namespace DL
open PySem PySem.Spec PyProof.Rows L2

/-! ### does a core text stand for a piece of the program's text? -/
structure Tb where
  N : List Str
  fns : List (Str × Nat)
  gls : List Str
  /-- within an except suite -/
  hot : Bool := false
  /-- classes without an __init__; classes' methods: the class, the name, how many, where its promise lies -/
  obs : List Str := []
  mts : List (Str × Str × Nat × Nat) := []
  /-- defs that may be called within an except suite: the name, how many, where its promise lies -/
  hfs : List (Str × Nat × Nat) := []
def coldB (tb : Tb) : Bool := !tb.hot
def kOf (sc : Scope) (x : Str) : Option NameKind := sc.names.lookup x
def visB (sc : Scope) (x : Str) : Bool := decide (kOf sc x = some .local) || decide (kOf sc x = some .cell) || decide (kOf sc x = some .free)
def locB (sc : Scope) (x : Str) : Bool := decide (kOf sc x = some .local) || decide (kOf sc x = some .cell)
def gloB (sc : Scope) (x : Str) : Bool := decide (kOf sc x = some .globalImplicit)
def undB (x : Str) : Bool := !(x == ("__debug__" : Str)) && !(x == ("__classdict__" : Str))
def noStar : Expr → Bool
  | .Starred .. => false
  | _ => true
def noStars : List Expr → Bool
  | [] => true
  | e :: es => noStar e && noStars es
def noSet : Expr → Bool
  | .Set .. => false
  | _ => true
def noSlice : Expr → Bool
  | .Slice .. => false
  | _ => true
def noCall0 : Expr → Bool
  | .Call (.Name ..) [] [] _ => false
  | _ => true
def noComp : Expr → Bool
  | .ListComp .. => false
  | .SetComp .. => false
  | .DictComp .. => false
  | _ => true
/-- a test that is a value's truth -/
def plainT : Expr → Bool
  | .UnaryOp .Not .. => false
  | .BoolOp .. => false
  | .IfExp .. => false
  | .Compare .. => false
  | _ => true
def onName (e : Expr) (k : Str → Bool) : Bool := match e with
  | .Name x _ => k x
  | _ => false
def onConst (e : Expr) (k : Const → Bool) : Bool := match e with
  | .Constant c _ _ => k c
  | _ => false
def onBin (e : Expr) (o : Operator) (k : Expr → Expr → Bool) : Bool := match e with
  | .BinOp a o' b _ => decide (o = o') && k a b
  | _ => false
def onUn (e : Expr) (o : UnaryOp) (k : Expr → Bool) : Bool := match e with
  | .UnaryOp o' a _ => decide (o = o') && k a
  | _ => false
def onCmp (e : Expr) (o : CmpOp) (k : Expr → Expr → Bool) : Bool := match e with
  | .Compare a [o'] [b] _ => decide (o = o') && k a b
  | _ => false
def onCmp2 (e : Expr) (o p : CmpOp) (k : Expr → Expr → Expr → Bool) : Bool := match e with
  | .Compare a [o', p'] [b, c] _ => decide (o = o') && (decide (p = p') && k a b c)
  | _ => false
/-- a and (b and ..): the first part, the rest as it stands -/
def onBool (e : Expr) (o : PySem.BoolOp) (k : Expr → Expr → Bool) : Bool := match e with
  | .BoolOp o' [a, b] _ => decide (o = o') && k a b
  | .BoolOp o' (a :: b :: c :: r) p => decide (o = o') && k a (.BoolOp o (b :: c :: r) p)
  | _ => false
def onIf (e : Expr) (k : Expr → Expr → Expr → Bool) : Bool := match e with
  | .IfExp t a b _ => k t a b
  | _ => false
def onSub (e : Expr) (k : Expr → Expr → Bool) : Bool := match e with
  | .Subscript a i _ => k a i
  | _ => false
def onSlice (e : Expr) (k : Option Expr → Option Expr → Bool) : Bool := match e with
  | .Slice lo hi none _ => k lo hi
  | _ => false
def isBack (e : Expr) : Bool := match e with
  | .Slice none none (some (.UnaryOp .USub (.Constant (.int 1) _ _) _)) _ => true
  | _ => false
theorem isBack_inv {e : Expr} (h : isBack e = true) : ∃ k p1 p2 p3, e = .Slice none none (some (.UnaryOp .USub (.Constant (.int 1) k p1) p2)) p3 := by
  unfold isBack at h; split at h <;> first | exact ⟨_, _, _, _, rfl⟩ | cases h
def isTwo (b : Bool) (e : Expr) : Bool := match e with
  | .Slice (some (.Constant (.int j) _ _)) none (some (.Constant (.int 2) _ _)) _ => decide (j = if b then 1 else 0)
  | _ => false
theorem isTwo_inv {b : Bool} {e : Expr} (h : isTwo b e = true) : ∃ j k k2 p1 p2 p3, e = .Slice (some (.Constant (.int j) k p1)) none (some (.Constant (.int 2) k2 p2)) p3 ∧ j = if b then 1 else 0 := by
  unfold isTwo at h; split at h <;> first | exact ⟨_, _, _, _, _, _, rfl, of_decide_eq_true h⟩ | cases h
def onTup (e : Expr) (k : List Expr → Bool) : Bool := match e with
  | .Tuple es _ _ => k es
  | _ => false
def onLst (e : Expr) (k : List Expr → Bool) : Bool := match e with
  | .List es _ => k es
  | _ => false
def onCall (e : Expr) (k : Str → List Expr → Bool) : Bool := match e with
  | .Call (.Name x _) es [] _ => k x es
  | _ => false
def onMeth (e : Expr) (k : Expr → Str → List Expr → Bool) : Bool := match e with
  | .Call (.Attribute o m ap) es [] cp => (ap.endLine == cp.line) && k o m es
  | _ => false
def onComp (e : Expr) (k : Expr → Expr → Expr → List Expr → Scope → Bool) : Bool := match e with
  | .ListComp elt [⟨tg, it, ifs, 0⟩] sc _ => k elt tg it ifs sc
  | _ => false
def onDict (e : Expr) (k : List (Option Expr) → List Expr → Bool) : Bool := match e with
  | .Dict ks vs _ => k ks vs
  | _ => false
theorem onDict_inv {e : Expr} {k : List (Option Expr) → List Expr → Bool} (h : onDict e k = true) : ∃ ks vs p, e = .Dict ks vs p ∧ k ks vs = true := by
  unfold onDict at h; split at h <;> first | exact ⟨_, _, _, rfl, h⟩ | cases h
/-- keys and values by turns -/
def inter : List (Option Expr) → List Expr → List Expr
  | some k :: ks, v :: vs => k :: v :: inter ks vs
  | _, _ => []
/-- a written table of texts and numbers -/
def lookB : List (Str × Int) → List (Option Expr) → List Expr → Bool
  | [], ks, vs => ks.isEmpty && vs.isEmpty
  | (s, n) :: ps, some k :: ks, v :: vs => onConst k (fun c => decide (c = .str s)) && (onConst v (fun c => decide (c = .int n)) && lookB ps ks vs)
  | _, _, _ => false
def onCons (es : List Expr) (k : Expr → List Expr → Bool) : Bool := match es with
  | e :: r => k e r
  | [] => false
theorem onName_inv {e : Expr} {k : Str → Bool} (h : onName e k = true) : ∃ x p, e = .Name x p ∧ k x = true := by
  unfold onName at h; split at h <;> first | exact ⟨_, _, rfl, h⟩ | cases h
theorem onConst_inv {e : Expr} {k : Const → Bool} (h : onConst e k = true) : ∃ c j p, e = .Constant c j p ∧ k c = true := by
  unfold onConst at h; split at h <;> first | exact ⟨_, _, _, rfl, h⟩ | cases h
theorem onBin_inv {e : Expr} {o : Operator} {k : Expr → Expr → Bool} (h : onBin e o k = true) : ∃ a b p, e = .BinOp a o b p ∧ k a b = true := by
  unfold onBin at h; split at h
  · have h := Bool.and_eq_true_iff.mp h
    have e := of_decide_eq_true h.1
    subst e
    exact ⟨_, _, _, rfl, h.2⟩
  · cases h
theorem onUn_inv {e : Expr} {o : UnaryOp} {k : Expr → Bool} (h : onUn e o k = true) : ∃ a p, e = .UnaryOp o a p ∧ k a = true := by
  unfold onUn at h; split at h
  · have h := Bool.and_eq_true_iff.mp h
    have e := of_decide_eq_true h.1
    subst e
    exact ⟨_, _, rfl, h.2⟩
  · cases h
theorem onCmp_inv {e : Expr} {o : CmpOp} {k : Expr → Expr → Bool} (h : onCmp e o k = true) : ∃ a b p, e = .Compare a [o] [b] p ∧ k a b = true := by
  unfold onCmp at h; split at h
  · have h := Bool.and_eq_true_iff.mp h
    have e := of_decide_eq_true h.1
    subst e
    exact ⟨_, _, _, rfl, h.2⟩
  · cases h
theorem onCmp2_inv {e : Expr} {o o' : CmpOp} {k : Expr → Expr → Expr → Bool} (h : onCmp2 e o o' k = true) : ∃ a b c p, e = .Compare a [o, o'] [b, c] p ∧ k a b c = true := by
  unfold onCmp2 at h; split at h
  · have h := Bool.and_eq_true_iff.mp h
    have e := of_decide_eq_true h.1
    subst e
    have h := Bool.and_eq_true_iff.mp h.2
    have e := of_decide_eq_true h.1
    subst e
    exact ⟨_, _, _, _, rfl, h.2⟩
  · cases h
theorem onBool_inv {e : Expr} {o : PySem.BoolOp} {k : Expr → Expr → Bool} (h : onBool e o k = true) : (∃ a b p, e = .BoolOp o [a, b] p ∧ k a b = true) ∨ ∃ a b c r p, e = .BoolOp o (a :: b :: c :: r) p ∧ k a (.BoolOp o (b :: c :: r) p) = true := by
  unfold onBool at h; split at h
  · have h := Bool.and_eq_true_iff.mp h
    have e := of_decide_eq_true h.1
    subst e
    exact .inl ⟨_, _, _, rfl, h.2⟩
  · have h := Bool.and_eq_true_iff.mp h
    have e := of_decide_eq_true h.1
    subst e
    exact .inr ⟨_, _, _, _, _, rfl, h.2⟩
  · cases h
theorem onIf_inv {e : Expr} {k : Expr → Expr → Expr → Bool} (h : onIf e k = true) : ∃ t a b p, e = .IfExp t a b p ∧ k t a b = true := by
  unfold onIf at h; split at h <;> first | exact ⟨_, _, _, _, rfl, h⟩ | cases h
theorem onSub_inv {e : Expr} {k : Expr → Expr → Bool} (h : onSub e k = true) : ∃ a i p, e = .Subscript a i p ∧ k a i = true := by
  unfold onSub at h; split at h <;> first | exact ⟨_, _, _, rfl, h⟩ | cases h
theorem onSlice_inv {e : Expr} {k : Option Expr → Option Expr → Bool} (h : onSlice e k = true) : ∃ lo hi p, e = .Slice lo hi none p ∧ k lo hi = true := by
  unfold onSlice at h; split at h <;> first | exact ⟨_, _, _, rfl, h⟩ | cases h
theorem onTup_inv {e : Expr} {k : List Expr → Bool} (h : onTup e k = true) : ∃ es j p, e = .Tuple es j p ∧ k es = true := by
  unfold onTup at h; split at h <;> first | exact ⟨_, _, _, rfl, h⟩ | cases h
theorem onLst_inv {e : Expr} {k : List Expr → Bool} (h : onLst e k = true) : ∃ es p, e = .List es p ∧ k es = true := by
  unfold onLst at h; split at h <;> first | exact ⟨_, _, rfl, h⟩ | cases h
theorem onCall_inv {e : Expr} {k : Str → List Expr → Bool} (h : onCall e k = true) : ∃ x p es q, e = .Call (.Name x p) es [] q ∧ k x es = true := by
  unfold onCall at h; split at h <;> first | exact ⟨_, _, _, _, rfl, h⟩ | cases h
def onAttr (e : Expr) (k : Expr → Str → Bool) : Bool := match e with
  | .Attribute o n _ => k o n
  | _ => false
theorem onAttr_inv {e : Expr} {k : Expr → Str → Bool} (h : onAttr e k = true) : ∃ o n p, e = .Attribute o n p ∧ k o n = true := by
  unfold onAttr at h; split at h <;> first | exact ⟨_, _, _, rfl, h⟩ | cases h
theorem onMeth_inv {e : Expr} {k : Expr → Str → List Expr → Bool} (h : onMeth e k = true) : ∃ o m ap es cp, e = .Call (.Attribute o m ap) es [] cp ∧ (ap.endLine == cp.line) = true ∧ k o m es = true := by
  unfold onMeth at h; split at h
  · have h := Bool.and_eq_true_iff.mp h
    exact ⟨_, _, _, _, _, rfl, h.1, h.2⟩
  · cases h
theorem onComp_inv {e : Expr} {k : Expr → Expr → Expr → List Expr → Scope → Bool} (h : onComp e k = true) : ∃ elt tg it ifs sc p, e = .ListComp elt [⟨tg, it, ifs, 0⟩] sc p ∧ k elt tg it ifs sc = true := by
  unfold onComp at h; split at h <;> first | exact ⟨_, _, _, _, _, _, rfl, h⟩ | cases h
theorem onCons_inv {es : List Expr} {k : Expr → List Expr → Bool} (h : onCons es k = true) : ∃ e r, es = e :: r ∧ k e r = true := by
  unfold onCons at h; split at h <;> first | exact ⟨_, _, rfl, h⟩ | cases h
theorem star_ok {e : Expr} (h : noStar e = true) (es : List Expr) (env : Env) : starEach (e :: es) env = (false, eval e env) :: starEach es env := by
  cases e <;> first | rfl | cases h
theorem stars_ok (pos : Pos) (env : Env) : ∀ {es : List Expr}, noStars es = true → (backTo pos (starEach es env)).any (·.1) = false
  | [], _ => rfl
  | e :: es, h => by
    have h := Bool.and_eq_true_iff.mp h
    rw [star_ok h.1]
    exact stars_ok pos env h.2
theorem attr_ok {o : Expr} (h : noCall0 o = true) (m : Str) (env : Env) (w : Sem Value) : attributeBase o m env w = w := by
  unfold attributeBase
  split
  · rename_i z
    cases h
  · rfl
theorem set_ok {e : Expr} (h : noSet e = true) (env : Env) (x : Value) : foldedSetIterable e env x = pure x := by
  cases e <;> first | rfl | cases h
theorem truth_ok {e : Expr} (h : plainT e = true) (env : Env) (w : Sem Value) : isTrue e env w = (do let v ← w; standAt e.pos; holding [v] (truthy v)) := by
  cases e <;> first | rfl | cases h | skip
  rename_i o a p
  cases o <;> first | rfl | cases h
theorem slice_ok {e : Expr} (h : noSlice e = true) : PlainIx e := fun o i => by
  cases e <;> first | rfl | cases h
theorem swap_ok {e : Expr} (h : noComp e = true) (t : Option Expr) (l : Nat) (env : Env) : swapsWith e t l env = pure false := by
  cases e <;> first | rfl | cases h

def recvB (e : Expr) : Bool := noCall0 e || (match e with
  | .Call (.Name id _) [] [] _ => id != ("super" : Str)
  | _ => false)
theorem recv_ok {o : Expr} (h : recvB o = true) (m : Str) (env : Env) (w : Sem Value) : attributeBase o m env w = w := by
  unfold recvB at h
  rcases Bool.or_eq_true_iff.mp h with z | z
  · exact attr_ok z m env w
  · split at z
    · exact abase_call z
    · cases z
theorem few_ok {es : List Expr} (h : noStars es = true) (l : es.length < 30) (pos : Pos) (env : Env) : methodCallForm (es.length + ([] : List Keyword).length) (backTo pos (starEach es env)) (backToKw pos (keywordEach [] env)) = true := by
  have e := stars_ok pos env h
  have e2 : (backTo pos (starEach es env)).all (!·.1) = true := by
    rw [List.all_eq_true]
    intro x hx
    have := List.any_eq_false.mp e x hx
    simpa using this
  show ((backTo pos (starEach es env)).all (!·.1) && true && decide (es.length + 0 + 0 < 30)) = true
  rw [e2, decide_eq_true (show es.length + 0 + 0 < 30 by omega)]; rfl
def onOne2' (es : List Expr) (k : Expr → Bool) : Bool := match es with
  | [e] => k e
  | _ => false
theorem onOne2'_inv {es : List Expr} {k : Expr → Bool} (h : onOne2' es k = true) : ∃ e, es = [e] ∧ k e = true := by
  unfold onOne2' at h; split at h <;> first | exact ⟨_, rfl, h⟩ | cases h
def tgNames : Tg → List Nat
  | .name i => [i]
  | .tup is => is
/-- a target's names, at their places, of the kinds that sc tells -/
def chkNs (tb : Tb) (sc : Scope) : List Nat → List Expr → Bool
  | [], [] => true
  | i :: is, e :: es => onName e (fun x => decide (tb.N[i]? = some x) && locB sc x) && chkNs tb sc is es
  | _, _ => false
def chkTg (tb : Tb) (sc : Scope) (tg : Tg) (e : Expr) : Bool := match tg with
  | .name i => onName e fun x => decide (tb.N[i]? = some x) && locB sc x
  | .tup is => onTup e fun es => coldB tb && chkNs tb sc is es
def isTupE : Expr → Bool
  | .Tuple .. => true
  | _ => false
def meName : Me → Str
  | .append => "append"
  | .extend => "extend"
  | .pop => "pop"
  | .count => "count"
  | .index => "index"
def ownOf (tb : Tb) (vs : List Nat) : List (Str × Nat) := vs.map fun i => (tb.N.getD i "", i)
/-- what stands behind is, is not -/
def isLit (o : CO) (b : C) : Bool := match o with
  | .isN | .notN => (match b with | .non => true | _ => false)
  | .isB k | .notB k => (match b with | .bl k' => k == k' | _ => false)
  | _ => true
def isLess (o o' : CO) : Bool := match o, o' with
  | .lt, .lt | .lt, .le | .le, .lt | .le, .le => true
  | _, _ => false
def isYes : T → Bool
  | .yes => true
  | _ => false
def ifsB (y : Bool) (k : Expr → Bool) (ifs : List Expr) : Bool := match ifs with
  | [] => y
  | [c] => k c
  | _ => false
mutual
def chkE (tb : Tb) : C → Scope → Expr → Bool
  | .var i, sc, e => onName e fun x => decide (tb.N[i]? = some x) && (visB sc x && undB x)
  | .int n, _, e => onConst e fun c => decide (c = .int n)
  | .str x, _, e => onConst e fun c => decide (c = .str x)
  | .bl b, _, e => onConst e fun c => decide (c = .bool b)
  | .non, _, e => onConst e fun c => decide (c = .none)
  | .glob i, sc, e => onName e fun x => decide (tb.gls[i]? = some x) && (gloB sc x && undB x)
  | .bin o a b, sc, e => onBin e (boOp o) fun a' b' => chkE tb a sc a' && chkE tb b sc b'
  | .neg a, sc, e => onUn e .USub fun a' => chkE tb a sc a'
  | .cmp o a b, sc, e => onCmp e (coOp o) fun a' b' => chkE tb a sc a' && (chkE tb b sc b' && (noSet b' && isLit o b))
  | .chain o o' a b c, sc, e => onCmp2 e (coOp o) (coOp o') fun a' b' c' => chkE tb a sc a' && (chkE tb b sc b' && (chkE tb c sc c' && (noSet c' && isLess o o')))
  | .and a b, sc, e => onBool e .And fun a' b' => chkE tb a sc a' && chkE tb b sc b'
  | .or a b, sc, e => onBool e .Or fun a' b' => chkE tb a sc a' && chkE tb b sc b'
  | .not a, sc, e => onUn e .Not fun a' => chkE tb a sc a'
  | .ite t a b, sc, e => onIf e fun t' a' b' => chkT tb t sc t' && (chkE tb a sc a' && chkE tb b sc b')
  | .idx a i, sc, e => onSub e fun a' i' => chkE tb a sc a' && (chkE tb i sc i' && noSlice i')
  | .sl _ a lo hi, sc, e => onSub e fun a' s' => onSlice s' fun lo' hi' => chkE tb a sc a' && ((match lo' with
      | none => isAbs lo
      | some l => !isAbs lo && chkE tb lo sc l) && (match hi' with
      | none => isAbs hi
      | some l => !isAbs hi && chkE tb hi sc l))
  | .sl2 _ b a, sc, e => onSub e fun a' s' => isTwo b s' && chkE tb a sc a'
  | .revs a, sc, e => onSub e fun a' s' => isBack s' && chkE tb a sc a'
  | .absent, _, _ => false
  | .tup as, sc, e => onTup e fun es => chkA tb as sc es && decide (as.len ≤ 1000)
  | .lst _ as, sc, e => onLst e fun es => chkA tb as sc es && decide (as.len ≤ 1000)
  | .mget i a, sc, e => onSub e fun d i' => onName d fun x => decide (tb.gls[i]? = some x) && (gloB sc x && (undB x && (chkE tb a sc i' && noSlice i')))
  | .callV i fs as, sc, e => onCall e fun x es => decide (tb.N[i]? = some x) && (visB sc x && (undB x && ((fs.all fun p => decide (tb.fns[p.2]? = some (p.1, as.len)) && decide (p.1 ≠ "")) && (chkA tb as sc es && !es.isEmpty))))
  | .callH f as, sc, e => onCall e fun x es => (decide ((x, as.len, f) ∈ tb.hfs) && decide (x ≠ "")) && (gloB sc x && (undB x && (chkA tb as sc es && !es.isEmpty)))
  | .call f as, sc, e => onCall e fun x es => (decide (tb.fns[f]? = some (x, as.len)) && decide (x ≠ "")) && (gloB sc x && (undB x && (chkA tb as sc es && !es.isEmpty)))
  | .callN f as, sc, e => onCall e fun x es => (decide (tb.fns[f]? = some (x, as.len)) && decide (x ≠ "")) && (gloB sc x && (undB x && (chkA tb as sc es && !es.isEmpty)))
  | .fld a n, sc, e => onAttr e fun a' n' => decide (n' = n) && (noCall0 a' && chkE tb a sc a')
  | .new0 x i, sc, e => onCall e fun x' es => decide (x' = x) && (decide (tb.gls[i]? = some x) && (decide (x ∈ tb.obs) && (gloB sc x && (undB x && es.isEmpty))))
  | .meth o m rs as, sc, e => onMeth e fun o' m' es => chkE tb o sc o' && (recvB o' && (decide (m' = m) && (rs.all (fun p => decide ((p.1, m, as.len + 1, p.2) ∈ tb.mts)) && (chkA tb as sc es && decide (es.length < 30)))))
  | .revT _ a, sc, e => coldB tb && onCall e fun x es => decide (x = "list") && (gloB sc x && (onOne2' es fun e1 => noStar e1 && onCall e1 fun y es2 => decide (y = "reversed") && (gloB sc y && (onOne2' es2 fun e2 => noStar e2 && chkE tb a sc e2))))
  | .trng as, sc, e => coldB tb && onCall e fun x es => decide (x = "tuple") && (gloB sc x && (onOne2' es fun e1 => noStar e1 && onCall e1 fun y es2 => decide (y = "range") && (gloB sc y && (chkA tb as sc es2 && (decide (es2.length = 1) || decide (es2.length = 2) || decide (es2.length = 3))))))
  | .lzip _ as, sc, e => coldB tb && onCall e fun x es => decide (x = "list") && (gloB sc x && (onOne2' es fun e1 => noStar e1 && onCall e1 fun y es2 => decide (y = "zip") && (gloB sc y && (chkA tb as sc es2 && decide (es2.length = 2)))))
  | .lrng _ as, sc, e => coldB tb && onCall e fun x es => decide (x = "list") && (gloB sc x && (onOne2' es fun e1 => noStar e1 && onCall e1 fun y es2 => decide (y = "range") && (gloB sc y && (chkA tb as sc es2 && (decide (es2.length = 1) || decide (es2.length = 2))))))
  | .attr a n, sc, e => onAttr e fun a' n' => decide (n' = n) && (noCall0 a' && chkE tb a sc a')
  | .newI _ x i j as, sc, e => onCall e fun x' es => decide (x' = x) && (decide (tb.gls[i]? = some x) && (decide ((x, ("__init__" : Str), as.len + 1, j) ∈ tb.mts) && (gloB sc x && (undB x && (chkA tb as sc es && !es.isEmpty)))))
  | .bi b as, sc, e => onCall e fun x es => coldB tb && (decide (x = biName b) && (gloB sc x && (chkA tb as sc es && !es.isEmpty)))
  | .isi a t, sc, e => onCall e fun x es => decide (x = "isinstance") && (gloB sc x && (match es with
      | [a', t'] => chkE tb a sc a' && (noStar a' && onName t' fun y => decide (y = Str.ofString t) && (gloB sc y && ["int", "bool", "str", "tuple", "list", "dict"].contains t))
      | _ => false))
  | .isx a b, sc, e => onCall e fun x es => decide (x = "isinstance") && (gloB sc x && (match es with
      | [a', b'] => noStar a' && (noStar b' && (chkE tb a sc a' && chkE tb b sc b'))
      | _ => false))
  | .isv a, sc, e => onCall e fun x es => decide (x = "isinstance") && (gloB sc x && (match es with
      | [a', t'] => noStar a' && (chkE tb a sc a' && onName t' fun y => decide (y = "ValueError") && gloB sc y)
      | _ => false))
  | .me0 m o, sc, e => onMeth e fun o' m' es => chkE tb o sc o' && (noCall0 o' && (decide (m' = meName m) && (es.isEmpty && (match m with | .pop => true | _ => false))))
  | .me1 m o a, sc, e => onMeth e fun o' m' es => chkE tb o sc o' && (noCall0 o' && (decide (m' = meName m) && (match es with
      | [a'] => noStar a' && chkE tb a sc a'
      | _ => false)))
  | .dict0, _, e => onDict e fun ks vs => ks.isEmpty && vs.isEmpty
  | .dnew, _, e => onDict e fun ks vs => ks.isEmpty && vs.isEmpty
  | .disp as, sc, e => onDict e fun ks vs => ks.all (·.isSome) && (decide (ks.length = vs.length) && (decide (ks.length ≤ 15) && (decide (ks ≠ []) && chkA tb as sc (inter ks vs))))
  | .split a b, sc, e => onMeth e fun o' m' es => chkE tb a sc o' && (noCall0 o' && (decide (m' = "split") && (match es with
      | [a'] => noStar a' && chkE tb b sc a'
      | _ => false)))
  | .join a b, sc, e => onMeth e fun o' m' es => chkE tb a sc o' && (noCall0 o' && (decide (m' = "join") && (match es with
      | [a'] => noStar a' && chkE tb b sc a'
      | _ => false)))
  | .sw a b, sc, e => onMeth e fun o' m' es => chkE tb a sc o' && (noCall0 o' && (decide (m' = "startswith") && (match es with
      | [a'] => noStar a' && chkE tb b sc a'
      | _ => false)))
  | .idxS a i, sc, e => onSub e fun a' i' => chkE tb a sc a' && (chkE tb i sc i' && noSlice i')
  | .intS a, sc, e => onCall e fun x es => coldB tb && (decide (x = "int") && (gloB sc x && onOne2' es fun a' => noStar a' && chkE tb a sc a'))
  | .dget a i, sc, e => onSub e fun a' i' => chkE tb a sc a' && (chkE tb i sc i' && noSlice i')
  | .dict as, sc, e => onDict e fun ks vs => ks.all (·.isSome) && (decide (ks.length = vs.length) && (decide (ks.length ≤ 15) && chkA tb as sc (inter ks vs)))
  | .look ps a, sc, e => onSub e fun d i => onDict d fun ks vs => lookB ps ks vs && (decide (ps ≠ []) && (decide (ps.length ≤ 15) && (decide ((ps.map (·.1)).Nodup) && (chkE tb a sc i && noSlice i))))
  | .comp _ vs tg it cond elt, sc, e => onComp e fun elt' tg' it' ifs' scope => coldB tb && (chkI tb it sc tg' it' && (noSet it' && (blkC tb.N sc scope (ownOf tb vs) && (chkTg tb scope tg tg' && ((tgNames tg).all (vs.contains ·) &&
      (ifsB (isYes cond) (fun c' => chkT tb cond (relS scope sc) c') ifs' && chkE tb elt (relS scope sc) elt'))))))
def chkA (tb : Tb) : Cs → Scope → List Expr → Bool
  | .nil, _, es => es.isEmpty
  | .cons a as, sc, es => onCons es fun e r => noStar e && (chkE tb a sc e && chkA tb as sc r)
def chkT (tb : Tb) : T → Scope → Expr → Bool
  | .and a b, sc, e => onBool e .And fun a' b' => chkT tb a sc a' && chkT tb b sc b'
  | .or a b, sc, e => onBool e .Or fun a' b' => chkT tb a sc a' && chkT tb b sc b'
  | .not a, sc, e => onUn e .Not fun a' => chkT tb a sc a'
  | .of a, sc, e => plainT e && chkE tb a sc e
  | .cmp o a b, sc, e => onCmp e (coOp o) fun a' b' => chkE tb a sc a' && (chkE tb b sc b' && (noSet b' && isLit o b))
  | .mdin b a i, sc, e => onCmp e (coOp (if b then .isin else .notin)) fun a' d => onName d fun x => decide (tb.gls[i]? = some x) && (gloB sc x && (undB x && chkE tb a sc a'))
  | .din b i a, sc, e => onCmp e (coOp (if b then .isin else .notin)) fun i' a' => chkE tb i sc i' && (chkE tb a sc a' && noSet a')
  | .chain o o' a b c, sc, e => onCmp2 e (coOp o) (coOp o') fun a' b' c' => chkE tb a sc a' && (chkE tb b sc b' && (chkE tb c sc c' && (noSet c' && isLess o o')))
  | .yes, _, _ => false
def chkI (tb : Tb) : Ic → Scope → Expr → Expr → Bool
  | .seq a, sc, _, e => chkE tb a sc e
  | .rng as, sc, _, e => onCall e fun x es => decide (x = "range") && (gloB sc x && (chkA tb as sc es && (decide (as.len = 1) || decide (as.len = 2) || decide (as.len = 3))))
  | .enum a, sc, tg, e => onCall e fun x es => decide (x = "enumerate") && (gloB sc x && (isTupE tg && (match es with
      | [a'] => noStar a' && chkE tb a sc a'
      | _ => false)))
  | .zip a b, sc, tg, e => onCall e fun x es => decide (x = "zip") && (gloB sc x && (isTupE tg && (match es with
      | [a', b'] => noStar a' && (noStar b' && (chkE tb a sc a' && chkE tb b sc b'))
      | _ => false)))
  | .zip3 a b c, sc, tg, e => onCall e fun x es => decide (x = "zip") && (gloB sc x && (isTupE tg && (match es with
      | [a', b', c'] => noStar a' && (noStar b' && (noStar c' && (chkE tb a sc a' && (chkE tb b sc b' && chkE tb c sc c'))))
      | _ => false)))
  | .rev a, sc, _, e => onCall e fun x es => decide (x = "reversed") && (gloB sc x && (match es with
      | [a'] => noStar a' && chkE tb a sc a'
      | _ => false))
end
end DL

namespace DL
open PySem PySem.Spec PyProof.Rows L2

/-! ### slots -/
def Sig (K : PySem.W.Frag) (F : Hp) (σd : DSt) (σ : L2.St) : Prop := σd.length = σ.length ∧ ∀ (i : Nat) d, σd[i]? = some (some d) → ∃ v, σ[i]? = some (some v) ∧ Rep K F d v
theorem Sig.mono {K : PySem.W.Frag} {F F' : Hp} {σd : DSt} {σ : L2.St} (S : Sig K F σd σ) (s : Same F F') : Sig K F' σd σ := ⟨S.1, fun i d h => by
  obtain ⟨v, h1, r⟩ := S.2 i d h
  exact ⟨v, h1, r.mono s⟩⟩
theorem Sig.set {K : PySem.W.Frag} {F : Hp} {σd : DSt} {σ : L2.St} {d : D} {v : V} (S : Sig K F σd σ) (i : Nat) (r : Rep K F d v) : Sig K F (σd.set i (some d)) (σ.set i (some v)) := by
  refine ⟨by rw [List.length_set, List.length_set]; exact S.1, fun j e h => ?_⟩
  by_cases hj : i = j
  · subst hj
    have hl := (List.getElem?_eq_some_iff.mp h).1
    rw [List.length_set] at hl
    rw [List.getElem?_set_self hl] at h
    cases h
    rw [S.1] at hl
    exact ⟨v, List.getElem?_set_self hl, r⟩
  · rw [List.getElem?_set_ne hj] at h ⊢
    exact S.2 j e h
theorem Sig.wipe {K : PySem.W.Frag} {F : Hp} {σd : DSt} {σ : L2.St} (S : Sig K F σd σ) : ∀ vs : List Nat, Sig K F (dwipe σd vs) (L2.wipe σ vs)
  | [] => S
  | v :: vs => by
    have ih := Sig.wipe S vs
    refine ⟨by unfold dwipe L2.wipe; rw [List.length_set, List.length_set]; exact ih.1, fun j e h => ?_⟩
    unfold dwipe at h
    unfold L2.wipe
    by_cases hj : v = j
    · subst hj
      have hl := (List.getElem?_eq_some_iff.mp h).1
      rw [List.length_set] at hl
      rw [List.getElem?_set_self hl] at h
      cases h
    · rw [List.getElem?_set_ne hj] at h ⊢
      exact ih.2 j e h

/-! ### refusals, promises -/
def RepX (K : PySem.W.Frag) (F : Hp) (dx : DX) (cls : Value) (dd : Option Addr) : Prop :=
  ∃ C, clsAt K dx.x C ∧ cls = .ref C ∧ ((dd = none ∧ dx.ns = [] ∧ dx.ds = []) ∨ ∃ a vs, dd = some a ∧ F a = some (.xd (dx.ns.zip vs)) ∧ dx.ns.length = vs.length ∧ Reps K F dx.ds vs)
theorem RepX.mono {K : PySem.W.Frag} {F F' : Hp} {dx : DX} {cls : Value} {dd : Option Addr} (s : Same F F') (r : RepX K F dx cls dd) : RepX K F' dx cls dd := by
  obtain ⟨C, h0, h1, h2 | ⟨a, vs, h2, h3, h4, h5⟩⟩ := r
  · exact ⟨C, h0, h1, .inl h2⟩
  · exact ⟨C, h0, h1, .inr ⟨a, vs, h2, s _ _ h3, h4, h5.mono s⟩⟩
/-- a refusal that is kept, as a thing -/
theorem RepX.rep {K : PySem.W.Frag} {F : Hp} {dx : DX} {cls : Value} {dd : Option Addr} {a : Addr} (r : RepX K F dx cls dd) (h : F a = some (exv a cls dd)) : Rep K F (.exc dx.x dx.ns dx.ds) (.ref a) := by
  obtain ⟨x, ns, ds⟩ := dx
  obtain ⟨C, h0, rfl, ⟨rfl, h1, h2⟩ | ⟨b, vs, rfl, h3, h4, h5⟩⟩ := r
  · dsimp only at h0 h1 h2 h
    subst h1 h2
    exact .exc0 h0 h
  · exact .exc h0 h h3 h4 h5
/-- a promise on data as one on the heap -/
def toSp (K : PySem.W.Frag) (n : Nat) (S : DSp) : Sp := fun vs H Q E => vs.length = n ∧ ∃ ds F G μ Q0 E0, Reps K F ds vs ∧ Ag K F G μ H ∧ S ds μ Q0 E0 ∧
  (∀ d v μ' F' H', Q0 d μ' → Same F F' → Ag K F' G μ' H' → Rep K F' d v → Q v H') ∧ (∀ dx cls dd μ' F' H', E0 dx μ' → Same F F' → Ag K F' G μ' H' → RepX K F' dx cls dd → E cls dd H')
abbrev DXE := DX → DSt → Mu → Prop
def LW (K : PySem.W.Frag) (F0 G : Hp) (Ed : DXE) : WX := fun cls dd σ H => ∃ F' σd μ' dx, Same F0 F' ∧ Ag K F' G μ' H ∧ Sig K F' σd σ ∧ RepX K F' dx cls dd ∧ Ed dx σd μ'
def bNames : List Str := ["len", "abs", "min", "max", "int", "bool", "list", "tuple", "sum", "all", "any", "divmod", "isinstance", "range", "enumerate", "zip", "reversed", "str", "dict", "sorted", "ValueError"]
/-- what an own __init__ of a refusal's class promises -/
def spIni (C : Addr) (fs : List Str) : Sp := fun vs H Q _ => ∃ (a : Addr) (ws : List V), vs = .ref a :: ws ∧ ws.length = fs.length ∧ H a = some (exo a C none) ∧
  ∀ d, H d = none → d ≠ a → Q .non (upd (upd H d (exd d (fs.reverse.zip ws.reverse))) a (exo a C (some d)))
structure IniOk (P : Program) (w : World) (K : PySem.W.Frag) (mg : Str → Option Value) (base : Heap) (k : Nat) (x : Str) (C : Addr) : Prop where
  T : OexC K C
  ex : ∃ fI fd ps, PySem.W.findIn K (.ref C) "__init__" = some (some (.ref fI)) ∧ PySem.W.typeIn K (.ref fI) = some (.type "function") ∧ FnOk P w K mg base (L2.CX P w) k fI fd ps (spIni C (exFields x)) ∧ Binds K fd ps []
def MDat (P : Program) (w : World) (K : PySem.W.Frag) (d : D) (v : V) : Prop := match d with
  | .dkk ks ds => ∃ a vs us, v = .ref a ∧ ks.length = vs.length ∧ (∀ F, Reps K F ds vs) ∧ KV (ks.zip vs) us ∧ ModD P w K a us
  | _ => True
def GlOk (P : Program) (w : World) (K : PySem.W.Frag) (d : D) (v : V) : Prop := (∀ F, Rep K F d v) ∧ MDat P w K d v
structure Good (X : Cx) (Γ : Nat → DSp) (gl : Nat → D) (tb : Tb) (F0 G : Hp) (Ed : DXE) : Prop where
  hN : X.N = tb.N
  nd : X.N.Nodup
  calm : coldB tb = true → X.calm = true
  unit : X.A.units + 64 < cLine
  fn : ∀ (i : Nat) x n, tb.fns[i]? = some (x, n) → x ≠ "" → ∃ f fd ps k, Room k X.A ∧ X.mg x = some (.ref f) ∧ PySem.W.keepIn X.K (.ref f) = true ∧ Binds X.K fd ps [] ∧ FnOk X.prog X.w X.K X.mg X.base (L2.CX X.prog X.w) k f fd ps (toSp X.K n (Γ i))
  glb : ∀ (i : Nat) x, tb.gls[i]? = some x → ∃ u v, X.mg x = some u ∧ RelV v u ∧ GlOk X.prog X.w X.K (gl i) v
  nm : ∀ x ∈ bNames, X.mg x = none
  tk : Takes X (LW X.K F0 G Ed)
  cls : ∀ (i : Nat) x t C, gl i = .cls x t → clsAt X.K x C → X.mg x = some (.ref C) ∧ (t = true → ClsF X.K x C)
  kit : ∀ (i : Nat) x C (j : Nat) y t C', gl i = .cls x true → gl j = .cls y t → clsAt X.K x C → clsAt X.K y C' → PySem.W.kitOne X.K (.ref C) (.ref C') = some (exSub x y) ∧ PySem.W.exmOne X.K (.ref C) (.ref C') = some (exSub x y)
  ini : coldB tb = true → ∀ (i : Nat) x C, gl i = .cls x true → exPlain x = false → clsAt X.K x C → ∃ k, Room (k + 1) X.A ∧ IniOk X.prog X.w X.K X.mg X.base k x C
  ob : ∀ x C, x ∈ tb.obs → clsAt X.K x C → BareC X.K C ∧ X.mg x = some (.ref C)
  mt : ∀ c m n j, (c, m, n, j) ∈ tb.mts → ∀ C, clsAt X.K c C → ∃ f fd ps k, Room k X.A ∧ Cls X.K C ∧ Meth X.K C m f ∧ Binds X.K fd ps [] ∧ FnOk X.prog X.w X.K X.mg X.base (L2.CX X.prog X.w) k f fd ps (toSp X.K n (Γ j))
  atr : ∀ c n C, attrOk gl c n → clsAt X.K c C → Cls X.K C ∧ NoAttr X.K C n
  hfn : ∀ x n j, (x, n, j) ∈ tb.hfs → ∃ f fd ps k, L2H.RoomH k X.A ∧ X.mg x = some (.ref f) ∧ PySem.W.keepIn X.K (.ref f) = true ∧ Binds X.K fd ps [] ∧ FnQ X.prog X.w X.K X.mg X.base (L2.CX X.prog X.w) k f fd ps (toSp X.K n (Γ j))
  nw : ∀ c n j, (c, ("__init__" : Str), n, j) ∈ tb.mts → ∀ C, clsAt X.K c C → ∃ f fd ps k, Room (k + 1) X.A ∧ Mk X.K C f ∧ X.mg c = some (.ref C) ∧ Binds X.K fd ps [] ∧ FnOk X.prog X.w X.K X.mg X.base (L2.CX X.prog X.w) k f fd ps (toSp X.K n (Γ j))
theorem zip_none {n : Str} : ∀ {ns : List Str} {vs : List V}, n ∉ ns → (ns.zip vs).lookup n = none
  | [], _, _ => rfl
  | _ :: _, [], _ => rfl
  | a :: ns, v :: vs, h => by
    rw [List.zip_cons_cons, List.lookup_cons, beq_eq_false_iff_ne.mpr fun z => h (by rw [z]; exact List.mem_cons_self)]
    exact zip_none fun z => h (List.mem_cons_of_mem _ z)
def noEd : DXE := fun _ _ _ => False
theorem takes_no {X : Cx} {K : PySem.W.Frag} {F0 G : Hp} : Takes X (LW K F0 G noEd) := takes0.imp fun _ _ _ _ ⟨_, _, _, _, _, _, _, _, z⟩ => z.elim
theorem Good.blk {X : Cx} {Γ : Nat → DSp} {gl : Nat → D} {tb : Tb} {F0 G : Hp} {Ed : DXE} (g : Good X Γ gl tb F0 G Ed) (s : Shared) (H : Hp) (scope : Scope) (ce : Env) (fp : List Addr) (F1 G1 : Hp) :
    Good (X.blk s H scope ce fp) Γ gl tb F1 G1 noEd := ⟨g.hN, g.nd, g.calm, g.unit, g.fn, g.glb, g.nm, takes_no, g.cls, g.kit, g.ini, g.ob, g.mt, g.atr, g.hfn, g.nw⟩

theorem Ag.drop {K : PySem.W.Frag} {F G H : Hp} {μ : Mu} {p : Addr} {o : HO} (A : Ag K F (upd G p o) μ H) (n : G p = none) : Ag K F G μ H := by
  have sg : Same G (upd G p o) := same_upd n
  refine ⟨A.f, fun b x e => A.g b x (sg b x e), fun b => ?_, fun x hx => ?_, A.nd⟩
  · rcases A.fg b with z | z
    · exact .inl z
    · exact .inr (none_of_same sg z)
  · obtain ⟨h1, h2, h3⟩ := A.own x hx
    exact ⟨h1, none_of_same sg h2, h3⟩
theorem Good.guard {X : Cx} {Γ : Nat → DSp} {gl : Nat → D} {tb : Tb} {F0 G : Hp} {Ed : DXE} {p : Addr} {o : HO} (g : Good X Γ gl tb F0 G Ed) (n : G p = none) : Good X Γ gl tb F0 (upd G p o) Ed :=
  ⟨g.hN, g.nd, g.calm, g.unit, g.fn, g.glb, g.nm, g.tk.imp fun cls d σ H ⟨F', σd, μ', dx, s, A, S, r, q⟩ => ⟨F', σd, μ', dx, s, A.drop n, S, r, q⟩, g.cls, g.kit, g.ini, g.ob, g.mt, g.atr, g.hfn, g.nw⟩
/-! ### small steps -/
section
variable {X : Cx} {F F1 G H : Hp} {σ : L2.St}
theorem rSem.mono {f : Value → Value → Sem Value} {x y : V} {Q Q' : VK} (h : rSem X f x y H Q) (hq : ∀ v H', Q v H' → Q' v H') : rSem X f x y H Q' := fun pins s σ v u I rx ry =>
  thn (h pins s σ v u I rx ry) fun u' s' ⟨w, H', I', r, q⟩ => ⟨w, H', I', r, hq w H' q⟩
theorem rIx.mono {x y : V} {Q Q' : VK} (h : rIx X x y H Q) (hq : ∀ v H', Q v H' → Q' v H') : rIx X x y H Q' := fun a b pins s σ v u I rx ry hs =>
  thn (h a b pins s σ v u I rx ry hs) fun u' s' ⟨w, H', I', r, q⟩ => ⟨w, H', I', r, hq w H' q⟩
theorem rSl.mono {x : V} {lo hi : Option Int} {Q Q' : VK} (h : rSl X x lo hi H Q) (hq : ∀ v H', Q v H' → Q' v H') : rSl X x lo hi H Q' := fun pins s σ v vl vu sl I rx a b c => by
  obtain ⟨T, id, h1, h2, h3⟩ := h pins s σ v vl vu sl I rx a b c
  exact ⟨T, id, h1, h2, thn h3 fun u' s' ⟨w, H', I', r, q⟩ => ⟨w, H', I', r, hq w H' q⟩⟩
theorem rCall.mono {f : Value} {xs : List V} {Q Q' : VK} (h : rCall X f xs H Q) (hq : ∀ v H', Q v H' → Q' v H') : rCall X f xs H Q' := fun pins s σ us I r =>
  thn (h pins s σ us I r) fun u' s' ⟨w, H', I', r, q⟩ => ⟨w, H', I', r, hq w H' q⟩
end
theorem eqW.mono {μ : Mu} {x y : D} {k k' : Bool → Prop} (h : eqW μ x y k) (m : ∀ b, k b → k' b) : eqW μ x y k' := by
  have g : eqG μ x y k → eqG μ x y k' := fun ⟨a, b, c⟩ => ⟨a, b, m _ c⟩
  cases x <;> cases y <;> first | exact m _ h | exact g h
theorem inW.mono {μ : Mu} {x y : D} {k k' : Bool → Prop} (h : inW μ x y k) (m : ∀ b, k b → k' b) : inW μ x y k' := by
  have g : (∃ ds, seqA μ y = some ds ∧ flB x = true ∧ ds.all flB = true ∧ k (inD x ds)) → (∃ ds, seqA μ y = some ds ∧ flB x = true ∧ ds.all flB = true ∧ k' (inD x ds)) := fun ⟨a, b, c, d, e⟩ => ⟨a, b, c, d, m _ e⟩
  cases y with
  | str t => cases x <;> first | exact m _ h | exact h
  | _ => exact g h
theorem cmpW.mono {o : CO} {x y : D} {μ : Mu} {k k' : Bool → Prop} (h : cmpW o x y μ k) (m : ∀ b, k b → k' b) : cmpW o x y μ k' := by
  have lt : (∃ ns ms : List Int, x = .tup (ns.map D.int) ∧ y = .tup (ms.map D.int) ∧ k (decide (HT.lexLt ns ms = true))) → (∃ ns ms : List Int, x = .tup (ns.map D.int) ∧ y = .tup (ms.map D.int) ∧ k' (decide (HT.lexLt ns ms = true))) := fun ⟨a, b, c, d, e⟩ => ⟨a, b, c, d, m _ e⟩
  cases o with
  | eq => exact eqW.mono h m
  | eqT =>
    cases x <;> first | exact h.elim | skip
    cases y <;> first | exact h.elim | skip
    obtain ⟨c, e, q⟩ := h
    exact ⟨c, e, m _ q⟩
  | neX =>
    rcases h with ⟨h1, h2, h3⟩ | ⟨b, h1, h2⟩
    · exact .inl ⟨h1, h2, m _ h3⟩
    · exact .inr ⟨b, h1, m _ h2⟩
  | ne => exact (show eqW μ x y (fun b => k' (!b)) from eqW.mono (show eqW μ x y (fun b => k (!b)) from h) fun b => m _)
  | lt => cases x <;> cases y <;> first | exact m _ h | exact lt h
  | le => cases x <;> cases y <;> first | exact m _ h | exact h
  | gt => cases x <;> cases y <;> first | exact m _ h | exact h
  | ge => cases x <;> cases y <;> first | exact m _ h | exact h
  | isin => exact inW.mono h m
  | notin => exact (show inW μ x y (fun b => k' (!b)) from inW.mono (show inW μ x y (fun b => k (!b)) from h) fun b => m _)
  | isN => cases x <;> first | exact m _ h | exact h
  | notN => cases x <;> first | exact m _ h | exact h
  | isB b => cases x <;> first | exact m _ h | exact h
  | notB b => cases x <;> first | exact m _ h | exact h
/-- a written comparison's operators, as they are read -/
def LAs (K : PySem.W.Frag) (F G : Hp) (σd : DSt) (σ : L2.St) (n : Nat) (Q : List D → Mu → Prop) : List V → Hp → Prop := fun vs H' => ∃ F' ds μ', Same F F' ∧ Ag K F' G μ' H' ∧ Reps K F' ds vs ∧ ds.length = n ∧ Q ds μ'
def LT (K : PySem.W.Frag) (F G : Hp) (Q : Bool → Mu → Prop) : Bool → Hp → Prop := fun b H' => ∃ F' μ', Same F F' ∧ Ag K F' G μ' H' ∧ Q b μ'
def LI (K : PySem.W.Frag) (F G : Hp) (R : IQ) : L2.It → Hp → Prop := fun J H' => ∃ F' μ' items stab, Same F F' ∧ Ag K F' G μ' H' ∧ ItOk K F' items stab J ∧ stab μ' ∧ R items stab μ'
section
variable (c : C) (as : Cs) (t : T) (ic : Ic)
def SE : Prop := ∀ (X : Cx) Γ gl tb F0 G Ed sc e, Good X Γ gl tb F0 G Ed → X.env.scope = sc → chkE tb c sc e = true → ∀ σ H F σd μ Q, Same F0 F → Ag X.K F G μ H → Sig X.K F σd σ → wpE Γ gl c σd μ Q (fun x μ' => Ed x σd μ') → tS X e σ H (LQ X.K F G Q)
def SA : Prop := ∀ (X : Cx) Γ gl tb F0 G Ed sc es, Good X Γ gl tb F0 G Ed → X.env.scope = sc → chkA tb as sc es = true → noStars es = true ∧ es.length = as.len ∧ ∀ σ H F σd μ Q, Same F0 F → Ag X.K F G μ H → Sig X.K F σd σ → wpA Γ gl as σd μ Q (fun x μ' => Ed x σd μ') → tA X es σ H (LAs X.K F G σd σ as.len Q)
def ST : Prop := ∀ (X : Cx) Γ gl tb F0 G Ed sc e, Good X Γ gl tb F0 G Ed → X.env.scope = sc → chkT tb t sc e = true → ∀ σ H F σd μ Q, Same F0 F → Ag X.K F G μ H → Sig X.K F σd σ → wpT Γ gl t σd μ Q (fun x μ' => Ed x σd μ') → tT X e σ H (LT X.K F G Q)
def SI : Prop := ∀ (X : Cx) Γ gl tb F0 G Ed sc tg e, Good X Γ gl tb F0 G Ed → X.env.scope = sc → chkI tb ic sc tg e = true → ∀ σ H F σd μ R, Same F0 F → Ag X.K F G μ H → Sig X.K F σd σ → wpI Γ gl ic σd μ R (fun x μ' => Ed x σd μ') → tI X tg e σ H (LI X.K F G R)
end
/-! ### targets -/
def gAll : List Nat → TGs
  | [] => gNil
  | i :: is => gCons (gName i) (gAll is)
def gOf (K : PySem.W.Frag) : Tg → TG
  | .name i => gName i
  | .tup is => gTup K is.length (gAll is)
def LocOk (X : Cx) (sc : Scope) : Prop := ∀ x, locB sc x = true → Loc X.env.scope x ∧ (X.fn x = true ∨ X.env.scope.names.lookup x = some .local)
theorem chkNs_ok {X : Cx} {tb : Tb} {sc : Scope} (hN : X.N = tb.N) (nd : X.N.Nodup) (lo : LocOk X sc) : ∀ {is : List Nat} {es : List Expr}, chkNs tb sc is es = true → PGs X es (gAll is) ∧ (assignEach es X.env).length = is.length ∧ (assignEach es X.env).findIdx? (·.1) = none
  | [], [], _ => ⟨pgs_nil, rfl, rfl⟩
  | i :: is, e :: es, h => by
    have h := Bool.and_eq_true_iff.mp h
    obtain ⟨x, p, rfl, h1⟩ := onName_inv h.1
    have h1 := Bool.and_eq_true_iff.mp h1
    obtain ⟨p1, p2, p3⟩ := chkNs_ok hN nd lo h.2
    obtain ⟨l1, l2⟩ := lo x h1.2
    refine ⟨pgs_cons (pg_name nd (by rw [hN]; exact of_decide_eq_true h1.1) l1 l2) p1, ?_, ?_⟩
    · show (assignEach es X.env).length + 1 = is.length + 1
      rw [p2]
    · show List.findIdx? (·.1) ((false, assign (.Name x p) X.env) :: assignEach es X.env) = none
      rw [List.findIdx?_cons]
      simp [p3]
  | [], _ :: _, h => by cases h
  | _ :: _, [], h => by cases h
theorem pg_of {X : Cx} {tb : Tb} {sc : Scope} {tg : Tg} {e : Expr} (hN : X.N = tb.N) (nd : X.N.Nodup) (hc : coldB tb = true → X.calm = true) (lo : LocOk X sc) (h : chkTg tb sc tg e = true) : PG X e (gOf X.K tg) := by
  cases tg with
  | name i =>
    obtain ⟨x, p, rfl, h1⟩ := onName_inv (show onName e _ = true from h)
    have h1 := Bool.and_eq_true_iff.mp h1
    obtain ⟨l1, l2⟩ := lo x h1.2
    exact pg_name nd (by rw [hN]; exact of_decide_eq_true h1.1) l1 l2
  | tup is =>
    obtain ⟨es, j, p, rfl, h1⟩ := onTup_inv (show onTup e _ = true from h)
    have h1 := Bool.and_eq_true_iff.mp h1
    obtain ⟨p1, p2, p3⟩ := chkNs_ok hN nd lo h1.2
    exact pg_tup (hc h1.1) p1 p2 p3
theorem wipe_set {σ : L2.St} {i : Nat} {x : Option V} : ∀ {ws : List Nat}, i ∈ ws → L2.wipe (σ.set i x) ws = L2.wipe σ ws
  | w :: ws, h => by
    unfold L2.wipe
    by_cases e : i ∈ ws
    · rw [wipe_set e]
    · have e2 : i = w := by
        rcases List.mem_cons.mp h with z | z
        · exact z
        · exact absurd z e
      subst e2
      have out : ∀ (ws : List Nat), i ∉ ws → L2.wipe (σ.set i x) ws = (L2.wipe σ ws).set i x := by
        intro ws
        induction ws with
        | nil => intro _; rfl
        | cons v vs ih =>
          intro hn
          have hv : i ≠ v := fun z => hn (by rw [z]; exact List.mem_cons_self)
          unfold L2.wipe
          rw [ih fun z => hn (List.mem_cons_of_mem _ z), List.set_comm _ _ hv]
      rw [out ws e, List.set_set]
section
variable {K : PySem.W.Frag} {F G H : Hp} {μ : Mu}
/-- what a target's assignment leaves -/
def TgEnd (K : PySem.W.Frag) (F : Hp) (ns : List Nat) (σ : L2.St) (H : Hp) (k : DSt → Prop) : L2.St → Hp → Prop := fun σ' H' => H' = H ∧ (∀ ws, (∀ i ∈ ns, i ∈ ws) → L2.wipe σ' ws = L2.wipe σ ws) ∧ ∃ σd', Sig K F σd' σ' ∧ k σd'
theorem all_ok : ∀ {is : List Nat} {ds : List D} {vs : List V} {σd σd' : DSt} {σ : L2.St} {k : DSt → Prop}, setAll is ds σd = some σd' → Reps K F ds vs → Sig K F σd σ → k σd' → gAll is vs σ H (TgEnd K F is σ H k)
  | [], _, _, _, _, _, _, h, .nil, S, q => by
    cases h
    exact ⟨rfl, rfl, fun _ _ => rfl, _, S, q⟩
  | [], _, _, _, _, _, _, h, .cons _ _, _, _ => by cases h
  | _ :: _, _, _, _, _, _, _, h, .nil, _, _ => by cases h
  | i :: is, d :: ds, v :: vs, σd, σd', σ, k, h, .cons r rs, S, q => by
    refine ⟨v, vs, rfl, ?_⟩
    have h2 := all_ok (show setAll is ds (σd.set i (some d)) = some σd' from h) rs (S.set i r) q
    have mono : ∀ (is : List Nat) (vs : List V) (σ : L2.St) (Q Q' : L2.St → Hp → Prop), gAll is vs σ H Q → (∀ σ', Q σ' H → Q' σ' H) → gAll is vs σ H Q' := by
      intro is
      induction is with
      | nil => intro vs σ Q Q' ⟨a, b⟩ m; exact ⟨a, m _ b⟩
      | cons i is ih => intro vs σ Q Q' ⟨a, b, c, d⟩ m; exact ⟨a, b, c, ih _ _ _ _ d m⟩
    refine mono is vs _ _ _ h2 fun σ' ⟨e1, e2, e3⟩ => ⟨rfl, fun ws hw => ?_, e3⟩
    rw [e2 ws fun j hj => hw j (List.mem_cons_of_mem _ hj)]
    exact wipe_set (hw i List.mem_cons_self)
theorem setAll_len : ∀ {is : List Nat} {ds : List D} {σ σ' : DSt}, setAll is ds σ = some σ' → ds.length = is.length
  | [], [], _, _, _ => rfl
  | [], _ :: _, _, _, h => by cases h
  | _ :: _, [], _, _, h => by cases h
  | _ :: is, _ :: ds, _, _, h => by
    rw [List.length_cons, List.length_cons, setAll_len (is := is) (ds := ds) h]
theorem tg_ok {tg : Tg} {d : D} {v : V} {σd : DSt} {σ : L2.St} {k : DSt → Prop} (A : Ag K F G μ H) (r : Rep K F d v) (S : Sig K F σd σ) (q : tgW tg d σd k) : gOf K tg v σ H (TgEnd K F (tgNames tg) σ H k) := by
  cases tg with
  | name i => exact ⟨rfl, fun ws hw => wipe_set (hw i List.mem_cons_self), _, S.set i r, q⟩
  | tup is =>
    obtain ⟨ds, σ', h1, h2, h3⟩ := q
    obtain ⟨a, vs, rfl, hv, rv⟩ := seqT_ok A r h1
    exact ⟨a, vs, rfl, hv, by rw [← rv.length]; exact setAll_len h2, all_ok h2 rv S h3⟩
end
end DL

namespace DL
open PySem PySem.Spec PyProof.Rows L2
theorem putP_ok {K : PySem.W.Frag} {G : Hp} {μ : Mu} : ∀ (ts : List Addr) (xs ys : List D) (us ws : List V) (H F : Hp), Ag K F G μ H → Reps K F xs us → Reps K F ys ws → ts.length = (us.zip ws).length → ts.Nodup → (∀ t ∈ ts, H t = none) →
    ∃ F', Same F F' ∧ Ag K F' G μ (putP H ts (us.zip ws)) ∧ Reps K F' ((xs.zip ys).map fun p => D.tup [p.1, p.2]) (ts.map V.ref)
  | ts, [], ys, us, ws, H, F, A, r1, r2, hl, nd, hf => by
    cases r1
    have e : ts = [] := List.length_eq_zero_iff.mp (by rw [hl]; rfl)
    subst e
    exact ⟨F, Same.refl F, A, .nil⟩
  | ts, x :: xs, [], us, ws, H, F, A, r1, r2, hl, nd, hf => by
    cases r2
    have e : ts = [] := List.length_eq_zero_iff.mp (by rw [hl, List.zip_nil_right]; rfl)
    subst e
    rw [List.zip_nil_right]
    exact ⟨F, Same.refl F, A, .nil⟩
  | ts, x :: xs, y :: ys, us, ws, H, F, A, r1, r2, hl, nd, hf => by
    cases r1 with
    | @cons _ _ u us ra r1 =>
    cases r2 with
    | @cons _ _ w ws rb r2 =>
    match ts, hl, nd, hf with
    | t :: ts, hl, nd, hf =>
      have nd' := List.nodup_cons.mp nd
      have n := hf t List.mem_cons_self
      have sF := A.laidF (o := .tup [u, w]) n
      have A1 := A.laid (o := .tup [u, w]) n
      obtain ⟨F', s2, A2, r3⟩ := putP_ok ts xs ys _ _ _ _ A1 (r1.mono sF) (r2.mono sF) (Nat.succ.inj hl) nd'.2 (fun t' ht' => by
        rw [upd_ne (fun z => nd'.1 (by rw [← z]; exact ht'))]
        exact hf t' (List.mem_cons_of_mem _ ht'))
      exact ⟨F', sF.trans s2, A2, .cons (Rep.mono s2 (.tup (SqT.of upd_same) ((Reps.cons ra (.cons rb .nil)).mono sF))) r3⟩
theorem Reps.ev0 {K : PySem.W.Frag} {F : Hp} : ∀ {ds : List D} {vs : List V}, Reps K F ds vs → Reps K F (DL.ev0 ds) (DL.ev0 vs)
  | _, _, .nil => .nil
  | _, _, .cons a .nil => .cons a .nil
  | _, _, .cons a (.cons _ r) => .cons a (Reps.ev0 r)
theorem Reps.drop' {K : PySem.W.Frag} {F : Hp} : ∀ {ds : List D} {vs : List V} (n : Nat), Reps K F ds vs → Reps K F (ds.drop n) (vs.drop n)
  | _, _, 0, r => r
  | _, _, _ + 1, .nil => .nil
  | _, _, n + 1, .cons _ r => Reps.drop' n r
theorem Reps.evJ {K : PySem.W.Frag} {F : Hp} (b : Bool) {ds : List D} {vs : List V} (r : Reps K F ds vs) : Reps K F (DL.evJ b ds) (DL.evJ b vs) := Reps.ev0 (Reps.drop' _ r)
theorem Reps.reverse {K : PySem.W.Frag} {F : Hp} : ∀ {ds : List D} {vs : List V}, Reps K F ds vs → Reps K F ds.reverse vs.reverse
  | _, _, .nil => .nil
  | _, _, .cons a r => by
    rw [List.reverse_cons, List.reverse_cons]
    exact (Reps.reverse r).append (.cons a .nil)

section
variable {X : Cx} {Γ : Nat → DSp} {gl : Nat → D} {tb : Tb} {F0 G : Hp} {Ed : DXE} {sc : Scope}
/-- run a part, go on -/
theorem bindE {c : C} {e : Expr} (hs : SE c) (g : Good X Γ gl tb F0 G Ed) (esc : X.env.scope = sc) (hc : chkE tb c sc e = true) {σ : L2.St} {H F : Hp} {σd : DSt} {μ : Mu} {Q : DQ} {Cc : VK} (sf : Same F0 F) (A : Ag X.K F G μ H) (S : Sig X.K F σd σ)
    (q : wpE Γ gl c σd μ Q (fun x μ' => Ed x σd μ')) (k : ∀ F1 d v μ1 H1, Same F F1 → Ag X.K F1 G μ1 H1 → Sig X.K F1 σd σ → Rep X.K F1 d v → Q d μ1 → Cc v H1) : tS X e σ H Cc :=
  (hs X Γ gl tb F0 G Ed sc e g esc hc σ H F σd μ Q sf A S q).mono fun v H1 ⟨F1, d, μ1, s, A1, r, q1⟩ => k F1 d v μ1 H1 s A1 (S.mono s) r q1
theorem bindA {as : Cs} {es : List Expr} (hs : SA as) (g : Good X Γ gl tb F0 G Ed) (esc : X.env.scope = sc) (hc : chkA tb as sc es = true) {σ : L2.St} {H F : Hp} {σd : DSt} {μ : Mu} {Q : List D → Mu → Prop} {Cc : List V → Hp → Prop} (sf : Same F0 F) (A : Ag X.K F G μ H) (S : Sig X.K F σd σ)
    (q : wpA Γ gl as σd μ Q (fun x μ' => Ed x σd μ')) (k : ∀ F1 ds vs μ1 H1, Same F F1 → Ag X.K F1 G μ1 H1 → Sig X.K F1 σd σ → Reps X.K F1 ds vs → ds.length = as.len → Q ds μ1 → Cc vs H1) : tA X es σ H Cc :=
  ((hs X Γ gl tb F0 G Ed sc es g esc hc).2.2 σ H F σd μ Q sf A S q).mono fun v H1 ⟨F1, d, μ1, s, A1, r, l, q1⟩ => k F1 d v μ1 H1 s A1 (S.mono s) r l q1
theorem bindT {t : T} {e : Expr} (hs : ST t) (g : Good X Γ gl tb F0 G Ed) (esc : X.env.scope = sc) (hc : chkT tb t sc e = true) {σ : L2.St} {H F : Hp} {σd : DSt} {μ : Mu} {Q : Bool → Mu → Prop} {Cc : Bool → Hp → Prop} (sf : Same F0 F) (A : Ag X.K F G μ H) (S : Sig X.K F σd σ)
    (q : wpT Γ gl t σd μ Q (fun x μ' => Ed x σd μ')) (k : ∀ F1 b μ1 H1, Same F F1 → Ag X.K F1 G μ1 H1 → Sig X.K F1 σd σ → Q b μ1 → Cc b H1) : tT X e σ H Cc :=
  (hs X Γ gl tb F0 G Ed sc e g esc hc σ H F σd μ Q sf A S q).mono fun v H1 ⟨F1, μ1, s, A1, q1⟩ => k F1 v μ1 H1 s A1 (S.mono s) q1
theorem vis_of {x : Str} (h : visB X.env.scope x = true) : Vis X.env.scope x := by
  unfold visB kOf at h
  rcases Bool.or_eq_true_iff.mp h with h | h
  · rcases Bool.or_eq_true_iff.mp h with h | h
    · exact .inl (of_decide_eq_true h)
    · exact .inr (.inl (of_decide_eq_true h))
  · exact .inr (.inr (of_decide_eq_true h))
theorem glo_of {x : Str} (h : gloB X.env.scope x = true) : Gl X x := by
  unfold gloB at h
  exact (of_decide_eq_true h : kOf X.env.scope x = some .globalImplicit)
theorem und_of {x : Str} (h : undB x = true) : (x == ("__debug__" : Str)) = false ∧ (x == ("__classdict__" : Str)) = false := by
  have h := Bool.and_eq_true_iff.mp h
  exact ⟨by simpa using h.1, by simpa using h.2⟩
theorem and2 {a b : Bool} (h : (a && b) = true) : a = true ∧ b = true := Bool.and_eq_true_iff.mp h
/-- a call of a built-in thing by its name -/
theorem pe_bi (b : Bi) {p pos : Pos} {e : Expr} {es : List Expr} {t : TA} (hg : Gl X (biName b)) (hm : X.mg (biName b) = none) (ha : PA X (e :: es) t) (hs : noStars (e :: es) = true) : PE X (.Call (.Name (biName b) p) (e :: es) [] pos) (tCB (rCall X (biVal b)) t) := by
  have hd := bi_dunder b
  have hs := and2 hs
  have one : ∀ id, biVal b = .builtin id → PE X (.Call (.Name (biName b) p) (e :: es) [] pos) (tCB (rCall X (biVal b)) t) := fun id z =>
    pe_callB (id := id) (r := rCall X (biVal b)) (by rw [z]; exact callSem) hg hm (by rw [bi_boot, z]) ha hd.1 hd.2 (star_ok hs.1 _ _) (stars_ok _ _ hs.2)
  have two : ∀ T, biVal b = .type T → PE X (.Call (.Name (biName b) p) (e :: es) [] pos) (tCB (rCall X (biVal b)) t) := fun T z =>
    pe_callTy (T := T) (r := rCall X (biVal b)) (by rw [z]; exact callSem) hg hm (by rw [bi_boot, z]) ha hd.1 hd.2 (star_ok hs.1 _ _) (stars_ok _ _ hs.2)
  cases b <;> first | exact one _ rfl | exact two _ rfl
theorem bi_in (b : Bi) : biName b ∈ bNames := by cases b <;> decide +kernel
theorem perm_lend {K : PySem.W.Frag} {F : Hp} {H : Hp} {μ μp μr : Mu} (A : Ag K F G μ H) (p : List.Perm μ (μp ++ μr)) : Ag K F G (μp ++ μr) H :=
  A.sub (fun x hx => p.mem_iff.mpr hx) ((p.map _).nodup_iff.mp A.nd)
end
def tO (X : Cx) (e : Option Expr) : TO := match e with
  | none => tNoPart
  | some l => tPart (tS X l)
theorem tO_po (X : Cx) (e : Option Expr) : PO X e (tO X e) := by
  cases e with
  | none => exact po_none
  | some l => exact po_some (tS_pe X l)
/-- a test that is a value's truth -/
theorem truth_of {X : Cx} {Γ : Nat → DSp} {gl : Nat → D} {tb : Tb} {F0 G : Hp} {Ed : DXE} {sc : Scope} {c : C} {e : Expr} (hs : SE c) (hp : plainT e = true) (g : Good X Γ gl tb F0 G Ed) (esc : X.env.scope = sc) (hc : chkE tb c sc e = true) {σ : L2.St} {H F : Hp} {σd : DSt} {μ : Mu} {Q : Bool → Mu → Prop} (sf : Same F0 F) (A : Ag X.K F G μ H) (S : Sig X.K F σd σ)
    (q : wpE Γ gl c σd μ (fun x μ1 => match x with | .bl k => Q k μ1 | _ => False) (fun x μ' => Ed x σd μ')) : tT X e σ H (LT X.K F G Q) := by
  refine PT.to (pt_val (tS_pe X e) (truth_ok hp X.env)) ?_
  refine bindE hs g esc hc sf A S q fun F1 d v μ1 H1 s1 A1 S1 r q1 => ?_
  cases r <;> first
    | exact ⟨_, rfl, F1, μ1, s1, A1, q1⟩
    | exact q1.elim
theorem pt_of_bool {X : Cx} {o : PySem.BoolOp} {es : List Expr} {p : Pos} : PW X (.BoolOp o es p) (tT X (.BoolOp o es p)) := ⟨fun whole pins s σ H Q I h => h pins s I⟩
theorem isi_types {t : String} (h : ["int", "bool", "str", "tuple", "list", "dict"].contains t = true) : bootBuiltins (Str.ofString t) = some (.type t) ∧ Str.ofString t ∈ bNames ∧ Str.ofString t ≠ "__name__" ∧ ((Str.ofString t) == ("__debug__" : Str)) = false := by
  have h : t = "int" ∨ t = "bool" ∨ t = "str" ∨ t = "tuple" ∨ t = "list" ∨ t = "dict" := by simpa using h
  rcases h with rfl | rfl | rfl | rfl | rfl | rfl <;> exact ⟨by decide +kernel, by decide +kernel, by decide +kernel, by decide +kernel⟩

theorem lit_non {X : Cx} {tb : Tb} {sc : Scope} {e : Expr} (h : chkE tb .non sc e = true) : PE X e (tC .non) := by
  obtain ⟨c, j, p, rfl, h⟩ := onConst_inv (show onConst e _ = true from h)
  rw [of_decide_eq_true h]
  exact pe_non
theorem lit_bl {X : Cx} {tb : Tb} {sc : Scope} {e : Expr} {b : Bool} (h : chkE tb (.bl b) sc e = true) : PE X e (tC (.bl b)) := by
  obtain ⟨c, j, p, rfl, h⟩ := onConst_inv (show onConst e _ = true from h)
  rw [of_decide_eq_true h]
  exact pe_bl

theorem gAll_mono {H : Hp} : ∀ (is : List Nat) {vs : List V} {σ : L2.St} {Q Q' : L2.St → Hp → Prop}, gAll is vs σ H Q → (∀ σ' H', Q σ' H' → Q' σ' H') → gAll is vs σ H Q'
  | [], _, _, _, _, ⟨a, b⟩, m => ⟨a, m _ _ b⟩
  | i :: is, _, _, _, _, ⟨a, b, c, d⟩, m => ⟨a, b, c, gAll_mono is d m⟩
theorem gOf_mono {K : PySem.W.Frag} {tg : Tg} {v : V} {σ : L2.St} {H : Hp} {Q Q' : L2.St → Hp → Prop} (h : gOf K tg v σ H Q) (m : ∀ σ' H', Q σ' H' → Q' σ' H') : gOf K tg v σ H Q' := by
  cases tg with
  | name i => exact m _ _ h
  | tup is =>
    obtain ⟨a, xs, h1, h2, h3, h4⟩ := h
    exact ⟨a, xs, h1, h2, h3, gAll_mono is h4 m⟩
theorem wipe_wipe (σ : L2.St) (vs : List Nat) : L2.wipe (L2.wipe σ vs) vs = L2.wipe σ vs := by
  have key : ∀ (us : List Nat), (∀ u ∈ us, u ∈ vs) → L2.wipe (L2.wipe σ us) vs = L2.wipe σ vs := by
    intro us
    induction us with
    | nil => intro _; rfl
    | cons u us ih =>
      intro h
      show L2.wipe ((L2.wipe σ us).set u none) vs = _
      rw [wipe_set (h u List.mem_cons_self)]
      exact ih fun w hw => h w (List.mem_cons_of_mem _ hw)
  exact key vs fun _ h => h

def ttOf (P : Expr → TT) : List Expr → TT
  | [c] => P c
  | _ => tYes
theorem ifs_cases {cond : T} {k : Expr → Bool} {ifs : List Expr} (h : ifsB (isYes cond) k ifs = true) : (ifs = [] ∧ cond = .yes) ∨ ∃ c', ifs = [c'] ∧ k c' = true := by
  match ifs, h with
  | [], h => cases cond <;> first | exact .inl ⟨rfl, rfl⟩ | cases h
  | [c'], h => exact .inr ⟨c', rfl, h⟩
  | _ :: _ :: _, h => cases h
section
variable {X : Cx} {Γ : Nat → DSp} {gl : Nat → D} {tb : Tb} {F0 G : Hp} {Ed : DXE} {sc : Scope} {σ : L2.St} {H F : Hp} {σd : DSt} {μ : Mu}
theorem cmp_rd {a b : C} {a' b' : Expr} {o : CO} {k : Bool → Mu → Prop} {Cc : VK} (ha : SE a) (hb : SE b) (g : Good X Γ gl tb F0 G Ed) (esc : X.env.scope = sc) (ca : chkE tb a sc a' = true) (cb : chkE tb b sc b' = true) (li : isLit o b = true) (sf : Same F0 F) (A : Ag X.K F G μ H) (S : Sig X.K F σd σ)
    (q : wpE Γ gl a σd μ (fun x μ1 => wpE Γ gl b σd μ1 (fun y μ2 => cmpW o x y μ2 fun b => k b μ2) (fun x μ' => Ed x σd μ')) (fun x μ' => Ed x σd μ'))
    (fin : ∀ F3 b μ3 H3, Same F F3 → Ag X.K F3 G μ3 H3 → Sig X.K F3 σd σ → k b μ3 → Cc (.bl b) H3) : tOp (rSem X (compareOp (coOp o))) (tS X a') (tS X b') σ H Cc := by
  have mk : ∀ {v y : V} {H2 : Hp} {F2 : Hp} {μ2 : Mu}, Same F F2 → Sig X.K F2 σd σ → rSem X (compareOp (coOp o)) v y H2 (LQ X.K F2 G fun d μ' => ∃ b, d = .bl b ∧ μ' = μ2 ∧ k b μ2) → rSem X (compareOp (coOp o)) v y H2 Cc := fun {v y H2 F2 μ2} s2 S2 h => h.mono fun z H' ⟨F3, d3, μ3, s3, A3, r3, b, e3, e4, q3⟩ => by
    subst e3 e4
    cases r3
    exact fin F3 b _ H' (s2.trans s3) A3 (S2.mono s3) q3
  refine bindE ha g esc ca sf A S q fun F1 d v μ1 H1 s1 A1 S1 r1 q1 => ?_
  have gen : (∀ y, coR o y) → tS X b' σ H1 (fun y H2 => rSem X (compareOp (coOp o)) v y H2 Cc) := fun tr =>
    bindE hb g esc cb (sf.trans s1) A1 S1 q1 fun F2 d2 v2 μ2 H2 s2 A2 S2 r2 q2 => mk (s1.trans s2) S2 (cmp_ok g.unit o A2 (r1.mono s2) r2 (tr _) (q2.mono fun b h => ⟨b, rfl, rfl, h⟩))
  have lit : ∀ y vy, coR o y → (∀ F, Rep X.K F y vy) → PE X b' (tC vy) → cmpW o d y μ1 (fun b => k b μ1) → tS X b' σ H1 (fun y H2 => rSem X (compareOp (coOp o)) v y H2 Cc) := fun y vy c r hp q =>
    PE.to hp (mk s1 S1 (cmp_ok g.unit o A1 r1 (r F1) c (q.mono fun b h => ⟨b, rfl, rfl, h⟩)))
  cases o with
  | isN =>
    cases b <;> first
      | exact lit .non .non rfl (fun _ => .non) (lit_non cb) q1
      | cases li
  | notN =>
    cases b <;> first
      | exact lit .non .non rfl (fun _ => .non) (lit_non cb) q1
      | cases li
  | isB k =>
    cases b <;> first
      | exact lit (.bl _) (.bl _) (by rw [eq_of_beq li]; rfl) (fun _ => .bl _) (lit_bl cb) q1
      | cases li
  | notB k =>
    cases b <;> first
      | exact lit (.bl _) (.bl _) (by rw [eq_of_beq li]; rfl) (fun _ => .bl _) (lit_bl cb) q1
      | cases li
  | _ => exact gen fun _ => trivial
theorem chain_rd {a b c : C} {a' b' c' : Expr} {o o' : CO} {k : Bool → Mu → Prop} {Cc : VK} (ha : SE a) (hb : SE b) (hc : SE c) (g : Good X Γ gl tb F0 G Ed) (esc : X.env.scope = sc) (ca : chkE tb a sc a' = true) (cb : chkE tb b sc b' = true) (cc : chkE tb c sc c' = true) (li : isLess o o' = true)
    (sf : Same F0 F) (A : Ag X.K F G μ H) (S : Sig X.K F σd σ)
    (q : wpE Γ gl a σd μ (fun x μ1 => wpE Γ gl b σd μ1 (fun y μ2 => cmpW o x y μ2 fun b => match b with
      | true => wpE Γ gl c σd μ2 (fun z μ3 => cmpW o' y z μ3 fun k' => k k' μ3) (fun x μ' => Ed x σd μ')
      | false => k false μ2) (fun x μ' => Ed x σd μ')) (fun x μ' => Ed x σd μ'))
    (fin : ∀ F3 b μ3 H3, Same F F3 → Ag X.K F3 G μ3 H3 → Sig X.K F3 σd σ → k b μ3 → Cc (.bl b) H3) : tChain (rSem X (compareOp (coOp o))) (rSem X (compareOp (coOp o'))) (tS X a') (tS X b') (tS X c') σ H Cc := by
  have tr : (∀ y, coR o y) ∧ ∀ y, coR o' y := by
    cases o <;> cases o' <;> first | exact ⟨fun _ => trivial, fun _ => trivial⟩ | cases li
  refine bindE ha g esc ca sf A S q fun F1 d v μ1 H1 s1 A1 S1 r1 q1 => bindE hb g esc cb (sf.trans s1) A1 S1 q1 fun F2 d2 v2 μ2 H2 s2 A2 S2 r2 q2 => ?_
  refine (cmp_ok (Q := fun d μ' => ∃ b, d = .bl b ∧ μ' = μ2 ∧ match b with
    | true => wpE Γ gl c σd μ2 (fun z μ3 => cmpW o' d2 z μ3 fun k' => k k' μ3) (fun x μ' => Ed x σd μ')
    | false => k false μ2) g.unit o A2 (r1.mono s2) r2 (tr.1 _) (q2.mono fun b qk => ⟨b, rfl, rfl, qk⟩)).mono fun z H3 ⟨F3, d3, μ3, s3, A3, r3, b, e3, e4, q3⟩ => ?_
  subst e3 e4
  cases r3
  refine ⟨b, rfl, ?_⟩
  cases b with
  | false => exact iteF (fin F3 false _ H3 (s1.trans (s2.trans s3)) A3 (S2.mono s3) q3)
  | true =>
    refine iteT ?_
    refine bindE hc g esc cc (sf.trans (s1.trans (s2.trans s3))) A3 (S2.mono s3) q3 fun F4 d4 v4 μ4 H4 s4 A4 S4 r4 q4 => ?_
    refine (cmp_ok (Q := fun d μ' => ∃ b, d = .bl b ∧ μ' = μ4 ∧ k b μ4) g.unit o' A4 (r2.mono (s3.trans s4)) r4 (tr.2 _) (q4.mono fun b qk => ⟨b, rfl, rfl, qk⟩)).mono fun z H5 ⟨F5, d5, μ5, s5, A5, r5, b, e5, e6, q5⟩ => ?_
    subst e5 e6
    cases r5
    exact fin F5 b _ H5 (s1.trans (s2.trans (s3.trans (s4.trans s5)))) A5 (S4.mono s5) q5
end

/-! ### displayed dicts -/
def trsOf (X : Cx) : List (Option Expr) → List Expr → List (TE × TE)
  | some k :: ks, v :: vs => (tS X k, tS X v) :: trsOf X ks vs
  | _, _ => []
theorem pps_of (X : Cx) (pos : Pos) : ∀ (ks : List (Option Expr)) (vs : List Expr), ks.all (·.isSome) = true → ks.length = vs.length → PPs X pos ks vs (trsOf X ks vs)
  | [], [], _, _ => pps_nil
  | some k :: ks, v :: vs, h, l => pps_cons (tS_pe X k) (tS_pe X v) (pps_of X pos ks vs (by simpa using h) (by simpa using l))
  | none :: _, _ :: _, h, _ => by simp at h
  | [], _ :: _, _, l => by simp at l
  | _ :: _, [], _, l => by simp at l
def AllSE : Cs → Prop
  | .nil => True
  | .cons a as => SE a ∧ AllSE as
def flatP : List (V × V) → List V
  | [] => []
  | p :: ps => p.1 :: p.2 :: flatP ps
theorem pairs_ok {X : Cx} {Γ : Nat → DSp} {gl : Nat → D} {tb : Tb} {F0 G : Hp} {Ed : DXE} {sc : Scope} (g : Good X Γ gl tb F0 G Ed) (esc : X.env.scope = sc) {σ : L2.St} {σd : DSt} : ∀ (ks : List (Option Expr)) (vs : List Expr) (as : Cs), AllSE as → chkA tb as sc (inter ks vs) = true → ks.all (·.isSome) = true → ks.length = vs.length →
    ∀ (H F : Hp) (μ : Mu) (Q : List D → Mu → Prop), Same F0 F → Ag X.K F G μ H → Sig X.K F σd σ → wpA Γ gl as σd μ Q (fun x μ' => Ed x σd μ') → tPairs (trsOf X ks vs) σ H (fun ps H' => ∃ F' ds μ', Same F F' ∧ Ag X.K F' G μ' H' ∧ Reps X.K F' ds (flatP ps) ∧ Q ds μ')
  | [], [], as, _, hc, _, _ => fun H F μ Q sf A S q => by
    cases as with
    | cons _ _ => cases hc
    | nil => exact ⟨F, [], μ, Same.refl _, A, .nil, q⟩
  | some k :: ks, v :: vs, .cons a (.cons b as), hs, hc, h, l => fun H F μ Q sf A S q => by
    have h1 := and2 (show (noStar k && (chkE tb a sc k && chkA tb (.cons b as) sc (v :: inter ks vs))) = true from hc)
    have h2 := and2 h1.2
    have h3 := and2 (show (noStar v && (chkE tb b sc v && chkA tb as sc (inter ks vs))) = true from h2.2)
    have h4 := and2 h3.2
    refine bindE hs.1 g esc h2.1 sf A S q fun F1 d v1 μ1 H1 s1 A1 S1 r1 q1 => ?_
    refine bindE hs.2.1 g esc h4.1 (sf.trans s1) A1 S1 q1 fun F2 d2 v2 μ2 H2 s2 A2 S2 r2 q2 => ?_
    have ih := pairs_ok g esc ks vs as hs.2.2 h4.2 (by simpa using h) (by simpa using l) H2 F2 μ2 _ (sf.trans (s1.trans s2)) A2 S2 q2
    have mono : ∀ (trs : List (TE × TE)), (∀ t ∈ trs, (∃ e, t.1 = tS X e) ∧ ∃ e, t.2 = tS X e) → ∀ H (P P' : List (V × V) → Hp → Prop), tPairs trs σ H P → (∀ ps H', P ps H' → P' ps H') → tPairs trs σ H P' := by
      intro trs
      induction trs with
      | nil => intro _ H P P' h m; exact m _ _ h
      | cons t trs ih =>
        intro ht H P P' h m
        obtain ⟨⟨e1, e2⟩, e3, e4⟩ := ht t List.mem_cons_self
        obtain ⟨t1, t2⟩ := t
        dsimp only at e2 e4
        subst e2 e4
        refine tS.mono h fun x H1 h1 => tS.mono h1 fun y H2 h2 => ih (fun t ht' => ht t (List.mem_cons_of_mem _ ht')) H2 _ _ h2 fun ps H3 h3 => m _ _ h3
    have all : ∀ (ks : List (Option Expr)) (vs : List Expr), ∀ t ∈ trsOf X ks vs, (∃ e, t.1 = tS X e) ∧ ∃ e, t.2 = tS X e := by
      intro ks
      induction ks with
      | nil => intro vs t ht; cases ht
      | cons k ks ih =>
        intro vs t ht
        cases k with
        | none => cases ht
        | some k =>
          cases vs with
          | nil => cases ht
          | cons v vs =>
            rcases List.mem_cons.mp ht with rfl | ht
            · exact ⟨⟨k, rfl⟩, v, rfl⟩
            · exact ih vs t ht
    refine mono _ (all ks vs) H2 _ _ ih fun ps H3 ⟨F3, ds, μ3, s3, A3, r3, q3⟩ => ?_
    exact ⟨F3, d :: d2 :: ds, μ3, s1.trans (s2.trans s3), A3, .cons (r1.mono (s2.trans s3)) (.cons (r2.mono s3) r3), q3⟩
  | some k :: ks, v :: vs, .nil, _, hc, _, _ => by cases hc
  | some k :: ks, v :: vs, .cons a .nil, _, hc, _, _ => by
    have h1 := and2 (show (noStar k && (chkE tb a sc k && chkA tb .nil sc (v :: inter ks vs))) = true from hc)
    cases (and2 h1.2).2
  | none :: _, _, _, _, _, h, _ => by simp at h
  | [], _ :: _, _, _, _, _, l => by simp at l
  | _ :: _, [], _, _, _, _, l => by simp at l
theorem trsOf_len {X : Cx} : ∀ (ks : List (Option Expr)) (vs : List Expr), ks.all (·.isSome) = true → ks.length = vs.length → (trsOf X ks vs).length = ks.length
  | [], [], _, _ => rfl
  | some k :: ks, v :: vs, h, l => by
    show (trsOf X ks vs).length + 1 = ks.length + 1
    rw [trsOf_len ks vs (by simpa using h) (by simpa using l)]
  | none :: _, _, h, _ => by simp at h
  | [], _ :: _, _, l => by simp at l
  | _ :: _, [], _, l => by simp at l
/-- as many pairs as were read -/
theorem tPairs_len {X : Cx} {σ : L2.St} {P P' : List (V × V) → Hp → Prop} : ∀ {ks : List (Option Expr)} {vs : List Expr} {H : Hp} (_ : Unit), tPairs (trsOf X ks vs) σ H P → (∀ ps H', ps.length = (trsOf X ks vs).length → P ps H' → P' ps H') → tPairs (trsOf X ks vs) σ H P'
  | some k :: ks, v :: vs, H, _, h, m => tS.mono h fun x H1 h1 => tS.mono h1 fun y H2 h2 => tPairs_len (ks := ks) (vs := vs) () h2 fun ps H3 l h3 => m _ _ (congrArg (· + 1) l) h3
  | [], _, H, _, h, m => m _ _ rfl h
  | none :: _, _, H, _, h, m => m _ _ rfl h
  | some _ :: _, [], H, _, h, m => m _ _ rfl h
theorem nosl_ok {e : Expr} (h : noSlice e = true) : NoSl e := by
  intro ov iv
  cases e <;> first | rfl | cases h
theorem keys_of {K : PySem.W.Frag} {F : Hp} : ∀ {ds : List D} {ps : List (V × V)}, Reps K F ds (flatP ps) → keysD ds = true → ∃ kvs : List (Key × V), ps = kvs.map (fun kv => (kV kv.1, kv.2))
  | _, [], _, _ => ⟨[], rfl⟩
  | _, p :: ps, .cons (d := d) r1 (.cons r2 r), h => by
    have h := and2 h
    obtain ⟨kvs, e⟩ := keys_of r h.2
    obtain ⟨x, y⟩ := p
    cases r1 <;> first
      | exact ⟨(.inl _, y) :: kvs, by rw [e]; rfl⟩
      | exact ⟨(.inr _, y) :: kvs, by rw [e]; rfl⟩
      | cases h.1
theorem onStr_inv {x : D} {k : Str → Prop} (h : onStr x k) : ∃ s, x = .str s ∧ k s := by
  cases x <;> first | exact ⟨_, rfl, h⟩ | exact h.elim
theorem strs_rep {K : PySem.W.Frag} {F : Hp} : ∀ ss : List Str, Reps K F (ss.map D.str) (ss.map V.str)
  | [] => .nil
  | s :: ss => .cons (.str s) (strs_rep ss)
theorem asStrs_rep {K : PySem.W.Frag} {F : Hp} : ∀ {ds : List D} {vs : List V} {ss : List Str}, Reps K F ds vs → asStrs ds = some ss → vs = ss.map V.str
  | [], [], _, .nil, h => by cases h; rfl
  | d :: ds, v :: vs, ss, .cons a r, h => by
    cases a <;> first | cases h | skip
    rename_i s
    have h : (asStrs ds).map (s :: ·) = some ss := h
    cases e : asStrs ds with
    | none => rw [e] at h; cases h
    | some tt =>
      rw [e] at h
      cases h
      rw [List.map_cons, asStrs_rep r e]
theorem pairs_rep {K : PySem.W.Frag} {F : Hp} : ∀ {ds : List D} {ps : List (V × V)} {kds : List (Key × D)}, Reps K F ds (flatP ps) → pairsD ds = some kds → ∃ kvs : List (Key × V), ps = kvs.map (fun kv => (kV kv.1, kv.2)) ∧ KReps K F kds kvs
  | _, [], _, .nil, h => by cases h; exact ⟨[], rfl, .nil⟩
  | _, p :: ps, _, .cons (d := d) r1 (.cons (d := d2) (ds := ds) r2 r), h => by
    obtain ⟨x, y⟩ := p
    unfold pairsD at h
    cases e1 : keyD d with
    | none => simp only [e1] at h; cases h
    | some k =>
      cases e2 : pairsD ds with
      | none => simp only [e1, e2] at h; cases h
      | some kds =>
        simp only [e1, e2] at h
        cases h
        obtain ⟨kvs, e, rr⟩ := pairs_rep r e2
        have ek : x = kV k := by
          cases r1 <;> first | (cases e1; rfl) | cases e1
        exact ⟨(k, y) :: kvs, by rw [e, ek]; rfl, .cons r2 rr⟩
theorem KReps.keys {K : PySem.W.Frag} {F : Hp} {r : List (Key × D)} {s : List (Key × V)} (x : KReps K F r s) : r.map (·.1) = s.map (·.1) := by
  induction x with
  | nil => rfl
  | cons a _ ih => rw [List.map_cons, List.map_cons, ih]
theorem mergeK_nd : ∀ (kvs acc : List (Key × V)), ((kvs.map (·.1)) ++ (acc.map (·.1))).Nodup → mergeK acc kvs = acc ++ kvs
  | [], acc, _ => by show acc = _; rw [List.append_nil]
  | p :: r, acc, h => by
    rw [List.map_cons, List.cons_append, List.nodup_cons] at h
    have hn : valV acc p.1 = none := by
      cases e : valV acc p.1 with
      | none => rfl
      | some v =>
        exfalso
        unfold valV at e
        cases e2 : acc.find? (fun kv => decide (kv.1 = p.1)) with
        | none => rw [e2] at e; cases e
        | some q =>
          have m := List.mem_of_find?_eq_some e2
          have k := List.find?_some e2
          have k := of_decide_eq_true k
          exact h.1 (List.mem_append_right _ (by rw [← k]; exact List.mem_map_of_mem (f := (·.1)) m))
    show mergeK (putK acc p.1 p.2) r = _
    rw [putK_new _ hn, mergeK_nd r, List.append_assoc]
    · rfl
    · rw [List.map_append, ← List.append_assoc, List.nodup_append]
      refine ⟨h.2, by simp, fun a ha b hb => ?_⟩
      simp only [List.map_cons, List.map_nil, List.mem_singleton] at hb
      subst hb
      exact fun z => h.1 (z ▸ ha)
theorem flatP_len : ∀ ps : List (V × V), (flatP ps).length = 2 * ps.length
  | [] => rfl
  | _ :: ps => by
    show (flatP ps).length + 1 + 1 = 2 * (ps.length + 1)
    rw [flatP_len ps]; omega
theorem inter_len : ∀ (ks : List (Option Expr)) (vs : List Expr), ks.all (·.isSome) = true → ks.length = vs.length → (inter ks vs).length = 2 * ks.length
  | [], [], _, _ => rfl
  | some k :: ks, v :: vs, h, l => by
    show (inter ks vs).length + 1 + 1 = 2 * (ks.length + 1)
    rw [inter_len ks vs (by simpa using h) (by simpa using l)]; omega
  | none :: _, _, h, _ => by simp at h
  | [], _ :: _, _, l => by simp at l
  | _ :: _, [], _, l => by simp at l
/-! ### a written table -/
def trsC : List (Str × Int) → List (TE × TE)
  | [] => []
  | p :: ps => (tC (.str p.1), tC (.int p.2)) :: trsC ps
theorem look_pps {X : Cx} {pos : Pos} : ∀ (ps : List (Str × Int)) (ks : List (Option Expr)) (vs : List Expr), lookB ps ks vs = true → PPs X pos ks vs (trsC ps) ∧ ks.all (·.isSome) = true ∧ ks.length = vs.length ∧ ks.length = ps.length
  | [], ks, vs, h => by
    have h := and2 (show (ks.isEmpty && vs.isEmpty) = true from h)
    cases ks <;> cases vs <;> first | exact ⟨pps_nil, rfl, rfl, rfl⟩ | simp at h
  | (s, n) :: ps, some k :: ks, v :: vs, h => by
    have h1 := and2 (show (onConst k (fun c => decide (c = .str s)) && (onConst v (fun c => decide (c = .int n)) && lookB ps ks vs)) = true from h)
    have h2 := and2 h1.2
    obtain ⟨c, j, p, rfl, e1⟩ := onConst_inv h1.1
    obtain ⟨c', j', p', rfl, e2⟩ := onConst_inv h2.1
    rw [of_decide_eq_true e1, of_decide_eq_true e2]
    obtain ⟨a, b, c, d⟩ := look_pps (X := X) (pos := pos) ps ks vs h2.2
    exact ⟨pps_cons pe_str pe_int a, by simpa using b, by simpa using c, by simpa using d⟩
  | _ :: _, none :: _, _, h => by simp [lookB] at h
  | _ :: _, [], _, h => by simp [lookB] at h
  | _ :: _, _ :: _, [], h => by simp [lookB] at h
theorem look_pairs {σ : L2.St} {H : Hp} : ∀ (ps : List (Str × Int)) (P : List (V × V) → Hp → Prop), P (ps.map fun p => (V.str p.1, V.int p.2)) H → tPairs (trsC ps) σ H P
  | [], _, h => h
  | p :: ps, P, h => look_pairs ps (fun qs H3 => P ((.str p.1, .int p.2) :: qs) H3) h
theorem look_val : ∀ (ps : List (Str × Int)) (acc : List (Key × V)) {s : Str} {n : Int}, (∀ p ∈ ps, valV acc (.inr p.1) = none) → (ps.map (·.1)).Nodup → (valV acc (.inr s) = some (.int n) ∨ (valV acc (.inr s) = none ∧ ps.lookup s = some n)) →
    valV (mergeK acc (ps.map fun p => (Sum.inr p.1, V.int p.2))) (.inr s) = some (.int n)
  | [], acc, s, n, _, _, h => by
    rcases h with h | ⟨_, h⟩
    · exact h
    · cases h
  | p :: ps, acc, s, n, hn, nd, h => by
    obtain ⟨t, m⟩ := p
    have nd := List.nodup_cons.mp nd
    have n0 := hn (t, m) List.mem_cons_self
    show valV (mergeK (putK acc (.inr t) (.int m)) (ps.map fun p => (Sum.inr p.1, V.int p.2))) (.inr s) = some (.int n)
    refine look_val ps _ (fun q hq => ?_) nd.2 ?_
    · rw [valV_put, if_neg fun z => nd.1 (by have := Sum.inr.inj z; rw [← this]; exact List.mem_map_of_mem (f := (·.1)) hq)]
      exact hn q (List.mem_cons_of_mem _ hq)
    · rw [valV_put]
      by_cases e : s = t
      · subst e
        refine .inl ?_
        rw [if_pos rfl]
        rcases h with h | ⟨_, h⟩
        · rw [n0] at h; cases h
        · rw [List.lookup_cons, beq_self_eq_true] at h
          cases h; rfl
      · have e2 : ¬ (Sum.inr s : Key) = .inr t := fun z => e (Sum.inr.inj z)
        rw [if_neg e2]
        rcases h with h | ⟨h0, h⟩
        · exact .inl h
        · refine .inr ⟨h0, ?_⟩
          rw [List.lookup_cons, beq_eq_false_iff_ne.mpr e] at h
          exact h
theorem rng2_inv {ds : List D} {μ : Mu} {R : IQ} (l : ds.length = 2) (h : itRng ds μ R) : ∃ i j, ds = [.int i, .int j] ∧ (-(2 ^ 62) ≤ i ∧ i < 2 ^ 62 ∧ -(2 ^ 62) ≤ j ∧ j < 2 ^ 62) ∧ R (rngL i (j - i).toNat) (fun _ => True) μ := by
  unfold itRng at h
  split at h
  · cases l
  · exact ⟨_, _, rfl, h.1, h.2⟩
  · cases l
  · exact h.elim
theorem rng3_inv {ds : List D} {μ : Mu} {R : IQ} (l : ds.length = 3) (h : itRng ds μ R) : ∃ i j c n, ds = [.int i, .int j, .int c] ∧ RgC i j c n ∧ R ((List.range n).map fun (k : Nat) => D.int (i + (k : Int) * c)) (fun _ => True) μ := by
  unfold itRng at h
  split at h
  · cases l
  · cases l
  · obtain ⟨n, h1, h2⟩ := h
    exact ⟨_, _, _, n, rfl, h1, h2⟩
  · exact h.elim

def teOf (X : Cx) (scope : Scope) (e : Expr) : TE := fun σ H Q => ∀ s H0 C cl fp, tS (X.blk s H0 scope (compEnvC scope cl C X.env) fp) e σ H Q
def tPOf (X : Cx) (scope : Scope) (e : Expr) : TT := fun σ H Q => ∀ s H0 C cl fp, tT (X.blk s H0 scope (compEnvC scope cl C X.env) fp) e σ H Q
theorem te_pe (X : Cx) (scope : Scope) (e : Expr) (s : Shared) (H : Hp) (C : Addr) (cl : List (Str × Addr)) (fp : List Addr) : PE (X.blk s H scope (compEnvC scope cl C X.env) fp) e (teOf X scope e) := ⟨fun pins s1 σ1 H1 Q1 I1 h => h s H C cl fp pins s1 I1⟩
theorem comp_ok {X : Cx} {Γ : Nat → DSp} {gl : Nat → D} {tb : Tb} {F0 G : Hp} {Ed : DXE} {sc : Scope} {own : Bool} {vs : List Nat} {tg : Tg} {it : Ic} {cond : T} {elt : C} {elt' tg' it' : Expr} {ifs' : List Expr} {scope : Scope} (si : SI it) (st : ST cond) (se : SE elt)
    (hcold : coldB tb = true) (g : Good X Γ gl tb F0 G Ed) (esc : X.env.scope = sc) (hi0 : chkI tb it sc tg' it' = true)
    (h3 : blkC tb.N sc scope (ownOf tb vs) = true ∧ (chkTg tb scope tg tg' && ((tgNames tg).all (vs.contains ·) && (ifsB (isYes cond) (fun c' => chkT tb cond (relS scope sc) c') ifs' && chkE tb elt (relS scope sc) elt'))) = true) :
    BlkOk X.N X.env.scope scope (ownOf tb vs) ∧ (∀ (s : Shared) (H : Hp) (C : Addr) (cl : List (Str × Addr)) (fp : List Addr), PG (X.blk s H scope (compEnvC scope cl C X.env) fp) tg' (gOf X.K tg)) ∧
    (∀ (s : Shared) (H : Hp) (C : Addr) (cl : List (Str × Addr)) (fp : List Addr), PTs (X.blk s H scope (compEnvC scope cl C X.env) fp) ifs' (ttOf (tPOf X scope) ifs')) ∧
    ∀ (σ : L2.St) (H F : Hp) (σd : DSt) (μ : Mu) (Q : DQ) (Cc : VK), Same F0 F → Ag X.K F G μ H → Sig X.K F σd σ → wpE Γ gl (.comp own vs tg it cond elt) σd μ Q (fun x μ' => Ed x σd μ') → (∀ v H', LQ X.K F G Q v H' → Cc v H') →
      tLc (tI X tg' it') (gOf X.K tg) (ttOf (tPOf X scope) ifs') (teOf X scope elt') ((ownOf tb vs).map (·.2)) σ H Cc := by
  have h4 := and2 h3.2
  have h5 := and2 h4.2
  have h6 := and2 h5.2
  have ok : BlkOk X.N X.env.scope scope (ownOf tb vs) := by rw [g.hN, esc]; exact blkOk_by h3.1
  have evs : (ownOf tb vs).map (·.2) = vs := by
    unfold ownOf
    rw [List.map_map]
    exact List.map_id vs
  have sub : ∀ i ∈ tgNames tg, i ∈ vs := fun i hi => by
    have := List.all_eq_true.mp h5.1 i hi
    simpa using this
  have relE : ∀ (s : Shared) (H : Hp) (C : Addr) (cl : List (Str × Addr)) (fp : List Addr), (X.blk s H scope (compEnvC scope cl C X.env) fp).env.scope = relS scope sc := fun s H C cl fp => by rw [← esc]; rfl
  have lo : ∀ (s : Shared) (H : Hp) (C : Addr) (cl : List (Str × Addr)) (fp : List Addr), LocOk (X.blk s H scope (compEnvC scope cl C X.env) fp) scope := fun s H C cl fp x hx => by
    unfold locB kOf at hx
    have e1 := relE s H C cl fp
    rcases Bool.or_eq_true_iff.mp hx with z | z
    · have z := of_decide_eq_true z
      have k := lookup_relS_keep (sc := sc) (names := scope.names) (x := x) (k := .local) (by decide) z
      refine ⟨.inl ?_, .inr ?_⟩ <;> (rw [e1]; exact k)
    · have z := of_decide_eq_true z
      have k := lookup_relS_keep (sc := sc) (names := scope.names) (x := x) (k := .cell) (by decide) z
      refine ⟨.inr ?_, .inl ?_⟩
      · rw [e1]; exact k
      · show (scope.names.lookup x == some .cell) = true
        rw [z]; rfl
  have pts : ∀ (s : Shared) (H : Hp) (C : Addr) (cl : List (Str × Addr)) (fp : List Addr), PTs (X.blk s H scope (compEnvC scope cl C X.env) fp) ifs' (ttOf (tPOf X scope) ifs') := fun s H C cl fp => by
    rcases ifs_cases h6.1 with ⟨z, _⟩ | ⟨c', z, _⟩
    · rw [z]; exact pts_nil
    · rw [z]; exact pts_one ⟨fun pins s1 σ1 H1 Q1 I1 h => h s H C cl fp pins s1 I1⟩
  refine ⟨ok, fun s H C cl fp => pg_of (X := X.blk s H scope (compEnvC scope cl C X.env) fp) (tb := tb) g.hN g.nd g.calm (lo s H C cl fp) h4.1, pts, fun σ H F σd μ Q Cc sf A S q fin0 => ?_⟩
  rw [evs]
  refine (si X Γ gl tb F0 G Ed sc tg' it' g esc hi0 σ H F σd μ _ sf A S q).mono fun J H1 ⟨F1, μ1, items, stab, s1, A1, iok, st0, lenI, q1⟩ D nD => ?_
  have nG : G D = none := none_of_same A1.g nD
  let we : DSt → Mu → DQ → Prop := fun σ' μ' k => wpE Γ gl elt σ' μ' k noE
  let wc : DSt → Mu → (Bool → Mu → Prop) → Prop := fun σ' μ' k => wpT Γ gl cond σ' μ' k noE
  refine ⟨fun i m H => i ≤ items.length ∧ m = items.length - i ∧ ∃ F2 μ2 acc accV, Same F1 F2 ∧ Ag X.K F2 (upd G D (.lst accV)) μ2 H ∧ Reps X.K F2 acc accV ∧ acc.length ≤ i ∧ stab μ2 ∧ compW tg vs wc we stab σd (items.drop i) acc μ2 (fun ds μ3 => newL own ds μ3 Q),
    ⟨_, Nat.zero_le _, rfl, F1, μ1, [], [], Same.refl _, A1.guard nD, .nil, Nat.zero_le _, st0, by rw [List.drop_zero]; exact q1⟩, ?_⟩
  rintro i m H2 ⟨hi, rfl, F2, μ2, acc, accV, s2, A2, ra, la, st2, qc⟩
  have io := iok i F2 (upd G D (.lst accV)) μ2 H2 s2 A2 st2
  by_cases hlt : i < items.length
  · refine .inr ?_
    have hd := List.getElem?_eq_getElem hlt
    have io1 := io.1 _ hd
    rw [List.drop_eq_getElem_cons hlt] at qc
    refine ⟨io1.1, fun H' => i + 1 ≤ items.length ∧ ∃ F2 μ2 acc accV, Same F1 F2 ∧ Ag X.K F2 (upd G D (.lst accV)) μ2 H' ∧ Reps X.K F2 acc accV ∧ acc.length ≤ i + 1 ∧ stab μ2 ∧ compW tg vs wc we stab σd (items.drop (i + 1)) acc μ2 (fun ds μ3 => newL own ds μ3 Q), fun H' ⟨l1, l2⟩ => ⟨items.length - (i + 1), by omega, l1, rfl, l2⟩, fun x H' y => ?_⟩
    obtain ⟨F3, s3, A3, rx⟩ := io1.2 x H' y
    have S3 := (S.mono (s1.trans (s2.trans s3))).wipe vs
    have gt := tg_ok A3 rx S3 (show tgW tg items[i] (dwipe σd vs) _ from qc)
    refine gOf_mono gt fun σ2 H4 ⟨e4, ew, σd2, S4, q4⟩ => ?_
    subst e4
    refine ⟨by rw [ew vs sub]; exact wipe_wipe _ _, ?_⟩
    -- the test
    have fin : ∀ (F4 : Hp) (b : Bool) (μ4 : Mu) (H5 : Hp), Same F3 F4 → Ag X.K F4 (upd G D (.lst accV)) μ4 H5 → Sig X.K F4 σd2 σ2 →
        (match b with
          | true => we σd2 μ4 fun y μ5 => stab μ5 ∧ compW tg vs wc we stab σd (items.drop (i + 1)) (acc ++ [y]) μ5 (fun ds μ3 => newL own ds μ3 Q)
          | false => stab μ4 ∧ compW tg vs wc we stab σd (items.drop (i + 1)) acc μ4 (fun ds μ3 => newL own ds μ3 Q)) →
        if b = true then teOf X scope elt' σ2 H5 fun y H6 => ∃ acc, H6 D = some (.lst acc) ∧ acc.length < sizeLine ∧ (i + 1 ≤ items.length ∧ ∃ F2 μ2 acc' accV, Same F1 F2 ∧ Ag X.K F2 (upd G D (.lst accV)) μ2 (upd H6 D (.lst (acc ++ [y]))) ∧ Reps X.K F2 acc' accV ∧ acc'.length ≤ i + 1 ∧ stab μ2 ∧ compW tg vs wc we stab σd (items.drop (i + 1)) acc' μ2 (fun ds μ3 => newL own ds μ3 Q))
        else (i + 1 ≤ items.length ∧ ∃ F2 μ2 acc accV, Same F1 F2 ∧ Ag X.K F2 (upd G D (.lst accV)) μ2 H5 ∧ Reps X.K F2 acc accV ∧ acc.length ≤ i + 1 ∧ stab μ2 ∧ compW tg vs wc we stab σd (items.drop (i + 1)) acc μ2 (fun ds μ3 => newL own ds μ3 Q)) := by
      intro F4 b μ4 H5 s4 A4 S5 qb
      cases b with
      | false => exact iteF ⟨hlt, F4, μ4, acc, accV, s2.trans (s3.trans s4), A4, ra.mono (s3.trans s4), Nat.le_succ_of_le la, qb.1, qb.2⟩
      | true =>
        refine iteT fun s H0 C cl fp => ?_
        refine (se (X.blk s H0 scope (compEnvC scope cl C X.env) fp) Γ gl tb F4 (upd G D (.lst accV)) noEd (relS scope sc) elt' (g.blk s H0 scope _ fp _ _) (relE s H0 C cl fp) h6.2 σ2 H5 F4 σd2 μ4 _ (Same.refl _) A4 S5 qb).mono fun y H6 ⟨F5, d5, μ5, s5, A5, r5, st5, q5⟩ => ?_
        have len : accV.length < sizeLine := by rw [← ra.length]; exact Nat.lt_of_le_of_lt la (Nat.lt_of_lt_of_le hlt lenI)
        refine ⟨accV, A5.gAt, len, hlt, F5, μ5, acc ++ [d5], accV ++ [y], s2.trans (s3.trans (s4.trans s5)), A5.guarded, (ra.mono (s3.trans (s4.trans s5))).append (.cons r5 .nil), ?_, st5, q5⟩
        rw [List.length_append]
        exact Nat.succ_le_succ la
    rcases ifs_cases h6.1 with ⟨z, z2⟩ | ⟨c', z, z2⟩
    · rw [z]
      subst z2
      exact fin F3 true μ2 H4 (Same.refl _) A3 S4 q4
    · rw [z]
      intro s H0 C cl fp
      exact (st (X.blk s H0 scope (compEnvC scope cl C X.env) fp) Γ gl tb F3 (upd G D (.lst accV)) noEd (relS scope sc) c' (g.blk s H0 scope _ fp _ _) (relE s H0 C cl fp) z2 σ2 H4 F3 σd2 μ2 _ (Same.refl _) A3 S4 q4).mono fun b H5 ⟨F4, μ4, s4, A4, q5⟩ => fin F4 b μ4 H5 s4 A4 (S4.mono s4) q5
  · have e : i = items.length := by omega
    subst e
    refine .inl ⟨io.2 rfl, ?_⟩
    rw [List.drop_length] at qc
    have qc : newL own acc μ2 Q := qc
    cases own with
    | true => exact fin0 _ _ (LQ.mk (s1.trans s2) (A2.newG nG (.lst ra)) (.obj D) (qc D A2.gNe))
    | false => exact fin0 _ _ (LQ.mk (s1.trans (s2.trans (A2.laidG nG).2)) (A2.laidG nG).1 (.lst upd_same (ra.mono (A2.laidG nG).2)) qc)

/-- isinstance of a kept refusal, whatever its class -/
theorem call_isxU {X : Cx} : CallR X (.builtin "isinstance") (fun xs H Q => (∃ x C, ClsF X.K x C ∧ ∃ (a : Addr) (d : Option Addr) (c : V) (cv : Value) (b : Bool), xs = [.ref a, c] ∧ H a = some (exv a (.ref C) d) ∧ (∀ dx, d = some dx → ∃ vs, H dx = some (.xd vs)) ∧
    ClsV c cv ∧ PySem.W.kitOne X.K (.ref C) cv = some b ∧ Q (.bl b) H) ∨ ∃ x C, ClsF X.K x C ∧ ∃ (a tp : Addr) (d : Option Addr) (cs : List V) (us : List Value) (b : Bool), xs = [.ref a, .ref tp] ∧ H a = some (exv a (.ref C) d) ∧ (∀ dx, d = some dx → ∃ vs, H dx = some (.xd vs)) ∧
    SqT X.K H tp cs ∧ Paired ClsV cs us ∧ PySem.W.kitAny X.K (.ref C) us = some b ∧ Q (.bl b) H) := by
  intro pins s σ H xs us Q I r h
  rcases h with ⟨x, C, f, h⟩ | ⟨x, C, f, h⟩
  · exact call_isx f pins s σ H xs us Q I r h
  · exact call_isxT f pins s σ H xs us Q I r h
section
variable {X : Cx} {Γ : Nat → DSp} {gl : Nat → D} {tb : Tb} {F0 F F1 G H : Hp} {Ed : DXE} {μ : Mu}
theorem exc_at {n : Str} {ns : List Str} {ds : List D} {v : V} (A : Ag X.K F1 G μ H) (r : Rep X.K F1 (.exc n ns ds) v) : ∃ (a C : Addr) (d : Option Addr), v = .ref a ∧ clsAt X.K n C ∧ H a = some (exv a (.ref C) d) ∧ ∀ dx, d = some dx → ∃ vs, H dx = some (.xd vs) := by
  cases r with
  | exc0 h0 h1 => exact ⟨_, _, none, rfl, h0, A.f _ _ h1, fun dx e => by cases e⟩
  | exc h0 h1 h2 h3 h4 => exact ⟨_, _, _, rfl, h0, A.f _ _ h1, fun dx e => by cases e; exact ⟨_, A.f _ _ h2⟩⟩
theorem cls_all {n : Str} {C : Addr} {i : Nat} (g : Good X Γ gl tb F0 G Ed) (hi : gl i = .cls n true) (hC : clsAt X.K n C) : ∀ {es : List D} {ys : List Str} {vs : List V}, clsL es = some ys → Reps X.K F1 es vs → (∀ y ∈ ys, ∃ i t, gl i = .cls y t) → ∃ us, Paired ClsV vs us ∧ PySem.W.kitAny X.K (.ref C) us = some (ys.any (exSub n))
  | [], ys, vs, h, r, hy => by
    cases h
    cases r
    exact ⟨[], .nil, rfl⟩
  | e :: es, ys, vs, h, r, hy => by
    cases e <;> first | cases h | skip
    rename_i y t
    have h : (clsL es).map (y :: ·) = some ys := h
    cases ez : clsL es with
    | none => rw [ez] at h; cases h
    | some zs =>
      rw [ez] at h
      cases h
      cases r with
      | cons r1 r2 =>
        cases r1 with
        | cls hC2 =>
          obtain ⟨j, t2, hj⟩ := hy y List.mem_cons_self
          have k1 := (g.kit i n C j y t2 _ hi hj hC hC2).1
          obtain ⟨us, p, k2⟩ := cls_all g hi hC ez r2 fun z hz => hy z (List.mem_cons_of_mem _ hz)
          refine ⟨_ :: us, .cons (.own _) p, ?_⟩
          unfold PySem.W.kitAny
          rw [k1]
          cases e : exSub n y with
          | true => simp [e]
          | false => simp [e, k2]
theorem isx_ok {x y : D} {v w : V} {Q : DQ} (g : Good X Γ gl tb F0 G Ed) (A : Ag X.K F1 G μ H) (rx : Rep X.K F1 x v) (ry : Rep X.K F1 y w) (s : Same F F1) (q : isxW gl x y fun k => Q (.bl k) μ) :
    (∃ x C, ClsF X.K x C ∧ ∃ (a : Addr) (d : Option Addr) (c : V) (cv : Value) (b : Bool), [v, w] = [.ref a, c] ∧ H a = some (exv a (.ref C) d) ∧ (∀ dx, d = some dx → ∃ vs, H dx = some (.xd vs)) ∧
    ClsV c cv ∧ PySem.W.kitOne X.K (.ref C) cv = some b ∧ LQ X.K F G Q (.bl b) H) ∨ ∃ x C, ClsF X.K x C ∧ ∃ (a tp : Addr) (d : Option Addr) (cs : List V) (us : List Value) (b : Bool), [v, w] = [.ref a, .ref tp] ∧ H a = some (exv a (.ref C) d) ∧ (∀ dx, d = some dx → ∃ vs, H dx = some (.xd vs)) ∧
    SqT X.K H tp cs ∧ Paired ClsV cs us ∧ PySem.W.kitAny X.K (.ref C) us = some b ∧ LQ X.K F G Q (.bl b) H := by
  cases x <;> first | exact q.elim | skip
  rename_i n ns ds
  obtain ⟨ys, hys, ⟨i, hi⟩, hy, q⟩ := q
  obtain ⟨a, C, d, rfl, hC, ha, hd⟩ := exc_at A rx
  have f := (g.cls i n true C hi hC).2 rfl
  cases y <;> first | cases hys | skip
  · rename_i es
    cases ry with
    | tup t rv =>
      obtain ⟨us, p, k⟩ := cls_all g hi hC hys rv hy
      exact .inr ⟨n, C, f, a, _, d, _, us, _, rfl, ha, hd, sqT_mono A.f t, p, k, LQ.mk s A (.bl _) q⟩
  · rename_i y t
    cases ry with
    | cls hC2 =>
      obtain ⟨j, t2, hj⟩ := hy y List.mem_cons_self
      have k := (g.kit i n C j y t2 _ hi hj hC hC2).1
      refine .inl ⟨n, C, f, a, d, _, _, _, rfl, ha, hd, .own _, k, LQ.mk s A (.bl _) ?_⟩
      simpa using q
theorem isv_ok {x : D} {v : V} {Q : DQ} (g : Good X Γ gl tb F0 G Ed) (A : Ag X.K F1 G μ H) (rx : Rep X.K F1 x v) (s : Same F F1) (q : isvW gl x fun k => Q (.bl k) μ) :
    (∃ x C, ClsF X.K x C ∧ ∃ (a : Addr) (d : Option Addr) (c : V) (cv : Value) (b : Bool), [v, V.ty "ValueError"] = [.ref a, c] ∧ H a = some (exv a (.ref C) d) ∧ (∀ dx, d = some dx → ∃ vs, H dx = some (.xd vs)) ∧
    ClsV c cv ∧ PySem.W.kitOne X.K (.ref C) cv = some b ∧ LQ X.K F G Q (.bl b) H) ∨ ∃ x C, ClsF X.K x C ∧ ∃ (a tp : Addr) (d : Option Addr) (cs : List V) (us : List Value) (b : Bool), [v, V.ty "ValueError"] = [.ref a, .ref tp] ∧ H a = some (exv a (.ref C) d) ∧ (∀ dx, d = some dx → ∃ vs, H dx = some (.xd vs)) ∧
    SqT X.K H tp cs ∧ Paired ClsV cs us ∧ PySem.W.kitAny X.K (.ref C) us = some b ∧ LQ X.K F G Q (.bl b) H := by
  cases x <;> first | exact q.elim | skip
  rename_i n ns ds
  obtain ⟨⟨i, hi⟩, q⟩ := q
  obtain ⟨a, C, d, rfl, hC, ha, hd⟩ := exc_at A rx
  have f := (g.cls i n true C hi hC).2 rfl
  exact .inl ⟨n, C, f, a, d, _, _, true, rfl, ha, hd, .ty _, f.v, LQ.mk s A (.bl _) q⟩
end
theorem zip_lookup {K : PySem.W.Frag} {F : Hp} {n : Str} {d : D} : ∀ {ns : List Str} {ds : List D} {vs : List V}, Reps K F ds vs → (ns.zip ds).lookup n = some d → ∃ v, (ns.zip vs).lookup n = some v ∧ Rep K F d v
  | [], _, _, _, h => by cases h
  | _ :: _, [], _, _, h => by cases h
  | m :: ns, x :: ds, _, .cons rx rs, h => by
    rw [List.zip_cons_cons, List.lookup_cons] at h
    by_cases e : n == m
    · rw [e] at h
      cases h
      exact ⟨_, by rw [List.zip_cons_cons, List.lookup_cons, e], rx⟩
    · have e := Bool.eq_false_iff.mpr e
      rw [e] at h
      obtain ⟨v, h1, h2⟩ := zip_lookup rs h
      exact ⟨v, by rw [List.zip_cons_cons, List.lookup_cons, e]; exact h1, h2⟩
theorem passF {X : Cx} : Passes (L2.CX X.prog X.w) X (fun _ _ _ => False) := fun pins σ H s e s' I h => by
  obtain ⟨_, _, _, _, _, _, _, _, _, _, _, _, z⟩ := h
  exact z.elim
mutual
theorem sE : ∀ c : C, SE c
  | .var i => fun X Γ gl tb F0 G Ed sc e g esc hc σ H F σd μ Q sf A S q => by
    obtain ⟨x, p, rfl, h⟩ := onName_inv (show onName e _ = true from hc)
    have h1 := and2 h
    have h2 := and2 h1.2
    have hu := und_of h2.2
    refine PE.to (pe_var (i := i) (by rw [g.hN]; exact of_decide_eq_true h1.1) (vis_of (by rw [esc]; exact h2.1)) hu.1 hu.2) ?_
    have q : (match σd[i]? with | some (some d) => Q d μ | _ => False) := q
    cases e : σd[i]? with
    | none => rw [e] at q; exact q.elim
    | some o =>
      cases o with
      | none => rw [e] at q; exact q.elim
      | some d =>
        rw [e] at q
        obtain ⟨v, hv, r⟩ := S.2 i d e
        exact ⟨v, hv, LQ.here A r q⟩
  | .int n => fun X Γ gl tb F0 G Ed sc e g esc hc σ H F σd μ Q sf A S q => by
    obtain ⟨c, j, p, rfl, h⟩ := onConst_inv (show onConst e _ = true from hc)
    rw [of_decide_eq_true h]
    exact PE.to pe_int (LQ.here A (.int n) q)
  | .str n => fun X Γ gl tb F0 G Ed sc e g esc hc σ H F σd μ Q sf A S q => by
    obtain ⟨c, j, p, rfl, h⟩ := onConst_inv (show onConst e _ = true from hc)
    rw [of_decide_eq_true h]
    exact PE.to pe_str (LQ.here A (.str n) q)
  | .bl n => fun X Γ gl tb F0 G Ed sc e g esc hc σ H F σd μ Q sf A S q => by
    obtain ⟨c, j, p, rfl, h⟩ := onConst_inv (show onConst e _ = true from hc)
    rw [of_decide_eq_true h]
    exact PE.to pe_bl (LQ.here A (.bl n) q)
  | .non => fun X Γ gl tb F0 G Ed sc e g esc hc σ H F σd μ Q sf A S q => by
    obtain ⟨c, j, p, rfl, h⟩ := onConst_inv (show onConst e _ = true from hc)
    rw [of_decide_eq_true h]
    exact PE.to pe_non (LQ.here A .non q)
  | .glob i => fun X Γ gl tb F0 G Ed sc e g esc hc σ H F σd μ Q sf A S q => by
    obtain ⟨x, p, rfl, h⟩ := onName_inv (show onName e _ = true from hc)
    have h1 := and2 h
    have h2 := and2 h1.2
    obtain ⟨u, v, hm, r, hr⟩ := g.glb i x (of_decide_eq_true h1.1)
    exact PE.to (pe_glob (glo_of (by rw [esc]; exact h2.1)) hm r (und_of h2.2).1) (LQ.here A (hr.1 F) q)
  | .bin o a b => fun X Γ gl tb F0 G Ed sc e g esc hc σ H F σd μ Q sf A S q => by
    obtain ⟨a', b', p, rfl, h⟩ := onBin_inv (show onBin e _ _ = true from hc)
    have h := and2 h
    refine PE.to (pe_op opSem (tS_pe X a') (tS_pe X b')) ?_
    refine bindE (sE a) g esc h.1 sf A S q fun F1 d v μ1 H1 s1 A1 S1 r1 q1 => bindE (sE b) g esc h.2 (sf.trans s1) A1 S1 q1 fun F2 d2 v2 μ2 H2 s2 A2 S2 r2 q2 => ?_
    exact (bin_ok g.unit o A2 (r1.mono s2) r2 q2).mono fun _ _ => LQ.weak (s1.trans s2)
  | .neg a => fun X Γ gl tb F0 G Ed sc e g esc hc σ H F σd μ Q sf A S q => by
    obtain ⟨a', p, rfl, h⟩ := onUn_inv (show onUn e _ _ = true from hc)
    refine PE.to (pe_un un_neg (tS_pe X a')) ?_
    refine bindE (sE a) g esc h sf A S q fun F1 d v μ1 H1 s1 A1 S1 r1 q1 => ?_
    cases r1 <;> first
      | exact ⟨_, rfl, LQ.weak s1 (LQ.here A1 (.int _) q1)⟩
      | exact q1.elim
  | .cmp o a b => fun X Γ gl tb F0 G Ed sc e g esc hc σ H F σd μ Q sf A S q => by
    obtain ⟨a', b', p, rfl, h⟩ := onCmp_inv (show onCmp e _ _ = true from hc)
    have h := and2 h
    have h2 := and2 h.2
    have h3 := and2 h2.2
    refine PE.to (pe_cmpR opSem (tS_pe X a') (tS_pe X b') (by cases b' <;> first | rfl | cases h3.1)) ?_
    exact cmp_rd (k := fun b μ' => Q (.bl b) μ') (sE a) (sE b) g esc h.1 h2.1 h3.2 sf A S q fun F3 b μ3 H3 s3 A3 S3 q3 => LQ.mk s3 A3 (.bl b) q3
  | .chain o o' a b c => fun X Γ gl tb F0 G Ed sc e g esc hc σ H F σd μ Q sf A S q => by
    obtain ⟨a', b', c', p, rfl, h⟩ := onCmp2_inv (show onCmp2 e _ _ _ = true from hc)
    have h1 := and2 h
    have h2 := and2 h1.2
    have h3 := and2 h2.2
    have h4 := and2 h3.2
    refine PE.to (pe_chain opSem opSem (tS_pe X a') (tS_pe X b') (tS_pe X c') (by cases c' <;> first | rfl | cases h4.1)) ?_
    exact chain_rd (k := fun b μ' => Q (.bl b) μ') (sE a) (sE b) (sE c) g esc h1.1 h2.1 h3.1 h4.2 sf A S q fun F3 b μ3 H3 s3 A3 S3 q3 => LQ.mk s3 A3 (.bl b) q3
  | .and a b => fun X Γ gl tb F0 G Ed sc e g esc hc σ H F σd μ Q sf A S q => by
    have go : ∀ {a' b' : Expr}, chkE tb a sc a' = true → chkE tb b sc b' = true → tAndV (tS X a') (tS X b') σ H (LQ X.K F G Q) := fun {a' b'} ca cb =>
      bindE (sE a) g esc ca sf A S q fun F1 d v μ1 H1 s1 A1 S1 r1 q1 => by
        cases r1 with
        | bl k =>
          refine ⟨k, rfl, ?_⟩
          cases k with
          | true => exact iteT (bindE (sE b) g esc cb (sf.trans s1) A1 S1 q1 fun F2 d2 v2 μ2 H2 s2 A2 S2 r2 q2 => LQ.mk (s1.trans s2) A2 r2 q2)
          | false => exact iteF (LQ.mk s1 A1 (.bl _) q1)
        | _ => exact q1.elim
    rcases onBool_inv (show onBool e _ _ = true from hc) with ⟨a', b', p, rfl, h⟩ | ⟨a', b', c', r, p, rfl, h⟩
    · have h := and2 h
      exact PE.to (pe_and (tS_pe X a') (pe_one (tS_pe X b'))) (go h.1 h.2)
    · have h := and2 h
      exact PE.to (pe_and (tS_pe X a') (tS_pe X _)) (go h.1 h.2)
  | .or a b => fun X Γ gl tb F0 G Ed sc e g esc hc σ H F σd μ Q sf A S q => by
    have go : ∀ {a' b' : Expr}, chkE tb a sc a' = true → chkE tb b sc b' = true → tOrV (tS X a') (tS X b') σ H (LQ X.K F G Q) := fun {a' b'} ca cb =>
      bindE (sE a) g esc ca sf A S q fun F1 d v μ1 H1 s1 A1 S1 r1 q1 => by
        cases r1 with
        | bl k =>
          refine ⟨k, rfl, ?_⟩
          cases k with
          | false => exact iteF (bindE (sE b) g esc cb (sf.trans s1) A1 S1 q1 fun F2 d2 v2 μ2 H2 s2 A2 S2 r2 q2 => LQ.mk (s1.trans s2) A2 r2 q2)
          | true => exact iteT (LQ.mk s1 A1 (.bl _) q1)
        | _ => exact q1.elim
    rcases onBool_inv (show onBool e _ _ = true from hc) with ⟨a', b', p, rfl, h⟩ | ⟨a', b', c', r, p, rfl, h⟩
    · have h := and2 h
      exact PE.to (pe_or (tS_pe X a') (pe_one (tS_pe X b'))) (go h.1 h.2)
    · have h := and2 h
      exact PE.to (pe_or (tS_pe X a') (tS_pe X _)) (go h.1 h.2)
  | .not a => fun X Γ gl tb F0 G Ed sc e g esc hc σ H F σd μ Q sf A S q => by
    obtain ⟨a', p, rfl, h⟩ := onUn_inv (show onUn e _ _ = true from hc)
    refine PE.to (pe_not (tS_pe X a')) ?_
    refine bindE (sE a) g esc h sf A S q fun F1 d v μ1 H1 s1 A1 S1 r1 q1 => ?_
    cases r1 <;> first
      | exact ⟨_, rfl, LQ.mk s1 A1 (.bl _) q1⟩
      | exact q1.elim
  | .ite t a b => fun X Γ gl tb F0 G Ed sc e g esc hc σ H F σd μ Q sf A S q => by
    obtain ⟨t', a', b', p, rfl, h⟩ := onIf_inv (show onIf e _ = true from hc)
    have h1 := and2 h
    have h2 := and2 h1.2
    refine PE.to (pe_ifExp (tT_pt X t') (tS_pe X a') (tS_pe X b')) ?_
    refine bindT (sT t) g esc h1.1 sf A S q fun F1 k μ1 H1 s1 A1 S1 q1 => ?_
    cases k with
    | true => exact iteT (bindE (sE a) g esc h2.1 (sf.trans s1) A1 S1 q1 fun F2 d2 v2 μ2 H2 s2 A2 S2 r2 q2 => LQ.mk (s1.trans s2) A2 r2 q2)
    | false => exact iteF (bindE (sE b) g esc h2.2 (sf.trans s1) A1 S1 q1 fun F2 d2 v2 μ2 H2 s2 A2 S2 r2 q2 => LQ.mk (s1.trans s2) A2 r2 q2)
  | .idx a i => fun X Γ gl tb F0 G Ed sc e g esc hc σ H F σd μ Q sf A S q => by
    obtain ⟨a', i', p, rfl, h⟩ := onSub_inv (show onSub e _ = true from hc)
    have h1 := and2 h
    have h2 := and2 h1.2
    refine PE.to (pe_ix ixSem (tS_pe X a') (tS_pe X i') (slice_ok h2.2)) ?_
    refine bindE (sE a) g esc h1.1 sf A S q fun F1 d v μ1 H1 s1 A1 S1 r1 q1 => bindE (sE i) g esc h2.1 (sf.trans s1) A1 S1 q1 fun F2 d2 v2 μ2 H2 s2 A2 S2 r2 q2 => ?_
    exact (idx_ok A2 (r1.mono s2) r2 q2).mono fun _ _ => LQ.weak (s1.trans s2)
  | .sl own a lo hi => fun X Γ gl tb F0 G Ed sc e g esc hc σ H F σd μ Q sf A S q => by
    obtain ⟨a', s', p, rfl, h⟩ := onSub_inv (show onSub e _ = true from hc)
    obtain ⟨lo', hi', p2, rfl, h⟩ := onSlice_inv h
    have h1 := and2 h
    have h2 := and2 h1.2
    refine PE.to (pe_slice slSem (tS_pe X a') (tO_po X lo') (tO_po X hi')) ?_
    have part : ∀ (c : C) (c' : Option Expr) (F1 : Hp) (H1 : Hp) (μ1 : Mu) (k : Option Int → Mu → Prop) (Cc : Option Int → Hp → Prop), SE c → (match c' with | none => isAbs c | some l => !isAbs c && chkE tb c sc l) = true → Same F0 F1 → Ag X.K F1 G μ1 H1 → Sig X.K F1 σd σ →
        optW (isAbs c) (fun m q => wpE Γ gl c σd m q (fun x μ' => Ed x σd μ')) μ1 k → (∀ F2 μ2 H2 l, Same F1 F2 → Ag X.K F2 G μ2 H2 → Sig X.K F2 σd σ → k l μ2 → Cc l H2) → tO X c' σ H1 Cc := fun c c' F1 H1 μ1 k Cc ih hc sf1 A1 S1 q1 fin => by
      cases c' with
      | none =>
        have e : isAbs c = true := hc
        rw [e] at q1
        exact fin F1 μ1 H1 none (Same.refl _) A1 S1 q1
      | some l =>
        have hc := and2 hc
        have e : isAbs c = false := by simpa using hc.1
        rw [e] at q1
        exact bindE ih g esc hc.2 sf1 A1 S1 q1 fun F2 d2 v2 μ2 H2 s2 A2 S2 r2 q2 => by
          cases r2 <;> first
            | exact ⟨_, rfl, fin F2 μ2 H2 _ s2 A2 S2 q2⟩
            | exact q2.elim
    refine bindE (sE a) g esc h1.1 sf A S q fun F1 d v μ1 H1 s1 A1 S1 r1 q1 => ?_
    refine part lo lo' F1 H1 μ1 _ _ (sE lo) h2.1 (sf.trans s1) A1 S1 q1 fun F2 μ2 H2 l s2 A2 S2 q2 => ?_
    refine part hi hi' F2 H2 μ2 _ _ (sE hi) h2.2 (sf.trans (s1.trans s2)) A2 S2 q2 fun F3 μ3 H3 l' s3 A3 S3 q3 => ?_
    exact (sl_ok own A3 (r1.mono (s2.trans s3)) q3).mono fun _ _ => LQ.weak (s1.trans (s2.trans s3))
  | .sl2 own b a => fun X Γ gl tb F0 G Ed sc e g esc hc σ H F σd μ Q sf A S q => by
    obtain ⟨a', s', p, rfl, h⟩ := onSub_inv (show onSub e _ = true from hc)
    have h1 := and2 h
    obtain ⟨j, k, k2, p1, p2, p3, rfl, hj⟩ := isTwo_inv h1.1
    refine PE.to (pe_sl2 hj (tS_pe X a')) ?_
    refine bindE (sE a) g esc h1.2 sf A S q fun F1 d v μ1 H1 s1 A1 S1 r1 q1 => ?_
    obtain ⟨ds, q2, q3⟩ := q1
    obtain ⟨p, vs, rfl, hs, rr⟩ := seqL_ok A1 r1 q2
    exact ⟨_, _, rfl, hs, fun r n => LQ.weak s1 (newL_ok A1 n (rr.evJ b) q3)⟩
  | .revs a => fun X Γ gl tb F0 G Ed sc e g esc hc σ H F σd μ Q sf A S q => by
    obtain ⟨a', s', p, rfl, h⟩ := onSub_inv (show onSub e _ = true from hc)
    have h1 := and2 h
    obtain ⟨k, p1, p2, p3, rfl⟩ := isBack_inv h1.1
    refine PE.to (pe_revA (tS_pe X a')) ?_
    refine bindE (sE a) g esc h1.2 sf A S q fun F1 d v μ1 H1 s1 A1 S1 r1 q1 => ?_
    rcases rev_ok (te := tS X a') A1 r1 q1 with ⟨p, xs, e, hx, w⟩ | ⟨p, xs, e, hx, w⟩
    · exact .inl ⟨p, xs, e, hx, fun r n => LQ.weak s1 (w r n)⟩
    · exact .inr ⟨p, xs, e, hx, fun r n => LQ.weak s1 (w r n)⟩
  | .absent => fun X Γ gl tb F0 G Ed sc e g esc hc σ H F σd μ Q sf A S q => by cases hc
  | .tup as => fun X Γ gl tb F0 G Ed sc e g esc hc σ H F σd μ Q sf A S q => by
    obtain ⟨es, j, p, rfl, h⟩ := onTup_inv (show onTup e _ = true from hc)
    have h := and2 h
    refine PE.to (pe_tup (tA_pa X es)) ?_
    refine bindA (sA as) g esc h.1 sf A S q fun F1 ds vs μ1 H1 s1 A1 S1 r1 l1 q1 => ⟨?_, fun p np => LQ.weak s1 (newT_ok A1 np r1 q1)⟩
    rw [← r1.length, l1]
    exact Nat.le_of_lt (small1000 (of_decide_eq_true h.2))
  | .lst own as => fun X Γ gl tb F0 G Ed sc e g esc hc σ H F σd μ Q sf A S q => by
    obtain ⟨es, p, rfl, h⟩ := onLst_inv (show onLst e _ = true from hc)
    have h := and2 h
    refine PE.to (pe_lst (tA_pa X es)) ?_
    refine bindA (sA as) g esc h.1 sf A S q fun F1 ds vs μ1 H1 s1 A1 S1 r1 l1 q1 => ⟨?_, fun p np => LQ.weak s1 (newL_ok A1 np r1 q1)⟩
    rw [← r1.length, l1]
    exact Nat.le_of_lt (small1000 (of_decide_eq_true h.2))
  | .mget i a => fun X Γ gl tb F0 G Ed sc e g esc hc σ H F σd μ Q sf A S q => by
    obtain ⟨d', i', p, rfl, h⟩ := onSub_inv (show onSub e _ = true from hc)
    obtain ⟨x, px, rfl, h⟩ := onName_inv h
    have h1 := and2 h
    have h2 := and2 h1.2
    have h3 := and2 h2.2
    have h4 := and2 h3.2
    obtain ⟨u, v, hm, r, hr⟩ := g.glb i x (of_decide_eq_true h1.1)
    refine PE.to (pe_mget (pe_glob (glo_of (by rw [esc]; exact h2.1)) hm r (und_of h3.1).1) (tS_pe X i') (slice_ok h4.2)) ?_
    refine bindE (sE a) g esc h4.1 sf A S q fun F1 d v1 μ1 H1 s1 A1 S1 r1 q1 => ?_
    obtain ⟨hr1, hr2⟩ := hr
    revert q1 hr1 hr2
    generalize gl i = gd
    intro q1 hr1 hr2
    cases gd <;> first | exact q1.elim | skip
    obtain ⟨k, d2, hk, hd, q2⟩ := q1
    obtain ⟨ad, vs, us, rfl, hl, hreps, kv, md⟩ := hr2
    obtain rfl := keyK_ok r1 hk
    have rr := kreps_zip hl (hreps F1)
    rcases rr.get k with ⟨e1, _⟩ | ⟨d3, w, e1, e2, rw⟩
    · rw [hd] at e1; cases e1
    · rw [hd] at e1; cases e1
      obtain ⟨w', hw, rw'⟩ := RelO.some_of (v := w) (o := valueAt us k) (by rw [← e2]; exact kv.val k)
      exact ⟨ad, us, k, w', w, rfl, md, rfl, hw, rw', LQ.mk s1 A1 rw q2⟩
  | .callV i fs as => fun X Γ gl tb F0 G Ed sc e g esc hc σ H F σd μ Q sf A S q => by
    obtain ⟨x, p, es, p2, rfl, h⟩ := onCall_inv (show onCall e _ = true from hc)
    have h1 := and2 h
    have h2 := and2 h1.2
    have h3 := and2 h2.2
    have h4 := and2 h3.2
    have h5 := and2 h4.2
    have q : (match σd[i]? with
      | some (some (.cls y _)) => ∃ j, (y, j) ∈ fs ∧ wpA Γ gl as σd μ (fun ds μ1 => callW (Γ j) ds μ1 Q (fun x μ' => Ed x σd μ')) (fun x μ' => Ed x σd μ')
      | _ => False) := q
    cases e1 : σd[i]? with
    | none => rw [e1] at q; exact q.elim
    | some o =>
      cases o with
      | none => rw [e1] at q; exact q.elim
      | some d =>
        rw [e1] at q
        cases d <;> first | exact q.elim | skip
        rename_i y ty
        obtain ⟨j, hj, q⟩ := q
        obtain ⟨v, hv, rv⟩ := S.2 i _ e1
        cases rv with
        | @cls _ _ C hC =>
        have hall := List.all_eq_true.mp h4.1 _ hj
        have hall := and2 hall
        obtain ⟨fa, fd, ps, k, hr, hm, hk, hb, FO⟩ := g.fn j y _ (of_decide_eq_true hall.1) (of_decide_eq_true hall.2)
        have sa := sA as X Γ gl tb F0 G Ed sc es g esc h5.1
        cases es with
        | nil => cases h5.2
        | cons e0 es =>
          have hs := and2 sa.1
          refine PE.to (pe_ns (y := y) (v := .ref C) (t := tCallLS i C (toSp X.K as.len (Γ j)) (fun σ => WE (LW X.K F0 G Ed) σ) (tA X (e0 :: es))) hC fun hm2 => ?_) ?_
          · have e2 : fa = C := by
              have := hm.symm.trans hm2
              cases this
              rfl
            subst e2
            exact pe_callLS FO hr (by rw [g.hN]; exact of_decide_eq_true h1.1) (vis_of (by rw [esc]; exact h2.1)) hk hb (fun σ => passAt g.tk σ) (tA_pa X (e0 :: es)) (und_of h3.1).1 (und_of h3.1).2 (star_ok hs.1 _ _) (stars_ok _ _ hs.2)
          · refine ⟨hv, ?_⟩
            refine bindA (sA as) g esc h5.1 sf A S q fun F1 ds vs μ1 H1 s1 A1 S1 r1 l1 q1 => ?_
            obtain ⟨μp, μr, hp, q2⟩ := q1
            have A2 := perm_lend A1 hp
            refine ⟨by rw [← r1.length]; exact l1, ds, F1, over G μr H1, μp, _, _, r1, A2.lend, q2, fun d v μ' F' H' qd s A' r => ?_, fun dx cls dd μ' F' H' qd s A' r => ?_⟩
            · exact LQ.mk (s1.trans s) (A2.back s A') r qd
            · exact ⟨F', σd, _, dx, sf.trans (s1.trans s), A2.back s A', S1.mono s, r, qd⟩
  | .callH f as => fun X Γ gl tb F0 G Ed sc e g esc hc σ H F σd μ Q sf A S q => by
    obtain ⟨x, p, es, p2, rfl, h⟩ := onCall_inv (show onCall e _ = true from hc)
    have h1 := and2 h
    have h2 := and2 h1.2
    have h3 := and2 h2.2
    have h4 := and2 h3.2
    obtain ⟨fa, fd, ps, k, hr, hm, hk, hb, FO⟩ := g.hfn x _ f (of_decide_eq_true (and2 h1.1).1)
    have sa := sA as X Γ gl tb F0 G Ed sc es g esc h4.1
    cases es with
    | nil => cases h4.2
    | cons e0 es =>
      have hs := and2 sa.1
      refine PE.to (pe_callQ (E := WE (LW X.K F0 G Ed)) FO hr (glo_of (by rw [esc]; exact h2.1)) hm hk hb (fun σ => passAt g.tk σ) (tA_pa X (e0 :: es)) (und_of h3.1).1 (star_ok hs.1 _ _) (stars_ok _ _ hs.2)) ?_
      refine bindA (sA as) g esc h4.1 sf A S q fun F1 ds vs μ1 H1 s1 A1 S1 r1 l1 q1 => ?_
      obtain ⟨μp, μr, hp, q2⟩ := q1
      have A2 := perm_lend A1 hp
      refine ⟨by rw [← r1.length]; exact l1, ds, F1, over G μr H1, μp, _, _, r1, A2.lend, q2, fun d v μ' F' H' qd s A' r => ?_, fun dx cls dd μ' F' H' qd s A' r => ?_⟩
      · exact LQ.mk (s1.trans s) (A2.back s A') r qd
      · exact ⟨F', σd, _, dx, sf.trans (s1.trans s), A2.back s A', S1.mono s, r, qd⟩
  | .call f as => fun X Γ gl tb F0 G Ed sc e g esc hc σ H F σd μ Q sf A S q => by
    obtain ⟨x, p, es, p2, rfl, h⟩ := onCall_inv (show onCall e _ = true from hc)
    have h1 := and2 h
    have h2 := and2 h1.2
    have h3 := and2 h2.2
    have h4 := and2 h3.2
    obtain ⟨fa, fd, ps, k, hr, hm, hk, hb, FO⟩ := g.fn f x _ (of_decide_eq_true (and2 h1.1).1) (of_decide_eq_true (and2 h1.1).2)
    have sa := sA as X Γ gl tb F0 G Ed sc es g esc h4.1
    cases es with
    | nil => cases h4.2
    | cons e0 es =>
      have hs := and2 sa.1
      refine PE.to (pe_callS (E := WE (LW X.K F0 G Ed)) FO hr (glo_of (by rw [esc]; exact h2.1)) hm hk hb (fun σ => passAt g.tk σ) (tA_pa X (e0 :: es)) (und_of h3.1).1 (star_ok hs.1 _ _) (stars_ok _ _ hs.2)) ?_
      refine bindA (sA as) g esc h4.1 sf A S q fun F1 ds vs μ1 H1 s1 A1 S1 r1 l1 q1 => ?_
      obtain ⟨μp, μr, hp, q2⟩ := q1
      have A2 := perm_lend A1 hp
      refine ⟨by rw [← r1.length]; exact l1, ds, F1, over G μr H1, μp, _, _, r1, A2.lend, q2, fun d v μ' F' H' qd s A' r => ?_, fun dx cls dd μ' F' H' qd s A' r => ?_⟩
      · exact LQ.mk (s1.trans s) (A2.back s A') r qd
      · exact ⟨F', σd, _, dx, sf.trans (s1.trans s), A2.back s A', S1.mono s, r, qd⟩
  | .callN f as => fun X Γ gl tb F0 G Ed sc e g esc hc σ H F σd μ Q sf A S q => by
    obtain ⟨x, p, es, p2, rfl, h⟩ := onCall_inv (show onCall e _ = true from hc)
    have h1 := and2 h
    have h2 := and2 h1.2
    have h3 := and2 h2.2
    have h4 := and2 h3.2
    obtain ⟨fa, fd, ps, k, hr, hm, hk, hb, FO⟩ := g.fn f x _ (of_decide_eq_true (and2 h1.1).1) (of_decide_eq_true (and2 h1.1).2)
    have sa := sA as X Γ gl tb F0 G Ed sc es g esc h4.1
    cases es with
    | nil => cases h4.2
    | cons e0 es =>
      have hs := and2 sa.1
      refine PE.to (pe_callS (E := WE (LW X.K F0 G Ed)) FO hr (glo_of (by rw [esc]; exact h2.1)) hm hk hb (fun σ => passAt g.tk σ) (tA_pa X (e0 :: es)) (und_of h3.1).1 (star_ok hs.1 _ _) (stars_ok _ _ hs.2)) ?_
      refine bindA (sA as) g esc h4.1 sf A S q fun F1 ds vs μ1 H1 s1 A1 S1 r1 l1 q1 => ?_
      obtain ⟨μp, μr, hp, q2⟩ := q1
      have A2 := perm_lend A1 hp
      refine ⟨by rw [← r1.length]; exact l1, ds, F1, over G μr H1, μp, _, _, r1, A2.lend, q2, fun d v μ' F' H' qd s A' r => ?_, fun dx cls dd μ' F' H' qd s A' r => ?_⟩
      · exact LQ.mk (s1.trans s) (A2.back s A') r (qd (A2.back s A').nd)
      · exact ⟨F', σd, _, dx, sf.trans (s1.trans s), A2.back s A', S1.mono s, r, qd⟩
  | .new0 x i => fun X Γ gl tb F0 G Ed sc e g esc hc σ H F σd μ Q sf A S q => by
    obtain ⟨x', p, es, p2, rfl, h⟩ := onCall_inv (show onCall e _ = true from hc)
    have h1 := and2 h
    have h2 := and2 h1.2
    have h3 := and2 h2.2
    have h4 := and2 h3.2
    have h5 := and2 h4.2
    have ex := of_decide_eq_true h1.1
    subst ex
    cases es with
    | cons _ _ => cases h5.2
    | nil =>
      obtain ⟨⟨t, ht⟩, q1⟩ := q
      obtain ⟨u, v, hm, rv, rr⟩ := g.glb i x' (of_decide_eq_true h2.1)
      have r0 := rr.1 F
      rw [ht] at r0
      cases r0 with
      | @cls _ _ C hC =>
        obtain ⟨b, hm2⟩ := g.ob x' C (of_decide_eq_true h3.1) hC
        refine PE.to (pe_bare b (glo_of (by rw [esc]; exact h4.1)) hm2 (und_of h5.1).1) fun a dx na nd ne => ?_
        have A1 := A.laid (o := .own a) nd
        have na1 : upd H dx (.own a) a = none := by rw [upd_ne (Ne.symm ne)]; exact na
        exact LQ.mk ((A.laidF nd).trans (A1.laidF na1)) (A1.laid na1) (.ins (vs := []) hC upd_same rfl .nil) q1
  | .meth o m rs as => fun X Γ gl tb F0 G Ed sc e g esc hc σ H F σd μ Q sf A S q => by
    obtain ⟨o', m', ap, es, cp, rfl, hl, h⟩ := onMeth_inv (show onMeth e _ = true from hc)
    have h1 := and2 h
    have h2 := and2 h1.2
    have h3 := and2 h2.2
    have h4 := and2 h3.2
    have h5 := and2 h4.2
    have em := of_decide_eq_true h3.1
    subst em
    have sa := sA as X Γ gl tb F0 G Ed sc es g esc h5.1
    have key : ∀ t : TA, (∀ (F1 : Hp) (μ1 : Mu) (H1 : Hp) (Q1 : List D → Mu → Prop) (Cc : List V → Hp → Prop), Same F0 F1 → Ag X.K F1 G μ1 H1 → Sig X.K F1 σd σ → wpA Γ gl as σd μ1 Q1 (fun x μ' => Ed x σd μ') →
        (∀ F2 ds vs μ2 H2, Same F1 F2 → Ag X.K F2 G μ2 H2 → Sig X.K F2 σd σ → Reps X.K F2 ds vs → ds.length = as.len → Q1 ds μ2 → Cc vs H2) → t σ H1 Cc) → tMethD X m' (WE (LW X.K F0 G Ed)) (tS X o') t σ H (LQ X.K F G Q) := by
      intro t ht
      refine bindE (sE o) g esc h1.1 sf A S q fun F1 d v μ1 H1 s1 A1 S1 r1 q1 => ?_
      obtain ⟨c, ns, ds0, hi, hn, j, hj, q1⟩ := q1
      obtain ⟨a, C, dx, vs, rfl, ha, hC, hz, hr0⟩ := insOf_ok A1 r1 hi
      obtain ⟨f, fd, ps, k, hr, hc, hm, hb, FO⟩ := g.mt _ _ _ _ (of_decide_eq_true (List.all_eq_true.mp h4.1 _ hj)) _ hC
      refine ⟨a, C, dx, ns.zip vs, f, fd, ps, k, _, rfl, ha, zip_none hn, hc, hm, hr, hb, FO, ?_⟩
      refine ht F1 μ1 H1 _ _ (sf.trans s1) A1 S1 q1 fun F2 ds ws μ2 H2 s2 A2 S2 r2 l2 q2 => ?_
      obtain ⟨μp, μr, hp, q3⟩ := q2
      have A3 := perm_lend A2 hp
      refine ⟨by rw [List.length_cons, ← r2.length, l2], d :: ds, F2, over G μr H2, μp, _, _, .cons (Rep.mono s2 r1) r2, A3.lend, q3, fun d v μ' F' H' qd s A' r => ?_, fun dx cls dd μ' F' H' qd s A' r => ?_⟩
      · exact LQ.mk (s1.trans (s2.trans s)) (A3.back s A') r qd
      · exact ⟨F', σd, _, dx, sf.trans (s1.trans (s2.trans s)), A3.back s A', S2.mono s, r, qd⟩
    cases es with
    | nil =>
      cases as with
      | cons _ _ => cases h5.1
      | nil => exact PE.to (pe_methD0 (E := WE (LW X.K F0 G Ed)) (tS_pe X o') (fun σ => passAt g.tk σ) (recv_ok h2.1 _ _ _) hl) (key tNil fun F1 μ1 H1 Q1 Cc s1 A1 S1 q1 k => k F1 [] [] μ1 H1 (Same.refl _) A1 S1 .nil rfl q1)
    | cons e0 es =>
      have hs := and2 sa.1
      exact PE.to (pe_methD (E := WE (LW X.K F0 G Ed)) (tS_pe X o') (fun σ => passAt g.tk σ) (tA_pa X (e0 :: es)) (recv_ok h2.1 _ _ _) (few_ok sa.1 (of_decide_eq_true h5.2) _ _) hl (star_ok hs.1 _ _) (stars_ok _ _ hs.2)) (key (tA X (e0 :: es)) fun F1 μ1 H1 Q1 Cc s1 A1 S1 q1 k => bindA (sA as) g esc h5.1 s1 A1 S1 q1 k)
  | .revT own a => fun X Γ gl tb F0 G Ed sc e g esc hc σ H F σd μ Q sf A S q => by
    have h0 := and2 (show (coldB tb && onCall e _) = true from hc)
    obtain ⟨x, p, es, p2, rfl, h⟩ := onCall_inv h0.2
    have h1 := and2 h
    have h2 := and2 h1.2
    have ex := of_decide_eq_true h1.1
    subst ex
    obtain ⟨e1, rfl, h3⟩ := onOne2'_inv h2.2
    have h4 := and2 h3
    obtain ⟨y, p3, es2, p4, rfl, h5⟩ := onCall_inv h4.2
    have h6 := and2 h5
    have h7 := and2 h6.2
    have ey := of_decide_eq_true h6.1
    subst ey
    obtain ⟨e2, rfl, h8⟩ := onOne2'_inv h7.2
    have h9 := and2 h8
    have gl1 : Gl X "list" := glo_of (by rw [esc]; exact h2.1)
    have gr1 : Gl X "reversed" := glo_of (by rw [esc]; exact h7.1)
    refine PE.to (pe_lstRev (g.calm h0.1) gl1 (g.nm _ (by decide +kernel)) gr1 (g.nm _ (by decide +kernel)) (tS_pe X e2) (star_ok h9.1 _ _) (star_ok h4.1 _ _)) ?_
    refine bindE (sE a) g esc h9.2 sf A S q fun F1 d v μ1 H1 s1 A1 S1 r1 q1 => ?_
    cases d <;> first | exact q1.elim | skip
    cases r1 with
    | tup t1 r =>
      exact ⟨_, _, rfl, sqT_mono A1.f t1, fun r2 nr => LQ.weak s1 (newL_ok A1 nr r.reverse q1)⟩
  | .trng as => fun X Γ gl tb F0 G Ed sc e g esc hc σ H F σd μ Q sf A S q => by
    have h0 := and2 (show (coldB tb && onCall e _) = true from hc)
    obtain ⟨x, p, es, p2, rfl, h⟩ := onCall_inv h0.2
    have h1 := and2 h
    have h2 := and2 h1.2
    have ex := of_decide_eq_true h1.1
    subst ex
    obtain ⟨e1, rfl, h3⟩ := onOne2'_inv h2.2
    have h4 := and2 h3
    obtain ⟨y, p3, es2, p4, rfl, h5⟩ := onCall_inv h4.2
    have h6 := and2 h5
    have h7 := and2 h6.2
    have h8 := and2 h7.2
    have ey := of_decide_eq_true h6.1
    subst ey
    have sa := sA as X Γ gl tb F0 G Ed sc es2 g esc h8.1
    have gl1 : Gl X "tuple" := glo_of (by rw [esc]; exact h2.1)
    have gr1 : Gl X "range" := glo_of (by rw [esc]; exact h7.1)
    have fin : ∀ (a b : Int) (μ1 : Mu) (H1 F1 : Hp), Same F F1 → Ag X.K F1 G μ1 H1 → RngOk a b → Q (.tup (rngD a b)) μ1 → RgOk a b ∧ ∀ q, H1 q = none → LQ X.K F G Q (.ref q) (upd H1 q (.tup (rgV a b))) := fun a b μ1 H1 F1 s1 A1 ok q => by
      refine ⟨ok, fun r nr => LQ.weak s1 (newT_ok A1 nr ?_ q)⟩
      unfold rngD rgV
      generalize (List.range (b - a).toNat) = l
      induction l with
      | nil => exact .nil
      | cons i l ih => exact .cons (.int _) ih
    have finD : ∀ (a b : Int) (μ1 : Mu) (H1 F1 : Hp), Same F F1 → Ag X.K F1 G μ1 H1 → RngOk b a → Q (.tup (rngDD a b)) μ1 → RgOk b a ∧ ∀ q, H1 q = none → LQ X.K F G Q (.ref q) (upd H1 q (.tup (DL.rgD a b))) := fun a b μ1 H1 F1 s1 A1 ok q => by
      refine ⟨ok, fun r nr => LQ.weak s1 (newT_ok A1 nr ?_ q)⟩
      unfold rngDD DL.rgD
      generalize (List.range (a - b).toNat) = l
      induction l with
      | nil => exact .nil
      | cons i l ih => exact .cons (.int _) ih
    match es2, as, sa, h8 with
    | [a'], .cons a0 .nil, sa, h8 =>
      have hs := and2 sa.1
      have hca := and2 (show (noStar a' && (chkE tb a0 sc a' && chkA tb .nil sc [])) = true from h8.1)
      refine PE.to (pe_tupRg (g.calm h0.1) gl1 (g.nm _ (by decide +kernel)) (prg_1 gr1 (g.nm _ (by decide +kernel)) (tS_pe X a') (star_ok hs.1 _ _)) (star_ok h4.1 _ _)) ?_
      refine bindE (sE a0) g esc (and2 hca.2).1 sf A S q fun F1 d v μ1 H1 s1 A1 S1 r1 q1 => ?_
      cases d <;> first | exact q1.elim | skip
      cases r1
      exact ⟨_, rfl, fin _ _ _ _ _ s1 A1 q1.1 q1.2⟩
    | [a', b'], .cons a0 (.cons b0 .nil), sa, h8 =>
      have hs := and2 sa.1
      have hs2 := and2 hs.2
      have hca := and2 (show (noStar a' && (chkE tb a0 sc a' && chkA tb (.cons b0 .nil) sc [b'])) = true from h8.1)
      have hcb := and2 (show (noStar b' && (chkE tb b0 sc b' && chkA tb .nil sc [])) = true from (and2 hca.2).2)
      refine PE.to (pe_tupRg (g.calm h0.1) gl1 (g.nm _ (by decide +kernel)) (prg_2 gr1 (g.nm _ (by decide +kernel)) (tS_pe X a') (tS_pe X b') (star_ok hs.1 _ _) (star_ok hs2.1 _ _) (stars_ok _ _ hs.2)) (star_ok h4.1 _ _)) ?_
      refine bindE (sE a0) g esc (and2 hca.2).1 sf A S q fun F1 d v μ1 H1 s1 A1 S1 r1 q1 => ?_
      refine bindE (sE b0) g esc (and2 hcb.2).1 (sf.trans s1) A1 S1 q1 fun F2 d2 v2 μ2 H2 s2 A2 S2 r2 q2 => ?_
      cases d <;> first | (cases d2 <;> exact q2.elim) | skip
      cases d2 <;> first | exact q2.elim | skip
      cases r1
      cases r2
      exact ⟨_, _, rfl, rfl, fin _ _ _ _ _ (s1.trans s2) A2 q2.1 q2.2⟩
    | [a', b', c'], .cons a0 (.cons b0 (.cons c0 .nil)), sa, h8 =>
      have hs := and2 sa.1
      have hs2 := and2 hs.2
      have hs3 := and2 hs2.2
      have hca := and2 (show (noStar a' && (chkE tb a0 sc a' && chkA tb (.cons b0 (.cons c0 .nil)) sc [b', c'])) = true from h8.1)
      have hcb := and2 (show (noStar b' && (chkE tb b0 sc b' && chkA tb (.cons c0 .nil) sc [c'])) = true from (and2 hca.2).2)
      have hcc := and2 (show (noStar c' && (chkE tb c0 sc c' && chkA tb .nil sc [])) = true from (and2 hcb.2).2)
      refine PE.to (pe_tupRgM (g.calm h0.1) gl1 (g.nm _ (by decide +kernel)) gr1 (g.nm _ (by decide +kernel)) (tS_pe X a') (tS_pe X b') (tS_pe X c') (star_ok hs.1 _ _) (star_ok hs2.1 _ _) (star_ok hs3.1 _ _) (stars_ok _ _ hs.2) (star_ok h4.1 _ _)) ?_
      refine bindE (sE a0) g esc (and2 hca.2).1 sf A S q fun F1 d v μ1 H1 s1 A1 S1 r1 q1 => ?_
      refine bindE (sE b0) g esc (and2 hcb.2).1 (sf.trans s1) A1 S1 q1 fun F2 d2 v2 μ2 H2 s2 A2 S2 r2 q2 => ?_
      refine bindE (sE c0) g esc (and2 hcc.2).1 (sf.trans (s1.trans s2)) A2 S2 q2 fun F3 d3 v3 μ3 H3 s3 A3 S3 r3 q3 => ?_
      cases d <;> first | (cases d2 <;> cases d3 <;> exact q3.elim) | skip
      cases d2 <;> first | (cases d3 <;> exact q3.elim) | skip
      cases d3 <;> first | exact q3.elim | skip
      cases r1
      cases r2
      cases r3
      obtain ⟨rfl, q4, q5⟩ := q3
      exact ⟨_, _, rfl, rfl, rfl, finD _ _ _ _ _ (s1.trans (s2.trans s3)) A3 q4 q5⟩
  | .lzip own as => fun X Γ gl tb F0 G Ed sc e g esc hc σ H F σd μ Q sf A S q => by
    have h0 := and2 (show (coldB tb && onCall e _) = true from hc)
    obtain ⟨x, p, es, p2, rfl, h⟩ := onCall_inv h0.2
    have h1 := and2 h
    have h2 := and2 h1.2
    have ex := of_decide_eq_true h1.1
    subst ex
    obtain ⟨e1, rfl, h3⟩ := onOne2'_inv h2.2
    have h4 := and2 h3
    obtain ⟨y, p3, es2, p4, rfl, h5⟩ := onCall_inv h4.2
    have h6 := and2 h5
    have h7 := and2 h6.2
    have h8 := and2 h7.2
    have ey := of_decide_eq_true h6.1
    subst ey
    have sa := sA as X Γ gl tb F0 G Ed sc es2 g esc h8.1
    have gl1 : Gl X "list" := glo_of (by rw [esc]; exact h2.1)
    have gr1 : Gl X "zip" := glo_of (by rw [esc]; exact h7.1)
    match es2, sa, h8 with
    | [a', b'], sa, h8 =>
      have hs := and2 sa.1
      refine PE.to (pe_lstZip (g.calm h0.1) gl1 (g.nm _ (by decide +kernel)) gr1 (g.nm _ (by decide +kernel)) (tA_pa X [a', b']) (star_ok hs.1 _ _) (stars_ok _ _ hs.2) (star_ok h4.1 _ _)) ?_
      refine bindA (sA as) g esc h8.1 sf A S q fun F1 ds vs μ1 H1 s1 A1 S1 r1 l1 q1 => ?_
      match ds, vs, r1, q1 with
      | [x, y], [v1, v2], .cons rx (.cons ry .nil), q1 =>
        obtain ⟨xs, ys, e1, e2, q2⟩ := q1
        obtain ⟨a, us, rfl, ha, ra⟩ := seqL_ok A1 rx e1
        obtain ⟨b, ws, rfl, hb, rb⟩ := seqL_ok A1 ry e2
        refine ⟨a, b, us, ws, rfl, ha, hb, fun p ts hl nd hf hp hn => ?_⟩
        obtain ⟨F', s2, A2, r2⟩ := putP_ok ts xs ys us ws H1 F1 A1 ra rb hl nd hf
        exact LQ.weak (s1.trans s2) (newL_ok A2 (by rw [putP_off _ _ _ hn]; exact hp) r2 q2)
  | .lrng own as => fun X Γ gl tb F0 G Ed sc e g esc hc σ H F σd μ Q sf A S q => by
    have h0 := and2 (show (coldB tb && onCall e _) = true from hc)
    obtain ⟨x, p, es, p2, rfl, h⟩ := onCall_inv h0.2
    have h1 := and2 h
    have h2 := and2 h1.2
    have ex := of_decide_eq_true h1.1
    subst ex
    obtain ⟨e1, rfl, h3⟩ := onOne2'_inv h2.2
    have h4 := and2 h3
    obtain ⟨y, p3, es2, p4, rfl, h5⟩ := onCall_inv h4.2
    have h6 := and2 h5
    have h7 := and2 h6.2
    have h8 := and2 h7.2
    have ey := of_decide_eq_true h6.1
    subst ey
    have sa := sA as X Γ gl tb F0 G Ed sc es2 g esc h8.1
    have gl1 : Gl X "list" := glo_of (by rw [esc]; exact h2.1)
    have gr1 : Gl X "range" := glo_of (by rw [esc]; exact h7.1)
    have fin : ∀ (a b : Int) (μ1 : Mu) (H1 F1 : Hp), Same F F1 → Ag X.K F1 G μ1 H1 → RngOk a b → newL own (rngD a b) μ1 Q → RgOk a b ∧ ∀ q, H1 q = none → LQ X.K F G Q (.ref q) (upd H1 q (.lst (rgV a b))) := fun a b μ1 H1 F1 s1 A1 ok q => by
      refine ⟨ok, fun r nr => LQ.weak s1 (newL_ok A1 nr ?_ q)⟩
      unfold rngD rgV
      generalize (List.range (b - a).toNat) = l
      induction l with
      | nil => exact .nil
      | cons i l ih => exact .cons (.int _) ih
    match es2, as, sa, h8 with
    | [a'], .cons a0 .nil, sa, h8 =>
      have hs := and2 sa.1
      have hca := and2 (show (noStar a' && (chkE tb a0 sc a' && chkA tb .nil sc [])) = true from h8.1)
      refine PE.to (pe_listRg (g.calm h0.1) gl1 (g.nm _ (by decide +kernel)) (prg_1 gr1 (g.nm _ (by decide +kernel)) (tS_pe X a') (star_ok hs.1 _ _)) (star_ok h4.1 _ _)) ?_
      refine bindE (sE a0) g esc (and2 hca.2).1 sf A S q fun F1 d v μ1 H1 s1 A1 S1 r1 q1 => ?_
      cases d <;> first | exact q1.elim | skip
      cases r1
      exact ⟨_, rfl, fin _ _ _ _ _ s1 A1 q1.1 q1.2⟩
    | [a', b'], .cons a0 (.cons b0 .nil), sa, h8 =>
      have hs := and2 sa.1
      have hs2 := and2 hs.2
      have hca := and2 (show (noStar a' && (chkE tb a0 sc a' && chkA tb (.cons b0 .nil) sc [b'])) = true from h8.1)
      have hcb := and2 (show (noStar b' && (chkE tb b0 sc b' && chkA tb .nil sc [])) = true from (and2 hca.2).2)
      refine PE.to (pe_listRg (g.calm h0.1) gl1 (g.nm _ (by decide +kernel)) (prg_2 gr1 (g.nm _ (by decide +kernel)) (tS_pe X a') (tS_pe X b') (star_ok hs.1 _ _) (star_ok hs2.1 _ _) (stars_ok _ _ hs.2)) (star_ok h4.1 _ _)) ?_
      refine bindE (sE a0) g esc (and2 hca.2).1 sf A S q fun F1 d v μ1 H1 s1 A1 S1 r1 q1 => ?_
      refine bindE (sE b0) g esc (and2 hcb.2).1 (sf.trans s1) A1 S1 q1 fun F2 d2 v2 μ2 H2 s2 A2 S2 r2 q2 => ?_
      cases d <;> first | (cases d2 <;> exact q2.elim) | skip
      cases d2 <;> first | exact q2.elim | skip
      cases r1
      cases r2
      exact ⟨_, _, rfl, rfl, fin _ _ _ _ _ (s1.trans s2) A2 q2.1 q2.2⟩
  | .attr a n => fun X Γ gl tb F0 G Ed sc e g esc hc σ H F σd μ Q sf A S q => by
    obtain ⟨a', n', p, rfl, h⟩ := onAttr_inv (show onAttr e _ = true from hc)
    have h1 := and2 h
    have h2 := and2 h1.2
    have en := of_decide_eq_true h1.1
    subst en
    refine PE.to (pe_fld (tS_pe X a') (attr_ok h2.1 _ _ _)) ?_
    refine bindE (sE a) g esc h2.2 sf A S q fun F1 x v μ1 H1 s1 A1 S1 r1 q1 => ?_
    obtain ⟨c, ns, ds, d, hi, ok, hl, q2⟩ := q1
    obtain ⟨p, C, dx, vs, rfl, ha, hC, hz, hr0⟩ := insOf_ok A1 r1 hi
    obtain ⟨y, hy, ry⟩ := zip_lookup hr0 hl
    obtain ⟨c1, c2⟩ := g.atr c n' C ok hC
    exact ⟨p, C, dx, _, y, rfl, ha, c1, c2, hy, LQ.mk s1 A1 ry q2⟩
  | .newI own x i j as => fun X Γ gl tb F0 G Ed sc e g esc hc σ H F σd μ Q sf A S q => by
    obtain ⟨x', p, es, p2, rfl, h⟩ := onCall_inv (show onCall e _ = true from hc)
    have h1 := and2 h
    have h2 := and2 h1.2
    have h3 := and2 h2.2
    have h4 := and2 h3.2
    have h5 := and2 h4.2
    have h6 := and2 h5.2
    have ex := of_decide_eq_true h1.1
    subst ex
    obtain ⟨ht, q1⟩ := q
    obtain ⟨u, v, hm, rv, rr⟩ := g.glb i x' (of_decide_eq_true h2.1)
    have r0 := rr.1 F
    rw [ht] at r0
    cases r0 with
    | @cls _ _ C hC =>
      obtain ⟨f, fd, ps, k, hr, M, hm2, hb, FO⟩ := g.nw _ _ _ (of_decide_eq_true h3.1) C hC
      have sa := sA as X Γ gl tb F0 G Ed sc es g esc h6.1
      cases es with
      | nil => cases h6.2
      | cons e0 es =>
        have hs := and2 sa.1
        refine PE.to (pe_make (E := fun _ _ _ => False) (dvs := []) M FO hr (glo_of (by rw [esc]; exact h4.1)) hm2 hb .nil passF (tA_pa X (e0 :: es)) (und_of h5.1).1 (star_ok hs.1 _ _) (stars_ok _ _ hs.2)) ?_
        refine bindA (sA as) g esc h6.1 sf A S q1 fun F1 ds vs μ1 H1 s1 A1 S1 r1 l1 q1 => ?_
        intro a dx na nd ne
        have A1' := A1.laid (o := .own a) nd
        have na1 : upd H1 dx (.own a) a = none := by rw [upd_ne (Ne.symm ne)]; exact na
        have A2 := A1'.new (m := .ins x' [] []) na1 (.ins (C := C) (d := dx) (vs := []) hC rfl .nil)
        obtain ⟨μp, μr, hp, q2⟩ := q1 a (A1.fresh na)
        have A3 := perm_lend A2 hp
        have s2 := s1.trans (A1.laidF (o := .own a) nd)
        refine ⟨by rw [List.append_nil, List.length_cons, ← r1.length, l1], .obj a :: ds, _, over G μr _, μp, _, _, .cons (.obj a) (by rw [List.append_nil]; exact r1.mono (A1.laidF nd)), A3.lend, q2, fun d v μ' F' H' qd s A' r => ?_, fun dx cls dd μ' F' H' qd s A' r => qd.elim⟩
        obtain ⟨rfl, q3⟩ := qd
        cases r
        refine ⟨rfl, ?_⟩
        have A4 := A3.back s A'
        cases own with
        | true => exact LQ.mk (s2.trans s) A4 (.obj a) q3
        | false =>
          obtain ⟨ns, ds3, μ3, hp3, q4⟩ := q3
          obtain ⟨F5, A5, s5, r5⟩ := (perm_lend (μp := [(a, .ins x' ns ds3)]) (μr := μ3) A4 hp3).freezeI
          exact LQ.mk (s2.trans (s.trans s5)) A5 r5 q4
  | .bi b as => fun X Γ gl tb F0 G Ed sc e g esc hc σ H F σd μ Q sf A S q => by
    obtain ⟨x, p, es, p2, rfl, h⟩ := onCall_inv (show onCall e _ = true from hc)
    have h0 := and2 h
    have h1 := and2 h0.2
    have h2 := and2 h1.2
    have h3 := and2 h2.2
    have ex := of_decide_eq_true h1.1
    subst ex
    have sa := sA as X Γ gl tb F0 G Ed sc es g esc h3.1
    cases es with
    | nil => cases h3.2
    | cons e0 es =>
      refine PE.to (pe_bi b (glo_of (by rw [esc]; exact h2.1)) (g.nm _ (bi_in b)) (tA_pa X (e0 :: es)) sa.1) ?_
      refine bindA (sA as) g esc h3.1 sf A S q fun F1 ds vs μ1 H1 s1 A1 S1 r1 l1 q1 => ?_
      exact (bi_ok (g.calm h0.1) g.unit b A1 r1 q1).mono fun _ _ => LQ.weak s1
  | .fld a n => fun X Γ gl tb F0 G Ed sc e g esc hc σ H F σd μ Q sf A S q => by
    obtain ⟨a', n', p, rfl, h⟩ := onAttr_inv (show onAttr e _ = true from hc)
    have h1 := and2 h
    have h2 := and2 h1.2
    have en := of_decide_eq_true h1.1
    subst en
    intro pins s I
    refine attr_of (attr_ok h2.1 _ _ _) (thn (sE a X Γ gl tb F0 G Ed sc a' g esc h2.2 σ H F σd μ _ sf A S q pins s I) fun u s1 hh => ?_)
    obtain ⟨v, H1, I1, rv, F1, x, μ1, s1', A1, r1, q1⟩ := hh
    cases x <;> first | exact q1.elim | skip
    rename_i c ns ds
    obtain ⟨⟨i, hi⟩, he, hn, d, hl, q1⟩ := q1
    cases r1 with
    | exc0 h3 h4 => cases hl
    | exc h3 h4 h5 h6 h7 =>
      rename_i a0 C dx vs
      cases (show u = Value.ref a0 from rv)
      have f := (g.cls i c true C hi h3).2 rfl
      obtain ⟨oe, ws, e1, e2, e3, e4⟩ := exv_at I1.hok (A1.f _ _ h4)
      obtain ⟨y, hy, ry⟩ := zip_lookup h7 hl
      have hx : ObjOk X.prog X.w H1 s1.heap dx (.xd (ns.zip vs)) := I1.hok dx _ (A1.f _ _ h5)
      obtain ⟨mA, hns, hr⟩ := hx
      obtain ⟨od, ho, hlk⟩ := lookIn_ns hns
      obtain ⟨w, hu, ru⟩ := RelO.some_of (v := y) (o := mA n') (by rw [← hy]; exact hr n')
      have J : PySem.W.InstAt s1.heap a0 oe C (some od) := ⟨e1, e2, by unfold PySem.W.notCls; rw [e4] <;> rfl, by rw [e3]; exact ho⟩
      exact HandSPX.exc_get I1.kIn J f.ga f.gk f.b (PySem.W.findObj_own (f.hd he) (f.nf he _ hn) rfl (by rw [hlk, hu])) (handed_of ru) ⟨y, H1, I1.tok _, ru, LQ.mk s1' A1 ry q1⟩
  | .isi a t => fun X Γ gl tb F0 G Ed sc e g esc hc σ H F σd μ Q sf A S q => by
    obtain ⟨x, p, es, p2, rfl, h⟩ := onCall_inv (show onCall e _ = true from hc)
    have h1 := and2 h
    have h2 := and2 h1.2
    have ex := of_decide_eq_true h1.1
    subst ex
    split at h2
    · rename_i a' t' 
      have h3 := and2 h2.2
      have h4 := and2 h3.2
      obtain ⟨y, p3, rfl, h5⟩ := onName_inv h4.2
      have h5 := and2 h5
      have h6 := and2 h5.2
      have ey := of_decide_eq_true h5.1
      subst ey
      have ty := isi_types h6.2
      have gI : Gl X "isinstance" := glo_of (by rw [esc]; exact h2.1)
      refine PE.to (pe_callB call_isi gI (g.nm _ (by decide +kernel)) PyProof.Rows.boot_isinstance (pa_cons (tS_pe X a') (pa_cons (pe_bltn (v := .ty t) (glo_of (by rw [esc]; exact h6.1)) (g.nm _ ty.2.1) ty.1 rfl ty.2.2.1 ty.2.2.2) pa_nil (star_ok rfl _ _)) (star_ok h4.1 _ _)) (by decide +kernel) (by decide +kernel) (star_ok h4.1 _ _) (stars_ok _ _ rfl)) ?_
      refine bindE (sE a) g esc h3.1 sf A S q fun F1 d v μ1 H1 s1 A1 S1 r1 q1 => ?_
      obtain ⟨n, b, q2, q3, q4⟩ := q1
      exact ⟨v, .ty t, .type n, .type t, b, rfl, .ty t, ty_ok A1 r1 q2, kit_ty q3, LQ.mk s1 A1 (.bl b) q4⟩
    · cases h2.2
  | .isx a b => fun X Γ gl tb F0 G Ed sc e g esc hc σ H F σd μ Q sf A S q => by
    obtain ⟨x, p, es, p2, rfl, h⟩ := onCall_inv (show onCall e _ = true from hc)
    have h1 := and2 h
    have h2 := and2 h1.2
    have ex := of_decide_eq_true h1.1
    subst ex
    split at h2
    · rename_i a' b'
      have h3 := and2 h2.2
      have h4 := and2 h3.2
      have h5 := and2 h4.2
      have gI : Gl X "isinstance" := glo_of (by rw [esc]; exact h2.1)
      refine PE.to (pe_callB call_isxU gI (g.nm _ (by decide +kernel)) PyProof.Rows.boot_isinstance (pa_cons (tS_pe X a') (pa_cons (tS_pe X b') pa_nil (star_ok h4.1 _ _)) (star_ok h3.1 _ _)) (by decide +kernel) (by decide +kernel) (star_ok h3.1 _ _) (stars_ok _ _ (es := [b']) (by unfold noStars; rw [h4.1]; rfl))) ?_
      refine bindE (sE a) g esc h5.1 sf A S q fun F1 d v μ1 H1 s1 A1 S1 r1 q1 => bindE (sE b) g esc h5.2 (sf.trans s1) A1 S1 q1 fun F2 d2 v2 μ2 H2 s2 A2 S2 r2 q2 => ?_
      exact isx_ok g A2 (r1.mono s2) r2 (s1.trans s2) q2
    · cases h2.2
  | .isv a => fun X Γ gl tb F0 G Ed sc e g esc hc σ H F σd μ Q sf A S q => by
    obtain ⟨x, p, es, p2, rfl, h⟩ := onCall_inv (show onCall e _ = true from hc)
    have h1 := and2 h
    have h2 := and2 h1.2
    have ex := of_decide_eq_true h1.1
    subst ex
    split at h2
    · rename_i a' t'
      have h3 := and2 h2.2
      have h4 := and2 h3.2
      obtain ⟨y, p3, rfl, h5⟩ := onName_inv h4.2
      have h5 := and2 h5
      have ey := of_decide_eq_true h5.1
      subst ey
      have gI : Gl X "isinstance" := glo_of (by rw [esc]; exact h2.1)
      refine PE.to (pe_callB call_isxU gI (g.nm _ (by decide +kernel)) PyProof.Rows.boot_isinstance (pa_cons (tS_pe X a') (pa_cons (pe_bltn (v := .ty "ValueError") (glo_of (by rw [esc]; exact h5.2)) (g.nm _ (by decide +kernel)) (by decide +kernel) rfl (by decide +kernel) (by decide +kernel)) pa_nil (star_ok rfl _ _)) (star_ok h3.1 _ _)) (by decide +kernel) (by decide +kernel) (star_ok h3.1 _ _) (stars_ok _ _ rfl)) ?_
      refine bindE (sE a) g esc h4.1 sf A S q fun F1 d v μ1 H1 s1 A1 S1 r1 q1 => ?_
      exact isv_ok g A1 r1 s1 q1
    · cases h2.2
  | .me0 m o => fun X Γ gl tb F0 G Ed sc e g esc hc σ H F σd μ Q sf A S q => by
    obtain ⟨o', m', ap, es, cp, rfl, hl, h⟩ := onMeth_inv (show onMeth e _ = true from hc)
    have h1 := and2 h
    have h2 := and2 h1.2
    have h3 := and2 h2.2
    have em := of_decide_eq_true h3.1
    subst em
    have h4 := and2 h3.2
    cases es with
    | cons _ _ => cases h4.1
    | nil =>
      cases m with
      | pop =>
        refine PE.to (pe_bm0 PySem.F.plainAttrs_list PySem.F.slot_list_pop PySem.F.type_list_pop mt_pop (tS_pe X o') (attr_ok h2.1 _ _ _) hl) ?_
        refine bindE (sE o) g esc h1.1 sf A S q fun F1 d v μ1 H1 s1 A1 S1 r1 q1 => ?_
        cases r1 with
        | obj a =>
          obtain ⟨ds, d, q2, q3, q4⟩ := q1
          obtain ⟨ho, hh, rr⟩ := A1.at q2
          obtain ⟨vs, rfl, rv⟩ := rr.lst_inv
          obtain ⟨y, hy, ry⟩ := rv.get q3
          refine ⟨.inl ⟨rfl, _, SqL.of hh⟩, a, vs, y, rfl, rfl, hh, by rw [← rv.length]; exact hy, ?_⟩
          have rd : Reps X.K F1 ds.dropLast vs.dropLast := by
            rw [List.dropLast_eq_take, List.dropLast_eq_take, rv.length]
            exact rv.take _
          exact LQ.mk s1 (A1.put q2 (.lst rd)) ry q4
        | _ => exact q1.elim
      | append => cases h4.2
      | extend => cases h4.2
      | count => cases h4.2
      | index => cases h4.2
  | .me1 m o a => fun X Γ gl tb F0 G Ed sc e g esc hc σ H F σd μ Q sf A S q => by
    obtain ⟨o', m', ap, es, cp, rfl, hl, h⟩ := onMeth_inv (show onMeth e _ = true from hc)
    have h1 := and2 h
    have h2 := and2 h1.2
    have h3 := and2 h2.2
    have em := of_decide_eq_true h3.1
    subst em
    split at h3
    · rename_i a'
      have h4 := and2 h3.2
      have h5 := h4.2
      cases m with
      | append =>
        refine PE.to (pe_bm PySem.F.plainAttrs_list PySem.F.slot_list_append PySem.F.type_list_append mt_append (tS_pe X o') (pa_cons (tS_pe X a') pa_nil (star_ok h4.1 _ _)) (attr_ok h2.1 _ _ _) (by rw [star_ok h4.1]; rfl) hl (star_ok h4.1 _ _) (stars_ok _ _ rfl)) ?_
        refine bindE (sE o) g esc h1.1 sf A S q fun F1 d v μ1 H1 s1 A1 S1 r1 q1 => ?_
        obtain ⟨q0, q1⟩ := q1
        have q0 : (seqL μ1 d).isSome = true := q0
        obtain ⟨ds0, e0⟩ := Option.isSome_iff_exists.mp q0
        obtain ⟨pa, us, rfl, hL, _⟩ := seqL_ok A1 r1 e0
        refine ⟨.inl ⟨rfl, _, hL⟩, ?_⟩
        refine bindE (sE a) g esc h5 (sf.trans s1) A1 S1 q1 fun F2 d2 v2 μ2 H2 s2 A2 S2 r2 q2 => ?_
        cases r1 with
        | obj a =>
          obtain ⟨ds, q3, q4, q5⟩ := q2
          obtain ⟨ho, hh, rr⟩ := A2.at q3
          obtain ⟨vs, rfl, rv⟩ := rr.lst_inv
          refine ⟨_, vs, v2, rfl, rfl, hh, by rw [← rv.length]; exact q4, ?_⟩
          exact LQ.mk (s1.trans s2) (A2.put q3 (.lst (rv.append (.cons r2 .nil)))) .non q5
        | _ => exact q2.elim
      | extend =>
        refine PE.to (pe_bm PySem.F.plainAttrs_list PySem.F.slot_list_extend PySem.F.type_list_extend mt_extend (tS_pe X o') (pa_cons (tS_pe X a') pa_nil (star_ok h4.1 _ _)) (attr_ok h2.1 _ _ _) (by rw [star_ok h4.1]; rfl) hl (star_ok h4.1 _ _) (stars_ok _ _ rfl)) ?_
        refine bindE (sE o) g esc h1.1 sf A S q fun F1 d v μ1 H1 s1 A1 S1 r1 q1 => ?_
        obtain ⟨q0, q1⟩ := q1
        have q0 : (seqL μ1 d).isSome = true := q0
        obtain ⟨ds0, e0⟩ := Option.isSome_iff_exists.mp q0
        obtain ⟨pa, us, rfl, hL, _⟩ := seqL_ok A1 r1 e0
        refine ⟨.inl ⟨rfl, _, hL⟩, ?_⟩
        refine bindE (sE a) g esc h5 (sf.trans s1) A1 S1 q1 fun F2 d2 v2 μ2 H2 s2 A2 S2 r2 q2 => ?_
        cases r1 with
        | obj a =>
          cases r2 with
          | lst hb rv2 =>
            obtain ⟨ds, q3, q4, q5⟩ := q2
            obtain ⟨ho, hh, rr⟩ := A2.at q3
            obtain ⟨vs, rfl, rv⟩ := rr.lst_inv
            refine ⟨_, _, vs, _, rfl, rfl, hh, A2.f _ _ hb, by rw [← rv.length, ← rv2.length]; exact q4, ?_⟩
            exact LQ.mk (s1.trans s2) (A2.put q3 (.lst (rv.append rv2))) .non q5
          | _ => exact q2.elim
        | _ => cases r2 <;> exact q2.elim
      | pop =>
        refine PE.to (pe_bm PySem.F.plainAttrs_list PySem.F.slot_list_pop PySem.F.type_list_pop mt_popAt (tS_pe X o') (pa_cons (tS_pe X a') pa_nil (star_ok h4.1 _ _)) (attr_ok h2.1 _ _ _) (by rw [star_ok h4.1]; rfl) hl (star_ok h4.1 _ _) (stars_ok _ _ rfl)) ?_
        refine bindE (sE o) g esc h1.1 sf A S q fun F1 d v μ1 H1 s1 A1 S1 r1 q1 => ?_
        obtain ⟨q0, q1⟩ := q1
        have q0 : (seqL μ1 d).isSome = true := q0
        obtain ⟨ds0, e0⟩ := Option.isSome_iff_exists.mp q0
        obtain ⟨pa, us, rfl, hL, _⟩ := seqL_ok A1 r1 e0
        refine ⟨.inl ⟨rfl, _, hL⟩, ?_⟩
        refine bindE (sE a) g esc h5 (sf.trans s1) A1 S1 q1 fun F2 d2 v2 μ2 H2 s2 A2 S2 r2 q2 => ?_
        cases r1 with
        | obj a =>
          cases r2 with
          | int n =>
            obtain ⟨ds, k, d0, q3, q4, q5, q6, q7, q8⟩ := q2
            obtain ⟨ho, hh, rr⟩ := A2.at q3
            obtain ⟨vs, rfl, rv⟩ := rr.lst_inv
            obtain ⟨v0, hv0, rd⟩ := rv.get q7
            refine ⟨_, vs, n, k, v0, rfl, rfl, hh, q4, q5, by rw [← rv.length]; exact q6, hv0, ?_⟩
            exact LQ.mk (s1.trans s2) (A2.put q3 (.lst (rv.eraseIdx k))) rd q8
          | _ => exact q2.elim
        | _ => cases r2 <;> exact q2.elim
      | count =>
        refine PE.to (pe_bm PySem.F.plainAttrs_list PySem.F.slot_list_count PySem.F.type_list_count mt_cnt (tS_pe X o') (pa_cons (tS_pe X a') pa_nil (star_ok h4.1 _ _)) (attr_ok h2.1 _ _ _) (by rw [star_ok h4.1]; rfl) hl (star_ok h4.1 _ _) (stars_ok _ _ rfl)) ?_
        refine bindE (sE o) g esc h1.1 sf A S q fun F1 d v μ1 H1 s1 A1 S1 r1 q1 => ?_
        obtain ⟨q0, q1⟩ := q1
        have q0 : (seqL μ1 d).isSome = true := q0
        obtain ⟨ds0, e0⟩ := Option.isSome_iff_exists.mp q0
        obtain ⟨pa, us, rfl, hL, _⟩ := seqL_ok A1 r1 e0
        refine ⟨.inl ⟨rfl, _, hL⟩, ?_⟩
        refine bindE (sE a) g esc h5 (sf.trans s1) A1 S1 q1 fun F2 d2 v2 μ2 H2 s2 A2 S2 r2 q2 => ?_
        have q2 : ∃ ds, seqL μ2 d = some ds ∧ flB d2 = true ∧ ds.all flB = true ∧ Q (.int (cntD d2 ds)) μ2 := q2
        obtain ⟨ds, q3, q4, q5, q6⟩ := q2
        obtain ⟨p, vs, e, hs, rr⟩ := seqL_ok A2 (r1.mono s2) q3
        cases e
        refine ⟨_, vs, v2, rfl, rfl, hs, r2.flat q4, rr.flatAll q5, ?_⟩
        rw [← rr.cnt r2 q4 q5]
        exact LQ.mk (s1.trans s2) A2 (.int _) q6
      | index =>
        refine PE.to (pe_bm PySem.F.plainAttrs_list PySem.F.slot_list_index PySem.F.type_list_index mt_index (tS_pe X o') (pa_cons (tS_pe X a') pa_nil (star_ok h4.1 _ _)) (attr_ok h2.1 _ _ _) (by rw [star_ok h4.1]; rfl) hl (star_ok h4.1 _ _) (stars_ok _ _ rfl)) ?_
        refine bindE (sE o) g esc h1.1 sf A S q fun F1 d v μ1 H1 s1 A1 S1 r1 q1 => ?_
        obtain ⟨q0, q1⟩ := q1
        have q0 : (seqL μ1 d).isSome = true := q0
        obtain ⟨ds0, e0⟩ := Option.isSome_iff_exists.mp q0
        obtain ⟨pa, us, rfl, hL, _⟩ := seqL_ok A1 r1 e0
        refine ⟨.inl ⟨rfl, _, hL⟩, ?_⟩
        refine bindE (sE a) g esc h5 (sf.trans s1) A1 S1 q1 fun F2 d2 v2 μ2 H2 s2 A2 S2 r2 q2 => ?_
        have q2 : ∃ ds j z, seqL μ2 d = some ds ∧ flB d2 = true ∧ ds.all flB = true ∧ ds[j]? = some z ∧ eqF z d2 = true ∧ (∀ m z', m < j → ds[m]? = some z' → eqF z' d2 = false) ∧ Q (.int (j : Nat)) μ2 := q2
        obtain ⟨ds, j, z, q3, q4, q5, qz, qe, qn, q6⟩ := q2
        obtain ⟨p, vs, e, hs, rr⟩ := seqL_ok A2 (r1.mono s2) q3
        cases e
        obtain ⟨vz, hvz, rz⟩ := rr.get qz
        refine ⟨_, vs, v2, j, vz, rfl, rfl, hs, r2.flat q4, rr.flatAll q5, hvz, ?_, ?_, LQ.mk (s1.trans s2) A2 (.int _) q6⟩
        · rw [← rz.eqF r2 (List.all_eq_true.mp q5 z (List.mem_of_getElem? qz)) q4]
          exact qe
        · intro m z' hm hz'
          obtain ⟨dz, hdz, rz'⟩ := rr.get' hz'
          rw [← rz'.eqF r2 (List.all_eq_true.mp q5 dz (List.mem_of_getElem? hdz)) q4]
          exact qn m dz hm hdz
    · cases h3.2
  | .dict0 => fun X Γ gl tb F0 G Ed sc e g esc hc σ H F σd μ Q sf A S q => by
    obtain ⟨ks, vs, p, rfl, h⟩ := onDict_inv (show onDict e _ = true from hc)
    have h1 := and2 h
    cases ks with
    | cons _ _ => cases h1.1
    | nil =>
      cases vs with
      | cons _ _ => cases h1.2
      | nil => exact PE.to pe_dnewK fun p np => ⟨_, .dic0, μ, A.laidF np, A.laid np, .dic0 upd_same, q⟩
  | .dnew => fun X Γ gl tb F0 G Ed sc e g esc hc σ H F σd μ Q sf A S q => by
    obtain ⟨ks, vs, p, rfl, h⟩ := onDict_inv (show onDict e _ = true from hc)
    have h1 := and2 h
    cases ks with
    | cons _ _ => cases h1.1
    | nil =>
      cases vs with
      | cons _ _ => cases h1.2
      | nil => exact PE.to pe_dnewK fun p np => ⟨F, .obj p, (p, .dic []) :: μ, Same.refl F, A.new np (.dic .nil), .obj p, q p (A.fresh np)⟩
  | .disp as => fun X Γ gl tb F0 G Ed sc e g esc hc σ H F σd μ Q sf A S q => by
    obtain ⟨ks, vs, p, rfl, h⟩ := onDict_inv (show onDict e _ = true from hc)
    have h1 := and2 h
    have h2 := and2 h1.2
    have h3 := and2 h2.2
    have h4 := and2 h3.2
    have hl := of_decide_eq_true h2.1
    have h15 := of_decide_eq_true h3.1
    refine PE.to (pe_disp (pps_of X p ks vs h1.1 hl) h1.1 hl (of_decide_eq_true h4.1) h15) fun p np => ?_
    have nG : G p = none := none_of_same A.g np
    have pr := pairs_ok (g.guard (o := .dK []) nG) esc ks vs as (sAll as) h4.2 h1.1 hl (upd H p (.dK [])) F μ _ sf (A.guard np) S q
    refine tPairs_len () pr fun ps H2 l2 ⟨F2, ds, μ2, s2, A2, r2, q2⟩ => ⟨A2.gAt, ?_⟩
    obtain ⟨kds, e1, nd, q2⟩ := q2
    obtain ⟨kvs, e, rk⟩ := pairs_rep r2 e1
    have l3 : kvs.length = ks.length := by
      have := congrArg List.length e
      rw [List.length_map, l2, trsOf_len ks vs h1.1 hl] at this
      exact this.symm
    refine ⟨kvs, e, by rw [l3]; exact h15, ?_⟩
    have em : mergeK [] kvs = kvs := mergeK_nd kvs [] (by rw [← rk.keys]; simpa using nd)
    rw [em]
    have A3 := (A2.guarded (o' := .dK kvs)).newG nG (.dic rk)
    exact ⟨F2, .obj p, _, s2, A3, .obj p, q2 p fun x hx => A2.gNe x hx⟩
  | .split a b => fun X Γ gl tb F0 G Ed sc e g esc hc σ H F σd μ Q sf A S q => by
    obtain ⟨o', m', ap, es, cp, rfl, hl, h⟩ := onMeth_inv (show onMeth e _ = true from hc)
    have h1 := and2 h
    have h2 := and2 h1.2
    have h3 := and2 h2.2
    have em := of_decide_eq_true h3.1
    subst em
    split at h3
    · rename_i a'
      have h4 := and2 h3.2
      refine PE.to (pe_split (tS_pe X o') (tS_pe X a') (by rw [star_ok h4.1]; rfl) (attr_ok h2.1 _ _ _) hl) ?_
      refine bindE (sE a) g esc h1.1 sf A S q fun F1 d v μ1 H1 s1 A1 S1 r1 q1 => ?_
      obtain ⟨s, rfl, q1⟩ := onStr_inv q1
      cases r1
      refine ⟨⟨_, rfl⟩, ?_⟩
      refine bindE (sE b) g esc h4.2 (sf.trans s1) A1 S1 q1 fun F2 d2 v2 μ2 H2 s2 A2 S2 r2 q2 => ?_
      obtain ⟨t, rfl, q2⟩ := onStr_inv q2
      cases r2
      exact ⟨_, _, rfl, rfl, q2.1, q2.2.1, fun p np => LQ.weak (s1.trans s2) (newL_ok (own := false) A2 np (strs_rep _) q2.2.2)⟩
    · cases h3.2
  | .join a b => fun X Γ gl tb F0 G Ed sc e g esc hc σ H F σd μ Q sf A S q => by
    obtain ⟨o', m', ap, es, cp, rfl, hl, h⟩ := onMeth_inv (show onMeth e _ = true from hc)
    have h1 := and2 h
    have h2 := and2 h1.2
    have h3 := and2 h2.2
    have em := of_decide_eq_true h3.1
    subst em
    split at h3
    · rename_i a'
      have h4 := and2 h3.2
      refine PE.to (pe_join (tS_pe X o') (tS_pe X a') (by rw [star_ok h4.1]; rfl) (attr_ok h2.1 _ _ _) hl) ?_
      refine bindE (sE a) g esc h1.1 sf A S q fun F1 d v μ1 H1 s1 A1 S1 r1 q1 => ?_
      obtain ⟨s, rfl, q1⟩ := onStr_inv q1
      cases r1
      refine ⟨⟨_, rfl⟩, ?_⟩
      refine bindE (sE b) g esc h4.2 (sf.trans s1) A1 S1 q1 fun F2 d2 v2 μ2 H2 s2 A2 S2 r2 q2 => ?_
      obtain ⟨ds, ss, e1, e2, hsz, q2⟩ := q2
      unfold seqA at e1
      cases e0 : seqT d2 with
      | some es =>
        simp only [e0] at e1
        cases e1
        obtain ⟨p, vs, rfl, hv, rv⟩ := seqT_ok A2 r2 e0
        obtain rfl := asStrs_rep rv e2
        exact ⟨s, p, ss, rfl, rfl, .inr hv, hsz, LQ.mk (s1.trans s2) A2 (.str _) q2⟩
      | none =>
        simp only [e0] at e1
        obtain ⟨p, vs, rfl, hv, rv⟩ := seqL_ok A2 r2 e1
        obtain rfl := asStrs_rep rv e2
        exact ⟨s, p, ss, rfl, rfl, .inl hv, hsz, LQ.mk (s1.trans s2) A2 (.str _) q2⟩
    · cases h3.2
  | .sw a b => fun X Γ gl tb F0 G Ed sc e g esc hc σ H F σd μ Q sf A S q => by
    obtain ⟨o', m', ap, es, cp, rfl, hl, h⟩ := onMeth_inv (show onMeth e _ = true from hc)
    have h1 := and2 h
    have h2 := and2 h1.2
    have h3 := and2 h2.2
    have em := of_decide_eq_true h3.1
    subst em
    split at h3
    · rename_i a'
      have h4 := and2 h3.2
      refine PE.to (pe_m1 PySem.F.slot_str_startswith PySem.F.type_str_startswith mt_startswith (tS_pe X o') (tS_pe X a') (by rw [star_ok h4.1]; rfl) (attr_ok h2.1 _ _ _) hl) ?_
      refine bindE (sE a) g esc h1.1 sf A S q fun F1 d v μ1 H1 s1 A1 S1 r1 q1 => ?_
      obtain ⟨s, rfl, q1⟩ := onStr_inv q1
      cases r1
      refine ⟨⟨_, rfl⟩, ?_⟩
      refine bindE (sE b) g esc h4.2 (sf.trans s1) A1 S1 q1 fun F2 d2 v2 μ2 H2 s2 A2 S2 r2 q2 => ?_
      obtain ⟨t, rfl, q2⟩ := onStr_inv q2
      cases r2
      exact ⟨_, _, rfl, rfl, LQ.mk (s1.trans s2) A2 (.bl _) q2⟩
    · cases h3.2
  | .idxS a i => fun X Γ gl tb F0 G Ed sc e g esc hc σ H F σd μ Q sf A S q => by
    obtain ⟨a', i', p, rfl, h⟩ := onSub_inv (show onSub e _ = true from hc)
    have h1 := and2 h
    have h2 := and2 h1.2
    refine PE.to (pe_ix ix_str (tS_pe X a') (tS_pe X i') (slice_ok h2.2)) ?_
    refine bindE (sE a) g esc h1.1 sf A S q fun F1 d v μ1 H1 s1 A1 S1 r1 q1 => bindE (sE i) g esc h2.1 (sf.trans s1) A1 S1 q1 fun F2 d2 v2 μ2 H2 s2 A2 S2 r2 q2 => ?_
    obtain ⟨s, rfl, q2⟩ := onStr_inv q2
    cases r1
    cases r2 with
    | int n =>
      obtain ⟨hz, c, hc, q3⟩ := q2
      exact ⟨s, n, c, rfl, rfl, hz, hc, LQ.mk (s1.trans s2) A2 (.str _) q3⟩
    | _ => exact q2.elim
  | .intS a => fun X Γ gl tb F0 G Ed sc e g esc hc σ H F σd μ Q sf A S q => by
    obtain ⟨x, p, es, p2, rfl, h⟩ := onCall_inv (show onCall e _ = true from hc)
    have h1 := and2 h
    have h2 := and2 h1.2
    have h3 := and2 h2.2
    have ex := of_decide_eq_true h2.1
    subst ex
    obtain ⟨a', ea, h5⟩ := onOne2'_inv h3.2
    subst ea
    have h4 := and2 h5
    refine PE.to (pe_callTy call_int_str (glo_of (by rw [esc]; exact h3.1)) (g.nm "int" (by simp [bNames])) PyProof.Rows.boot_int (pa_cons (tS_pe X a') pa_nil (star_ok h4.1 _ _)) (he := by rw [star_ok h4.1])) ?_
    refine bindE (sE a) g esc h4.2 sf A S q fun F1 d v μ1 H1 s1 A1 S1 r1 q1 => ?_
    obtain ⟨s, rfl, n, q1, q2, q3⟩ := onStr_inv q1
    cases r1
    exact ⟨s, n, rfl, q1, q2, LQ.mk s1 A1 (.int n) q3⟩
  | .dget a i => fun X Γ gl tb F0 G Ed sc e g esc hc σ H F σd μ Q sf A S q => by
    obtain ⟨a', i', p, rfl, h⟩ := onSub_inv (show onSub e _ = true from hc)
    have h1 := and2 h
    have h2 := and2 h1.2
    refine PE.to (pe_dget (by have := g.unit; omega) (tS_pe X a') (tS_pe X i') (slice_ok h2.2)) ?_
    refine bindE (sE a) g esc h1.1 sf A S q fun F1 d v μ1 H1 s1 A1 S1 r1 q1 => bindE (sE i) g esc h2.1 (sf.trans s1) A1 S1 q1 fun F2 d2 v2 μ2 H2 s2 A2 S2 r2 q2 => ?_
    obtain ⟨b, w, d3, rfl, hg, rw, q3⟩ := dget_ok A2 (r1.mono s2) r2 q2
    exact ⟨b, w, rfl, hg, LQ.mk (s1.trans s2) A2 rw q3⟩
  | .dict as => fun X Γ gl tb F0 G Ed sc e g esc hc σ H F σd μ Q sf A S q => by
    obtain ⟨ks, vs, p, rfl, h⟩ := onDict_inv (show onDict e _ = true from hc)
    have h1 := and2 h
    have h2 := and2 h1.2
    have h3 := and2 h2.2
    have hl := of_decide_eq_true h2.1
    have h15 := of_decide_eq_true h3.1
    cases hk : ks with
    | nil =>
      subst hk
      cases vs with
      | cons _ _ => simp at hl
      | nil =>
        refine PE.to pe_dnewK fun p np => ?_
        cases as with
        | cons _ _ => cases h3.2
        | nil => exact ⟨_, .dic, μ, A.laidF np, A.laid np, .dic upd_same, q.2⟩
    | cons k0 ks0 =>
      rw [← hk]
      refine PE.to (pe_disp (pps_of X p ks vs h1.1 hl) h1.1 hl (by rw [hk]; simp) h15) fun p np => ?_
      have nG : G p = none := none_of_same A.g np
      have pr := pairs_ok (g.guard (o := .dK []) nG) esc ks vs as (sAll as) h3.2 h1.1 hl (upd H p (.dK [])) F μ _ sf (A.guard np) S q
      refine tPairs_len () pr fun ps H2 l2 ⟨F2, ds, μ2, s2, A2, r2, q2⟩ => ⟨A2.gAt, ?_⟩
      obtain ⟨kvs, e⟩ := keys_of r2 q2.1
      have l3 : kvs.length = ks.length := by
        have := congrArg List.length e
        rw [List.length_map, l2, trsOf_len ks vs h1.1 hl] at this
        exact this.symm
      refine ⟨kvs, e, by rw [l3]; exact h15, ?_⟩
      have A3 := (A2.guarded (o' := .dK (mergeK [] kvs))).laidG nG
      exact LQ.mk (s2.trans A3.2) A3.1 (.dic upd_same) q2.2
  | .look ps a => fun X Γ gl tb F0 G Ed sc e g esc hc σ H F σd μ Q sf A S q => by
    obtain ⟨d', i', p, rfl, h⟩ := onSub_inv (show onSub e _ = true from hc)
    obtain ⟨ks, vs, p2, rfl, h⟩ := onDict_inv h
    have h1 := and2 h
    have h2 := and2 h1.2
    have h3 := and2 h2.2
    have h4 := and2 h3.2
    have h5 := and2 h4.2
    obtain ⟨l1, l2, l3, l4⟩ := look_pps (X := X) (pos := p2) ps ks vs h1.1
    have hne : ks ≠ [] := fun z => of_decide_eq_true h2.1 (List.eq_nil_of_length_eq_zero (by rw [← l4, z]; rfl))
    refine PE.to (pe_dget (by have := g.unit; omega) (pe_disp l1 l2 l3 hne (by rw [l4]; exact of_decide_eq_true h3.1)) (tS_pe X i') (nosl_ok h5.2)) fun p np => look_pairs ps _ ⟨upd_same, ps.map fun p => (Sum.inr p.1, V.int p.2), by rw [List.map_map]; rfl, by rw [List.length_map]; exact of_decide_eq_true h3.1, ?_⟩
    have A1 := A.laid (p := p) (o := .dK (mergeK [] (ps.map fun p => (Sum.inr p.1, V.int p.2)))) np
    rw [upd_upd]
    refine bindE (sE a) g esc h5.1 (sf.trans (A.laidF np)) A1 (S.mono (A.laidF np)) q fun F2 d2 v2 μ2 H2 s2 A2 S2 r2 q2 => ?_
    cases r2 with
    | str s =>
      obtain ⟨n, e1, e2⟩ := q2
      refine ⟨p, .int n, rfl, .inl ⟨_, .inr s, .inl (A2.f _ _ (s2 _ _ upd_same)), rfl, ?_⟩, LQ.mk ((A.laidF np).trans s2) A2 (.int n) e2⟩
      exact (look_val ps [] (fun _ _ => rfl) (of_decide_eq_true h4.1) (.inr ⟨rfl, e1⟩)).symm
    | _ => exact q2.elim
  | .comp own vs tg it cond elt => fun X Γ gl tb F0 G Ed sc e g esc hc σ H F σd μ Q sf A S q => by
    obtain ⟨elt', tg', it', ifs', scope, p, rfl, h⟩ := onComp_inv (show onComp e _ = true from hc)
    have h0 := and2 h
    have h1 := and2 h0.2
    have h2 := and2 h1.2
    have h3 := and2 h2.2
    have cp := comp_ok (own := own) (sI it) (sT cond) (sE elt) h0.1 g esc h1.1 h3
    exact PE.to (pe_lc (g := gOf X.K tg) (te := teOf X scope elt') (tt := ttOf (tPOf X scope) ifs') (g.calm h0.1) g.nd (tI_pi X tg' it') cp.1 cp.2.1 cp.2.2.1 (te_pe X scope elt') (set_ok h2.1 _)) (cp.2.2.2 σ H F σd μ Q _ sf A S q fun _ _ h => h)
theorem sAll : ∀ as : Cs, AllSE as
  | .nil => trivial
  | .cons a as => ⟨sE a, sAll as⟩
theorem sA : ∀ as : Cs, SA as
  | .nil => fun X Γ gl tb F0 G Ed sc es g esc hc => by
    cases es with
    | cons _ _ => cases hc
    | nil => exact ⟨rfl, rfl, fun σ H F σd μ Q sf A S q => PA.to pa_nil ⟨F, [], μ, Same.refl _, A, .nil, rfl, q⟩⟩
  | .cons a as => fun X Γ gl tb F0 G Ed sc es g esc hc => by
    obtain ⟨e, r, rfl, h⟩ := onCons_inv (show onCons es _ = true from hc)
    have h1 := and2 h
    have h2 := and2 h1.2
    have ih := sA as X Γ gl tb F0 G Ed sc r g esc h2.2
    refine ⟨?_, ?_, fun σ H F σd μ Q sf A S q => ?_⟩
    · show (noStar e && noStars r) = true
      rw [h1.1, ih.1]; rfl
    · show r.length + 1 = as.len + 1
      rw [ih.2.1]
    · refine PA.to (pa_cons (tS_pe X e) (tA_pa X r) (star_ok h1.1 _ _)) ?_
      refine bindE (sE a) g esc h2.1 sf A S q fun F1 d v μ1 H1 s1 A1 S1 r1 q1 => ?_
      refine bindA (sA as) g esc h2.2 (sf.trans s1) A1 S1 q1 fun F2 ds vs μ2 H2 s2 A2 S2 r2 l2 q2 => ?_
      exact ⟨F2, d :: ds, μ2, s1.trans s2, A2, .cons (r1.mono s2) r2, by show ds.length + 1 = as.len + 1; rw [l2], q2⟩
theorem sT : ∀ t : T, ST t
  | .and a b => fun X Γ gl tb F0 G Ed sc e g esc hc σ H F σd μ Q sf A S q => by
    have go : ∀ {a' b' : Expr} {tb' : TT}, chkT tb a sc a' = true → (∀ F1 H1 μ1, Same F0 F1 → Ag X.K F1 G μ1 H1 → Sig X.K F1 σd σ → wpT Γ gl b σd μ1 Q (fun x μ' => Ed x σd μ') → tb' σ H1 (LT X.K F1 G Q)) → (∀ H1 Q1 Q2, tb' σ H1 Q1 → (∀ k H', Q1 k H' → Q2 k H') → tb' σ H1 Q2) → tAnd (tT X a') tb' σ H (LT X.K F G Q) := fun {a' b' tb'} ca kb mono =>
      bindT (sT a) g esc ca sf A S q fun F1 k μ1 H1 s1 A1 S1 q1 => by
        cases k with
        | true => exact iteT (mono _ _ _ (kb F1 H1 μ1 (sf.trans s1) A1 S1 q1) fun k H' ⟨F2, μ2, s2, A2, q2⟩ => ⟨F2, μ2, s1.trans s2, A2, q2⟩)
        | false => exact iteF ⟨F1, μ1, s1, A1, q1⟩
    rcases onBool_inv (show onBool e _ _ = true from hc) with ⟨a', b', p, rfl, h⟩ | ⟨a', b', c', r, p, rfl, h⟩
    · have h := and2 h
      exact PT.to (PW.pt (pw_and (tT_pt X a') (pw_and1 (tT_pt X b')))) (go (b' := b') h.1 (fun F1 H1 μ1 sf1 A1 S1 q1 => sT b X Γ gl tb F0 G Ed sc b' g esc h.2 σ H1 F1 σd μ1 Q sf1 A1 S1 q1) fun _ _ _ => tT.mono)
    · have h := and2 h
      exact PT.to (PW.pt (pw_and (tT_pt X a') pt_of_bool)) (go (b' := b') h.1 (fun F1 H1 μ1 sf1 A1 S1 q1 => sT b X Γ gl tb F0 G Ed sc _ g esc h.2 σ H1 F1 σd μ1 Q sf1 A1 S1 q1) fun _ _ _ => tT.mono)
  | .or a b => fun X Γ gl tb F0 G Ed sc e g esc hc σ H F σd μ Q sf A S q => by
    have go : ∀ {a' b' : Expr} {tb' : TT}, chkT tb a sc a' = true → (∀ F1 H1 μ1, Same F0 F1 → Ag X.K F1 G μ1 H1 → Sig X.K F1 σd σ → wpT Γ gl b σd μ1 Q (fun x μ' => Ed x σd μ') → tb' σ H1 (LT X.K F1 G Q)) → (∀ H1 Q1 Q2, tb' σ H1 Q1 → (∀ k H', Q1 k H' → Q2 k H') → tb' σ H1 Q2) → tOr (tT X a') tb' σ H (LT X.K F G Q) := fun {a' b' tb'} ca kb mono =>
      bindT (sT a) g esc ca sf A S q fun F1 k μ1 H1 s1 A1 S1 q1 => by
        cases k with
        | false => exact iteF (mono _ _ _ (kb F1 H1 μ1 (sf.trans s1) A1 S1 q1) fun k H' ⟨F2, μ2, s2, A2, q2⟩ => ⟨F2, μ2, s1.trans s2, A2, q2⟩)
        | true => exact iteT ⟨F1, μ1, s1, A1, q1⟩
    rcases onBool_inv (show onBool e _ _ = true from hc) with ⟨a', b', p, rfl, h⟩ | ⟨a', b', c', r, p, rfl, h⟩
    · have h := and2 h
      exact PT.to (PW.pt (pw_or (tT_pt X a') (pw_or1 (tT_pt X b')))) (go (b' := b') h.1 (fun F1 H1 μ1 sf1 A1 S1 q1 => sT b X Γ gl tb F0 G Ed sc b' g esc h.2 σ H1 F1 σd μ1 Q sf1 A1 S1 q1) fun _ _ _ => tT.mono)
    · have h := and2 h
      exact PT.to (PW.pt (pw_or (tT_pt X a') pt_of_bool)) (go (b' := b') h.1 (fun F1 H1 μ1 sf1 A1 S1 q1 => sT b X Γ gl tb F0 G Ed sc _ g esc h.2 σ H1 F1 σd μ1 Q sf1 A1 S1 q1) fun _ _ _ => tT.mono)
  | .not a => fun X Γ gl tb F0 G Ed sc e g esc hc σ H F σd μ Q sf A S q => by
    obtain ⟨a', p, rfl, h⟩ := onUn_inv (show onUn e _ _ = true from hc)
    refine PT.to (pt_not (tT_pt X a')) ?_
    exact bindT (sT a) g esc h sf A S q fun F1 k μ1 H1 s1 A1 S1 q1 => ⟨F1, μ1, s1, A1, q1⟩
  | .of a => fun X Γ gl tb F0 G Ed sc e g esc hc σ H F σd μ Q sf A S q => by
    have hc := and2 (show (plainT e && chkE tb a sc e) = true from hc)
    exact truth_of (sE a) hc.1 g esc hc.2 sf A S q
  | .cmp o a b => fun X Γ gl tb F0 G Ed sc e g esc hc σ H F σd μ Q sf A S q => by
    obtain ⟨a', b', p, rfl, h⟩ := onCmp_inv (show onCmp e _ _ = true from hc)
    have h := and2 h
    have h2 := and2 h.2
    have h3 := and2 h2.2
    refine PT.to (pt_cmpR opSem (tS_pe X a') (tS_pe X b') (by cases b' <;> first | rfl | cases h3.1)) ?_
    exact cmp_rd (k := Q) (sE a) (sE b) g esc h.1 h2.1 h3.2 sf A S q fun F3 b μ3 H3 s3 A3 S3 q3 => ⟨b, rfl, F3, μ3, s3, A3, q3⟩
  | .chain o o' a b c => fun X Γ gl tb F0 G Ed sc e g esc hc σ H F σd μ Q sf A S q => by
    obtain ⟨a', b', c', p, rfl, h⟩ := onCmp2_inv (show onCmp2 e _ _ _ = true from hc)
    have h1 := and2 h
    have h2 := and2 h1.2
    have h3 := and2 h2.2
    have h4 := and2 h3.2
    refine PT.to (pt_chain opSem opSem (tS_pe X a') (tS_pe X b') (tS_pe X c') (by cases c' <;> first | rfl | cases h4.1)) ?_
    exact chain_rd (k := Q) (sE a) (sE b) (sE c) g esc h1.1 h2.1 h3.1 h4.2 sf A S q fun F3 b μ3 H3 s3 A3 S3 q3 => ⟨b, rfl, F3, μ3, s3, A3, q3⟩
  | .mdin b a i => fun X Γ gl tb F0 G Ed sc e g esc hc σ H F σd μ Q sf A S q => by
    obtain ⟨a', d', p, rfl, h⟩ := onCmp_inv (show onCmp e _ _ = true from hc)
    obtain ⟨x, px, rfl, h⟩ := onName_inv h
    have h1 := and2 h
    have h2 := and2 h1.2
    have h3 := and2 h2.2
    obtain ⟨u, v, hm, r, hr1, hr2⟩ := g.glb i x (of_decide_eq_true h1.1)
    have go : ∀ F1 (d : D) (v1 : V) μ1 H1, Same F F1 → Ag X.K F1 G μ1 H1 → Rep X.K F1 d v1 → mdinW (gl i) d (fun k => Q (k == b) μ1) → ∃ ad us k, v = .ref ad ∧ ModD X.prog X.w X.K ad us ∧ v1 = kV k ∧ Q ((valueAt us k).isSome == b) μ1 := fun F1 d v1 μ1 H1 s1 A1 r1 q1 => by
      revert q1 hr1 hr2
      generalize gl i = gd
      intro hr1 hr2 q1
      cases gd <;> first | exact q1.elim | skip
      obtain ⟨k, hk, q2⟩ := q1
      obtain ⟨ad, vs, us, rfl, hl, hreps, kv, md⟩ := hr2
      obtain rfl := keyK_ok r1 hk
      have rr := kreps_zip hl (hreps F1)
      refine ⟨ad, us, k, rfl, md, rfl, ?_⟩
      rw [← (kv.val k).isSome_eq, ← rr.some k]
      exact q2
    cases b with
    | true =>
      refine PT.to (pt_cmp (pc_min (tS_pe X a') (pe_glob (glo_of (by rw [esc]; exact h2.1)) hm r (und_of h3.1).1)) rfl) ?_
      refine bindE (sE a) g esc h3.2 sf A S q fun F1 d v1 μ1 H1 s1 A1 S1 r1 q1 => ?_
      obtain ⟨ad, us, k, ev, md, ey, q2⟩ := go F1 d v1 μ1 H1 s1 A1 r1 q1
      exact ⟨ad, us, k, ev, md, ey, _, rfl, F1, μ1, s1, A1, q2⟩
    | false =>
      refine PT.to (pt_cmp (pc_mnotin (tS_pe X a') (pe_glob (glo_of (by rw [esc]; exact h2.1)) hm r (und_of h3.1).1)) rfl) ?_
      refine bindE (sE a) g esc h3.2 sf A S q fun F1 d v1 μ1 H1 s1 A1 S1 r1 q1 => ?_
      obtain ⟨ad, us, k, ev, md, ey, q2⟩ := go F1 d v1 μ1 H1 s1 A1 r1 q1
      exact ⟨ad, us, k, ev, md, ey, _, rfl, F1, μ1, s1, A1, q2⟩
  | .din b i a => fun X Γ gl tb F0 G Ed sc e g esc hc σ H F σd μ Q sf A S q => by
    obtain ⟨i', a', p, rfl, h⟩ := onCmp_inv (show onCmp e _ _ = true from hc)
    have h1 := and2 h
    have h2 := and2 h1.2
    cases b with
    | true =>
      refine PT.to (pt_cmp (pc_din (by have := g.unit; omega) (tS_pe X i') (tS_pe X a')) (by cases a' <;> first | rfl | cases h2.2)) ?_
      refine bindE (sE i) g esc h1.1 sf A S q fun F1 d v μ1 H1 s1 A1 S1 r1 q1 => bindE (sE a) g esc h2.1 (sf.trans s1) A1 S1 q1 fun F2 d2 v2 μ2 H2 s2 A2 S2 r2 q2 => ?_
      obtain ⟨c, o, e1, hg, q3⟩ := din_ok A2 r2 (r1.mono s2) q2
      exact ⟨c, o, e1, hg, o.isSome, rfl, F2, μ2, s1.trans s2, A2, by rw [show (o.isSome == true) = o.isSome by cases o <;> rfl] at q3; exact q3⟩
    | false =>
      refine PT.to (pt_cmp (pc_dnotin (by have := g.unit; omega) (tS_pe X i') (tS_pe X a')) (by cases a' <;> first | rfl | cases h2.2)) ?_
      refine bindE (sE i) g esc h1.1 sf A S q fun F1 d v μ1 H1 s1 A1 S1 r1 q1 => bindE (sE a) g esc h2.1 (sf.trans s1) A1 S1 q1 fun F2 d2 v2 μ2 H2 s2 A2 S2 r2 q2 => ?_
      obtain ⟨c, o, e1, hg, q3⟩ := din_ok A2 r2 (r1.mono s2) q2
      exact ⟨c, o, e1, hg, !o.isSome, rfl, F2, μ2, s1.trans s2, A2, by rw [show (o.isSome == false) = !o.isSome by cases o <;> rfl] at q3; exact q3⟩
  | .yes => fun X Γ gl tb F0 G Ed sc e g esc hc σ H F σd μ Q sf A S q => by cases hc
theorem sI : ∀ ic : Ic, SI ic
  | .seq a => fun X Γ gl tb F0 G Ed sc tg e g esc hc σ H F σd μ R sf A S q => by
    refine PI.to (pi_seqA (tS_pe X e)) ?_
    refine bindE (sE a) g esc hc sf A S q fun F1 d v μ1 H1 s1 A1 S1 r1 q1 => ?_
    have sq : (∃ ds, seqA μ1 d = some ds ∧ R ds (stands d ds) μ1) → (∃ a xs, v = .ref a ∧ ((SqL X.K H1 a xs ∧ LI X.K F G R (Itl X.K a) H1) ∨ (SqT X.K H1 a xs ∧ LI X.K F G R (Itt X.K a) H1))) := by
      rintro ⟨ds, h1, h2⟩
      unfold seqA at h1
      cases e : seqT d with
      | some es =>
        simp only [e] at h1
        cases h1
        obtain ⟨a, vs, ev, hq, rv, st, s0⟩ := stT_ok A1 r1 e
        exact ⟨a, vs, ev, .inr ⟨hq, F1, μ1, ds, _, s1, A1, it_tup st, s0, h2⟩⟩
      | none =>
        simp only [e] at h1
        obtain ⟨a, vs, ev, hq, rv, st, s0⟩ := stL_ok A1 r1 h1
        exact ⟨a, vs, ev, .inl ⟨hq, F1, μ1, ds, _, s1, A1, it_list st, s0, h2⟩⟩
    cases r1 with
    | str x => exact .inr ⟨x, rfl, F1, μ1, _, _, s1, A1, it_str x, trivial, q1⟩
    | _ => exact .inl (sq q1)
  | .rng as => fun X Γ gl tb F0 G Ed sc tg e g esc hc σ H F σd μ R sf A S q => by
    obtain ⟨x, p, es, p2, rfl, h⟩ := onCall_inv (show onCall e _ = true from hc)
    have h1 := and2 h
    have h2 := and2 h1.2
    have h3 := and2 h2.2
    have ex := of_decide_eq_true h1.1
    subst ex
    have gR : Gl X "range" := glo_of (by rw [esc]; exact h2.1)
    have mR : X.mg "range" = none := g.nm _ (by decide +kernel)
    have sa := sA as X Γ gl tb F0 G Ed sc es g esc h3.1
    have len : es.length = 1 ∨ es.length = 2 ∨ es.length = 3 := by
      rw [sa.2.1]
      rcases Bool.or_eq_true_iff.mp h3.2 with z | z
      · rcases Bool.or_eq_true_iff.mp z with z | z
        · exact .inl (of_decide_eq_true z)
        · exact .inr (.inl (of_decide_eq_true z))
      · exact .inr (.inr (of_decide_eq_true z))
    match es, len, sa, h3 with
    | [a], _, sa, h3 =>
      have hs := and2 sa.1
      refine PI.to (pi_range1 gR mR (tA_pa X [a]) (star_ok hs.1 _ _)) ?_
      refine bindA (sA as) g esc h3.1 sf A S q fun F1 ds vs μ1 H1 s1 A1 S1 r1 l1 q1 => ?_
      have l1 : ds.length = 1 := by rw [l1, ← sa.2.1]; rfl
      match ds, l1, r1, q1 with
      | [.int n], _, r1, q1 =>
        obtain ⟨v, rfl, rv⟩ := r1.one
        cases rv
        exact ⟨n, rfl, q1.1.1, q1.1.2, F1, μ1, _, _, s1, A1, it_rng 0 n.toNat, trivial, q1.2⟩
      | [.non], _, _, q1 => exact q1.elim
      | [.bl _], _, _, q1 => exact q1.elim
      | [.str _], _, _, q1 => exact q1.elim
      | [.tup _], _, _, q1 => exact q1.elim
      | [.lst _], _, _, q1 => exact q1.elim
      | [.klst _], _, _, q1 => exact q1.elim
      | [.obj _], _, _, q1 => exact q1.elim
      | [.op _], _, _, q1 => exact q1.elim
      | [.dic], _, _, q1 => exact q1.elim
      | [.dic0], _, _, q1 => exact q1.elim
    | [a, b], _, sa, h3 =>
      have hs := and2 sa.1
      have hs2 := and2 hs.2
      refine PI.to (pi_range2 gR mR (tA_pa X [a, b]) (by rw [star_ok hs.1, star_ok hs2.1]; rfl) (by rw [star_ok hs2.1]; rfl)) ?_
      refine bindA (sA as) g esc h3.1 sf A S q fun F1 ds vs μ1 H1 s1 A1 S1 r1 l1 q1 => ?_
      have l1 : ds.length = 2 := by rw [l1, ← sa.2.1]; rfl
      obtain ⟨i, j, rfl, hb, q2⟩ := rng2_inv l1 q1
      obtain ⟨v, w, rfl, r2, r3⟩ := r1.two
      cases r2; cases r3
      exact ⟨i, j, rfl, hb, F1, μ1, _, _, s1, A1, it_rng i _, trivial, q2⟩
    | [a, b, c], _, sa, h3 =>
      have hs := and2 sa.1
      refine PI.to (pi_range3 gR mR (tA_pa X [a, b, c]) (star_ok hs.1 _ _) (stars_ok _ _ hs.2)) ?_
      refine bindA (sA as) g esc h3.1 sf A S q fun F1 ds vs μ1 H1 s1 A1 S1 r1 l1 q1 => ?_
      have l1 : ds.length = 3 := by rw [l1, ← sa.2.1]; rfl
      obtain ⟨i, j, k, n, rfl, hb, q2⟩ := rng3_inv l1 q1
      cases r1 with
      | cons r1 r =>
        obtain ⟨v, w, rfl, r2, r3⟩ := r.two
        cases r1; cases r2; cases r3
        exact ⟨i, j, k, n, rfl, hb, F1, μ1, _, _, s1, A1, it_rngC i k n, trivial, q2⟩
    | [], z, _, _ => simp at z
    | _ :: _ :: _ :: _ :: _, z, _, _ => simp at z
  | .enum a => fun X Γ gl tb F0 G Ed sc tg e g esc hc σ H F σd μ R sf A S q => by
    obtain ⟨x, p, es, p2, rfl, h⟩ := onCall_inv (show onCall e _ = true from hc)
    have h1 := and2 h
    have h2 := and2 h1.2
    have h3 := and2 h2.2
    have ex := of_decide_eq_true h1.1
    subst ex
    have gR : Gl X "enumerate" := glo_of (by rw [esc]; exact h2.1)
    cases tg <;> first | cases h3.1 | skip
    have h4 := h3.2
    split at h4
    · rename_i a'
      have h4 := and2 h4
      refine PI.to (pi_enumA gR (g.nm _ (by decide +kernel)) (pa_cons (tS_pe X a') pa_nil (star_ok h4.1 _ _)) (star_ok h4.1 _ _)) ?_
      refine bindE (sE a) g esc h4.2 sf A S q fun F1 d v μ1 H1 s1 A1 S1 r1 q1 => ?_
      obtain ⟨ds, h1, h2⟩ := q1
      unfold seqA at h1
      cases e : seqT d with
      | some es =>
        simp only [e] at h1
        cases h1
        obtain ⟨a, vs, rfl, hq, rv, st, s0⟩ := stT_ok A1 r1 e
        exact ⟨a, vs, rfl, .inr ⟨hq, F1, μ1, _, _, s1, A1, it_enumT st, s0, h2⟩⟩
      | none =>
        simp only [e] at h1
        obtain ⟨a, vs, rfl, hq, rv, st, s0⟩ := stL_ok A1 r1 h1
        exact ⟨a, vs, rfl, .inl ⟨hq, F1, μ1, _, _, s1, A1, it_enumL st, s0, h2⟩⟩
    · cases h4
  | .zip a b => fun X Γ gl tb F0 G Ed sc tg e g esc hc σ H F σd μ R sf A S q => by
    obtain ⟨x, p, es, p2, rfl, h⟩ := onCall_inv (show onCall e _ = true from hc)
    have h1 := and2 h
    have h2 := and2 h1.2
    have h3 := and2 h2.2
    have ex := of_decide_eq_true h1.1
    subst ex
    have gR : Gl X "zip" := glo_of (by rw [esc]; exact h2.1)
    cases tg <;> first | cases h3.1 | skip
    have h4 := h3.2
    split at h4
    · rename_i a' b'
      have h4 := and2 h4
      have h5 := and2 h4.2
      have h6 := and2 h5.2
      refine PI.to (Z2.pi gR (g.nm _ (by decide +kernel)) (pa_cons (tS_pe X a') (pa_cons (tS_pe X b') pa_nil (star_ok h5.1 _ _)) (star_ok h4.1 _ _)) (star_ok h4.1 _ _) (stars_ok _ _ (by show (noStar b' && true) = true; rw [h5.1]; rfl))) ?_
      refine bindE (sE a) g esc h6.1 sf A S q fun F1 d v μ1 H1 s1 A1 S1 r1 q1 => ?_
      refine bindE (sE b) g esc h6.2 (sf.trans s1) A1 S1 q1 fun F2 d2 v2 μ2 H2 s2 A2 S2 r2 q2 => ?_
      obtain ⟨ds, es, k1, k2, k4⟩ := q2
      obtain ⟨c1, a, vs, rfl, hq, rv, st, s0⟩ := stA_ok A2 (r1.mono s2) k1
      obtain ⟨c2, b, us, rfl, hq2, rv2, st2, s02⟩ := stA_ok A2 r2 k2
      exact ⟨c1, c2, a, b, vs, us, rfl, hq, hq2, F2, μ2, _, _, s1.trans s2, A2, it_zip2 st st2, ⟨s0, s02⟩, k4⟩
    · cases h4
  | .zip3 a b c => fun X Γ gl tb F0 G Ed sc tg e g esc hc σ H F σd μ R sf A S q => by
    obtain ⟨x, p, es, p2, rfl, h⟩ := onCall_inv (show onCall e _ = true from hc)
    have h1 := and2 h
    have h2 := and2 h1.2
    have h3 := and2 h2.2
    have ex := of_decide_eq_true h1.1
    subst ex
    have gR : Gl X "zip" := glo_of (by rw [esc]; exact h2.1)
    cases tg <;> first | cases h3.1 | skip
    have h4 := h3.2
    split at h4
    · rename_i a' b' c'
      have h4 := and2 h4
      have h5 := and2 h4.2
      have h6 := and2 h5.2
      have h7 := and2 h6.2
      have h8 := and2 h7.2
      refine PI.to (Z3.pi gR (g.nm _ (by decide +kernel)) (pa_cons (tS_pe X a') (pa_cons (tS_pe X b') (pa_cons (tS_pe X c') pa_nil (star_ok h6.1 _ _)) (star_ok h5.1 _ _)) (star_ok h4.1 _ _)) (star_ok h4.1 _ _) (stars_ok _ _ (by show (noStar b' && (noStar c' && true)) = true; rw [h5.1, h6.1]; rfl))) ?_
      refine bindE (sE a) g esc h7.1 sf A S q fun F1 d v μ1 H1 s1 A1 S1 r1 q1 => ?_
      refine bindE (sE b) g esc h8.1 (sf.trans s1) A1 S1 q1 fun F2 d2 v2 μ2 H2 s2 A2 S2 r2 q2 => ?_
      refine bindE (sE c) g esc h8.2 (sf.trans (s1.trans s2)) A2 S2 q2 fun F3 d3 v3 μ3 H3 s3 A3 S3 r3 q3 => ?_
      obtain ⟨ds, es, fs, k1, k2, k3, k4⟩ := q3
      obtain ⟨c1, a, vs, rfl, hq, rv, st, s0⟩ := stA_ok A3 (r1.mono (s2.trans s3)) k1
      obtain ⟨c2, b, us, rfl, hq2, rv2, st2, s02⟩ := stA_ok A3 (r2.mono s3) k2
      obtain ⟨c3, c, ws, rfl, hq3, rv3, st3, s03⟩ := stA_ok A3 r3 k3
      exact ⟨c1, c2, c3, a, b, c, vs, us, ws, rfl, hq, hq2, hq3, F3, μ3, _, _, s1.trans (s2.trans s3), A3, it_zip3 st st2 st3, ⟨s0, s02, s03⟩, k4⟩
    · cases h4
  | .rev a => fun X Γ gl tb F0 G Ed sc tg e g esc hc σ H F σd μ R sf A S q => by
    obtain ⟨x, p, es, p2, rfl, h⟩ := onCall_inv (show onCall e _ = true from hc)
    have h1 := and2 h
    have h2 := and2 h1.2
    have ex := of_decide_eq_true h1.1
    subst ex
    have gR : Gl X "reversed" := glo_of (by rw [esc]; exact h2.1)
    have h4 := h2.2
    split at h4
    · rename_i a'
      have h4 := and2 h4
      refine PI.to (RT.pi_revA gR (g.nm _ (by decide +kernel)) (tS_pe X a') (star_ok h4.1 _ _)) ?_
      refine bindE (sE a) g esc h4.2 sf A S q fun F1 d v μ1 H1 s1 A1 S1 r1 q1 => ?_
      obtain ⟨ds, h1, h2⟩ := q1
      unfold seqA at h1
      cases e : seqT d with
      | some es =>
        simp only [e] at h1
        cases h1
        obtain ⟨a, vs, rfl, hq, rv, st, s0⟩ := stT_ok A1 r1 e
        refine ⟨a, vs, rfl, .inr ⟨hq, ?_⟩⟩
        rw [← rv.length]
        exact ⟨F1, μ1, _, _, s1, A1, it_revT st, s0, h2⟩
      | none =>
        simp only [e] at h1
        obtain ⟨a, vs, rfl, hq, rv, st, s0⟩ := stL_ok A1 r1 h1
        refine ⟨a, vs, rfl, .inl ⟨hq, ?_⟩⟩
        rw [← rv.length]
        exact ⟨F1, μ1, _, _, s1, A1, it_revL st, s0, h2⟩
    · cases h4
end
end DL

namespace DL
open PySem PySem.Spec PyProof.Rows L2

/-! ### statements -/
mutual
inductive Sm where
  | asg (tg : Tg) (e : C)
  | asgC (i : Nat) (e : C)
  | par (i j : Nat) (a b : C)
  | par3 (i j l : Nat) (a b c : C)
  | aug (i : Nat) (o : BO) (e : C)
  | seti (o i e : C)
  | dput (o i e : C)
  | daug (b : BO) (o i e : C)
  | dput2 (o1 i1 o2 i2 e : C)
  | augi (b : BO) (o i e : C)
  | ex (e : C)
  | ret (e : C)
  | ret0
  | ife (t : T) (a b : Ss)
  | wh (t : T) (b : Ss)
  | fr (tg : Tg) (it : Ic) (b : Ss)
  | brk
  | cont
  | pas
  | never
  | raise (i : Nat)
  | tryA (b : Ss) (g i j : Nat)
  | tryL (b : Ss) (g i j : Nat)
  | raiseX (i : Nat) (as : Cs)
  | tryS (b : Ss) (g i : Nat) (s : Ss)
  | setf (o : C) (n : Str) (e : C)
  | augf (b : BO) (o : C) (n : Str) (e : C)
  | setf2 (o1 : C) (n1 : Str) (o2 : C) (n2 : Str) (e : C)
inductive Ss where
  | nil
  | cons (a : Sm) (b : Ss)
end
structure DEnds where
  nx : DSt → Mu → Prop
  rt : DQ
  bk : DSt → Mu → Prop := fun _ _ => False
  ct : DSt → Mu → Prop := fun _ _ => False
def augW (o : BO) (x y : D) (μ : Mu) (Q : DQ) : Prop :=
  match o, x, y with
  | .add, .int i, .int j => Q (.int (i + j)) μ
  | .sub, .int i, .int j => Q (.int (i - j)) μ
  | .mul, .int i, .int j => IntMulOk i j ∧ Q (.int (i * j)) μ
  | _, _, _ => False
def setW (o i v : D) (μ : Mu) (k : Mu → Prop) : Prop :=
  match o, i with
  | .obj a, .int n => ∃ ds j, Mu.get μ a = some (.lst ds) ∧ ixN ds.length n = some j ∧ k (Mu.put μ a (.lst (ds.set j v)))
  | _, _ => False
def getS (σ : DSt) (i : Nat) (k : D → Prop) : Prop := match σ[i]? with
  | some (some d) => k d
  | _ => False
def forW (tg : Tg) (stab : Mu → Prop) (body : DSt → Mu → DEnds → Prop) (R : DEnds) : List D → DSt → Mu → Prop
  | [], σ, μ => R.nx σ μ
  | d :: r, σ, μ => tgW tg d σ fun σ1 => body σ1 μ { R with nx := fun σ2 μ2 => stab μ2 ∧ forW tg stab body R r σ2 μ2, ct := fun σ2 μ2 => stab μ2 ∧ forW tg stab body R r σ2 μ2, bk := R.nx }
/-- a list's place, counted from its beginning -/
def getW (x y : D) (μ : Mu) (k : D → Prop) : Prop := match x, y with
  | .obj a, .int n => ∃ ds d, Mu.get μ a = some (.lst ds) ∧ 0 ≤ n ∧ ds[n.toNat]? = some d ∧ k d
  | _, _ => False
section
variable (Γ : Nat → DSp) (gl : Nat → D)
mutual
def wpM : Sm → DSt → Mu → DEnds → DXE → Prop
  | .asg tg e, σ, μ, R, E => wpE Γ gl e σ μ (fun d μ1 => tgW tg d σ fun σ1 => R.nx σ1 μ1) (fun x μ' => E x σ μ')
  | .asgC i e, σ, μ, R, E => wpE Γ gl e σ μ (fun d μ1 => R.nx (σ.set i (some d)) μ1) (fun x μ' => E x σ μ')
  | .par3 i j l a b c, σ, μ, R, E => wpE Γ gl a σ μ (fun d μ1 => wpE Γ gl b σ μ1 (fun d2 μ2 => wpE Γ gl c σ μ2 (fun d3 μ3 => R.nx (((σ.set i (some d)).set j (some d2)).set l (some d3)) μ3) (fun x μ' => E x σ μ')) (fun x μ' => E x σ μ')) (fun x μ' => E x σ μ')
  | .par i j a b, σ, μ, R, E => wpE Γ gl a σ μ (fun d μ1 => wpE Γ gl b σ μ1 (fun d' μ2 => R.nx ((σ.set i (some d)).set j (some d')) μ2) (fun x μ' => E x σ μ')) (fun x μ' => E x σ μ')
  | .aug i o e, σ, μ, R, E => getS σ i fun x => wpE Γ gl e σ μ (fun y μ1 => augW o x y μ1 fun z μ2 => R.nx (σ.set i (some z)) μ2) (fun x μ' => E x σ μ')
  | .daug b o i e, σ, μ, R, E => wpE Γ gl o σ μ (fun x μ1 => wpE Γ gl i σ μ1 (fun y μ2 => dgetW x y μ2 fun v μ2 => wpE Γ gl e σ μ2 (fun w μ3 => augW b v w μ3 fun z μ4 => dputW x y z μ4 fun μ5 => R.nx σ μ5) (fun x μ' => E x σ μ')) (fun x μ' => E x σ μ')) (fun x μ' => E x σ μ')
  | .dput2 o1 i1 o2 i2 e, σ, μ, R, E => wpE Γ gl e σ μ (fun v μ1 => ∃ d1 d2, seqT v = some [d1, d2] ∧ wpE Γ gl o1 σ μ1 (fun x μ2 => wpE Γ gl i1 σ μ2 (fun y μ3 => dputW x y d1 μ3 fun μ4 => wpE Γ gl o2 σ μ4 (fun x2 μ5 => wpE Γ gl i2 σ μ5 (fun y2 μ6 => dputW x2 y2 d2 μ6 fun μ7 => R.nx σ μ7) (fun x μ' => E x σ μ')) (fun x μ' => E x σ μ')) (fun x μ' => E x σ μ')) (fun x μ' => E x σ μ')) (fun x μ' => E x σ μ')
  | .dput o i e, σ, μ, R, E => wpE Γ gl e σ μ (fun v μ1 => wpE Γ gl o σ μ1 (fun x μ2 => wpE Γ gl i σ μ2 (fun y μ3 => dputW x y v μ3 fun μ4 => R.nx σ μ4) (fun x μ' => E x σ μ')) (fun x μ' => E x σ μ')) (fun x μ' => E x σ μ')
  | .seti o i e, σ, μ, R, E => wpE Γ gl e σ μ (fun v μ1 => wpE Γ gl o σ μ1 (fun x μ2 => wpE Γ gl i σ μ2 (fun y μ3 => setW x y v μ3 fun μ4 => R.nx σ μ4) (fun x μ' => E x σ μ')) (fun x μ' => E x σ μ')) (fun x μ' => E x σ μ')
  | .augi b o i e, σ, μ, R, E => wpE Γ gl o σ μ (fun x μ1 => wpE Γ gl i σ μ1 (fun y μ2 => getW x y μ2 fun old => wpE Γ gl e σ μ2 (fun v μ4 => augW b old v μ4 fun z μ5 => setW x y z μ5 fun μ6 => R.nx σ μ6) (fun x μ' => E x σ μ')) (fun x μ' => E x σ μ')) (fun x μ' => E x σ μ')
  | .ex e, σ, μ, R, E => wpE Γ gl e σ μ (fun _ μ1 => R.nx σ μ1) (fun x μ' => E x σ μ')
  | .ret e, σ, μ, R, E => wpE Γ gl e σ μ R.rt (fun x μ' => E x σ μ')
  | .ret0, _, μ, R, _ => R.rt .non μ
  | .ife t a b, σ, μ, R, E => wpT Γ gl t σ μ (fun k μ1 => match k with
    | true => wpSs a σ μ1 R E
    | false => wpSs b σ μ1 R E) (fun x μ' => E x σ μ')
  | .wh t b, σ, μ, R, E => ∃ W : Nat → DSt → Mu → Prop, (∃ m, W m σ μ) ∧ ∀ m σ μ, W m σ μ → wpT Γ gl t σ μ (fun k μ1 => match k with
    | true => wpSs b σ μ1 { R with nx := fun σ' μ' => ∃ m', m' < m ∧ W m' σ' μ', ct := fun σ' μ' => ∃ m', m' < m ∧ W m' σ' μ', bk := R.nx } E
    | false => R.nx σ μ1) (fun x μ' => E x σ μ')
  | .fr tg it b, σ, μ, R, E => wpI Γ gl it σ μ (fun items stab μ1 => forW tg stab (fun σ' μ' R' => wpSs b σ' μ' R' E) R items σ μ1) (fun x μ' => E x σ μ')
  | .brk, σ, μ, R, _ => R.bk σ μ
  | .cont, σ, μ, R, _ => R.ct σ μ
  | .pas, σ, μ, R, _ => R.nx σ μ
  | .never, _, _, _, _ => False
  | .raise i, σ, μ, _, E => match gl i with
    | .cls x true => exPlain x = true ∧ E ⟨x, [], []⟩ σ μ
    | _ => False
  | .tryA b g i j, σ, μ, R, E => wpSs b σ μ R (fun dx σ' μ' => (∃ k, gl k = .cls dx.x true) ∧ ∃ y t, gl g = .cls y t ∧ (match exSub dx.x y with
    | true => R.nx (((σ'.set i (some (.exc dx.x dx.ns dx.ds))).set j (some (.exc dx.x dx.ns dx.ds))).set i none) μ'
    | false => E dx σ' μ'))
  | .tryL b g i j, σ, μ, R, E => wpSs b σ μ R (fun dx σ' μ' => (∃ k, gl k = .cls dx.x true) ∧ ∃ y t, gl g = .cls y t ∧ (match exSub dx.x y with
    | true => getS σ' j fun o => ∃ a ds, o = .obj a ∧ Mu.get μ' a = some (.lst ds) ∧ ds.length < sizeLine ∧ R.nx (σ'.set i none) (Mu.put μ' a (.lst (ds ++ [.exc dx.x dx.ns dx.ds])))
    | false => E dx σ' μ'))
  | .raiseX i as, σ, μ, _, E => raiseW gl i fun x => wpA Γ gl as σ μ (fun ds μ1 => ds.length = (exFields x).length ∧ E ⟨x, (exFields x).reverse, ds.reverse⟩ σ μ1) (fun x μ' => E x σ μ')
  | .tryS b g i s, σ, μ, R, E => wpSs b σ μ R (fun dx σ' μ' => (∃ k, gl k = .cls dx.x true) ∧ ∃ y t, gl g = .cls y t ∧ (match exSub dx.x y with
    | true => wpSs s (σ'.set i (some (.exc dx.x dx.ns dx.ds))) μ' { nx := fun σ2 μ2 => R.nx (σ2.set i none) μ2, rt := fun _ _ => False } (fun _ _ _ => False)
    | false => E dx σ' μ'))
  | .setf o n e, σ, μ, R, E => wpE Γ gl e σ μ (fun v μ1 => wpE Γ gl o σ μ1 (fun x μ2 => fputW gl x n v μ2 fun μ3 => R.nx σ μ3) (fun x μ' => E x σ μ')) (fun x μ' => E x σ μ')
  | .augf b o n e, σ, μ, R, E => wpE Γ gl o σ μ (fun x μ1 => ∃ a c ns ds old, x = .obj a ∧ Mu.get μ1 a = some (.ins c ns ds) ∧ attrOk gl c n ∧ (ns.zip ds).lookup n = some old ∧ wpE Γ gl e σ μ1 (fun v μ2 => augW b old v μ2 fun z μ3 => ∃ ns' ds', Mu.get μ3 a = some (.ins c ns' ds') ∧ ns'.length < 900 ∧ R.nx σ (Mu.put μ3 a (.ins c (putN ns' n) (putX ns' ds' n z)))) (fun x μ' => E x σ μ')) (fun x μ' => E x σ μ')
  | .setf2 o1 n1 o2 n2 e, σ, μ, R, E => wpE Γ gl e σ μ (fun v μ1 => ∃ d1 d2, seqT v = some [d1, d2] ∧ wpE Γ gl o1 σ μ1 (fun x μ2 => fputW gl x n1 d1 μ2 fun μ3 => wpE Γ gl o2 σ μ3 (fun y μ4 => fputW gl y n2 d2 μ4 fun μ5 => R.nx σ μ5) (fun x μ' => E x σ μ')) (fun x μ' => E x σ μ')) (fun x μ' => E x σ μ')
def wpSs : Ss → DSt → Mu → DEnds → DXE → Prop
  | .nil, σ, μ, R, _ => R.nx σ μ
  | .cons a b, σ, μ, R, E => wpM a σ μ { R with nx := fun σ1 μ1 => wpSs b σ1 μ1 R E } E
end
end

/-! ### does it stand for the program's text? -/
def onAsg (s : Stmt) (k : Expr → Expr → Nat → Bool) : Bool := match s with
  | .Assign [t] e p => k t e p.line
  | _ => false
def onAug (s : Stmt) (o : Operator) (k : Expr → Expr → Bool) : Bool := match s with
  | .AugAssign t o' e _ => decide (o = o') && k t e
  | _ => false
def onEx (s : Stmt) (k : Expr → Bool) : Bool := match s with
  | .Expr e _ => k e
  | _ => false
def onRet (s : Stmt) (k : Option Expr → Bool) : Bool := match s with
  | .Return e _ => k e
  | _ => false
def onIfS (s : Stmt) (k : Expr → List Stmt → List Stmt → Bool) : Bool := match s with
  | .If t a b _ => k t a b
  | _ => false
def onWh (s : Stmt) (k : Expr → List Stmt → Bool) : Bool := match s with
  | .While t a [] _ => k t a
  | _ => false
def onFr (s : Stmt) (k : Expr → Expr → List Stmt → Bool) : Bool := match s with
  | .For t i a [] _ => k t i a
  | _ => false
def onRaise (s : Stmt) (k : Str → Bool) : Bool := match s with
  | .Raise (some (.Call (.Name x _) [.Constant (.str _) _ _] [] _)) none _ => k x
  | _ => false
def onRaiseX (s : Stmt) (k : Str → List Expr → Bool) : Bool := match s with
  | .Raise (some (.Call (.Name x _) es [] _)) none _ => k x es
  | _ => false
theorem onRaiseX_inv {s : Stmt} {k : Str → List Expr → Bool} (h : onRaiseX s k = true) : ∃ x p es pos pos', s = .Raise (some (.Call (.Name x p) es [] pos)) none pos' ∧ k x es = true := by
  unfold onRaiseX at h; split at h <;> first | exact ⟨_, _, _, _, _, rfl, h⟩ | cases h
def onTry (s : Stmt) (k : List Stmt → Str → Str → List Stmt → Bool) : Bool := match s with
  | .Try body [.ExceptHandler (some (.Name x _)) (some n) suite _] [] [] _ => k body x n suite
  | _ => false
def onOne (ss : List Stmt) (k : Stmt → Bool) : Bool := match ss with
  | [s] => k s
  | _ => false
theorem onRaise_inv {s : Stmt} {k : Str → Bool} (h : onRaise s k = true) : ∃ x p m j p2 pos pos', s = .Raise (some (.Call (.Name x p) [.Constant (.str m) j p2] [] pos)) none pos' ∧ k x = true := by
  unfold onRaise at h; split at h <;> first | exact ⟨_, _, _, _, _, _, _, rfl, h⟩ | cases h
theorem onTry_inv {s : Stmt} {k : List Stmt → Str → Str → List Stmt → Bool} (h : onTry s k = true) : ∃ body x np n suite p p2, s = .Try body [.ExceptHandler (some (.Name x np)) (some n) suite p] [] [] p2 ∧ k body x n suite = true := by
  unfold onTry at h; split at h <;> first | exact ⟨_, _, _, _, _, _, _, rfl, h⟩ | cases h
theorem onOne_inv {ss : List Stmt} {k : Stmt → Bool} (h : onOne ss k = true) : ∃ s, ss = [s] ∧ k s = true := by
  unfold onOne at h; split at h <;> first | exact ⟨_, rfl, h⟩ | cases h
def onOne2 (es : List Expr) (k : Expr → Bool) : Bool := match es with
  | [e] => k e
  | _ => false
theorem onOne2_inv {es : List Expr} {k : Expr → Bool} (h : onOne2 es k = true) : ∃ e, es = [e] ∧ k e = true := by
  unfold onOne2 at h; split at h <;> first | exact ⟨_, rfl, h⟩ | cases h
def onS (ss : List Stmt) (k : Stmt → List Stmt → Bool) : Bool := match ss with
  | s :: r => k s r
  | [] => false
theorem onAsg_inv {s : Stmt} {k : Expr → Expr → Nat → Bool} (h : onAsg s k = true) : ∃ t e p, s = .Assign [t] e p ∧ k t e p.line = true := by
  unfold onAsg at h; split at h <;> first | exact ⟨_, _, _, rfl, h⟩ | cases h
theorem onAug_inv {s : Stmt} {o : Operator} {k : Expr → Expr → Bool} (h : onAug s o k = true) : ∃ t e p, s = .AugAssign t o e p ∧ k t e = true := by
  unfold onAug at h; split at h
  · have h := and2 h
    have e := of_decide_eq_true h.1
    subst e
    exact ⟨_, _, _, rfl, h.2⟩
  · cases h
theorem onEx_inv {s : Stmt} {k : Expr → Bool} (h : onEx s k = true) : ∃ e p, s = .Expr e p ∧ k e = true := by
  unfold onEx at h; split at h <;> first | exact ⟨_, _, rfl, h⟩ | cases h
theorem onRet_inv {s : Stmt} {k : Option Expr → Bool} (h : onRet s k = true) : ∃ e p, s = .Return e p ∧ k e = true := by
  unfold onRet at h; split at h <;> first | exact ⟨_, _, rfl, h⟩ | cases h
theorem onIfS_inv {s : Stmt} {k : Expr → List Stmt → List Stmt → Bool} (h : onIfS s k = true) : ∃ t a b p, s = .If t a b p ∧ k t a b = true := by
  unfold onIfS at h; split at h <;> first | exact ⟨_, _, _, _, rfl, h⟩ | cases h
theorem onWh_inv {s : Stmt} {k : Expr → List Stmt → Bool} (h : onWh s k = true) : ∃ t a p, s = .While t a [] p ∧ k t a = true := by
  unfold onWh at h; split at h <;> first | exact ⟨_, _, _, rfl, h⟩ | cases h
theorem onFr_inv {s : Stmt} {k : Expr → Expr → List Stmt → Bool} (h : onFr s k = true) : ∃ t i a p, s = .For t i a [] p ∧ k t i a = true := by
  unfold onFr at h; split at h <;> first | exact ⟨_, _, _, _, rfl, h⟩ | cases h
theorem onS_inv {ss : List Stmt} {k : Stmt → List Stmt → Bool} (h : onS ss k = true) : ∃ s r, ss = s :: r ∧ k s r = true := by
  unfold onS at h; split at h <;> first | exact ⟨_, _, rfl, h⟩ | cases h
/-- several stores at once, the values not swapped -/
def tupOk (t e : Expr) : Bool := match t, e with
  | .Tuple ts _ _, .Tuple vs _ _ => vs.all (foldedForSure 8) || !(ts.length == 2 || ts.length == 3)
  | .List .., _ => false
  | _, _ => true
/-- a comprehension's value stored in a cell -/
def cellT (sc : Scope) (t e : Expr) : Bool := noComp e || (match t with
  | .Name x _ => decide (kOf sc x = some .cell)
  | _ => false)
def lineOf (e : Expr) : Nat := e.pos.line
def isComp (c : C) : Bool := match c with
  | .comp .. => true
  | _ => false
/-- a target that is no plain local name: no swap -/
def noLoc (sc : Scope) (e : Expr) : Bool := onName e fun x => !decide (kOf sc x = some .local)
def someCell (sc : Scope) (t : Expr) : Bool := match t with
  | .Tuple ts _ _ => ts.any (noLoc sc)
  | _ => false
def tupOkS (sc : Scope) (t e : Expr) : Bool := tupOk t e || someCell sc t
mutual
def chkS (tb : Tb) (sc : Scope) : Sm → Stmt → Bool
  | .asg tg e, s => onAsg s fun t e' _ => chkTg tb sc tg t && (cellT sc t e' && (tupOkS sc t e' && chkE tb e sc e'))
  | .asgC i e, s => onAsg s fun t e' l => isComp e && (chkE tb e sc e' && (match t with
      | .Name x p => decide (sc.kind = .function) && (decide (tb.N[i]? = some x) && (decide (kOf sc x = some .local) && ((p.line == e'.pos.line) && onComp e' fun _ _ _ _ scope => !(scope.names.any fun (n, k) => n == x && (k == .local || k == .cell)))))
      | _ => false))
  | .par3 i j l a b c, s => onAsg s fun t e' _ => coldB tb && (match t, e' with
      | .Tuple [.Name x px, .Name y py, .Name z pz] _ _, .Tuple [a', b', c'] _ _ => ((decide (sc.kind = .function) && (decide (tb.N[i]? = some x) && (decide (tb.N[j]? = some y) && (decide (tb.N[l]? = some z) && (decide (i ≠ j) && (decide (i ≠ l) && (decide (j ≠ l) && (decide (kOf sc x = some .local) && (decide (kOf sc y = some .local) && decide (kOf sc z = some .local)))))))))) &&
          ((px.line == py.line) && (px.line == pz.line))) && (((chkE tb a sc a' && (chkE tb b sc b' && chkE tb c sc c')) && (noStar a' && (noStar b' && noStar c'))) && (((!foldedForSure 8 a') && (!constantsAlone 8 a')) && ((!(x == y)) && ((!(x == z)) && (!(y == z))))))
      | _, _ => false)
  | .par i j a b, s => onAsg s fun t e' _ => coldB tb && (match t, e' with
      | .Tuple [.Name x px, .Name y py] _ _, .Tuple [a', b'] _ _ => decide (sc.kind = .function) && (decide (tb.N[i]? = some x) && (decide (tb.N[j]? = some y) && (decide (i ≠ j) && (decide (kOf sc x = some .local) && (decide (kOf sc y = some .local) && ((px.line == py.line) &&
          (chkE tb a sc a' && (chkE tb b sc b' && (noStar a' && (noStar b' && (!(foldedForSure 8 a' && foldedForSure 8 b') && (!(constantsAlone 8 a' && constantsAlone 8 b')  && !(x == y)))))))))))))
      | _, _ => false)
  | .aug i o e, s => onAug s (boOp o) fun t e' => chkE tb e sc e' && onName t fun x => decide (tb.N[i]? = some x) && locB sc x
  | .augi b o i e, s => onAug s (boOp b) fun t e' => onSub t fun o' i' => chkE tb e sc e' && (chkE tb o sc o' && (chkE tb i sc i' && noSlice i'))
  | .daug b o i e, s => onAug s (boOp b) fun t e' => onSub t fun o' i' => chkE tb e sc e' && (chkE tb o sc o' && (chkE tb i sc i' && noSlice i'))
  | .dput2 o1 i1 o2 i2 e, s => onAsg s fun t e' _ => coldB tb && (noComp e' && (chkE tb e sc e' && (match t with
      | .Tuple [.Subscript a1 b1 _, .Subscript a2 b2 _] _ _ => (chkE tb o1 sc a1 && (chkE tb i1 sc b1 && noSlice b1)) && (chkE tb o2 sc a2 && (chkE tb i2 sc b2 && noSlice b2))
      | _ => false)))
  | .dput o i e, s => onAsg s fun t e' _ => onSub t fun o' i' => noComp e' && (chkE tb e sc e' && (chkE tb o sc o' && (chkE tb i sc i' && noSlice i')))
  | .seti o i e, s => onAsg s fun t e' _ => onSub t fun o' i' => noComp e' && (chkE tb e sc e' && (chkE tb o sc o' && (chkE tb i sc i' && noSlice i')))
  | .ex e, s => onEx s fun e' => noComp e' && chkE tb e sc e'
  | .ret e, s => onRet s fun o => (match o with
      | some e' => chkE tb e sc e'
      | none => false)
  | .ret0, s => onRet s fun o => o.isNone
  | .ife t a b, s => onIfS s fun t' a' b' => chkT tb t sc t' && (chkSs tb sc a a' && chkSs tb sc b b')
  | .wh t a, s => onWh s fun t' a' => chkT tb t sc t' && chkSs tb sc a a'
  | .fr tg it b, s => onFr s fun t i b' => coldB tb && (chkTg tb sc tg t && (chkI tb it sc t i && (noSet i && chkSs tb sc b b')))
  | .brk, s => (match s with | .Break _ => true | _ => false)
  | .cont, s => (match s with | .Continue _ => true | _ => false)
  | .pas, s => (match s with | .Pass _ => true | _ => false)
  | .never, _ => true
  | .raise i, s => onRaise s fun x => coldB tb && (decide (tb.gls[i]? = some x) && (gloB sc x && undB x))
  | .raiseX i as, s => onRaiseX s fun x es => coldB tb && (decide (tb.gls[i]? = some x) && (gloB sc x && (undB x && (chkA tb as sc es && !es.isEmpty))))
  | .tryS b g i s, st => onTry st fun body x n suite => chkSs tb sc b body && (decide (tb.gls[g]? = some x) && (gloB sc x && (undB x && (decide (tb.N[i]? = some n) && (decide (kOf sc n = some .local) && (undB n && (!suite.isEmpty &&
      chkSs ⟨tb.N, [], tb.gls, true, [], [], tb.hfs⟩ sc s suite)))))))
  | .tryA b g i j, s => onTry s fun body x n suite => chkSs tb sc b body && (decide (tb.gls[g]? = some x) && (gloB sc x && (undB x && (decide (tb.N[i]? = some n) && (decide (kOf sc n = some .local) && (undB n && (decide (i ≠ j) &&
      onOne suite fun s => onAsg s fun t e _ => onName e (fun z => decide (z = n)) && onName t fun y => decide (tb.N[j]? = some y) && locB sc y)))))))
  | .tryL b g i j, s => onTry s fun body x n suite => chkSs tb sc b body && (decide (tb.gls[g]? = some x) && (gloB sc x && (undB x && (decide (tb.N[i]? = some n) && (decide (kOf sc n = some .local) && (undB n && (decide (i ≠ j) &&
      onOne suite fun s => onEx s fun e => onMeth e fun o m es => decide (m = ("append" : Str)) && (onOne2 es fun z' => onName z' fun z => decide (z = n)) && onName o fun y => decide (tb.N[j]? = some y) && (visB sc y && undB y))))))))
  | .setf o n e, s => onAsg s fun t e' _ => onAttr t fun o' n' => decide (n' = n) && (noComp e' && (chkE tb e sc e' && chkE tb o sc o'))
  | .setf2 o1 n1 o2 n2 e, s => onAsg s fun t e' _ => coldB tb && (tupOk t e' && (noComp e' && (chkE tb e sc e' && (match t with
      | .Tuple [.Attribute a1 m1 _, .Attribute a2 m2 _] _ _ => decide (m1 = n1) && (decide (m2 = n2) && (chkE tb o1 sc a1 && chkE tb o2 sc a2))
      | _ => false))))
  | .augf b o n e, s => onAug s (boOp b) fun t e' => onAttr t fun o' n' => decide (n' = n) && (chkE tb e sc e' && chkE tb o sc o')
def chkSs (tb : Tb) (sc : Scope) : Ss → List Stmt → Bool
  | .nil, ss => ss.isEmpty
  | .cons a b, ss => onS ss fun s r => chkS tb sc a s && chkSs tb sc b r
end
end DL

namespace DL
open PySem PySem.Spec PyProof.Rows L2

def LS (K : PySem.W.Frag) (F G : Hp) (R : DSt → Mu → Prop) : L2.St → Hp → Prop := fun σ H => ∃ F' σd μ', Same F F' ∧ Ag K F' G μ' H ∧ Sig K F' σd σ ∧ R σd μ'
def LD (K : PySem.W.Frag) (F G : Hp) (R : DEnds) : Ends := { nx := LS K F G R.nx, rt := LQ K F G R.rt, bk := LS K F G R.bk, ct := LS K F G R.ct }
theorem LS.weak {K : PySem.W.Frag} {F F1 G H : Hp} {R : DSt → Mu → Prop} {σ : L2.St} (s : Same F F1) (h : LS K F1 G R σ H) : LS K F G R σ H := by
  obtain ⟨F', σd, μ', s', h⟩ := h
  exact ⟨F', σd, μ', s.trans s', h⟩
section
variable (X : Cx)
def tSt (st : Stmt) : TS := fun D σ H => ∀ pins s, Inv X pins σ H s → wpAny (model X.prog X.w) X.A (exec st X.env) (SP X pins D) X.xe s
def tSs (ss : List Stmt) : TS := fun D σ H => ∀ pins s, Inv X pins σ H s → wpAny (model X.prog X.w) X.A (execs ss X.env) (SP X pins D) X.xe s
theorem tSt_ps (st : Stmt) : PS X st (tSt X st) := ⟨fun pins s σ H D I h => h pins s I⟩
theorem tSs_ps (ss : List Stmt) : PSs X ss (tSs X ss) := ⟨fun pins s σ H D I h => h pins s I⟩
end
structure EndsLe (D D' : Ends) : Prop where
  nx : ∀ σ H, D.nx σ H → D'.nx σ H
  rt : ∀ v H, D.rt v H → D'.rt v H
  bk : ∀ σ H, D.bk σ H → D'.bk σ H
  ct : ∀ σ H, D.ct σ H → D'.ct σ H
section
variable {X : Cx} {st : Stmt} {ss : List Stmt} {σ : L2.St} {H : Hp} {D D' : Ends}
theorem SP.mono {pins : List (Addr × Obj)} {f : Flow} {s' : Shared} (m : EndsLe D D') (h : SP X pins D f s') : SP X pins D' f s' := by
  cases f with
  | next => obtain ⟨σ', H', I, q⟩ := h; exact ⟨σ', H', I, m.nx _ _ q⟩
  | brk => obtain ⟨σ', H', I, q⟩ := h; exact ⟨σ', H', I, m.bk _ _ q⟩
  | cont => obtain ⟨σ', H', I, q⟩ := h; exact ⟨σ', H', I, m.ct _ _ q⟩
  | ret u => obtain ⟨v, σ', H', I, r, q⟩ := h; exact ⟨v, σ', H', I, r, m.rt _ _ q⟩
theorem PS.to {t : TS} (h : PS X st t) (q : t D σ H) : tSt X st D σ H := fun pins s I => h.run pins s σ H D I q
theorem PSs.to {t : TS} (h : PSs X ss t) (q : t D σ H) : tSs X ss D σ H := fun pins s I => h.run pins s σ H D I q
theorem tSt.mono (h : tSt X st D σ H) (m : EndsLe D D') : tSt X st D' σ H := fun pins s I => thn (h pins s I) fun f s' q => SP.mono m q
theorem tSs.mono (h : tSs X ss D σ H) (m : EndsLe D D') : tSs X ss D' σ H := fun pins s I => thn (h pins s I) fun f s' q => SP.mono m q
end
theorem LD.le {K : PySem.W.Frag} {F F1 G : Hp} {R : DEnds} (s : Same F F1) : EndsLe (LD K F1 G R) (LD K F G R) := ⟨fun _ _ => LS.weak s, fun _ _ => LQ.weak s, fun _ _ => LS.weak s, fun _ _ => LS.weak s⟩

/-- the frame in which a try runs -/
structure TryOk (X : Cx) : Prop where
  stk : X.stack = X.env :: X.outer
  fr : X.env.frame = some X.env.locals
  hex : X.ex = []
def SMt (c : Sm) : Prop := ∀ (X : Cx) Γ gl tb F0 G Ed sc st, Good X Γ gl tb F0 G Ed → X.env.scope = sc → LocOk X sc → PassesOwn (model X.prog X.w) X.A X.env X.xe → TryOk X → chkS tb sc c st = true →
  ∀ σ H F σd μ R, Same F0 F → Ag X.K F G μ H → Sig X.K F σd σ → wpM Γ gl c σd μ R Ed → tSt X st (LD X.K F G R) σ H
def SMs (c : Ss) : Prop := ∀ (X : Cx) Γ gl tb F0 G Ed sc ss, Good X Γ gl tb F0 G Ed → X.env.scope = sc → LocOk X sc → PassesOwn (model X.prog X.w) X.A X.env X.xe → TryOk X → chkSs tb sc c ss = true →
  ∀ σ H F σd μ R, Same F0 F → Ag X.K F G μ H → Sig X.K F σd σ → wpSs Γ gl c σd μ R Ed → tSs X ss (LD X.K F G R) σ H
theorem tup_none {t e : Expr} (env : Env) (h : tupOk t e = true) : swappedStores [t] e env = pure none := by
  cases t with
  | Tuple ts k p =>
    cases e with
    | Tuple vs k2 p2 =>
      have h : (vs.all (foldedForSure 8) || !(ts.length == 2 || ts.length == 3)) = true := h
      unfold swappedStores
      rcases Bool.or_eq_true_iff.mp h with z | z
      · simp only [z]
        simp
      · have z2 : (ts.length == 2 || ts.length == 3) = false := by simpa using z
        simp [z2]
    | _ => rfl
  | List ts p => cases h
  | _ => rfl
theorem filter_len {α β : Type} {f : α → Option β} : ∀ {ts : List α}, (∃ t ∈ ts, f t = none) → (ts.filterMap f).length < ts.length
  | [], h => by obtain ⟨t, h, _⟩ := h; cases h
  | t :: ts, h => by
    have le := List.length_filterMap_le f ts
    rw [List.filterMap_cons, List.length_cons]
    cases e : f t with
    | none => dsimp only; omega
    | some y =>
      obtain ⟨u, hu, hn⟩ := h
      have ih := filter_len (f := f) (ts := ts) ⟨u, (List.mem_cons.mp hu).elim (fun z => by rw [z, e] at hn; cases hn) id, hn⟩
      dsimp only
      rw [List.length_cons]; omega
theorem tup_noneS {sc : Scope} {t e : Expr} {env : Env} (he : env.scope = sc) (h : tupOkS sc t e = true) : swappedStores [t] e env = pure none := by
  unfold tupOkS at h
  rcases Bool.or_eq_true_iff.mp h with h' | h'
  · exact tup_none env h'
  clear h
  cases t with
  | Tuple ts k p =>
    cases e with
    | Tuple vs k2 p2 =>
      obtain ⟨u, hu, hn⟩ := List.any_eq_true.mp (show ts.any (noLoc sc) = true from h')
      obtain ⟨x, q, rfl, hn2⟩ := onName_inv (show onName u _ = true from hn)
      have kn : (env.kindOf x == some .local) = false := by
        have z : kOf sc x ≠ some .local := by simpa using hn2
        refine beq_eq_false_iff_ne.mpr ?_
        show env.scope.names.lookup x ≠ _
        rw [he]
        exact z
      unfold swappedStores
      simp only []
      split
      · rfl
      split
      · rfl
      split
      · rfl
      · rename_i h3
        refine absurd ?_ h3
        rw [Bool.or_eq_true]
        refine .inl (bne_iff_ne.mpr (Nat.ne_of_lt (filter_len ⟨_, hu, ?_⟩)))
        dsimp only
        rw [kn]
        rfl
    | _ => rfl
  | _ => cases h'
theorem cell_ok {sc : Scope} {t e : Expr} {l : Nat} {env : Env} (he : env.scope = sc) (h : cellT sc t e = true) : swapsWithSole [t] e l env = pure false := by
  unfold cellT at h
  rcases Bool.or_eq_true_iff.mp h with z | z
  · exact swap_ok z _ _ _
  · cases t with
    | Name x p =>
      have z : kOf sc x = some .cell := of_decide_eq_true z
      have k : env.kindOf x = some .cell := by
        show env.scope.names.lookup x = some .cell
        rw [he]; exact z
      show swapsWith e (some (.Name x p)) l env = pure false
      cases e <;> first
        | rfl
        | (unfold swapsWith
           simp [k, show (NameKind.cell == NameKind.local) = false from rfl])
    | _ => cases z
def rSetD : TSet := fun o i v H Q => ∃ a H2, o = .ref a ∧ DPut H a i v H2 ∧ Q H2
theorem set_dict {X : Cx} (hu : X.A.units + 1 < cLine) : PSet X rSetD := by
  intro pins s σ H o i v ov iv u Q I ro ri rv h
  obtain ⟨a, H2, rfl, hp, q⟩ := h
  cases ro
  exact d_setItem hu I hp ri rv fun s' I' => ⟨H2, I', q⟩
theorem subs_none {a1 b1 a2 b2 e : Expr} {p1 p2 p3 : Pos} {k : Nat} (env : Env) (u : Unit) : swappedStores [.Tuple [.Subscript a1 b1 p1, .Subscript a2 b2 p2] k p3] e env = pure none := by
  cases e <;> try rfl
  unfold swappedStores
  simp only [List.filterMap_cons, List.filterMap_nil, List.length_nil, List.length_cons]
  split
  · rfl
  · split
    · rfl
    · rfl
theorem sole_ok {t e : Expr} {l : Nat} (env : Env) (h : noComp e = true) : swapsWithSole [t] e l env = pure false := swap_ok h _ _ _
theorem tgEnd_LS {K : PySem.W.Frag} {F G H : Hp} {μ : Mu} {ns : List Nat} {σ : L2.St} {R : DSt → Mu → Prop} (A : Ag K F G μ H) : ∀ σ' H', TgEnd K F ns σ H (fun σ1 => R σ1 μ) σ' H' → LS K F G R σ' H' := fun σ' H' ⟨e, _, σd, S, q⟩ => by
  subst e
  exact ⟨F, σd, μ, Same.refl _, A, S, q⟩
theorem imul_I {X : Cx} : OpR X (inplaceOp .Mult) (rI IntMulOk fun i j => .int (i * j)) := opI fun _ _ _ _ _ _ _ hc q => imul_int q hc
theorem aug_ok {X : Cx} {F G H : Hp} {μ : Mu} {Q : DQ} (o : BO) {x y : D} {a b : V} (A : Ag X.K F G μ H) (rx : Rep X.K F x a) (ry : Rep X.K F y b) (q : augW o x y μ Q) : rSem X (inplaceOp (boOp o)) a b H (LQ X.K F G Q) := by
  cases o with
  | add => cases rx <;> cases ry <;> first | exact opTo iop_add ⟨_, _, rfl, rfl, LQ.here A (.int _) q⟩ | exact q.elim
  | sub => cases rx <;> cases ry <;> first | exact opTo iop_sub ⟨_, _, rfl, rfl, LQ.here A (.int _) q⟩ | exact q.elim
  | mul => cases rx <;> cases ry <;> first | exact opTo imul_I ⟨_, _, rfl, rfl, q.1, LQ.here A (.int _) q.2⟩ | exact q.elim
  | _ => cases rx <;> cases ry <;> exact q.elim
theorem ixN_lt {n j : Nat} {k : Int} (h : ixN n k = some j) : j < n := (ixN_seq h).2.1

theorem asg_each {tb : Tb} {sc : Scope} {tg : Tg} {t : Expr} (env : Env) (h : chkTg tb sc tg t = true) : (assignEach [t] env).map (·.2) = [assign t env] := by
  cases t <;> first | rfl | (cases tg <;> cases h)
theorem swap3 {env : Env} {x y z : Str} {px py pz pt pt2 : Pos} {kt k2 : Nat} {a b c : Expr} (hk : env.blockKind = .function) (kx : env.kindOf x = some .local) (ky : env.kindOf y = some .local) (kz : env.kindOf z = some .local) (hl : (px.line == py.line) = true) (hl2 : (px.line == pz.line) = true) (n1 : noStar a = true) (n2 : noStar b = true) (n3 : noStar c = true)
    (hf2 : foldedForSure 8 a = false) (hc2 : constantsAlone 8 a = false) (nxy : (x == y) = false) (nxz : (x == z) = false) (nyz : (y == z) = false) : swappedStores [.Tuple [.Name x px, .Name y py, .Name z pz] kt pt] (.Tuple [a, b, c] k2 pt2) env = pure (some [x, y, z]) := by
  have st : ∀ (e : Expr), noStar e = true → (match e with | .Starred .. => true | _ => false) = false := by
    intro e h
    cases e <;> first | rfl | cases h
  have e := eq_of_beq hl
  have e2 := eq_of_beq hl2
  have nyx : (y == x) = false := by rw [← nxy]; exact Bool.beq_comm
  have nzx : (z == x) = false := by rw [← nxz]; exact Bool.beq_comm
  have nzy : (z == y) = false := by rw [← nyz]; exact Bool.beq_comm
  have e3 : py.line = pz.line := e.symm.trans e2
  unfold swappedStores
  simp [hk, kx, ky, kz, hf2, hc2, st a n1, st b n2, st c n3, nxy, nyx, nxz, nzx, nyz, nzy, e, e2, e3, Expr.pos, List.eraseDups, List.eraseDupsBy, List.eraseDupsBy.loop, List.filterMap]
  intro z
  exfalso
  rcases z with z | z | z
  · exact absurd ((st a n1).symm.trans z) (by decide)
  · exact absurd ((st b n2).symm.trans z) (by decide)
  · exact absurd ((st c n3).symm.trans z) (by decide)
theorem swap2 {env : Env} {x y : Str} {px py pt pt2 : Pos} {kt k2 : Nat} {a b : Expr} (hk : env.blockKind = .function) (kx : env.kindOf x = some .local) (ky : env.kindOf y = some .local) (hl : (px.line == py.line) = true) (n1 : noStar a = true) (n2 : noStar b = true)
    (hf2 : (foldedForSure 8 a && foldedForSure 8 b) = false) (hc2 : (constantsAlone 8 a && constantsAlone 8 b) = false) (nxy : (x == y) = false) : swappedStores [.Tuple [.Name x px, .Name y py] kt pt] (.Tuple [a, b] k2 pt2) env = pure (some [x, y]) := by
  have st : ∀ (e : Expr), noStar e = true → (match e with | .Starred .. => true | _ => false) = false := by
    intro e h
    cases e <;> first | rfl | cases h
  have e := eq_of_beq hl
  have nyx : (y == x) = false := by rw [← nxy]; exact Bool.beq_comm
  unfold swappedStores
  simp [hk, kx, ky, hf2, hc2, st a n1, st b n2, nxy, nyx, e, Expr.pos, List.eraseDups, List.eraseDupsBy, List.eraseDupsBy.loop, List.filterMap]
  intro z
  exfalso
  rcases z with z | z
  · exact absurd ((st a n1).symm.trans z) (by decide)
  · exact absurd ((st b n2).symm.trans z) (by decide)

theorem Sig.none {K : PySem.W.Frag} {F : Hp} {σd : DSt} {σ : L2.St} (S : Sig K F σd σ) (v : Nat) : Sig K F (σd.set v none) (σ.set v none) := by
  refine ⟨by rw [List.length_set, List.length_set]; exact S.1, fun j e h => ?_⟩
  by_cases hj : v = j
  · subst hj
    have hl := (List.getElem?_eq_some_iff.mp h).1
    rw [List.length_set] at hl
    rw [List.getElem?_set_self hl] at h
    cases h
  · rw [List.getElem?_set_ne hj] at h ⊢
    exact S.2 j e h
theorem exc_heap {H1 : Hp} {a d : Addr} {o1 o2 o3 o4 : HO} (na : H1 a = none) : upd (del (upd (upd (upd H1 a o1) d o2) a o3) a) d o4 = upd H1 d o4 := by
  funext b
  by_cases hb : b = d
  · subst hb
    rw [upd_same, upd_same]
  · rw [upd_ne hb, upd_ne hb]
    by_cases hb2 : b = a
    · subst hb2
      rw [del_same, na]
    · rw [del_ne hb2, upd_ne hb2, upd_ne hb, upd_ne hb2]
/-- a body that may be refused -/
def tBody (X : Cx) (body : List Stmt) : WX → TS := fun W D σ H => ∀ (pn : List (Addr × Obj)) (xe : Value → Shared → Prop), Takes (X.tr pn xe) W → PassesOwn (model X.prog X.w) X.A X.env xe → tSs (X.tr pn xe) body D σ H
theorem tBody_ps (X : Cx) (body : List Stmt) (W : WX) (pn : List (Addr × Obj)) (xe : Value → Shared → Prop) (tk : Takes (X.tr pn xe) W) (po : PassesOwn (model X.prog X.w) X.A X.env xe) : PSs (X.tr pn xe) body (tBody X body W) :=
  ⟨fun pins s σ H D I h => h pn xe tk po pins s I⟩
theorem Good.tr {X : Cx} {Γ : Nat → DSp} {gl : Nat → D} {tb : Tb} {F0 F G : Hp} {Ed Ed' : DXE} (g : Good X Γ gl tb F0 G Ed) (pn : List (Addr × Obj)) (xe : Value → Shared → Prop) (tk : Takes (X.tr pn xe) (LW X.K F G Ed')) : Good (X.tr pn xe) Γ gl tb F G Ed' :=
  ⟨g.hN, g.nd, g.calm, g.unit, g.fn, g.glb, g.nm, tk, g.cls, g.kit, g.ini, g.ob, g.mt, g.atr, g.hfn, g.nw⟩
/-- a list's place, by values -/
def rGetL (K : PySem.W.Frag) : V → V → Hp → VK → Prop := fun x y H Q => ∃ (a : Addr) (xs : List V) (i : Int) (z : V), x = .ref a ∧ y = .int i ∧ SqL K H a xs ∧ 0 ≤ i ∧ xs[i.toNat]? = some z ∧ Q z H
theorem get_place {X : Cx} : PGet X (rGetL X.K) := by
  intro pins s σ H x y v u Q I rx ry h
  obtain ⟨p, xs, i, z, rfl, rfl, hq, h0, he, q⟩ := h
  cases rx
  obtain ⟨t, rfl⟩ := ry
  obtain ⟨its, r, pl, hz⟩ := I.list hq
  obtain ⟨w, ew, rw'⟩ := r.get he
  have hl := r.length
  have hn := line63
  have hi : i.toNat < xs.length := (List.getElem?_eq_some_iff.mp he).1
  exact wpAny_getItem_list pl.isList h0 (by omega) (by simpa using ew) ⟨z, H, I, rw', q⟩
mutual
theorem sM : ∀ c : Sm, SMt c
  | .asg tg e => fun X Γ gl tb F0 G Ed sc st g esc lo po to hc σ H F σd μ R sf A S q => by
    obtain ⟨t, e', p, rfl, h⟩ := onAsg_inv (show onAsg st (fun t e' _ => chkTg tb sc tg t && (cellT sc t e' && (tupOkS sc t e' && chkE tb e sc e'))) = true from hc)
    have h1 := and2 h
    have h2 := and2 h1.2
    have h3 := and2 h2.2
    refine PS.to (ps_asg (tS_pe X e') (pg_of g.hN g.nd g.calm lo h1.1) (cell_ok esc h2.1) (tup_noneS esc h3.1) (asg_each _ h1.1)) ?_
    exact bindE (sE e) g esc h3.2 sf A S q fun F1 d v μ1 H1 s1 A1 S1 r1 q1 => gOf_mono (tg_ok A1 r1 S1 q1) fun σ' H' h => LS.weak s1 (tgEnd_LS A1 σ' H' h)
  | .asgC i e => fun X Γ gl tb F0 G Ed sc st g esc lo po to hc σ H F σd μ R sf A S q => by
    obtain ⟨t, e', p, rfl, h⟩ := onAsg_inv (show onAsg st (fun t e' l => isComp e && (chkE tb e sc e' && (match t with
      | .Name x p => decide (sc.kind = .function) && (decide (tb.N[i]? = some x) && (decide (kOf sc x = some .local) && ((p.line == e'.pos.line) && onComp e' fun _ _ _ _ scope => !(scope.names.any fun (n, k) => n == x && (k == .local || k == .cell)))))
      | _ => false))) = true from hc)
    have h1 := and2 h
    have h2 := and2 h1.2
    cases e <;> first | cases h1.1 | skip
    rename_i own vs tg it cond elt
    obtain ⟨elt', tg', it', ifs', scope, p2, rfl, h9⟩ := onComp_inv (show onComp e' _ = true from h2.1)
    have k0 := and2 h9
    have k1 := and2 k0.2
    have k2 := and2 k1.2
    have k3 := and2 k2.2
    have cp := comp_ok (own := own) (sI it) (sT cond) (sE elt) k0.1 g esc k1.1 k3
    have h3 := h2.2
    split at h3
    · rename_i x px
      have h0 := and2 h3
      have h4 := and2 h0.2
      have h5 := and2 h4.2
      have h6 := and2 h5.2
      have kx : X.env.scope.names.lookup x = some .local := by rw [esc]; exact of_decide_eq_true h5.1
      refine PS.to (ps_setLc (i := i) (g := gOf X.K tg) (te := teOf X scope elt') (tt := ttOf (tPOf X scope) ifs') (g.calm k0.1) g.nd (by rw [g.hN]; exact of_decide_eq_true h4.1) kx ?_ (tI_pi X tg' it') cp.1 cp.2.1 cp.2.2.1 (te_pe X scope elt') (set_ok k2.1 _)) ?_
      · exact sw_true (by rw [esc]; exact of_decide_eq_true h0.1) kx h6.1 (Bool.not_eq_true' _ ▸ h6.2)
      · exact cp.2.2.2 σ H F σd μ _ _ sf A S q fun v H' ⟨F', d, μ', s', A', r', q'⟩ => ⟨F', _, μ', s', A', (S.mono s').set i r', q'⟩
    · cases h3
  | .par3 i j l a b c => fun X Γ gl tb F0 G Ed sc st g esc lo po to hc σ H F σd μ R sf A S q => by
    obtain ⟨t, e', p, rfl, h⟩ := onAsg_inv (show onAsg st (fun t e' _ => coldB tb && (match t, e' with
      | .Tuple [.Name x px, .Name y py, .Name z pz] _ _, .Tuple [a', b', c'] _ _ => ((decide (sc.kind = .function) && (decide (tb.N[i]? = some x) && (decide (tb.N[j]? = some y) && (decide (tb.N[l]? = some z) && (decide (i ≠ j) && (decide (i ≠ l) && (decide (j ≠ l) && (decide (kOf sc x = some .local) && (decide (kOf sc y = some .local) && decide (kOf sc z = some .local)))))))))) &&
          ((px.line == py.line) && (px.line == pz.line))) && (((chkE tb a sc a' && (chkE tb b sc b' && chkE tb c sc c')) && (noStar a' && (noStar b' && noStar c'))) && (((!foldedForSure 8 a') && (!constantsAlone 8 a')) && ((!(x == y)) && ((!(x == z)) && (!(y == z))))))
      | _, _ => false)) = true from hc)
    have hcold := (and2 h).1
    replace h := (and2 h).2
    split at h
    · rename_i x px y py z pz k1 p1 a' b' c' k2 p2
      have h0 := and2 h
      have hA := and2 h0.1
      have g0 := and2 hA.1
      have g1 := and2 g0.2
      have g2 := and2 g1.2
      have g3 := and2 g2.2
      have g4 := and2 g3.2
      have g5 := and2 g4.2
      have g6 := and2 g5.2
      have g7 := and2 g6.2
      have g8 := and2 g7.2
      have hB := and2 hA.2
      have hC := and2 h0.2
      have hD := and2 hC.1
      have c0 := and2 hD.1
      have c1 := and2 c0.2
      have d0 := and2 hD.2
      have d1 := and2 d0.2
      have hE := and2 hC.2
      have f0 := and2 hE.1
      have f1 := and2 hE.2
      have f2 := and2 f1.2
      have kx : X.env.scope.names.lookup x = some .local := by rw [esc]; exact of_decide_eq_true g7.1
      have ky : X.env.scope.names.lookup y = some .local := by rw [esc]; exact of_decide_eq_true g8.1
      have kz : X.env.scope.names.lookup z = some .local := by rw [esc]; exact of_decide_eq_true g8.2
      have nt : ∀ {b : Bool}, (!b) = true → b = false := fun {b} h => by cases b <;> first | rfl | cases h
      refine PS.to (ps_par3 (i := i) (j := j) (l := l) (g.calm hcold) g.nd (by rw [g.hN]; exact of_decide_eq_true g1.1) (by rw [g.hN]; exact of_decide_eq_true g2.1) (by rw [g.hN]; exact of_decide_eq_true g3.1) (of_decide_eq_true g4.1) (of_decide_eq_true g5.1) (of_decide_eq_true g6.1) kx ky kz (pa_cons (tS_pe X a') (pa_cons (tS_pe X b') (pa_cons (tS_pe X c') pa_nil (star_ok d1.2 _ _)) (star_ok d1.1 _ _)) (star_ok d0.1 _ _)) ?_) ?_
      · exact swap3 (by show X.env.blockKind = .function; unfold Env.blockKind; rw [show X.env.scope.kind = .function by rw [esc]; exact of_decide_eq_true g0.1]; rfl) kx ky kz hB.1 hB.2 d0.1 d1.1 d1.2 (nt f0.1) (nt f0.2) (nt f1.1) (nt f2.1) (nt f2.2)
      · refine bindE (sE a) g esc c0.1 sf A S q fun F1 d v μ1 H1 s1 A1 S1 r1 q1 => bindE (sE b) g esc c1.1 (sf.trans s1) A1 S1 q1 fun F2 d2 v2 μ2 H2 s2 A2 S2 r2 q2 => bindE (sE c) g esc c1.2 (sf.trans (s1.trans s2)) A2 S2 q2 fun F3 d3 v3 μ3 H3 s3 A3 S3 r3 q3 => ?_
        exact ⟨v, v2, v3, rfl, F3, _, μ3, s1.trans (s2.trans s3), A3, ((S3.set i (r1.mono (s2.trans s3))).set j (r2.mono s3)).set l r3, q3⟩
    · cases h
  | .par i j a b => fun X Γ gl tb F0 G Ed sc st g esc lo po to hc σ H F σd μ R sf A S q => by
    obtain ⟨t, e', p, rfl, h⟩ := onAsg_inv (show onAsg st (fun t e' _ => coldB tb && (match t, e' with
      | .Tuple [.Name x px, .Name y py] _ _, .Tuple [a', b'] _ _ => decide (sc.kind = .function) && (decide (tb.N[i]? = some x) && (decide (tb.N[j]? = some y) && (decide (i ≠ j) && (decide (kOf sc x = some .local) && (decide (kOf sc y = some .local) && ((px.line == py.line) &&
          (chkE tb a sc a' && (chkE tb b sc b' && (noStar a' && (noStar b' && (!(foldedForSure 8 a' && foldedForSure 8 b') && (!(constantsAlone 8 a' && constantsAlone 8 b')  && !(x == y)))))))))))))
      | _, _ => false)) = true from hc)
    have hcold := (and2 h).1
    replace h := (and2 h).2
    split at h
    · rename_i x px y py k1 p1 a' b' k2 p2
      have h0 := and2 h
      have h1 := and2 h0.2
      have h2 := and2 h1.2
      have h3 := and2 h2.2
      have h4 := and2 h3.2
      have h5 := and2 h4.2
      have h6 := and2 h5.2
      have h7 := and2 h6.2
      have h8 := and2 h7.2
      have h9 := and2 h8.2
      have h10 := and2 h9.2
      have h11 := and2 h10.2
      have h12 := and2 h11.2
      have kx : X.env.scope.names.lookup x = some .local := by rw [esc]; exact of_decide_eq_true h4.1
      have ky : X.env.scope.names.lookup y = some .local := by rw [esc]; exact of_decide_eq_true h5.1
      have nxy : (x == y) = false := by simpa using h12.2
      refine PS.to (ps_par (i := i) (j := j) (g.calm hcold) g.nd (by rw [g.hN]; exact of_decide_eq_true h1.1) (by rw [g.hN]; exact of_decide_eq_true h2.1) (of_decide_eq_true h3.1) kx ky (pa_cons (tS_pe X a') (pa_cons (tS_pe X b') pa_nil (star_ok h10.1 _ _)) (star_ok h9.1 _ _)) ?_) ?_
      · exact swap2 (by show X.env.blockKind = .function; unfold Env.blockKind; rw [show X.env.scope.kind = .function by rw [esc]; exact of_decide_eq_true h0.1]; rfl) kx ky h6.1 h9.1 h10.1 (Bool.not_eq_true' _ ▸ h11.1) (Bool.not_eq_true' _ ▸ h12.1) nxy
      · refine bindE (sE a) g esc h7.1 sf A S q fun F1 d v μ1 H1 s1 A1 S1 r1 q1 => bindE (sE b) g esc h8.1 (sf.trans s1) A1 S1 q1 fun F2 d2 v2 μ2 H2 s2 A2 S2 r2 q2 => ?_
        exact ⟨v, v2, rfl, F2, _, μ2, s1.trans s2, A2, (S2.set i (r1.mono s2)).set j r2, q2⟩
    · cases h
  | .aug i o e => fun X Γ gl tb F0 G Ed sc st g esc lo po to hc σ H F σd μ R sf A S q => by
    obtain ⟨t, e', p, rfl, h⟩ := onAug_inv (show onAug st _ _ = true from hc)
    have h1 := and2 h
    obtain ⟨x, p2, rfl, h2⟩ := onName_inv h1.2
    have h2 := and2 h2
    obtain ⟨l1, l2⟩ := lo x h2.2
    refine PS.to (ps_aug (i := i) g.nd (by rw [g.hN]; exact of_decide_eq_true h2.1) l1 (tS_pe X e') (show PIp X _ (rSem X (inplaceOp (boOp o))) from fun pins s σ H x y v u Q I rx ry h => h pins s σ v u I rx ry) l2) ?_
    have q : getS σd i fun x => wpE Γ gl e σd μ (fun y μ1 => augW o x y μ1 fun z μ2 => R.nx (σd.set i (some z)) μ2) (fun x μ' => Ed x σd μ') := q
    unfold getS at q
    cases ei : σd[i]? with
    | none => rw [ei] at q; exact q.elim
    | some od =>
      cases od with
      | none => rw [ei] at q; exact q.elim
      | some d =>
        rw [ei] at q
        obtain ⟨v, hv, r⟩ := S.2 i d ei
        refine ⟨v, hv, ?_⟩
        refine bindE (sE e) g esc h1.1 sf A S q fun F1 d1 v1 μ1 H1 s1 A1 S1 r1 q1 => ?_
        exact (aug_ok o A1 (r.mono s1) r1 q1).mono fun z H2 ⟨F2, d2, μ2, s2, A2, r2, q2⟩ => ⟨F2, _, μ2, s1.trans s2, A2, (S1.mono s2).set i r2, q2⟩
  | .augi b o i e => fun X Γ gl tb F0 G Ed sc st g esc lo po to hc σ H F σd μ R sf A S q => by
    obtain ⟨t, e', p, rfl, h⟩ := onAug_inv (show onAug st _ (fun t e' => onSub t fun o' i' => chkE tb e sc e' && (chkE tb o sc o' && (chkE tb i sc i' && noSlice i'))) = true from hc)
    obtain ⟨o', i', p2, rfl, h⟩ := onSub_inv h
    have h2 := and2 h
    have h3 := and2 h2.2
    have h4 := and2 h3.2
    refine PS.to (ps_augS (tS_pe X o') (tS_pe X i') get_place (tS_pe X e') (show PIp X _ (rSem X (inplaceOp (boOp b))) from fun pins s σ H x y v u Q I rx ry h => h pins s σ v u I rx ry) set_list (by intro ov iv new; cases i' <;> first | rfl | cases h4.2)) ?_
    refine bindE (sE o) g esc h3.1 sf A S q fun F1 d v μ1 H1 s1 A1 S1 r1 q1 => ?_
    refine bindE (sE i) g esc h4.1 (sf.trans s1) A1 S1 q1 fun F2 d2 v2 μ2 H2 s2 A2 S2 r2 q2 => ?_
    cases r1 with
    | obj a =>
      cases r2 with
      | int n =>
        obtain ⟨ds, d0, k1, k2, k3, k4⟩ := q2
        obtain ⟨ho, hh, rr⟩ := A2.at k1
        obtain ⟨vs, rfl, rv⟩ := rr.lst_inv
        obtain ⟨v0, hv0, rd0⟩ := rv.get k3
        refine ⟨a, vs, n, v0, rfl, rfl, .inl (.inl hh), k2, hv0, ?_⟩
        refine bindE (sE e) g esc h2.1 (sf.trans (s1.trans s2)) A2 S2 k4 fun F3 d3 v3 μ3 H3 s3 A3 S3 r3 q3 => ?_
        refine (aug_ok b A3 (rd0.mono s3) r3 q3).mono fun z H4 ⟨F4, d4, μ4, s4, A4, r4, q4⟩ => ?_
        obtain ⟨ds', j, k1', k2', k3'⟩ := q4
        obtain ⟨ho', hh', rr'⟩ := A4.at k1'
        obtain ⟨vs', rfl, rv'⟩ := rr'.lst_inv
        refine ⟨a, vs', n, j, rfl, rfl, hh', by rw [← rv'.length]; exact k2', ?_⟩
        exact ⟨F4, σd, _, s1.trans (s2.trans (s3.trans s4)), A4.put k1' (.lst (rv'.set j r4)), S3.mono s4, k3'⟩
      | _ => exact q2.elim
    | _ => cases r2 <;> exact q2.elim
  | .setf o n e => fun X Γ gl tb F0 G Ed sc st g esc lo po to hc σ H F σd μ R sf A S q => by
    obtain ⟨t, e', p, rfl, h⟩ := onAsg_inv (show onAsg st (fun t e' _ => onAttr t fun o' n' => decide (n' = n) && (noComp e' && (chkE tb e sc e' && chkE tb o sc o'))) = true from hc)
    obtain ⟨o', n', p2, rfl, h⟩ := onAttr_inv h
    have h1 := and2 h
    have h2 := and2 h1.2
    have h3 := and2 h2.2
    have en := of_decide_eq_true h1.1
    subst en
    refine PS.to (ps_fld (tS_pe X o') (tS_pe X e') (swap_ok h2.1 _ _ _)) ?_
    refine bindE (sE e) g esc h3.1 sf A S q fun F1 d v μ1 H1 s1 A1 S1 r1 q1 => ?_
    refine bindE (sE o) g esc h3.2 (sf.trans s1) A1 S1 q1 fun F2 d2 v2 μ2 H2 s2 A2 S2 r2 q2 => ?_
    cases r2 with
    | obj a =>
      obtain ⟨c, ns, ds, k1, k2, k3, k4⟩ := q2
      obtain ⟨C, dx, fs, ha, hC, hl, A3⟩ := fput_ok A2 k1 (r1.mono s2)
      obtain ⟨c1, c2⟩ := g.atr c n' C k2 hC
      exact ⟨a, C, dx, fs, rfl, ha, c1, c2, by omega, F2, σd, _, s1.trans s2, A3, S2, k4⟩
    | _ => exact q2.elim
  | .setf2 o1 n1 o2 n2 e => fun X Γ gl tb F0 G Ed sc st g esc lo po to hc σ H F σd μ R sf A S q => by
    obtain ⟨t, e', p, rfl, h⟩ := onAsg_inv (show onAsg st (fun t e' _ => coldB tb && (tupOk t e' && (noComp e' && (chkE tb e sc e' && (match t with
      | .Tuple [.Attribute a1 m1 _, .Attribute a2 m2 _] _ _ => decide (m1 = n1) && (decide (m2 = n2) && (chkE tb o1 sc a1 && chkE tb o2 sc a2))
      | _ => false))))) = true from hc)
    have h1 := and2 h
    have h2 := and2 h1.2
    have h3 := and2 h2.2
    have h4 := and2 h3.2
    have h5 := h4.2
    split at h5
    · rename_i a1 m1 p1 a2 m2 p2 k p3
      have h6 := and2 h5
      have h7 := and2 h6.2
      have h8 := and2 h7.2
      have en1 := of_decide_eq_true h6.1
      have en2 := of_decide_eq_true h7.1
      subst en1 en2
      refine PS.to (ps_asg (tS_pe X e') (pg_tup (n := 2) (g.calm h1.1) (pgs_cons (pg_fld (tS_pe X a1)) (pgs_cons (pg_fld (tS_pe X a2)) pgs_nil rfl) rfl) rfl rfl) (sole_ok _ h3.1) (tup_none _ h2.1) rfl) ?_
      refine bindE (sE e) g esc h4.1 sf A S q fun F1 d v μ1 H1 s1 A1 S1 r1 q1 => ?_
      obtain ⟨d1, d2, hd, q1⟩ := q1
      obtain ⟨ta, vs, rfl, hv, rv⟩ := seqT_ok A1 r1 hd
      cases rv with
      | cons rd1 rv =>
        cases rv with
        | cons rd2 rv =>
          cases rv
          refine ⟨ta, _, rfl, hv, rfl, _, _, rfl, ?_⟩
          refine bindE (sE o1) g esc h8.1 (sf.trans s1) A1 S1 q1 fun F2 x2 v2 μ2 H2 s2 A2 S2 r2 q2 => ?_
          cases r2 with
          | obj a =>
            obtain ⟨c, ns, ds, k1, k2, k3, k4⟩ := q2
            obtain ⟨C, dx, fs, ha, hC, hl, A3⟩ := fput_ok A2 k1 (rd1.mono s2)
            obtain ⟨c1, c2⟩ := g.atr c _ C k2 hC
            refine ⟨a, C, dx, fs, rfl, ha, c1, c2, by omega, _, _, rfl, ?_⟩
            refine bindE (sE o2) g esc h8.2 (sf.trans (s1.trans s2)) A3 S2 k4 fun F4 x4 v4 μ4 H4 s4 A4 S4 r4 q4 => ?_
            cases r4 with
            | obj a' =>
              obtain ⟨c', ns', ds', k1', k2', k3', k4'⟩ := q4
              obtain ⟨C', dx', fs', ha', hC', hl', A5⟩ := fput_ok A4 k1' (rd2.mono (s2.trans s4))
              obtain ⟨c1', c2'⟩ := g.atr c' _ C' k2' hC'
              exact ⟨a', C', dx', fs', rfl, ha', c1', c2', by omega, rfl, F4, σd, _, s1.trans (s2.trans s4), A5, S4, k4'⟩
            | _ => exact q4.elim
          | _ => exact q2.elim
    · cases h5
  | .augf b o n e => fun X Γ gl tb F0 G Ed sc st g esc lo po to hc σ H F σd μ R sf A S q => by
    obtain ⟨t, e', p, rfl, h⟩ := onAug_inv (show onAug st _ (fun t e' => onAttr t fun o' n' => decide (n' = n) && (chkE tb e sc e' && chkE tb o sc o')) = true from hc)
    obtain ⟨o', n', p2, rfl, h⟩ := onAttr_inv h
    have h1 := and2 h
    have h2 := and2 h1.2
    have en := of_decide_eq_true h1.1
    subst en
    refine PS.to (ps_fldaug (tS_pe X o') (tS_pe X e') (show InOp X _ (rSem X (inplaceOp (boOp b))) from fun pins s σ H x y v u Q I rx ry h => h pins s σ v u I rx ry)) ?_
    refine bindE (sE o) g esc h2.2 sf A S q fun F1 d v μ1 H1 s1 A1 S1 r1 q1 => ?_
    obtain ⟨a, c, ns, ds, old, rfl, hi, ok, hl, q2⟩ := q1
    cases r1
    obtain ⟨o1, ho1, m1⟩ := A1.at hi
    obtain ⟨C, dx, vs, rfl, hC, hz, hr0⟩ := m1.ins_inv
    obtain ⟨y, hy, ry⟩ := zip_lookup hr0 hl
    obtain ⟨c1, c2⟩ := g.atr c n' C ok hC
    refine ⟨a, C, dx, _, y, rfl, ho1, c1, c2, hy, ?_⟩
    refine bindE (sE e) g esc h2.1 (sf.trans s1) A1 S1 q2 fun F3 d3 v3 μ3 H3 s3 A3 S3 r3 q3 => ?_
    refine (aug_ok b A3 (ry.mono s3) r3 q3).mono fun z H4 ⟨F4, d4, μ4, s4, A4, r4, q4⟩ => ?_
    obtain ⟨ns', ds', k1, k3, k4⟩ := q4
    obtain ⟨C', dx', fs', ha', hC', hl', A5⟩ := fput_ok A4 k1 r4
    cases clsAt_one hC hC'
    exact ⟨dx', fs', ha', by omega, F4, σd, _, s1.trans (s3.trans s4), A5, S3.mono s4, k4⟩
  | .daug b o i e => fun X Γ gl tb F0 G Ed sc st g esc lo po to hc σ H F σd μ R sf A S q => by
    obtain ⟨t, e', p, rfl, h⟩ := onAug_inv (show onAug st _ (fun t e' => onSub t fun o' i' => chkE tb e sc e' && (chkE tb o sc o' && (chkE tb i sc i' && noSlice i'))) = true from hc)
    obtain ⟨o', i', p2, rfl, h⟩ := onSub_inv h
    have h2 := and2 h
    have h3 := and2 h2.2
    have h4 := and2 h3.2
    refine PS.to (ps_daug (by have := g.unit; omega) (tS_pe X o') (tS_pe X i') (tS_pe X e') (show InOp X _ (rSem X (inplaceOp (boOp b))) from fun pins s σ H x y v u Q I rx ry h => h pins s σ v u I rx ry) (by intro ov iv new; cases i' <;> first | rfl | cases h4.2)) ?_
    refine bindE (sE o) g esc h3.1 sf A S q fun F1 d v μ1 H1 s1 A1 S1 r1 q1 => ?_
    refine bindE (sE i) g esc h4.1 (sf.trans s1) A1 S1 q1 fun F2 d2 v2 μ2 H2 s2 A2 S2 r2 q2 => ?_
    obtain ⟨a, w, d3, rfl, hg, rw, q3⟩ := dget_ok A2 (r1.mono s2) r2 q2
    refine ⟨a, w, rfl, hg, ?_⟩
    refine bindE (sE e) g esc h2.1 (sf.trans (s1.trans s2)) A2 S2 q3 fun F3 d4 v4 μ3 H3 s3 A3 S3 r4 q4 => ?_
    refine (aug_ok b A3 (rw.mono s3) r4 q4).mono fun z H4 ⟨F4, d5, μ4, s4, A4, r5, q5⟩ => ?_
    obtain ⟨a2, H5, μ5, ea, hp, A5, q6⟩ := dput_ok A4 (r1.mono (s2.trans (s3.trans s4))) (r2.mono (s3.trans s4)) r5 q5
    cases ea
    exact ⟨H5, hp, F4, σd, μ5, s1.trans (s2.trans (s3.trans s4)), A5, S3.mono s4, q6⟩
  | .dput2 o1 i1 o2 i2 e => fun X Γ gl tb F0 G Ed sc st g esc lo po to hc σ H F σd μ R sf A S q => by
    obtain ⟨t, e', p, rfl, h⟩ := onAsg_inv (show onAsg st (fun t e' _ => coldB tb && (noComp e' && (chkE tb e sc e' && (match t with
      | .Tuple [.Subscript a1 b1 _, .Subscript a2 b2 _] _ _ => (chkE tb o1 sc a1 && (chkE tb i1 sc b1 && noSlice b1)) && (chkE tb o2 sc a2 && (chkE tb i2 sc b2 && noSlice b2))
      | _ => false)))) = true from hc)
    have h1 := and2 h
    have h2 := and2 h1.2
    have h3 := and2 h2.2
    have h5 := h3.2
    split at h5
    · rename_i a1 b1 p1 a2 b2 p2 k p3
      have h6 := and2 h5
      have h7 := and2 h6.1
      have h8 := and2 h7.2
      have h9 := and2 h6.2
      have h10 := and2 h9.2
      refine PS.to (ps_asg (tS_pe X e') (pg_tup (n := 2) (g.calm h1.1) (pgs_cons (pg_sub (tS_pe X a1) (tS_pe X b1) (set_dict (by have := g.unit; omega)) (by intro v; cases b1 <;> first | rfl | cases h8.2)) (pgs_cons (pg_sub (tS_pe X a2) (tS_pe X b2) (set_dict (by have := g.unit; omega)) (by intro v; cases b2 <;> first | rfl | cases h10.2)) pgs_nil rfl) rfl) rfl rfl) (sole_ok _ h2.1) (subs_none _ ()) rfl) ?_
      refine bindE (sE e) g esc h3.1 sf A S q fun F1 d v μ1 H1 s1 A1 S1 r1 q1 => ?_
      obtain ⟨d1, d2, hd, q1⟩ := q1
      obtain ⟨ta, vs, rfl, hv, rv⟩ := seqT_ok A1 r1 hd
      cases rv with
      | cons rd1 rv =>
        cases rv with
        | cons rd2 rv =>
          cases rv
          refine ⟨ta, _, rfl, hv, rfl, _, _, rfl, ?_⟩
          refine bindE (sE o1) g esc h7.1 (sf.trans s1) A1 S1 q1 fun F2 x2 v2 μ2 H2 s2 A2 S2 r2 q2 => ?_
          refine bindE (sE i1) g esc h8.1 (sf.trans (s1.trans s2)) A2 S2 q2 fun F3 x3 v3 μ3 H3 s3 A3 S3 r3 q3 => ?_
          obtain ⟨a, H4, μ4, rfl, hp, A4, q4⟩ := dput_ok A3 (r2.mono s3) r3 (rd1.mono (s2.trans s3)) q3
          refine ⟨a, H4, rfl, hp, _, _, rfl, ?_⟩
          refine bindE (sE o2) g esc h9.1 (sf.trans (s1.trans (s2.trans s3))) A4 S3 q4 fun F5 x5 v5 μ5 H5 s5 A5 S5 r5 q5 => ?_
          refine bindE (sE i2) g esc h10.1 (sf.trans (s1.trans (s2.trans (s3.trans s5)))) A5 S5 q5 fun F6 x6 v6 μ6 H6 s6 A6 S6 r6 q6 => ?_
          obtain ⟨a6, H7, μ7, rfl, hp7, A7, q7⟩ := dput_ok A6 (r5.mono s6) r6 (rd2.mono (s2.trans (s3.trans (s5.trans s6)))) q6
          exact ⟨a6, H7, rfl, hp7, rfl, F6, σd, μ7, s1.trans (s2.trans (s3.trans (s5.trans s6))), A7, S6, q7⟩
    · cases h5
  | .dput o i e => fun X Γ gl tb F0 G Ed sc st g esc lo po to hc σ H F σd μ R sf A S q => by
    obtain ⟨t, e', p, rfl, h⟩ := onAsg_inv (show onAsg st (fun t e' _ => onSub t fun o' i' => noComp e' && (chkE tb e sc e' && (chkE tb o sc o' && (chkE tb i sc i' && noSlice i')))) = true from hc)
    obtain ⟨o', i', p2, rfl, h⟩ := onSub_inv h
    have h1 := and2 h
    have h2 := and2 h1.2
    have h3 := and2 h2.2
    have h4 := and2 h3.2
    refine PS.to (ps_dput (by have := g.unit; omega) (tS_pe X o') (tS_pe X i') (tS_pe X e') (swap_ok h1.1 _ _ _)) ?_
    refine bindE (sE e) g esc h2.1 sf A S q fun F1 d v μ1 H1 s1 A1 S1 r1 q1 => ?_
    refine bindE (sE o) g esc h3.1 (sf.trans s1) A1 S1 q1 fun F2 d2 v2 μ2 H2 s2 A2 S2 r2 q2 => ?_
    refine bindE (sE i) g esc h4.1 (sf.trans (s1.trans s2)) A2 S2 q2 fun F3 d3 v3 μ3 H3 s3 A3 S3 r3 q3 => ?_
    obtain ⟨a, H4, μ4, rfl, hp, A4, q4⟩ := dput_ok A3 (r2.mono s3) r3 (r1.mono (s2.trans s3)) q3
    exact ⟨a, H4, rfl, hp, F3, σd, μ4, s1.trans (s2.trans s3), A4, S3, q4⟩
  | .seti o i e => fun X Γ gl tb F0 G Ed sc st g esc lo po to hc σ H F σd μ R sf A S q => by
    obtain ⟨t, e', p, rfl, h⟩ := onAsg_inv (show onAsg st (fun t e' _ => onSub t fun o' i' => noComp e' && (chkE tb e sc e' && (chkE tb o sc o' && (chkE tb i sc i' && noSlice i')))) = true from hc)
    obtain ⟨o', i', p2, rfl, h⟩ := onSub_inv h
    have h1 := and2 h
    have h2 := and2 h1.2
    have h3 := and2 h2.2
    have h4 := and2 h3.2
    refine PS.to (ps_asg (tS_pe X e') (pg_sub (tS_pe X o') (tS_pe X i') set_list (by intro v; cases i' <;> first | rfl | cases h4.2)) (sole_ok _ h1.1) rfl) ?_
    refine bindE (sE e) g esc h2.1 sf A S q fun F1 d v μ1 H1 s1 A1 S1 r1 q1 => ?_
    refine bindE (sE o) g esc h3.1 (sf.trans s1) A1 S1 q1 fun F2 d2 v2 μ2 H2 s2 A2 S2 r2 q2 => ?_
    refine bindE (sE i) g esc h4.1 (sf.trans (s1.trans s2)) A2 S2 q2 fun F3 d3 v3 μ3 H3 s3 A3 S3 r3 q3 => ?_
    cases r2 with
    | obj a =>
      cases r3 with
      | int n =>
        obtain ⟨ds, j, k1, k2, k3⟩ := q3
        obtain ⟨ho, hh, rr⟩ := A3.at k1
        obtain ⟨vs, rfl, rv⟩ := rr.lst_inv
        refine ⟨a, vs, n, j, rfl, rfl, hh, by rw [← rv.length]; exact k2, ?_⟩
        exact ⟨F3, σd, _, s1.trans (s2.trans s3), A3.put k1 (.lst (rv.set j (r1.mono (s2.trans s3)))), S3, k3⟩
      | _ => exact q3.elim
    | _ => cases r3 <;> exact q3.elim
  | .ex e => fun X Γ gl tb F0 G Ed sc st g esc lo po to hc σ H F σd μ R sf A S q => by
    obtain ⟨e', p, rfl, h⟩ := onEx_inv (show onEx st _ = true from hc)
    have h1 := and2 h
    refine PS.to (ps_expr (tS_pe X e') (swap_ok h1.1 _ _ _)) ?_
    exact bindE (sE e) g esc h1.2 sf A S q fun F1 d v μ1 H1 s1 A1 S1 r1 q1 => ⟨F1, σd, μ1, s1, A1, S1, q1⟩
  | .ret e => fun X Γ gl tb F0 G Ed sc st g esc lo po to hc σ H F σd μ R sf A S q => by
    obtain ⟨o, p, rfl, h⟩ := onRet_inv (show onRet st _ = true from hc)
    cases o with
    | none => cases h
    | some e' =>
      refine PS.to (ps_ret (tS_pe X e')) ?_
      exact bindE (sE e) g esc h sf A S q fun F1 d v μ1 H1 s1 A1 S1 r1 q1 => LQ.mk s1 A1 r1 q1
  | .ret0 => fun X Γ gl tb F0 G Ed sc st g esc lo po to hc σ H F σd μ R sf A S q => by
    obtain ⟨o, p, rfl, h⟩ := onRet_inv (show onRet st _ = true from hc)
    cases o with
    | some e' => cases h
    | none => exact PS.to ps_retN (LQ.here A .non q)
  | .ife t a b => fun X Γ gl tb F0 G Ed sc st g esc lo po to hc σ H F σd μ R sf A S q => by
    obtain ⟨t', a', b', p, rfl, h⟩ := onIfS_inv (show onIfS st _ = true from hc)
    have h1 := and2 h
    have h2 := and2 h1.2
    refine PS.to (ps_if (tT_pt X t') (tSs_ps X a') (tSs_ps X b')) ?_
    refine bindT (sT t) g esc h1.1 sf A S q fun F1 k μ1 H1 s1 A1 S1 q1 => ?_
    cases k with
    | true => exact iteT ((sMs a X Γ gl tb F0 G Ed sc a' g esc lo po to h2.1 σ H1 F1 σd μ1 R (sf.trans s1) A1 S1 q1).mono (LD.le s1))
    | false => exact iteF ((sMs b X Γ gl tb F0 G Ed sc b' g esc lo po to h2.2 σ H1 F1 σd μ1 R (sf.trans s1) A1 S1 q1).mono (LD.le s1))
  | .wh t a => fun X Γ gl tb F0 G Ed sc st g esc lo po to hc σ H F σd μ R sf A S q => by
    obtain ⟨t', a', p, rfl, h⟩ := onWh_inv (show onWh st _ = true from hc)
    have h1 := and2 h
    refine PS.to (ps_while po (tT_pt X t') (tSs_ps X a')) ?_
    obtain ⟨W, ⟨m0, w0⟩, step⟩ := q
    refine ⟨fun m σ H => ∃ F1 σd1 μ1, Same F F1 ∧ Ag X.K F1 G μ1 H ∧ Sig X.K F1 σd1 σ ∧ W m σd1 μ1, ⟨m0, F, σd, μ, Same.refl _, A, S, w0⟩, ?_⟩
    rintro m σ1 H1 ⟨F1, σd1, μ1, s1, A1, S1, w1⟩
    refine bindT (sT t) g esc h1.1 (sf.trans s1) A1 S1 (step m σd1 μ1 w1) fun F2 k μ2 H2 s2 A2 S2 q2 => ?_
    cases k with
    | true =>
      refine iteT ⟨fun σ' H' => ∃ m', m' < m ∧ ∃ F1 σd1 μ1, Same F F1 ∧ Ag X.K F1 G μ1 H' ∧ Sig X.K F1 σd1 σ' ∧ W m' σd1 μ1, fun σ' H' h => h, ?_⟩
      refine (sMs a X Γ gl tb F0 G Ed sc a' g esc lo po to h1.2 σ1 H2 F2 σd1 μ2 _ (sf.trans (s1.trans s2)) A2 S2 q2).mono ⟨fun σ' H' h => ?_, fun _ _ => LQ.weak (s1.trans s2), fun _ _ => LS.weak (s1.trans s2), fun σ' H' h => ?_⟩
      · obtain ⟨F3, σd3, μ3, s3, A3, S3, m', hm, w⟩ := h
        exact ⟨m', hm, F3, σd3, μ3, s1.trans (s2.trans s3), A3, S3, w⟩
      · obtain ⟨F3, σd3, μ3, s3, A3, S3, m', hm, w⟩ := h
        exact ⟨m', hm, F3, σd3, μ3, s1.trans (s2.trans s3), A3, S3, w⟩
    | false => exact iteF ⟨F2, σd1, μ2, s1.trans s2, A2, S2, q2⟩
  | .fr tg it b => fun X Γ gl tb F0 G Ed sc st g esc lo po to hc σ H F σd μ R sf A S q => by
    obtain ⟨t', i', b', p, rfl, h⟩ := onFr_inv (show onFr st _ = true from hc)
    have h0 := and2 h
    have h1 := and2 h0.2
    have h2 := and2 h1.2
    have h3 := and2 h2.2
    refine PS.to (ps_for po (g.calm h0.1) (tI_pi X t' i') (pg_of g.hN g.nd g.calm lo h1.1) (tSs_ps X b') (set_ok h3.1 _)) ?_
    refine (sI it X Γ gl tb F0 G Ed sc t' i' g esc h2.1 σ H F σd μ _ sf A S q).mono fun J H1 ⟨F1, μ1, items, stab, s1, A1, iok, st0, q1⟩ => ?_
    let body : DSt → Mu → DEnds → Prop := fun σ' μ' R' => wpSs Γ gl b σ' μ' R' Ed
    refine ⟨fun i m σ H => i ≤ items.length ∧ m = items.length - i ∧ ∃ F2 σd2 μ2, Same F1 F2 ∧ Ag X.K F2 G μ2 H ∧ Sig X.K F2 σd2 σ ∧ stab μ2 ∧ forW tg stab body R (items.drop i) σd2 μ2, ⟨_, Nat.zero_le _, rfl, F1, σd, μ1, Same.refl _, A1, S.mono s1, st0, by rw [List.drop_zero]; exact q1⟩, ?_⟩
    rintro i m σ2 H2 ⟨hi, rfl, F2, σd2, μ2, s2, A2, S2, st2, qc⟩
    have io := iok i F2 G μ2 H2 s2 A2 st2
    by_cases hlt : i < items.length
    · refine .inr ?_
      have io1 := io.1 _ (List.getElem?_eq_getElem hlt)
      rw [List.drop_eq_getElem_cons hlt] at qc
      refine ⟨io1.1, fun σ' H' => i + 1 ≤ items.length ∧ ∃ F2 σd2 μ2, Same F1 F2 ∧ Ag X.K F2 G μ2 H' ∧ Sig X.K F2 σd2 σ' ∧ stab μ2 ∧ forW tg stab body R (items.drop (i + 1)) σd2 μ2, fun σ' H' ⟨l1, l2⟩ => ⟨items.length - (i + 1), by omega, l1, rfl, l2⟩, fun x H' y => ?_⟩
      obtain ⟨F3, s3, A3, rx⟩ := io1.2 x H' y
      refine gOf_mono (tg_ok A3 rx (S2.mono s3) (show tgW tg items[i] σd2 _ from qc)) fun σ4 H4 ⟨e4, _, σd4, S4, q4⟩ => ?_
      subst e4
      refine (sMs b X Γ gl tb F0 G Ed sc b' g esc lo po to h3.2 σ4 H4 F3 σd4 μ2 _ (sf.trans (s1.trans (s2.trans s3))) A3 S4 q4).mono ⟨fun σ' H' h => ?_, fun _ _ => LQ.weak (s1.trans (s2.trans s3)), fun _ _ => LS.weak (s1.trans (s2.trans s3)), fun σ' H' h => ?_⟩
      · obtain ⟨F5, σd5, μ5, s5, A5, S5, st5, q5⟩ := h
        exact ⟨hlt, F5, σd5, μ5, s2.trans (s3.trans s5), A5, S5, st5, q5⟩
      · obtain ⟨F5, σd5, μ5, s5, A5, S5, st5, q5⟩ := h
        exact ⟨hlt, F5, σd5, μ5, s2.trans (s3.trans s5), A5, S5, st5, q5⟩
    · have e : i = items.length := by omega
      subst e
      rw [List.drop_length] at qc
      exact .inl ⟨io.2 rfl, F2, σd2, μ2, s1.trans s2, A2, S2, qc⟩
  | .brk => fun X Γ gl tb F0 G Ed sc st g esc lo po to hc σ H F σd μ R sf A S q => by
    cases st <;> first | exact PS.to ps_break ⟨F, σd, μ, Same.refl _, A, S, q⟩ | cases hc
  | .cont => fun X Γ gl tb F0 G Ed sc st g esc lo po to hc σ H F σd μ R sf A S q => by
    cases st <;> first | exact PS.to ps_continue ⟨F, σd, μ, Same.refl _, A, S, q⟩ | cases hc
  | .pas => fun X Γ gl tb F0 G Ed sc st g esc lo po to hc σ H F σd μ R sf A S q => by
    cases st <;> first | exact PS.to ps_pass ⟨F, σd, μ, Same.refl _, A, S, q⟩ | cases hc
  | .never => fun X Γ gl tb F0 G Ed sc st g esc lo po to hc σ H F σd μ R sf A S q => by exact q.elim
  | .raise i => fun X Γ gl tb F0 G Ed sc st g esc lo po to hc σ H F σd μ R sf A S q => by
    obtain ⟨x, p, m, j, p2, pos, pos', rfl, h⟩ := onRaise_inv (show onRaise st _ = true from hc)
    have h0 := and2 h
    have h1 := and2 h0.2
    have h2 := and2 h1.2
    have q : (match gl i with
      | .cls x true => exPlain x = true ∧ Ed ⟨x, [], []⟩ σd μ
      | _ => False) := q
    obtain ⟨u, v, m1, rv, rp⟩ := g.glb i x (of_decide_eq_true h1.1)
    have rp := rp.1 F
    split at q
    · rename_i y e
      rw [e] at rp
      cases rp with
      | cls hC =>
        have f := (g.cls i y true _ e hC).2 rfl
        cases rv
        refine PS.to (ps_raise (g.calm h0.1) g.tk (pmk_own PySem.F.excBase_ValueError (f.e q.1) m1 f.k (raises_own f.b f.t) (glo_of (by rw [esc]; exact h2.1)) (und_of h2.2).1)) ?_
        exact ⟨F, σd, μ, ⟨y, [], []⟩, sf, A, S, ⟨_, hC, rfl, .inl ⟨rfl, rfl, rfl⟩⟩, q.2⟩
    · exact q.elim
  | .raiseX i as => fun X Γ gl tb F0 G Ed sc st g esc lo po to hc σ H F σd μ R sf A S q => by
    obtain ⟨x, p, es, pos, pos', rfl, h⟩ := onRaiseX_inv (show onRaiseX st _ = true from hc)
    have h0 := and2 h
    have h1 := and2 h0.2
    have h2 := and2 h1.2
    have h3 := and2 h2.2
    have h4 := and2 h3.2
    obtain ⟨u, v, m1, rv, rp⟩ := g.glb i x (of_decide_eq_true h1.1)
    have q : raiseW gl i fun x => wpA Γ gl as σd μ (fun ds μ1 => ds.length = (exFields x).length ∧ Ed ⟨x, (exFields x).reverse, ds.reverse⟩ σd μ1) (fun x μ' => Ed x σd μ') := q
    have rp := rp.1 F
    unfold raiseW at q
    split at q
    · rename_i y e
      rw [e] at rp
      cases rp with
      | cls hC =>
        have f := (g.cls i y true _ e hC).2 rfl
        cases rv
        obtain ⟨k, hr, T⟩ := g.ini h0.1 i y _ e q.1 hC
        obtain ⟨fI, fd, ps, iC, tI, FO, hb⟩ := T.ex
        have sa := sA as X Γ gl tb F0 G Ed sc es g esc h4.1
        cases es with
        | nil => cases h4.2
        | cons e0 es =>
          have ns := and2 (show (noStar e0 && noStars es) = true from sa.1)
          refine PS.to (ps_raise (g.calm h0.1) g.tk (pmk_oex (dvs := []) T.T iC tI FO hr hb .nil (fun pins σ H s e s' I c => by
            obtain ⟨_, _, _, _, _, _, _, _, _, _, _, _, z⟩ := c
            exact z.elim) (glo_of (by rw [esc]; exact h2.1)) m1 (tA_pa X (e0 :: es)) (und_of h3.1).1 (star_ok ns.1 _ _) (stars_ok _ _ ns.2))) ?_
          refine bindA (sA as) g esc h4.1 sf A S q.2 fun F1 ds vs μ1 H1 s1 A1 S1 r1 l1 q1 => ?_
          have l2 : vs.length = (exFields y).length := by rw [← r1.length]; exact q1.1
          have l3 : (exFields y).length ≤ 2 := by unfold exFields; split <;> decide
          refine ⟨by omega, fun a na => ⟨a, vs ++ [], rfl, by rw [List.append_nil]; exact l2, upd_same, fun d nd hda => ⟨rfl, d, _, upd_same, by rw [upd_ne hda, upd_same], by rw [upd_ne hda] at nd; exact nd, ?_⟩⟩⟩
          rw [upd_ne hda] at nd
          rw [exc_heap na, List.append_nil]
          exact ⟨_, σd, μ1, ⟨y, (exFields y).reverse, ds.reverse⟩, sf.trans (s1.trans (A1.laidF nd)), A1.laid nd, S1.mono (A1.laidF nd), ⟨_, hC, rfl, .inr ⟨d, vs.reverse, rfl, upd_same, by rw [List.length_reverse, List.length_reverse, l2], r1.rev.mono (A1.laidF nd)⟩⟩, q1.2⟩
    · exact q.elim
  | .tryS b gg i su => fun X Γ gl tb F0 G Ed sc st g esc lo po to hc σ H F σd μ R sf A S q => by
    obtain ⟨body, x, np, n, suite, p, p2, rfl, h⟩ := onTry_inv (show onTry st _ = true from hc)
    have h1 := and2 h
    have h2 := and2 h1.2
    have h3 := and2 h2.2
    have h4 := and2 h3.2
    have h5 := and2 h4.2
    have h6 := and2 h5.2
    have h7 := and2 h6.2
    have h8 := and2 h7.2
    have kn : X.env.scope.names.lookup n = some .local := by rw [esc]; exact of_decide_eq_true h6.1
    have hi : X.N[i]? = some n := by rw [g.hN]; exact of_decide_eq_true h5.1
    have q : wpSs Γ gl b σd μ R (fun dx σ' μ' => (∃ k, gl k = .cls dx.x true) ∧ ∃ y t, gl gg = .cls y t ∧ (match exSub dx.x y with
      | true => wpSs Γ gl su (σ'.set i (some (.exc dx.x dx.ns dx.ds))) μ' { nx := fun σ2 μ2 => R.nx (σ2.set i none) μ2, rt := fun _ _ => False } (fun _ _ _ => False)
      | false => Ed dx σ' μ')) := q
    obtain ⟨u, v, m1, rv, rp⟩ := g.glb gg x (of_decide_eq_true h2.1)
    have nm : Names X x u := ⟨glo_of (by rw [esc]; exact h3.1), (und_of h4.1).1, .inl m1⟩
    cases suite with
    | nil => cases h8.1
    | cons b0 suite =>
      refine PS.to (ps_suite (i := i) (ts := fun a D σ H => ∀ pn, tSs (X.suite a pn) (b0 :: suite) D σ H) to.stk to.fr to.hex g.nd hi kn nm g.tk (tBody_ps X body) fun a pn => ⟨fun pins s σ H D I h => h pn pins s I⟩) ?_
      intro pn xe tkW po'
      refine (sMs b (X.tr pn xe) Γ gl tb F G _ sc body (g.tr pn xe (tkW.imp ?_)) esc lo po' ⟨to.stk, to.fr, to.hex⟩ h1.1 σ H F σd μ R (Same.refl _) A S q)
      rintro cls d σ1 H1 ⟨F', σd', μ', dx, s', A', S', rx, ⟨k, hk⟩, y2, t2, hg, q'⟩
      have rp := rp.1 F
      rw [hg] at rp
      cases rp with
      | cls hC' =>
        cases rv
        obtain ⟨C, hC, ec, _⟩ := id rx
        have km := (g.kit k dx.x C gg y2 t2 _ hk hg hC hC').2
        rw [← ec] at km
        refine ⟨_, km, fun hb a na => ?_, fun hb => ?_⟩
        · rw [hb] at q'
          intro pn'
          have e3 : (upd F' a (exv a cls d)) a = some (exv a cls d) := upd_same
          have rr : Rep X.K (upd F' a (exv a cls d)) (.exc dx.x dx.ns dx.ds) (.ref a) := (rx.mono (A'.laidF na)).rep e3
          have gs : Good (X.suite a pn') Γ gl ⟨tb.N, [], tb.gls, true, [], [], tb.hfs⟩ F0 G noEd := ⟨g.hN, g.nd, fun z => (by cases z), g.unit, fun i x n e _ => (by cases e), g.glb, g.nm, takes_no, g.cls, g.kit, fun z => (by cases z), fun x C z => (by cases z), fun c m n j z => (by cases z), g.atr, fun x n j z => (by
            obtain ⟨f, fd, ps, k, h1, h2, h3, h4, h5⟩ := g.hfn x n j z
            exact ⟨f, fd, ps, k, ⟨h1.dp, h1.un⟩, h2, h3, h4, h5⟩), fun c n j z => (by cases z)⟩
          refine (sMs su (X.suite a pn') Γ gl ⟨tb.N, [], tb.gls, true, [], [], tb.hfs⟩ F0 G noEd sc (b0 :: suite) gs esc lo PassesOwn.never ⟨to.stk, to.fr, to.hex⟩ h8.2 _ _ _ _ μ' _ (sf.trans (s'.trans (A'.laidF na))) (A'.laid na) ((S'.mono (A'.laidF na)).set i rr) q').mono ⟨fun σ6 H6 h => ?_, fun v H' h => ?_, fun σ6 H6 h => ?_, fun σ6 H6 h => ?_⟩
          · obtain ⟨F1, σd1, μ1, s1, A1, S1, q1⟩ := h
            exact ⟨F1, _, μ1, s'.trans ((A'.laidF na).trans s1), A1, S1.none i, q1⟩
          · obtain ⟨_, _, _, _, _, _, z⟩ := h
            exact z.elim
          · obtain ⟨_, _, _, _, _, _, z⟩ := h
            exact z.elim
          · obtain ⟨_, _, _, _, _, _, z⟩ := h
            exact z.elim
        · rw [hb] at q'
          exact ⟨F', σd', μ', dx, sf.trans s', A', S', rx, q'⟩
  | .tryA b gg i j => fun X Γ gl tb F0 G Ed sc st g esc lo po to hc σ H F σd μ R sf A S q => by
    obtain ⟨body, x, np, n, suite, p, p2, rfl, h⟩ := onTry_inv (show onTry st _ = true from hc)
    have h1 := and2 h
    have h2 := and2 h1.2
    have h3 := and2 h2.2
    have h4 := and2 h3.2
    have h5 := and2 h4.2
    have h6 := and2 h5.2
    have h7 := and2 h6.2
    have h8 := and2 h7.2
    obtain ⟨s, rfl, h9⟩ := onOne_inv h8.2
    obtain ⟨t, e', p3, rfl, h9⟩ := onAsg_inv h9
    have h9 := and2 h9
    obtain ⟨z, pz, rfl, hz⟩ := onName_inv h9.1
    have hz := of_decide_eq_true hz
    subst hz
    obtain ⟨y, py, rfl, hy⟩ := onName_inv h9.2
    have hy := and2 hy
    have nij : i ≠ j := of_decide_eq_true h8.1
    have kn : X.env.scope.names.lookup z = some .local := by rw [esc]; exact of_decide_eq_true h6.1
    have hi : X.N[i]? = some z := by rw [g.hN]; exact of_decide_eq_true h5.1
    obtain ⟨l1, l2⟩ := lo y hy.2
    have q : wpSs Γ gl b σd μ R (fun dx σ' μ' => (∃ k, gl k = .cls dx.x true) ∧ ∃ y t, gl gg = .cls y t ∧ (match exSub dx.x y with
      | true => R.nx (((σ'.set i (some (.exc dx.x dx.ns dx.ds))).set j (some (.exc dx.x dx.ns dx.ds))).set i none) μ'
      | false => Ed dx σ' μ')) := q
    obtain ⟨u, v, m1, rv, rp⟩ := g.glb gg x (of_decide_eq_true h2.1)
    have nm : Names X x u := ⟨glo_of (by rw [esc]; exact h3.1), (und_of h4.1).1, .inl m1⟩
    have uz := und_of h7.1
    refine PS.to (ps_keep (i := i) (ts := fun a D σ H => i < σ.length → ∃ v, σ[i]? = some (some v) ∧ D.nx (σ.set j (some v)) H) to.stk to.fr to.hex g.nd hi kn nm g.tk (tBody_ps X body) fun a oe pn => ?_) ?_
    · refine ⟨fun pins s σ H D I h => ?_⟩
      obtain ⟨v, hv, h⟩ := h (by rw [I.len]; exact (List.getElem?_eq_some_iff.mp hi).1)
      exact (pss_cons (ps_asg (X := X.suite a ((a, oe) :: pn)) (pe_var (i := i) hi (.inl kn) uz.1 uz.2) (pg_name g.nd (by rw [show (X.suite a ((a, oe) :: pn)).N = X.N from rfl, g.hN]; exact of_decide_eq_true hy.1) l1 l2) (sole_ok _ rfl) rfl rfl) pss_nil).run pins s σ H D I ⟨v, hv, h⟩
    · intro pn xe tkW po'
      refine (sMs b (X.tr pn xe) Γ gl tb F G _ sc body (g.tr pn xe (tkW.imp ?_)) esc lo po' ⟨to.stk, to.fr, to.hex⟩ h1.1 σ H F σd μ R (Same.refl _) A S q)
      rintro cls d σ1 H1 ⟨F', σd', μ', dx, s', A', S', rx, ⟨k, hk⟩, y2, t2, hg, q'⟩
      have rp := rp.1 F
      rw [hg] at rp
      cases rp with
      | cls hC' =>
        cases rv
        obtain ⟨C, hC, ec, _⟩ := id rx
        have km := (g.kit k dx.x C gg y2 t2 _ hk hg hC hC').2
        rw [← ec] at km
        refine ⟨_, km, fun hb a na => ?_, fun hb => ?_⟩
        · rw [hb] at q'
          intro hl
          rw [List.length_set] at hl
          refine ⟨.ref a, List.getElem?_set_self hl, ?_⟩
          have e3 : (upd F' a (exv a cls d)) a = some (exv a cls d) := upd_same
          have rr : Rep X.K (upd F' a (exv a cls d)) (.exc dx.x dx.ns dx.ds) (.ref a) := (rx.mono (A'.laidF na)).rep e3
          exact ⟨_, _, μ', s'.trans (A'.laidF na), A'.laid na, (((S'.mono (A'.laidF na)).set i rr).set j rr).none i, q'⟩
        · rw [hb] at q'
          exact ⟨F', σd', μ', dx, sf.trans s', A', S', rx, q'⟩
  | .tryL b gg i j => fun X Γ gl tb F0 G Ed sc st g esc lo po to hc σ H F σd μ R sf A S q => by
    obtain ⟨body, x, np, n, suite, p, p2, rfl, h⟩ := onTry_inv (show onTry st _ = true from hc)
    have h1 := and2 h
    have h2 := and2 h1.2
    have h3 := and2 h2.2
    have h4 := and2 h3.2
    have h5 := and2 h4.2
    have h6 := and2 h5.2
    have h7 := and2 h6.2
    have h8 := and2 h7.2
    obtain ⟨s, rfl, h9⟩ := onOne_inv h8.2
    obtain ⟨e', p3, rfl, h9⟩ := onEx_inv h9
    obtain ⟨o', m', ap, es, cp, rfl, hl, h9⟩ := onMeth_inv h9
    have h9 := and2 h9
    have h10 := and2 h9.1
    have em := of_decide_eq_true h10.1
    subst em
    obtain ⟨z', rfl, hz⟩ := onOne2_inv h10.2
    obtain ⟨z, pz, rfl, hz⟩ := onName_inv hz
    have hz := of_decide_eq_true hz
    subst hz
    obtain ⟨y, py, rfl, hy⟩ := onName_inv h9.2
    have hy := and2 hy
    have hy2 := and2 hy.2
    have nij : i ≠ j := of_decide_eq_true h8.1
    have kn : X.env.scope.names.lookup z = some .local := by rw [esc]; exact of_decide_eq_true h6.1
    have hi : X.N[i]? = some z := by rw [g.hN]; exact of_decide_eq_true h5.1
    have hj : X.N[j]? = some y := by rw [g.hN]; exact of_decide_eq_true hy.1
    have q : wpSs Γ gl b σd μ R (fun dx σ' μ' => (∃ k, gl k = .cls dx.x true) ∧ ∃ y t, gl gg = .cls y t ∧ (match exSub dx.x y with
      | true => getS σ' j fun o => ∃ a ds, o = .obj a ∧ Mu.get μ' a = some (.lst ds) ∧ ds.length < sizeLine ∧ R.nx (σ'.set i none) (Mu.put μ' a (.lst (ds ++ [.exc dx.x dx.ns dx.ds])))
      | false => Ed dx σ' μ')) := q
    obtain ⟨u, v, m1, rv, rp⟩ := g.glb gg x (of_decide_eq_true h2.1)
    have nm : Names X x u := ⟨glo_of (by rw [esc]; exact h3.1), (und_of h4.1).1, .inl m1⟩
    have uz := und_of h7.1
    have uy := und_of hy2.2
    refine PS.to (ps_keep (i := i) (ts := fun a D σ H => i < σ.length → ∃ (b : Addr) (xs : List V) (v : V), σ[j]? = some (some (.ref b)) ∧ σ[i]? = some (some v) ∧ H b = some (.lst xs) ∧ xs.length < sizeLine ∧ D.nx σ (upd H b (.lst (xs ++ [v])))) to.stk to.fr to.hex g.nd hi kn nm g.tk (tBody_ps X body) fun a oe pn => ?_) ?_
    · refine ⟨fun pins s σ H D I h => ?_⟩
      obtain ⟨b, xs, v, v1, v2, hb, lx, h⟩ := h (by rw [I.len]; exact (List.getElem?_eq_some_iff.mp hi).1)
      refine (pss_cons (ps_expr (X := X.suite a ((a, oe) :: pn)) (pe_bm PySem.F.plainAttrs_list PySem.F.slot_list_append PySem.F.type_list_append mt_append (pe_var (i := j) hj (vis_of (by rw [show (X.suite a ((a, oe) :: pn)).env = X.env from rfl, esc]; exact hy2.1)) uy.1 uy.2) (pa_cons (pe_var (i := i) hi (.inl kn) uz.1 uz.2) pa_nil (star_ok rfl _ _)) (attr_ok rfl _ _ _) (by rw [star_ok rfl]; rfl) hl (star_ok rfl _ _) (stars_ok _ _ rfl)) (swap_ok rfl _ _ _)) pss_nil).run pins s σ H D I ?_
      exact ⟨.ref b, v1, .inl ⟨rfl, _, SqL.of hb⟩, v, v2, _, xs, v, rfl, rfl, hb, lx, h⟩
    · intro pn xe tkW po'
      refine (sMs b (X.tr pn xe) Γ gl tb F G _ sc body (g.tr pn xe (tkW.imp ?_)) esc lo po' ⟨to.stk, to.fr, to.hex⟩ h1.1 σ H F σd μ R (Same.refl _) A S q)
      rintro cls d σ1 H1 ⟨F', σd', μ', dx, s', A', S', rx, ⟨k, hk⟩, y2, t2, hg, q'⟩
      have rp := rp.1 F
      rw [hg] at rp
      cases rp with
      | cls hC' =>
        cases rv
        obtain ⟨C, hC, ec, _⟩ := id rx
        have km := (g.kit k dx.x C gg y2 t2 _ hk hg hC hC').2
        rw [← ec] at km
        refine ⟨_, km, fun hb a na => ?_, fun hb => ?_⟩
        · rw [hb] at q'
          intro hl
          rw [List.length_set] at hl
          have q' : getS σd' j fun o => ∃ a ds, o = .obj a ∧ Mu.get μ' a = some (.lst ds) ∧ ds.length < sizeLine ∧ R.nx (σd'.set i none) (Mu.put μ' a (.lst (ds ++ [.exc dx.x dx.ns dx.ds]))) := q'
          unfold getS at q'
          split at q'
          · rename_i od ej
            obtain ⟨a0, ds, rfl, mg, ld, q'⟩ := q'
            obtain ⟨vj, hvj, rj⟩ := S'.2 j _ ej
            cases rj
            obtain ⟨ho, hh, rr⟩ := A'.at mg
            obtain ⟨vs, rfl, rvs⟩ := rr.lst_inv
            have ne : a0 ≠ a := ne_of_none hh na
            refine ⟨a0, vs, .ref a, by rw [List.getElem?_set_ne nij]; exact hvj, List.getElem?_set_self hl, hh, by rw [← rvs.length]; exact ld, ?_⟩
            have e3 : (upd F' a (exv a cls d)) a = some (exv a cls d) := upd_same
            have r2 : Rep X.K (upd F' a (exv a cls d)) (.exc dx.x dx.ns dx.ds) (.ref a) := (rx.mono (A'.laidF na)).rep e3
            have A2 := (A'.laid (o := exv a cls d) na).put mg (.lst ((rvs.mono (A'.laidF na)).append (.cons r2 .nil)))
            refine ⟨upd F' a (exv a cls d), _, _, s'.trans (A'.laidF na), ?_, ?_, q'⟩
            · have e4 : upd (upd H1 a0 (.lst (vs ++ [.ref a]))) a (exv a cls d) = upd (upd H1 a (exv a cls d)) a0 (.lst (vs ++ [.ref a])) := by
                funext w
                by_cases w1 : w = a
                · subst w1
                  rw [upd_same, upd_ne ne.symm, upd_same]
                · by_cases w2 : w = a0
                  · subst w2
                    rw [upd_ne w1, upd_same, upd_same]
                  · rw [upd_ne w1, upd_ne w2, upd_ne w2, upd_ne w1]
              rw [e4]
              exact A2
            · have S2 := (S'.mono (A'.laidF (o := exv a cls d) na)).none i
              rw [List.set_set]
              exact S2
          · exact q'.elim
        · rw [hb] at q'
          exact ⟨F', σd', μ', dx, sf.trans s', A', S', rx, q'⟩
theorem sMs : ∀ c : Ss, SMs c
  | .nil => fun X Γ gl tb F0 G Ed sc ss g esc lo po to hc σ H F σd μ R sf A S q => by
    cases ss with
    | cons _ _ => cases hc
    | nil => exact PSs.to pss_nil ⟨F, σd, μ, Same.refl _, A, S, q⟩
  | .cons a b => fun X Γ gl tb F0 G Ed sc ss g esc lo po to hc σ H F σd μ R sf A S q => by
    obtain ⟨s, r, rfl, h⟩ := onS_inv (show onS ss _ = true from hc)
    have h1 := and2 h
    refine PSs.to (pss_cons (tSt_ps X s) (tSs_ps X r)) ?_
    refine (sM a X Γ gl tb F0 G Ed sc s g esc lo po to h1.1 σ H F σd μ _ sf A S q).mono ⟨fun σ' H' h => ?_, fun _ _ h => h, fun _ _ h => h, fun _ _ h => h⟩
    obtain ⟨F1, σd1, μ1, s1, A1, S1, q1⟩ := h
    exact (sMs b X Γ gl tb F0 G Ed sc r g esc lo po to h1.2 σ' H' F1 σd1 μ1 R (sf.trans s1) A1 S1 q1).mono (LD.le s1)
end
end DL

namespace DL
open PySem PySem.Spec PyProof.Rows L2

/-! ### a def -/
def dstart (N : List Str) (ds : List D) : DSt := ds.map some ++ List.replicate (N.length - ds.length) none
theorem sig_start {K : PySem.W.Frag} {F : Hp} {N : List Str} {ds : List D} {vs : List V} (r : Reps K F ds vs) : Sig K F (dstart N ds) (L2.start N vs) := by
  unfold dstart L2.start
  refine ⟨by simp [r.length], fun i d h => ?_⟩
  by_cases hi : i < ds.length
  · rw [List.getElem?_append_left (by simpa using hi), List.getElem?_map] at h
    cases e : ds[i]? with
    | none => rw [e] at h; cases h
    | some d' =>
      rw [e] at h
      cases h
      obtain ⟨v, hv, rd⟩ := r.get e
      refine ⟨v, ?_, rd⟩
      rw [List.getElem?_append_left (by rw [List.length_map, ← r.length]; exact hi), List.getElem?_map, hv]
      rfl
  · rw [List.getElem?_append_right (by simpa using hi), List.getElem?_replicate] at h
    split at h <;> cases h
/-- what may be called, what stands at the top -/
structure Top (P : Program) (w : World) (K : PySem.W.Frag) (mg : Str → Option Value) (base : Heap) (Γ : Nat → DSp) (gl : Nat → D) (tb : Tb) (k : Nat) : Prop where
  fn : ∀ (i : Nat) x n, tb.fns[i]? = some (x, n) → x ≠ "" → ∃ f fd ps, mg x = some (.ref f) ∧ PySem.W.keepIn K (.ref f) = true ∧ Binds K fd ps [] ∧ FnOk P w K mg base (L2.CX P w) k f fd ps (toSp K n (Γ i))
  glb : ∀ (i : Nat) x, tb.gls[i]? = some x → ∃ u v, mg x = some u ∧ RelV v u ∧ GlOk P w K (gl i) v
  nm : ∀ x ∈ bNames, mg x = none
  cls : ∀ (i : Nat) x t C, gl i = .cls x t → clsAt K x C → mg x = some (.ref C) ∧ (t = true → ClsF K x C)
  kit : ∀ (i : Nat) x C (j : Nat) y t C', gl i = .cls x true → gl j = .cls y t → clsAt K x C → clsAt K y C' → PySem.W.kitOne K (.ref C) (.ref C') = some (exSub x y) ∧ PySem.W.exmOne K (.ref C) (.ref C') = some (exSub x y)
  ini : ∀ (i : Nat) x C, gl i = .cls x true → exPlain x = false → clsAt K x C → ∃ j, k = j + 1 ∧ IniOk P w K mg base j x C
  ob : ∀ x C, x ∈ tb.obs → clsAt K x C → BareC K C ∧ mg x = some (.ref C)
  mt : ∀ c m n j, (c, m, n, j) ∈ tb.mts → ∀ C, clsAt K c C → ∃ f fd ps, Cls K C ∧ Meth K C m f ∧ Binds K fd ps [] ∧ FnOk P w K mg base (L2.CX P w) k f fd ps (toSp K n (Γ j))
  atr : ∀ c n C, attrOk gl c n → clsAt K c C → Cls K C ∧ NoAttr K C n
  hfn : ∀ x n j, (x, n, j) ∈ tb.hfs → ∃ f fd ps k0, k0 ≤ k ∧ mg x = some (.ref f) ∧ PySem.W.keepIn K (.ref f) = true ∧ Binds K fd ps [] ∧ FnQ P w K mg base (L2.CX P w) k0 f fd ps (toSp K n (Γ j))
  nw : ∀ c n j, (c, ("__init__" : Str), n, j) ∈ tb.mts → ∀ C, clsAt K c C → ∃ f fd ps k0, k = k0 + 1 ∧ Mk K C f ∧ mg c = some (.ref C) ∧ Binds K fd ps [] ∧ FnOk P w K mg base (L2.CX P w) k0 f fd ps (toSp K n (Γ j))
theorem room_unit {A : Around} {k : Nat} (h : Room k A) : A.units + 64 < cLine := h.units
/-- how a def's end may be told: fewer objects, the told list never changed again -/
def Out (Q : DQ) : DQ := fun d μ => (∃ μ2, List.Sublist μ2 μ ∧ Q d μ2) ∨ ∃ a ds μr μ2, d = .obj a ∧ List.Perm μ ((a, .lst ds) :: μr) ∧ List.Sublist μ2 μr ∧ Q (.lst ds) μ2
theorem Out.ok {K : PySem.W.Frag} {F G H : Hp} {Q : DQ} {d : D} {v : V} {μ : Mu} (h : Out Q d μ) (A : Ag K F G μ H) (r : Rep K F d v) : ∃ F' d' μ', Same F F' ∧ Ag K F' G μ' H ∧ Rep K F' d' v ∧ Q d' μ' := by
  rcases h with ⟨μ2, s, q⟩ | ⟨a, ds, μr, μ2, rfl, p, s, q⟩
  · exact ⟨F, d, μ2, Same.refl _, A.sub (fun x hx => s.subset hx) (A.nd.sublist (s.map _)), r, q⟩
  · cases r
    have A1 : Ag K F G ((a, .lst ds) :: μr) H := A.sub (fun x hx => p.mem_iff.mpr hx) ((p.map _).nodup_iff.mp A.nd)
    obtain ⟨vs, A2, s2, r2⟩ := A1.freeze
    exact ⟨_, .lst ds, μ2, s2, A2.sub (fun x hx => s.subset hx) (A2.nd.sublist (s.map _)), r2, q⟩
/-- a def keeps its promise, if its core text does -/
theorem def_ok {P : Program} {w : World} {K : PySem.W.Frag} {mg : Str → Option Value} {base : Heap} {Γ : Nat → DSp} {gl : Nat → D} {tb : Tb} {k : Nat} {x qual : Str} {st : Stmt} {f : Addr} {fd : FuncData} {ps : List Str} {c : Ss} {S : DSp}
    (F : Fun K x qual st f fd) (sc : FnScope tb.N ps (defScope st)) (T : Top P w K mg base Γ gl tb k) (hc : chkSs tb (defScope st) c (defBody st) = true)
    (h : ∀ ds μ Q E, ds.length = ps.length → S ds μ Q E → wpSs Γ gl c (dstart tb.N ds) μ { nx := fun _ μ' => Out Q .non μ', rt := Out Q } (fun dx _ μ' => ∃ μ2, List.Sublist μ2 μ' ∧ E dx μ2)) :
    FnOk P w K mg base (L2.CX P w) (k + 1) f fd ps (toSp K ps.length S) := by
  refine F.okX sc (fun vs H Q E h => h.1) (fun cdv A outer s H vs Q E hr hS => ?_)
  obtain ⟨len, ds, F0, G, μ, Q0, E0, r, Ag0, hS, hq, he⟩ := hS
  let X := cxOf (L2.CX P w) P w K mg base tb.N qual (defScope st) f cdv A outer s H E
  have tk : Takes X (LW K F0 G fun dx _ μ' => ∃ μ2, List.Sublist μ2 μ' ∧ E0 dx μ2) := (takes_of (X := X) (E := E) rfl rfl rfl rfl).imp fun cls d σ H' ⟨F', σd, μ', dx, s', A', S', rx, μ2, sl, q⟩ => he dx cls d μ2 F' H' q s' (A'.sub (fun x hx => sl.subset hx) (A'.nd.sublist (sl.map _))) rx
  have g : Good X Γ gl tb F0 G (fun dx _ μ' => ∃ μ2, List.Sublist μ2 μ' ∧ E0 dx μ2) := ⟨rfl, sc.nd, fun _ => rfl, room_unit hr, fun i x n hi nx => by
    obtain ⟨f, fd, ps, h1, h2, h3, h4⟩ := T.fn i x n hi nx
    exact ⟨f, fd, ps, k, hr, h1, h2, h3, h4⟩, T.glb, T.nm, tk, T.cls, T.kit, fun _ i x C h1 h2 h3 => by
    obtain ⟨j, e, h⟩ := T.ini i x C h1 h2 h3
    exact ⟨j, by rw [← e]; exact hr, h⟩, T.ob, fun c m n j hi C hC => by
    obtain ⟨f, fd, ps, h1, h2, h3, h4⟩ := T.mt c m n j hi C hC
    exact ⟨f, fd, ps, k, hr, h1, h2, h3, h4⟩, T.atr, fun x n j hi => by
    obtain ⟨f, fd, ps, k0, l, h1, h2, h3, h4⟩ := T.hfn x n j hi
    exact ⟨f, fd, ps, k0, (L2H.roomH_of hr).mono l, h1, h2, h3, h4⟩, fun c n j hi C hC => by
    obtain ⟨f, fd, ps, k0, e, h1, h2, h3, h4⟩ := T.nw c n j hi C hC
    exact ⟨f, fd, ps, k0, by rw [← e]; exact hr, h1, h2, h3, h4⟩⟩
  have lo : LocOk X (defScope st) := fun y hy => ⟨by
    unfold locB kOf at hy
    rcases Bool.or_eq_true_iff.mp hy with z | z
    · exact .inl (of_decide_eq_true z)
    · exact .inr (of_decide_eq_true z), .inl rfl⟩
  have po : PassesOwn (model X.prog X.w) X.A X.env X.xe := passes_of rfl
  refine ⟨tSs X (defBody st), tSs_ps X _, ?_⟩
  refine (sMs c X Γ gl tb F0 G _ (defScope st) (defBody st) g rfl lo po ⟨rfl, rfl, rfl⟩ hc (L2.start tb.N vs) H F0 (dstart tb.N ds) μ _ (Same.refl _) Ag0 (sig_start r) (h ds μ Q0 E0 (by rw [r.length]; exact len) hS)).mono ⟨fun σ' H' h => ?_, fun v H' h => ?_, fun _ _ h => ?_, fun _ _ h => ?_⟩
  · obtain ⟨F1, σd, μ1, s1, A1, S1, q1⟩ := h
    obtain ⟨F2, d2, μ2, s2, A2, r2, q2⟩ := q1.ok A1 .non
    exact hq _ _ _ _ _ q2 (s1.trans s2) A2 r2
  · obtain ⟨F1, d, μ1, s1, A1, r1, q1⟩ := h
    obtain ⟨F2, d2, μ2, s2, A2, r2, q2⟩ := q1.ok A1 r1
    exact hq _ _ _ _ _ q2 (s1.trans s2) A2 r2
  · obtain ⟨F1, σd, μ1, s1, A1, S1, q1⟩ := h
    exact q1.elim
  · obtain ⟨F1, σd, μ1, s1, A1, S1, q1⟩ := h
    exact q1.elim
/-- the like, for a def that is called within an except suite -/
theorem def_okQ {P : Program} {w : World} {K : PySem.W.Frag} {mg : Str → Option Value} {base : Heap} {Γ : Nat → DSp} {gl : Nat → D} {tb : Tb} {k : Nat} {x qual : Str} {st : Stmt} {f : Addr} {fd : FuncData} {ps : List Str} {c : Ss} {S : DSp}
    (F : Fun K x qual st f fd) (sc : FnScope tb.N ps (defScope st)) (T : Top P w K mg base Γ gl tb k) (hc : chkSs ⟨tb.N, [], tb.gls, true, [], [], []⟩ (defScope st) c (defBody st) = true)
    (h : ∀ ds μ Q E, ds.length = ps.length → S ds μ Q E → wpSs Γ gl c (dstart tb.N ds) μ { nx := fun _ μ' => Out Q .non μ', rt := Out Q } (fun dx _ μ' => ∃ μ2, List.Sublist μ2 μ' ∧ E dx μ2)) :
    FnQ P w K mg base (L2.CX P w) (k + 1) f fd ps (toSp K ps.length S) := by
  refine okQ F sc (fun vs H Q E h => h.1) (fun cdv A outer s H vs Q E hr hS => ?_)
  obtain ⟨len, ds, F0, G, μ, Q0, E0, r, Ag0, hS, hq, he⟩ := hS
  let X := cxQ (L2.CX P w) P w K mg base tb.N qual (defScope st) f cdv A outer s H E
  have tk : Takes X (LW K F0 G fun dx _ μ' => ∃ μ2, List.Sublist μ2 μ' ∧ E0 dx μ2) := (takes_of (X := X) (E := E) rfl rfl rfl rfl).imp fun cls d σ H' ⟨F', σd, μ', dx, s', A', S', rx, μ2, sl, q⟩ => he dx cls d μ2 F' H' q s' (A'.sub (fun x hx => sl.subset hx) (A'.nd.sublist (sl.map _))) rx
  have g : Good X Γ gl ⟨tb.N, [], tb.gls, true, [], [], []⟩ F0 G (fun dx _ μ' => ∃ μ2, List.Sublist μ2 μ' ∧ E0 dx μ2) := ⟨rfl, sc.nd, fun z => (by cases z), (show (A.deeper (envOfC qual (defScope st) s.heap.objs.size f cdv)).units + 64 < cLine by have := hr.un; omega), fun i x n e _ => (by cases e), T.glb, T.nm, tk, T.cls, T.kit, fun z => (by cases z), fun x C z => (by cases z), fun c m n j z => (by cases z), T.atr, fun x n j z => (by cases z), fun c n j z => (by cases z)⟩
  have lo : LocOk X (defScope st) := fun y hy => ⟨by
    unfold locB kOf at hy
    rcases Bool.or_eq_true_iff.mp hy with z | z
    · exact .inl (of_decide_eq_true z)
    · exact .inr (of_decide_eq_true z), .inl rfl⟩
  have po : PassesOwn (model X.prog X.w) X.A X.env X.xe := passes_of rfl
  refine ⟨tSs X (defBody st), tSs_ps X _, ?_⟩
  refine (sMs c X Γ gl ⟨tb.N, [], tb.gls, true, [], [], []⟩ F0 G _ (defScope st) (defBody st) g rfl lo po ⟨rfl, rfl, rfl⟩ hc (L2.start tb.N vs) H F0 (dstart tb.N ds) μ _ (Same.refl _) Ag0 (sig_start r) (h ds μ Q0 E0 (by rw [r.length]; exact len) hS)).mono ⟨fun σ' H' h => ?_, fun v H' h => ?_, fun _ _ h => ?_, fun _ _ h => ?_⟩
  · obtain ⟨F1, σd, μ1, s1, A1, S1, q1⟩ := h
    obtain ⟨F2, d2, μ2, s2, A2, r2, q2⟩ := q1.ok A1 .non
    exact hq _ _ _ _ _ q2 (s1.trans s2) A2 r2
  · obtain ⟨F1, d, μ1, s1, A1, r1, q1⟩ := h
    obtain ⟨F2, d2, μ2, s2, A2, r2, q2⟩ := q1.ok A1 r1
    exact hq _ _ _ _ _ q2 (s1.trans s2) A2 r2
  · obtain ⟨F1, σd, μ1, s1, A1, S1, q1⟩ := h
    exact q1.elim
  · obtain ⟨F1, σd, μ1, s1, A1, S1, q1⟩ := h
    exact q1.elim
/-- a def that is never called -/
def spNo : DSp := fun _ _ _ _ => False
theorem def_no {P : Program} {w : World} {K : PySem.W.Frag} {mg : Str → Option Value} {base : Heap} {k : Nat} {x qual : Str} {st : Stmt} {f : Addr} {fd : FuncData} {N ps : List Str}
    (F : Fun K x qual st f fd) (sc : FnScope N ps (defScope st)) : FnOk P w K mg base (L2.CX P w) (k + 1) f fd ps (toSp K ps.length spNo) :=
  F.okX sc (fun vs H Q E h => h.1) fun cdv A outer s H vs Q E hr hS => by
    obtain ⟨_, _, _, _, _, _, _, _, _, z, _⟩ := hS
    exact z.elim
theorem FnOk.sp {P : Program} {w : World} {K : PySem.W.Frag} {mg : Str → Option Value} {base : Heap} {CX : CXT} {k : Nat} {f : Addr} {fd : FuncData} {ps : List Str} {sp : Sp} (len : ∀ vs H Q E, sp vs H Q E → vs.length = ps.length)
    (h : ∀ vs H Q E, sp vs H Q E → ∃ sp', FnOk P w K mg base CX k f fd ps sp' ∧ sp' vs H Q E) : FnOk P w K mg base CX k f fd ps sp :=
  ⟨len, fun A outer s H args us vs Q E hr e b r q => by
    obtain ⟨sp', F, q'⟩ := h vs H Q E q
    exact F.run A outer s H args us vs Q E hr e b r q'⟩
/-- the table with one more -/
def GamR (Γ : Nat → DSp) (i : Nat) (s : DSp) : Nat → DSp := fun j => match Nat.beq j i with
  | true => s
  | false => Γ j
/-- the law's own promise -/
def spLaw : DSp := fun ds μ Q _ => ∃ ns : List Int, ds = [.klst (ns.map D.int)] ∧ μ = [] ∧ ns.length ≤ 63 ∧ ∀ μ', Q (.bl true) μ'
theorem law_sp {K : PySem.W.Frag} {H : Hp} {a : Addr} {ns : List Int} (hl : ns.length ≤ 63) (hS : SqL K H a (ns.map V.int)) : toSp K 1 spLaw [.ref a] H (fun v _ => v = .bl true) fun _ _ _ => False := by
  have A : Ag K H (fun _ => none) [] H := ⟨Same.refl H, fun b x (e : none = some x) => (by cases e), fun _ => .inr rfl, fun x hx => absurd hx List.not_mem_nil, List.nodup_nil⟩
  refine ⟨rfl, [.klst (ns.map D.int)], H, fun _ => none, [], fun d _ => d = .bl true, fun _ _ => False, .cons (.klst hS (Reps.ints ns)) .nil, A, ⟨ns, rfl, rfl, hl, fun _ => rfl⟩, fun d v μ' F' H' e _ _ r => ?_, fun _ _ _ _ _ _ z => z.elim⟩
  subst e
  cases r
  rfl
theorem cx_false {P : Program} {w : World} {H : Hp} {s s' : Shared} {e : Value} (h : L2.CX P w [] H s (fun _ _ _ => False) e s') : False := by
  obtain ⟨_, _, _, _, _, _, _, _, _, _, _, _, z⟩ := h
  exact z
section
variable {P : Program} {w : World} {K : PySem.W.Frag} {mg : Str → Option Value} {base : Heap} {Γ : Nat → DSp} {gl : Nat → D} {k : Nat}
theorem Top.at {tb tb' : Tb} (T : Top P w K mg base Γ gl tb k) (h1 : tb'.fns = tb.fns) (h2 : tb'.gls = tb.gls) (h3 : tb'.obs = tb.obs := by rfl) (h4 : tb'.mts = tb.mts := by rfl) (h5 : tb'.hfs = tb.hfs := by rfl) : Top P w K mg base Γ gl tb' k := ⟨by rw [h1]; exact T.fn, by rw [h2]; exact T.glb, T.nm, T.cls, T.kit, T.ini, by rw [h3]; exact T.ob, by rw [h4]; exact T.mt, T.atr, by rw [h5]; exact T.hfn, by rw [h4]; exact T.nw⟩
theorem IniOk.mono {j j' : Nat} {x : Str} {C : Addr} (h : IniOk P w K mg base j x C) (l : j ≤ j') : IniOk P w K mg base j' x C := by
  obtain ⟨T, fI, fd, ps, h1, h2, h3, h4⟩ := h
  exact ⟨T, fI, fd, ps, h1, h2, h3.mono l, h4⟩
theorem Top.iniUp {tb : Tb} {k' : Nat} (T : Top P w K mg base Γ gl tb k) (l : k ≤ k') : ∀ (i : Nat) x C, gl i = .cls x true → exPlain x = false → clsAt K x C → ∃ j, k' = j + 1 ∧ IniOk P w K mg base j x C := fun i x C h1 h2 h3 => by
  obtain ⟨j, e, h⟩ := T.ini i x C h1 h2 h3
  exact ⟨k' - 1, by omega, h.mono (by omega)⟩
theorem Top.hfnUp {tb : Tb} {k' : Nat} (T : Top P w K mg base Γ gl tb k) (l : k ≤ k') : ∀ x n j, (x, n, j) ∈ tb.hfs → ∃ f fd ps k0, k0 ≤ k' ∧ mg x = some (.ref f) ∧ PySem.W.keepIn K (.ref f) = true ∧ Binds K fd ps [] ∧ FnQ P w K mg base (L2.CX P w) k0 f fd ps (toSp K n (Γ j)) := fun x n j hi => by
  obtain ⟨f, fd, ps, k0, e, h⟩ := T.hfn x n j hi
  exact ⟨f, fd, ps, k0, Nat.le_trans e l, h⟩
theorem Top.nwUp {tb : Tb} {k' : Nat} (T : Top P w K mg base Γ gl tb k) (l : k ≤ k') : ∀ c n j, (c, ("__init__" : Str), n, j) ∈ tb.mts → ∀ C, clsAt K c C → ∃ f fd ps k0, k' = k0 + 1 ∧ Mk K C f ∧ mg c = some (.ref C) ∧ Binds K fd ps [] ∧ FnOk P w K mg base (L2.CX P w) k0 f fd ps (toSp K n (Γ j)) := fun c n j hi C hC => by
  obtain ⟨f, fd, ps, k0, e, h1, h2, h3, h4⟩ := T.nw c n j hi C hC
  exact ⟨f, fd, ps, k' - 1, by omega, h1, h2, h3, h4.mono (by omega)⟩
theorem Top.snoc {N N' : List Str} {fs : List (Str × Nat)} {gs os : List Str} {hs : List (Str × Nat × Nat)} {ms : List (Str × Str × Nat × Nat)} {x : Str} {f : Addr} {fd : FuncData} {ps : List Str} {S : DSp} (T : Top P w K mg base Γ gl ⟨N, fs, gs, false, os, ms, hs⟩ k) (hm : mg x = some (.ref f)) (hk : PySem.W.keepIn K (.ref f) = true) (hb : Binds K fd ps []) 
    (FO : FnOk P w K mg base (L2.CX P w) (k + 1) f fd ps (toSp K ps.length S)) (e : Γ fs.length = S) : Top P w K mg base Γ gl ⟨N', fs ++ [(x, ps.length)], gs, false, os, ms, hs⟩ (k + 1) := by
  refine ⟨fun i y n hi ny => ?_, T.glb, T.nm, T.cls, T.kit, T.iniUp (Nat.le_succ k), T.ob, fun c m n j hi C hC => by
    obtain ⟨f', fd', ps', h1, h2, h3, h4⟩ := T.mt c m n j hi C hC
    exact ⟨f', fd', ps', h1, h2, h3, h4.mono (Nat.le_succ k)⟩, T.atr, T.hfnUp (Nat.le_succ k), T.nwUp (Nat.le_succ k)⟩
  have hi : (fs ++ [(x, ps.length)])[i]? = some (y, n) := hi
  by_cases h : i < fs.length
  · rw [List.getElem?_append_left h] at hi
    obtain ⟨f', fd', ps', h1, h2, h3, h4⟩ := T.fn i y n hi ny
    exact ⟨f', fd', ps', h1, h2, h3, h4.mono (Nat.le_succ k)⟩
  · have e2 : i = fs.length := by
      have := (List.getElem?_eq_some_iff.mp hi).1
      rw [List.length_append] at this
      have h3 : ([(x, ps.length)] : List (Str × Nat)).length = 1 := rfl
      omega
    subst e2
    rw [List.getElem?_append_right (Nat.le_refl _), Nat.sub_self] at hi
    cases hi
    exact ⟨f, fd, ps, hm, hk, hb, by rw [e]; exact FO⟩
theorem gamR_far {Γ : Nat → DSp} {i j : Nat} {s : DSp} (h : j ≠ i) : GamR Γ i s j = Γ j := by
  unfold GamR
  rw [show Nat.beq j i = false by cases hb : Nat.beq j i with | false => rfl | true => exact absurd (Nat.eq_of_beq_eq_true hb) h]
/-- a def for except suites more -/
theorem Top.snocH {N N' : List Str} {fs : List (Str × Nat)} {gs os : List Str} {hs : List (Str × Nat × Nat)} {ms : List (Str × Str × Nat × Nat)} {x : Str} {f : Addr} {fd : FuncData} {ps : List Str} {S : DSp} {j k' : Nat} (T : Top P w K mg base Γ gl ⟨N, fs, gs, false, os, ms, hs⟩ k) (hk' : k ≤ k') (hm : mg x = some (.ref f)) (hk : PySem.W.keepIn K (.ref f) = true) (hb : Binds K fd ps [])
    (FO : FnQ P w K mg base (L2.CX P w) k' f fd ps (toSp K ps.length S)) (e : Γ j = S) : Top P w K mg base Γ gl ⟨N', fs, gs, false, os, ms, hs ++ [(x, ps.length, j)]⟩ k' := by
  refine ⟨fun i y n hi ny => ?_, T.glb, T.nm, T.cls, T.kit, T.iniUp hk', T.ob, fun c' m' n j' hi C' hC' => ?_, T.atr, fun y n j' hi => ?_, T.nwUp hk'⟩
  · obtain ⟨f', fd', ps', h1, h2, h3, h4⟩ := T.fn i y n hi ny
    exact ⟨f', fd', ps', h1, h2, h3, h4.mono hk'⟩
  · obtain ⟨f', fd', ps', h1, h2, h3, h4⟩ := T.mt c' m' n j' hi C' hC'
    exact ⟨f', fd', ps', h1, h2, h3, h4.mono hk'⟩
  · rcases List.mem_append.mp hi with hi | hi
    · exact T.hfnUp hk' y n j' hi
    · cases List.mem_singleton.mp hi
      exact ⟨f, fd, ps, k', Nat.le_refl _, hm, hk, hb, by rw [e]; exact FO⟩
/-- a class's method more -/
theorem Top.snocMt {N N' : List Str} {fs : List (Str × Nat)} {gs os : List Str} {hs : List (Str × Nat × Nat)} {ms : List (Str × Str × Nat × Nat)} {c m : Str} {C f : Addr} {fd : FuncData} {ps : List Str} {S : DSp} {j k' : Nat} (T : Top P w K mg base Γ gl ⟨N, fs, gs, false, os, ms, hs⟩ k) (hk' : k ≤ k') (hC : clsAt K c C) (hc : Cls K C) (hm : Meth K C m f) (hb : Binds K fd ps [])
    (FO : FnOk P w K mg base (L2.CX P w) k' f fd ps (toSp K ps.length S)) (e : Γ j = S) (hm0 : m ≠ ("__init__" : Str)) : Top P w K mg base Γ gl ⟨N', fs, gs, false, os, ms ++ [(c, m, ps.length, j)], hs⟩ k' := by
  refine ⟨fun i y n hi ny => ?_, T.glb, T.nm, T.cls, T.kit, T.iniUp hk', T.ob, fun c' m' n j' hi C' hC' => ?_, T.atr, T.hfnUp (by omega), fun c' n j' hi C' hC' => ?_⟩
  rotate_left 2
  · rcases List.mem_append.mp hi with hi | hi
    · exact T.nwUp hk' c' n j' hi C' hC'
    · cases List.mem_singleton.mp hi
      exact absurd rfl hm0
  · obtain ⟨f', fd', ps', h1, h2, h3, h4⟩ := T.fn i y n hi ny
    exact ⟨f', fd', ps', h1, h2, h3, h4.mono hk'⟩
  · rcases List.mem_append.mp hi with hi | hi
    · obtain ⟨f', fd', ps', h1, h2, h3, h4⟩ := T.mt c' m' n j' hi C' hC'
      exact ⟨f', fd', ps', h1, h2, h3, h4.mono hk'⟩
    · cases List.mem_singleton.mp hi
      cases clsAt_one hC hC'
      exact ⟨f, fd, ps, hc, hm, hb, by rw [e]; exact FO⟩
/-- a class's __init__ more -/
theorem Top.snocNw {N N' : List Str} {fs : List (Str × Nat)} {gs os : List Str} {hs : List (Str × Nat × Nat)} {ms : List (Str × Str × Nat × Nat)} {c : Str} {C f : Addr} {fd : FuncData} {ps : List Str} {S : DSp} {j k' : Nat} (T : Top P w K mg base Γ gl ⟨N, fs, gs, false, os, ms, hs⟩ k) (hk' : k ≤ k' + 1) (hC : clsAt K c C) (hc : Cls K C) (hM : Mk K C f) (hkf : PySem.W.keepIn K (.ref f) = true) (hmg : mg c = some (.ref C)) (hb : Binds K fd ps [])
    (FO : FnOk P w K mg base (L2.CX P w) k' f fd ps (toSp K ps.length S)) (e : Γ j = S) : Top P w K mg base Γ gl ⟨N', fs, gs, false, os, ms ++ [(c, ("__init__" : Str), ps.length, j)], hs⟩ (k' + 1) := by
  refine ⟨fun i y n hi ny => ?_, T.glb, T.nm, T.cls, T.kit, T.iniUp hk', T.ob, fun c' m' n j' hi C' hC' => ?_, T.atr, T.hfnUp (by omega), fun c' n j' hi C' hC' => ?_⟩
  · obtain ⟨f', fd', ps', h1, h2, h3, h4⟩ := T.fn i y n hi ny
    exact ⟨f', fd', ps', h1, h2, h3, h4.mono hk'⟩
  · rcases List.mem_append.mp hi with hi | hi
    · obtain ⟨f', fd', ps', h1, h2, h3, h4⟩ := T.mt c' m' n j' hi C' hC'
      exact ⟨f', fd', ps', h1, h2, h3, h4.mono hk'⟩
    · cases List.mem_singleton.mp hi
      cases clsAt_one hC hC'
      exact ⟨f, fd, ps, hc, ⟨hM.init, hM.fn, hkf⟩, hb, by rw [e]; exact FO.mono (Nat.le_succ k')⟩
  · rcases List.mem_append.mp hi with hi | hi
    · exact T.nwUp hk' c' n j' hi C' hC'
    · cases List.mem_singleton.mp hi
      cases clsAt_one hC hC'
      exact ⟨f, fd, ps, k', rfl, hM, hmg, hb, by rw [e]; exact FO⟩
theorem Top.hole {N N' : List Str} {fs : List (Str × Nat)} {gs os : List Str} {hs : List (Str × Nat × Nat)} {ms : List (Str × Str × Nat × Nat)} (T : Top P w K mg base Γ gl ⟨N, fs, gs, false, os, ms, hs⟩ k) : Top P w K mg base Γ gl ⟨N', fs ++ [(("" : Str), 0)], gs, false, os, ms, hs⟩ k := by
  refine ⟨fun i y n hi ny => ?_, T.glb, T.nm, T.cls, T.kit, T.ini, T.ob, T.mt, T.atr, T.hfn, T.nw⟩
  have hi : (fs ++ [(("" : Str), 0)])[i]? = some (y, n) := hi
  by_cases h : i < fs.length
  · rw [List.getElem?_append_left h] at hi
    exact T.fn i y n hi ny
  · rw [List.getElem?_append_right (by omega)] at hi
    obtain ⟨h1, h2⟩ := List.getElem?_eq_some_iff.mp hi
    have e : i - fs.length = 0 := by
      have : ([(("" : Str), 0)] : List (Str × Nat)).length = 1 := rfl
      omega
    rw [e] at hi
    cases hi
    exact absurd rfl ny
theorem Top.snocR {N N' : List Str} {fs : List (Str × Nat)} {gs os : List Str} {hs : List (Str × Nat × Nat)} {ms : List (Str × Str × Nat × Nat)} {x : Str} {f : Addr} {fd : FuncData} {ps : List Str} {S : DSp} {k' : Nat} (T : Top P w K mg base Γ gl ⟨N, fs, gs, false, os, ms, hs⟩ k) (hk' : k ≤ k') (hm : mg x = some (.ref f)) (hk : PySem.W.keepIn K (.ref f) = true) (hb : Binds K fd ps []) 
    (FO : FnOk P w K mg base (L2.CX P w) k' f fd ps (toSp K ps.length S)) (hms : ∀ e ∈ ms, e.2.2.2 ≠ fs.length := by decide) (hhs : ∀ e ∈ hs, e.2.2 ≠ fs.length := by decide) : Top P w K mg base (GamR Γ fs.length S) gl ⟨N', fs ++ [(x, ps.length)], gs, false, os, ms, hs⟩ k' := by
  refine ⟨fun i y n hi ny => ?_, T.glb, T.nm, T.cls, T.kit, T.iniUp hk', T.ob, fun c m n j hi C hC => ?_, T.atr, fun x n j hi => by
    obtain ⟨f', fd', ps', k0, l, h1, h2, h3, h4⟩ := T.hfnUp hk' x n j hi
    exact ⟨f', fd', ps', k0, l, h1, h2, h3, by rw [gamR_far (hhs _ hi)]; exact h4⟩, fun c n j hi C hC => ?_⟩
  rotate_left 2
  · obtain ⟨f', fd', ps', k0, e, h1, h2, h3, h4⟩ := T.nwUp hk' c n j hi C hC
    exact ⟨f', fd', ps', k0, e, h1, h2, h3, by rw [gamR_far (hms _ hi)]; exact h4⟩
  rotate_left
  · obtain ⟨f', fd', ps', h1, h2, h3, h4⟩ := T.mt c m n j hi C hC
    exact ⟨f', fd', ps', h1, h2, h3, by rw [gamR_far (hms _ hi)]; exact h4.mono hk'⟩
  have hi : (fs ++ [(x, ps.length)])[i]? = some (y, n) := hi
  by_cases h : i < fs.length
  · rw [List.getElem?_append_left h] at hi
    obtain ⟨f', fd', ps', h1, h2, h3, h4⟩ := T.fn i y n hi ny
    have e : GamR Γ fs.length S i = Γ i := by
      unfold GamR
      rw [show Nat.beq i fs.length = false by cases hb : Nat.beq i fs.length with | false => rfl | true => exact absurd (Nat.eq_of_beq_eq_true hb) (by omega)]
    exact ⟨f', fd', ps', h1, h2, h3, by rw [e]; exact h4.mono hk'⟩
  · have e2 : i = fs.length := by
      have := (List.getElem?_eq_some_iff.mp hi).1
      rw [List.length_append] at this
      have h3 : ([(x, ps.length)] : List (Str × Nat)).length = 1 := rfl
      omega
    subst e2
    rw [List.getElem?_append_right (Nat.le_refl _), Nat.sub_self] at hi
    cases hi
    have e : GamR Γ fs.length S fs.length = S := by
      unfold GamR
      rw [Nat.beq_refl]
    exact ⟨f, fd, ps, hm, hk, hb, by rw [e]; exact FO⟩
/-- a def that calls itself: its promise by depths -/
theorem def_rec {N : List Str} {fs : List (Str × Nat)} {gs os : List Str} {ms : List (Str × Str × Nat × Nat)} {x : Str} {qual : Str} {st : Stmt} {f : Addr} {fd : FuncData} {ps : List Str} {c : Ss} (S : Nat → DSp) (M : Nat)
    (F : Fun K x qual st f fd) (sc : FnScope N ps (defScope st)) (T : Top P w K mg base Γ gl ⟨[], fs, gs, false, os, ms, []⟩ k) (hm : mg x = some (.ref f)) (hk : PySem.W.keepIn K (.ref f) = true) (hb : Binds K fd ps [])
    (hms : ∀ e ∈ ms, e.2.2.2 ≠ fs.length)
    (hc : chkSs ⟨N, fs ++ [(x, ps.length)], gs, false, os, ms, []⟩ (defScope st) c (defBody st) = true)
    (h : ∀ d ds μ Q E, ds.length = ps.length → S d ds μ Q E → wpSs (GamR Γ fs.length (match d with | 0 => spNo | d + 1 => S d)) gl c (dstart N ds) μ { nx := fun _ μ' => Out Q .non μ', rt := Out Q } (fun dx _ μ' => ∃ μ2, List.Sublist μ2 μ' ∧ E dx μ2)) :
    FnOk P w K mg base (L2.CX P w) (k + M + 2) f fd ps (toSp K ps.length fun ds μ Q E => ∃ d, d ≤ M ∧ S d ds μ Q E) := by
  have key : ∀ d, FnOk P w K mg base (L2.CX P w) (k + d + 2) f fd ps (toSp K ps.length (S d)) := by
    intro d
    induction d with
    | zero => exact def_ok (tb := ⟨N, fs ++ [(x, ps.length)], gs, false, os, ms, []⟩) F sc (T.snocR (N' := N) (Nat.le_succ k) hm hk hb (def_no F sc) hms (fun e he => absurd he List.not_mem_nil)) hc (h 0)
    | succ d ih => exact def_ok (tb := ⟨N, fs ++ [(x, ps.length)], gs, false, os, ms, []⟩) F sc (T.snocR (N' := N) (show k ≤ k + d + 2 by omega) hm hk hb ih hms (fun e he => absurd he List.not_mem_nil)) hc (h (d + 1))
  refine FnOk.sp (fun vs H Q E h => h.1) fun vs H Q E ⟨len, ds, F0, G, μ, Q0, E0, r, A, ⟨d, hd, hS⟩, hq, he⟩ => ?_
  exact ⟨_, (key d).mono (by omega), len, ds, F0, G, μ, Q0, E0, r, A, hS, hq, he⟩
/-- a hole, its promise set -/
theorem Top.holeR {N N' : List Str} {fs : List (Str × Nat)} {gs os : List Str} {hs : List (Str × Nat × Nat)} {ms : List (Str × Str × Nat × Nat)} {S : DSp} (T : Top P w K mg base Γ gl ⟨N, fs, gs, false, os, ms, hs⟩ k) (hms : ∀ e ∈ ms, e.2.2.2 ≠ fs.length) (hhs : ∀ e ∈ hs, e.2.2 ≠ fs.length := by decide) : Top P w K mg base (GamR Γ fs.length S) gl ⟨N', fs ++ [(("" : Str), 0)], gs, false, os, ms, hs⟩ k := by
  refine ⟨fun i y n hi ny => ?_, T.glb, T.nm, T.cls, T.kit, T.ini, T.ob, fun c m n j hi C hC => ?_, T.atr, fun x n j hi => by
    obtain ⟨f', fd', ps', k0, l, h1, h2, h3, h4⟩ := T.hfn x n j hi
    exact ⟨f', fd', ps', k0, l, h1, h2, h3, by rw [gamR_far (hhs _ hi)]; exact h4⟩, fun c n j hi C hC => ?_⟩
  · have hi : (fs ++ [(("" : Str), 0)])[i]? = some (y, n) := hi
    by_cases h : i < fs.length
    · rw [List.getElem?_append_left h] at hi
      obtain ⟨f', fd', ps', h1, h2, h3, h4⟩ := T.fn i y n hi ny
      exact ⟨f', fd', ps', h1, h2, h3, by rw [gamR_far (by omega)]; exact h4⟩
    · rw [List.getElem?_append_right (by omega)] at hi
      obtain ⟨h1, h2⟩ := List.getElem?_eq_some_iff.mp hi
      have e : i - fs.length = 0 := by
        have : ([(("" : Str), 0)] : List (Str × Nat)).length = 1 := rfl
        omega
      rw [e] at hi
      cases hi
      exact absurd rfl ny
  · obtain ⟨f', fd', ps', h1, h2, h3, h4⟩ := T.mt c m n j hi C hC
    exact ⟨f', fd', ps', h1, h2, h3, by rw [gamR_far (hms _ hi)]; exact h4⟩
  · obtain ⟨f', fd', ps', k0, e, h1, h2, h3, h4⟩ := T.nw c n j hi C hC
    exact ⟨f', fd', ps', k0, e, h1, h2, h3, by rw [gamR_far (hms _ hi)]; exact h4⟩
theorem gamR_at {Γ : Nat → DSp} {i : Nat} {s : DSp} : GamR Γ i s i = s := by
  unfold GamR
  rw [Nat.beq_refl]
/-- some classes' method more -/
theorem Top.snocMts {N N' : List Str} {fs : List (Str × Nat)} {gs os : List Str} {hs : List (Str × Nat × Nat)} {ms : List (Str × Str × Nat × Nat)} {m : Str} {f : Addr} {fd : FuncData} {ps : List Str} {S : DSp} {i k' : Nat} (cs : List Str) (T : Top P w K mg base Γ gl ⟨N, fs, gs, false, os, ms, hs⟩ k) (hk' : k ≤ k') (hcs : ∀ c ∈ cs, ∃ C, clsAt K c C ∧ Cls K C ∧ Meth K C m f) (hb : Binds K fd ps [])
    (FO : FnOk P w K mg base (L2.CX P w) k' f fd ps (toSp K ps.length S)) (e : Γ i = S) (hm0 : m ≠ ("__init__" : Str)) : Top P w K mg base Γ gl ⟨N', fs, gs, false, os, ms ++ cs.map fun c => (c, m, ps.length, i), hs⟩ k' := by
  refine ⟨fun i y n hi ny => ?_, T.glb, T.nm, T.cls, T.kit, T.iniUp hk', T.ob, fun c' m' n j' hi C' hC' => ?_, T.atr, T.hfnUp (by omega), fun c' n j' hi C' hC' => ?_⟩
  rotate_left 2
  · rcases List.mem_append.mp hi with hi | hi
    · exact T.nwUp hk' c' n j' hi C' hC'
    · obtain ⟨c, _, e⟩ := List.mem_map.mp hi
      cases e
      exact absurd rfl hm0
  · obtain ⟨f', fd', ps', h1, h2, h3, h4⟩ := T.fn i y n hi ny
    exact ⟨f', fd', ps', h1, h2, h3, h4.mono hk'⟩
  · rcases List.mem_append.mp hi with hi | hi
    · obtain ⟨f', fd', ps', h1, h2, h3, h4⟩ := T.mt c' m' n j' hi C' hC'
      exact ⟨f', fd', ps', h1, h2, h3, h4.mono hk'⟩
    · obtain ⟨c, hc, e'⟩ := List.mem_map.mp hi
      cases e'
      obtain ⟨C, h1, h2, h3⟩ := hcs _ hc
      obtain rfl := clsAt_one h1 hC'
      exact ⟨f, fd, ps, h2, h3, hb, by rw [e]; exact FO⟩
/-- a method that calls itself: its promise by depths -/
theorem def_recM {N : List Str} {fs : List (Str × Nat)} {gs os : List Str} {ms : List (Str × Str × Nat × Nat)} {m : Str} {qual : Str} {st : Stmt} {f : Addr} {fd : FuncData} {ps : List Str} {c : Ss} (cs : List Str) (S : Nat → DSp) (M : Nat)
    (F : Fun K m qual st f fd) (sc : FnScope N ps (defScope st)) (T : Top P w K mg base Γ gl ⟨[], fs, gs, false, os, ms, []⟩ k) (hcs : ∀ c ∈ cs, ∃ C, clsAt K c C ∧ Cls K C ∧ Meth K C m f) (hm0 : m ≠ ("__init__" : Str)) (hb : Binds K fd ps [])
    (hms : ∀ e ∈ ms, e.2.2.2 ≠ fs.length)
    (hc : chkSs ⟨N, fs ++ [(("" : Str), 0)], gs, false, os, ms ++ cs.map fun c => (c, m, ps.length, fs.length), []⟩ (defScope st) c (defBody st) = true)
    (h : ∀ d ds μ Q E, ds.length = ps.length → S d ds μ Q E → wpSs (GamR Γ fs.length (match d with | 0 => spNo | d + 1 => S d)) gl c (dstart N ds) μ { nx := fun _ μ' => Out Q .non μ', rt := Out Q } (fun dx _ μ' => ∃ μ2, List.Sublist μ2 μ' ∧ E dx μ2)) :
    FnOk P w K mg base (L2.CX P w) (k + M + 2) f fd ps (toSp K ps.length fun ds μ Q E => ∃ d, d ≤ M ∧ S d ds μ Q E) := by
  have key : ∀ d, FnOk P w K mg base (L2.CX P w) (k + d + 2) f fd ps (toSp K ps.length (S d)) := by
    intro d
    induction d with
    | zero => exact def_ok (tb := ⟨N, fs ++ [(("" : Str), 0)], gs, false, os, ms ++ cs.map fun c => (c, m, ps.length, fs.length), []⟩) F sc ((T.holeR (N' := []) (S := spNo) hms (fun e he => absurd he List.not_mem_nil)).snocMts (N' := N) cs (Nat.le_succ k) hcs hb (def_no F sc) gamR_at hm0) hc (h 0)
    | succ d ih => exact def_ok (tb := ⟨N, fs ++ [(("" : Str), 0)], gs, false, os, ms ++ cs.map fun c => (c, m, ps.length, fs.length), []⟩) F sc ((T.holeR (N' := []) (S := S d) hms (fun e he => absurd he List.not_mem_nil)).snocMts (N' := N) cs (show k ≤ k + d + 2 by omega) hcs hb ih gamR_at hm0) hc (h (d + 1))
  refine FnOk.sp (fun vs H Q E h => h.1) fun vs H Q E ⟨len, ds, F0, G, μ, Q0, E0, r, A, ⟨d, hd, hS⟩, hq, he⟩ => ?_
  exact ⟨_, (key d).mono (by omega), len, ds, F0, G, μ, Q0, E0, r, A, hS, hq, he⟩
/-- a def and a class's method that call each other: the promises by depths -/
theorem def_two {N1 N2 : List Str} {fs : List (Str × Nat)} {gs os : List Str} {ms : List (Str × Str × Nat × Nat)} {c m x : Str} {q1 q2 : Str} {st1 st2 : Stmt} {f1 f2 C : Addr} {fd1 fd2 : FuncData} {ps1 ps2 : List Str} {c1 c2 : Ss} (S1 S2 : Nat → DSp) (M : Nat)
    (F1 : Fun K m q1 st1 f1 fd1) (sc1 : FnScope N1 ps1 (defScope st1)) (F2 : Fun K x q2 st2 f2 fd2) (sc2 : FnScope N2 ps2 (defScope st2)) (T : Top P w K mg base Γ gl ⟨[], fs, gs, false, os, ms, []⟩ k)
    (hC : clsAt K c C) (hc : Cls K C) (hm1 : Meth K C m f1) (hm0 : m ≠ ("__init__" : Str)) (hb1 : Binds K fd1 ps1 []) (hm2 : mg x = some (.ref f2)) (hk2 : PySem.W.keepIn K (.ref f2) = true) (hb2 : Binds K fd2 ps2 [])
    (hms : ∀ e ∈ ms, e.2.2.2 < fs.length)
    (hc1 : chkSs ⟨N1, (fs ++ [(("" : Str), 0)]) ++ [(x, ps2.length)], gs, false, os, ms, []⟩ (defScope st1) c1 (defBody st1) = true)
    (hc2 : chkSs ⟨N2, fs ++ [(("" : Str), 0)], gs, false, os, ms ++ [(c, m, ps1.length, fs.length)], []⟩ (defScope st2) c2 (defBody st2) = true)
    (h1 : ∀ d ds μ Q E, ds.length = ps1.length → S1 d ds μ Q E → wpSs (GamR Γ (fs ++ [(("" : Str), 0)]).length (match d with | 0 => spNo | d + 1 => S2 d)) gl c1 (dstart N1 ds) μ { nx := fun _ μ' => Out Q .non μ', rt := Out Q } (fun dx _ μ' => ∃ μ2, List.Sublist μ2 μ' ∧ E dx μ2))
    (h2 : ∀ d ds μ Q E, ds.length = ps2.length → S2 d ds μ Q E → wpSs (GamR Γ fs.length (S1 d)) gl c2 (dstart N2 ds) μ { nx := fun _ μ' => Out Q .non μ', rt := Out Q } (fun dx _ μ' => ∃ μ2, List.Sublist μ2 μ' ∧ E dx μ2)) :
    FnOk P w K mg base (L2.CX P w) (k + 2 * M + 3) f2 fd2 ps2 (toSp K ps2.length fun ds μ Q E => ∃ d, d ≤ M ∧ S2 d ds μ Q E) := by
  have hms2 : ∀ e ∈ ms, e.2.2.2 ≠ (fs ++ [(("" : Str), 0)]).length := fun e he => by
    have := hms e he
    rw [List.length_append]
    omega
  have hms3 : ∀ e ∈ ms, e.2.2.2 ≠ fs.length := fun e he => by
    have := hms e he
    omega
  have second : ∀ d k', k ≤ k' → FnOk P w K mg base (L2.CX P w) k' f1 fd1 ps1 (toSp K ps1.length (S1 d)) → FnOk P w K mg base (L2.CX P w) (k' + 1) f2 fd2 ps2 (toSp K ps2.length (S2 d)) := fun d k' hk' FO =>
    def_ok (tb := ⟨N2, fs ++ [(("" : Str), 0)], gs, false, os, ms ++ [(c, m, ps1.length, fs.length)], []⟩) F2 sc2 ((T.holeR (N' := []) (S := S1 d) hms3 (fun e he => absurd he List.not_mem_nil)).snocMt (N' := N2) hk' hC hc hm1 hb1 FO gamR_at hm0) hc2 (h2 d)
  have key : ∀ d, FnOk P w K mg base (L2.CX P w) (k + 2 * d + 3) f2 fd2 ps2 (toSp K ps2.length (S2 d)) := by
    intro d
    induction d with
    | zero => exact second 0 (k + 2) (by omega) (def_ok (tb := ⟨N1, (fs ++ [(("" : Str), 0)]) ++ [(x, ps2.length)], gs, false, os, ms, []⟩) F1 sc1 ((T.hole (N' := [])).snocR (N' := N1) (Nat.le_succ k) hm2 hk2 hb2 (def_no F2 sc2) hms2 (fun e he => absurd he List.not_mem_nil)) hc1 (h1 0))
    | succ d ih => exact second (d + 1) (k + 2 * d + 4) (by omega) (def_ok (tb := ⟨N1, (fs ++ [(("" : Str), 0)]) ++ [(x, ps2.length)], gs, false, os, ms, []⟩) F1 sc1 ((T.hole (N' := [])).snocR (N' := N1) (show k ≤ k + 2 * d + 3 by omega) hm2 hk2 hb2 ih hms2 (fun e he => absurd he List.not_mem_nil)) hc1 (h1 (d + 1)))
  refine FnOk.sp (fun vs H Q E h => h.1) fun vs H Q E ⟨len, ds, F0, G, μ, Q0, E0, r, A, ⟨d, hd, hS⟩, hq, he⟩ => ?_
  exact ⟨_, (key d).mono (by omega), len, ds, F0, G, μ, Q0, E0, r, A, hS, hq, he⟩
theorem Top.snocM {N N' : List Str} {fs : List (Str × Nat)} {gs os : List Str} {hs : List (Str × Nat × Nat)} {ms : List (Str × Str × Nat × Nat)} {x : Str} {f : Addr} {fd : FuncData} {ps : List Str} {S : DSp} {k' : Nat} (T : Top P w K mg base Γ gl ⟨N, fs, gs, false, os, ms, hs⟩ k) (hk' : k ≤ k') (hm : mg x = some (.ref f)) (hk : PySem.W.keepIn K (.ref f) = true) (hb : Binds K fd ps []) 
    (FO : FnOk P w K mg base (L2.CX P w) k' f fd ps (toSp K ps.length S)) (e : Γ fs.length = S) (hms : ∀ e ∈ ms, e.2.2.2 ≠ fs.length := by decide) (hhs : ∀ e ∈ hs, e.2.2 ≠ fs.length := by decide) : Top P w K mg base Γ gl ⟨N', fs ++ [(x, ps.length)], gs, false, os, ms, hs⟩ k' := by
  have e2 : GamR Γ fs.length S = Γ := by
    funext j
    unfold GamR
    cases h : Nat.beq j fs.length with
    | true => rw [Nat.eq_of_beq_eq_true h, e]
    | false => rfl
  have := T.snocR (N' := N') hk' hm hk hb FO hms hhs
  rw [e2] at this
  exact this
end
def attrOf (c : Str) : List Str := attrNs.filterMap fun p => if p.1 = c then some p.2 else none
theorem attrOf_mem {c n : Str} (h : (c, n) ∈ attrNs) : n ∈ attrOf c := List.mem_filterMap.mpr ⟨_, h, by simp⟩
/-! ### a tuple of the module that never changes -/
def sameV : D → Value → Bool
  | .int i, .int j _ => decide (i = j)
  | .str x, .str y _ => decide (x = y)
  | _, _ => false
def sameVs : List D → List Value → Bool
  | [], [] => true
  | d :: ds, v :: vs => sameV d v && sameVs ds vs
  | _, _ => false
def constT (o : Obj) (ds : List D) : Bool := (match o.cls with | .type n => decide (n = "tuple") | _ => false) && (match o.data with | .seq its _ => decide (its.size ≤ 1000) && sameVs ds its.toList | _ => false)
theorem sameV_ok {K : PySem.W.Frag} {d : D} {v : Value} (h : sameV d v = true) : ∃ x : V, RelV x v ∧ ∀ F, Rep K F d x := by
  match d, v, h with
  | .int i, .int j t, h =>
    have := of_decide_eq_true h
    subst this
    exact ⟨.int i, ⟨_, rfl⟩, fun F => .int i⟩
  | .str i, .str j t, h =>
    have := of_decide_eq_true h
    subst this
    exact ⟨.str i, ⟨_, rfl⟩, fun F => .str i⟩
theorem sameVs_ok {K : PySem.W.Frag} : ∀ {ds : List D} {vs : List Value}, sameVs ds vs = true → ∃ xs : List V, Vals xs vs ∧ ∀ F, Reps K F ds xs
  | [], [], _ => ⟨[], .nil, fun F => .nil⟩
  | [], _ :: _, h => by cases h
  | _ :: _, [], h => by cases h
  | d :: ds, v :: vs, h => by
    have h := Bool.and_eq_true_iff.mp h
    obtain ⟨x, r, p⟩ := sameV_ok (K := K) h.1
    obtain ⟨xs, rs, ps⟩ := sameVs_ok (K := K) h.2
    exact ⟨x :: xs, .cons r rs, fun F => .cons (p F) (ps F)⟩
theorem const_ok {K : PySem.W.Frag} {mg : Str → Option Value} {x : Str} {ds : List D} {a : Addr} {o : Obj} (hn : mg x = some (.ref a)) (hk : K.lookup a = some o) (e : constT o ds = true) : ∃ u v, mg x = some u ∧ RelV v u ∧ ∀ F, Rep K F (.tup ds) v := by
  unfold constT at e
  have e := Bool.and_eq_true_iff.mp e
  obtain ⟨e1, e2⟩ := e
  split at e1
  · rename_i n hc
    have hc2 := of_decide_eq_true e1
    subst hc2
    split at e2
    · rename_i its n hd
      have e2 := Bool.and_eq_true_iff.mp e2
      obtain ⟨xs, rs, ps⟩ := sameVs_ok (K := K) e2.2
      have hz := of_decide_eq_true e2.1
      exact ⟨.ref a, .ref a, hn, rfl, fun F => .tup (.inr ⟨o, its, n, hk, hc, hd, by rw [sizeLine_eq]; omega, rs⟩) (ps F)⟩
    · cases e2
  · cases e1

theorem gl_tup {P : Program} {w : World} {K : PySem.W.Frag} {mg : Str → Option Value} {x : Str} {ds : List D} (h : ∃ u v, mg x = some u ∧ RelV v u ∧ ∀ F, Rep K F (.tup ds) v) : ∃ u v, mg x = some u ∧ RelV v u ∧ GlOk P w K (.tup ds) v := by
  obtain ⟨u, v, h1, h2, h3⟩ := h
  exact ⟨u, v, h1, h2, h3, trivial⟩
/-- a dict of the module's top: texts as keys, texts or the top's things as values -/
inductive DEK (w : World) : List DictEntry → List Str → List Value → Prop
  | nil : DEK w [] [] []
  | cons {h : Int} {k : Str} {t : Tok} {v : Value} {es : List DictEntry} {ks : List Str} {us : List Value} : h = hashStr w k → DEK w es ks us → DEK w (⟨h, .str k t, v⟩ :: es) (k :: ks) (v :: us)
inductive VDs (K : PySem.W.Frag) : List D → List Value → Prop
  | nil : VDs K [] []
  | str {x : Str} {t : Tok} {ds : List D} {us : List Value} : VDs K ds us → VDs K (.str x :: ds) (.str x t :: us)
  | cls {x : Str} {a : Addr} {ds : List D} {us : List Value} : PySem.W.nsIn K mainGlobals x = some (some (.ref a)) → VDs K ds us → VDs K (.cls x false :: ds) (.ref a :: us)
theorem VDs.ok {K : PySem.W.Frag} {w : World} {P : Program} {es : List DictEntry} {ks : List Str} {ds : List D} {us : List Value} (e : DEK w es ks us) : VDs K ds us →
    ∃ vs : List V, (ks.map (Sum.inr : Str → Key)).length = vs.length ∧ (∀ F, Reps K F ds vs) ∧ KV ((ks.map (Sum.inr : Str → Key)).zip vs) ((ks.map (Sum.inr : Str → Key)).zip us) := by
  induction e generalizing ds with
  | nil =>
    intro d
    cases d
    exact ⟨[], rfl, fun F => .nil, .nil⟩
  | cons hh _ ih =>
    intro d
    cases d with
    | str r =>
      obtain ⟨vs, l, ps, kv⟩ := ih r
      exact ⟨.str _ :: vs, by rw [List.map_cons, List.length_cons, List.length_cons, l], fun F => .cons (.str _) (ps F), .cons ⟨rfl, ⟨_, rfl⟩⟩ kv⟩
    | cls c r =>
      obtain ⟨vs, l, ps, kv⟩ := ih r
      exact ⟨.ref _ :: vs, by rw [List.map_cons, List.length_cons, List.length_cons, l], fun F => .cons (.cls c) (ps F), .cons ⟨rfl, rfl⟩ kv⟩
theorem DEK.pairs {P : Program} {w : World} {es : List DictEntry} {ks : List Str} {us : List Value} (e : DEK w es ks us) : PySem.Pairs (mixKind P w) es ((ks.map (Sum.inr : Str → Key)).zip us) := by
  induction e with
  | nil => exact .nil
  | @cons h k t v es ks us hh _ ih => exact .cons (keyIs_str k t) rfl ih
theorem DEK.keys {P : Program} {w : World} {es : List DictEntry} {ks : List Str} {us : List Value} (e : DEK w es ks us) : ∀ x ∈ es, ∃ k, (mixKind P w).is k x.key = true ∧ x.hash = (mixKind P w).hash k := by
  induction e with
  | nil => intro x hx; cases hx
  | @cons h k t v es ks us hh _ ih =>
    intro x hx
    rcases List.mem_cons.mp hx with rfl | hx
    · exact ⟨.inr k, keyIs_str k t, hh⟩
    · exact ih x hx
theorem DEK.len {w : World} {es : List DictEntry} {ks : List Str} {us : List Value} (e : DEK w es ks us) : ks.length = us.length := by
  induction e with
  | nil => rfl
  | cons hh _ ih => rw [List.length_cons, List.length_cons, ih]
theorem dict_ok {P : Program} {w : World} {K : PySem.W.Frag} {mg : Str → Option Value} {x : Str} {ks : List Str} {ds : List D} {us : List Value} {a : Addr} {es : Array DictEntry} {ep : Nat} (hn : mg x = some (.ref a)) (hk : K.lookup a = some ⟨.type "dict", none, .dict es ep, #[]⟩) (low : (a == sysModules) = false) (nd : ks.Nodup)
    (e : DEK w es.toList ks us) (v : VDs K ds us) : ∃ u v, mg x = some u ∧ RelV v u ∧ GlOk P w K (.dkk (ks.map Sum.inr) ds) v := by
  obtain ⟨vs, l, reps, kv⟩ := VDs.ok (P := P) e v
  refine ⟨.ref a, .ref a, hn, rfl, fun F => .dkk _ _ _, a, vs, _, rfl, l, reps, kv, low, fun h hK => ?_⟩
  refine ⟨_, es, ep, hK a _ hk, ⟨rfl, rfl, rfl⟩, rfl, fun x hx => e.keys (P := P) x (Array.mem_toList_iff.mpr hx), e.pairs, ?_⟩
  rw [show ((ks.map (Sum.inr : Str → Key)).zip us).map (·.1) = ks.map Sum.inr from List.map_fst_zip (by rw [List.length_map, e.len]; exact Nat.le_refl _)]
  rw [List.nodup_iff_pairwise_ne] at nd ⊢
  exact List.pairwise_map.mpr (nd.imp fun h z => h (Sum.inr.inj z))
/-! ### an own __init__ of a refusal's class -/
def inClass (s : Stmt) (i : Nat) : Stmt := match s with
  | .ClassDef _ _ _ body .. => body.getD i (.Pass ⟨0, 0, 0, 0⟩)
  | _ => .Pass ⟨0, 0, 0, 0⟩
def iniB1 (b f : Str) (ss : List Stmt) : Bool := match ss with
  | [.Expr (.Call (.Attribute (.Name x _) m ap) [.Name s1 _, .Constant (.str _) _ _] [] cp) _, .Assign [.Attribute (.Name s2 _) f' _] (.Name g _) _] =>
    (ap.endLine == cp.line) && (decide (x = b) && (decide (m = "__init__") && (decide (s1 = "self") && (decide (s2 = "self") && (decide (f' = f) && decide (g = f))))))
  | _ => false
def iniB2 (b f f2 : Str) (ss : List Stmt) : Bool := match ss with
  | [.Expr (.Call (.Attribute (.Name x _) m ap) [.Name s1 _, .Constant (.str _) _ _] [] cp) _, .Assign [.Attribute (.Name s2 _) f' _] (.Name g _) _, .Assign [.Attribute (.Name s3 _) f2' _] (.Name g2 _) _] =>
    (ap.endLine == cp.line) && (decide (x = b) && (decide (m = "__init__") && (decide (s1 = "self") && (decide (s2 = "self") && (decide (s3 = "self") && (decide (f' = f) && (decide (g = f) && (decide (f2' = f2) && decide (g2 = f2)))))))))
  | _ => false
/-- what is known of the class whose __init__ is called there -/
structure BaseIni (K : PySem.W.Frag) (CM : Addr) : Prop where
  gB : PySem.W.specialIn K (.ref CM) "__getattribute__" = some (some (.builtin "type.__getattribute__"))
  tB : PySem.W.typeIn K (.ref CM) = some (.type "type")
  rB : PySem.W.readsIn K CM (.type "type") = true
  vB : PySem.W.findCls K (.ref CM) (.type "type") "__init__" = some (.val (.builtin "ValueError.__init__"))
theorem iniB1_inv {b f : Str} {ss : List Stmt} (h : iniB1 b f ss = true) : ∃ p1 p2 p3 tx j p4 p5 p6 p7 p8 p9 p10, (p2.endLine == p5.line) = true ∧ ss = [.Expr (.Call (.Attribute (.Name b p1) "__init__" p2) [.Name "self" p3, .Constant (.str tx) j p4] [] p5) p6, .Assign [.Attribute (.Name "self" p7) f p8] (.Name f p9) p10] := by
  unfold iniB1 at h
  split at h
  · have k0 := and2 h
    have k1 := and2 k0.2
    have k2 := and2 k1.2
    have k3 := and2 k2.2
    have k4 := and2 k3.2
    have k5 := and2 k4.2
    rw [of_decide_eq_true k1.1, of_decide_eq_true k2.1, of_decide_eq_true k3.1, of_decide_eq_true k4.1, of_decide_eq_true k5.1, of_decide_eq_true k5.2]
    exact ⟨_, _, _, _, _, _, _, _, _, _, _, _, k0.1, rfl⟩
  · cases h
theorem iniB2_inv {b f f2 : Str} {ss : List Stmt} (h : iniB2 b f f2 ss = true) : ∃ p1 p2 p3 tx j p4 p5 p6 p7 p8 p9 p10 p11 p12 p13 p14, (p2.endLine == p5.line) = true ∧ ss = [.Expr (.Call (.Attribute (.Name b p1) "__init__" p2) [.Name "self" p3, .Constant (.str tx) j p4] [] p5) p6, .Assign [.Attribute (.Name "self" p7) f p8] (.Name f p9) p10, .Assign [.Attribute (.Name "self" p11) f2 p12] (.Name f2 p13) p14] := by
  unfold iniB2 at h
  split at h
  · have k0 := and2 h
    have k1 := and2 k0.2
    have k2 := and2 k1.2
    have k3 := and2 k2.2
    have k4 := and2 k3.2
    have k5 := and2 k4.2
    have k6 := and2 k5.2
    have k7 := and2 k6.2
    have k8 := and2 k7.2
    rw [of_decide_eq_true k1.1, of_decide_eq_true k2.1, of_decide_eq_true k3.1, of_decide_eq_true k4.1, of_decide_eq_true k5.1, of_decide_eq_true k6.1, of_decide_eq_true k7.1, of_decide_eq_true k8.1, of_decide_eq_true k8.2]
    exact ⟨_, _, _, _, _, _, _, _, _, _, _, _, _, _, _, _, k0.1, rfl⟩
  · cases h
section
variable {P : Program} {w : World} {K : PySem.W.Frag} {mg : Str → Option Value} {base : Heap} {qual b f f2 : Str} {st : Stmt} {fI C CM : Addr} {fd : FuncData}
theorem ps_ini {X : Cx} {p1 p2 p3 p4 p5 p6 : Pos} {tx : Str} {j : Nat} (hg : Gl X "MillError") (hm : X.mg "MillError" = some (.ref CM)) (B : BaseIni X.K CM) (h0 : X.N[0]? = some ("self" : Str)) (l0 : Vis X.env.scope "self") (hl : (p2.endLine == p5.line) = true) :
    PS X (.Expr (.Call (.Attribute (.Name "MillError" p1) "__init__" p2) [.Name "self" p3, .Constant (.str tx) j p4] [] p5) p6) (tDrop (tVeI X.K (tCons (tVar 0) (tCons (tC (.str tx)) tNil)))) :=
  ps_expr (pe_minit hg hm B.gB B.tB B.rB B.vB (pa_cons (pe_var (i := 0) h0 l0 (by decide +kernel) (by decide +kernel)) (pa_cons pe_str pa_nil)) (by decide +kernel) hl rfl) (swap_ok rfl _ _ _)
theorem ps_fput {X : Cx} {i : Nat} {g : Str} {p7 p8 p9 p10 : Pos} (h0 : X.N[0]? = some ("self" : Str)) (l0 : Vis X.env.scope "self") (h1 : X.N[i]? = some g) (l1 : Vis X.env.scope g) (uf : (g == ("__debug__" : Str)) = false ∧ (g == ("__classdict__" : Str)) = false) :
    PS X (.Assign [.Attribute (.Name "self" p7) g p8] (.Name g p9) p10) (tOst X.K g (tVar 0) (tVar i)) :=
  ps_ost (pe_var (i := 0) h0 l0 (by decide +kernel) (by decide +kernel)) (pe_var (i := i) h1 l1 uf.1 uf.2)
theorem ini_ok1 (F : Fun K "__init__" qual st fI fd) (sc : FnScope ["self", f] ["self", f] (defScope st))
    (hb : iniB1 "MillError" f (defBody st) = true) (hg : gloB (defScope st) "MillError" = true) (l0 : visB (defScope st) "self" = true) (hu1 : undB f = true) (l1 : visB (defScope st) f = true) (nf1 : PySem.W.findIn K (.ref C) f = some none) (hm : mg "MillError" = some (.ref CM)) (B : BaseIni K CM) (T : OexC K C) :
    FnOk P w K mg base (L2.CX P w) 1 fI fd ["self", f] (spIni C [f]) := by
  refine F.okX (k := 0) sc (fun vs H Q E h => by obtain ⟨a, ws, rfl, h, _⟩ := h; simpa using h) (fun cdv A outer s H vs Q E hr hS => ?_)
  obtain ⟨a, ws, rfl, hl, ha, q⟩ := hS
  obtain ⟨y, rfl⟩ : ∃ y, ws = [y] := by
    match ws, hl with
    | [y], _ => exact ⟨y, rfl⟩
  obtain ⟨p1, p2, p3, tx, j, p4, p5, p6, p7, p8, p9, p10, hl2, eb⟩ := iniB1_inv hb
  rw [eb]
  refine ⟨_, pss_cons (ps_ini (glo_of hg) hm B rfl (vis_of l0) hl2) (pss_cons (ps_fput (i := 1) rfl (vis_of l0) rfl (vis_of l1) (und_of hu1)) pss_nil), ?_⟩
  refine ⟨.ref a, rfl, a, C, [.str tx], rfl, by show 1 ≤ 1000; decide, T, ha, y, rfl, .ref a, rfl, a, C, rfl, T, nf1, .inl ⟨ha, fun dx nd hda => q dx nd hda⟩⟩
theorem ini_ok2 (F : Fun K "__init__" qual st fI fd) (sc : FnScope ["self", f, f2] ["self", f, f2] (defScope st))
    (hb : iniB2 "MillError" f f2 (defBody st) = true) (hg : gloB (defScope st) "MillError" = true) (l0 : visB (defScope st) "self" = true) (hu1 : undB f = true) (l1 : visB (defScope st) f = true) (nf1 : PySem.W.findIn K (.ref C) f = some none) (hu2 : undB f2 = true) (l2 : visB (defScope st) f2 = true) (nf2 : PySem.W.findIn K (.ref C) f2 = some none) (hm : mg "MillError" = some (.ref CM)) (B : BaseIni K CM) (T : OexC K C) :
    FnOk P w K mg base (L2.CX P w) 1 fI fd ["self", f, f2] (spIni C [f, f2]) := by
  refine F.okX (k := 0) sc (fun vs H Q E h => by obtain ⟨a, ws, rfl, h, _⟩ := h; simpa using h) (fun cdv A outer s H vs Q E hr hS => ?_)
  obtain ⟨a, ws, rfl, hl, ha, q⟩ := hS
  obtain ⟨y, y2, rfl⟩ : ∃ y y2, ws = [y, y2] := by
    match ws, hl with
    | [y, y2], _ => exact ⟨y, y2, rfl⟩
  obtain ⟨p1, p2, p3, tx, j, p4, p5, p6, p7, p8, p9, p10, p11, p12, p13, p14, hl2, eb⟩ := iniB2_inv hb
  rw [eb]
  refine ⟨_, pss_cons (ps_ini (glo_of hg) hm B rfl (vis_of l0) hl2) (pss_cons (ps_fput (i := 1) rfl (vis_of l0) rfl (vis_of l1) (und_of hu1)) (pss_cons (ps_fput (i := 2) rfl (vis_of l0) rfl (vis_of l2) (und_of hu2)) pss_nil)), ?_⟩
  refine ⟨.ref a, rfl, a, C, [.str tx], rfl, by show 1 ≤ 1000; decide, T, ha, y, rfl, .ref a, rfl, a, C, rfl, T, nf1, .inl ⟨ha, fun dx nd hda => ?_⟩⟩
  refine ⟨y2, rfl, .ref a, rfl, a, C, rfl, T, nf2, .inr ⟨dx, [(f, y)], upd_same, by rw [upd_ne hda, upd_same], by show 1 ≤ 900; decide, ?_⟩⟩
  have e : upd (upd (upd H dx (exd dx [(f, y)])) a (exo a C (some dx))) dx (exd dx ((f2, y2) :: [(f, y)])) = upd (upd H dx (exd dx [(f2, y2), (f, y)])) a (exo a C (some dx)) := by
    funext b
    by_cases h1 : b = a
    · subst h1
      rw [upd_ne (Ne.symm hda), upd_same, upd_same]
    · by_cases h2 : b = dx
      · subst h2
        rw [upd_same, upd_ne h1, upd_same]
      · rw [upd_ne h2, upd_ne h1, upd_ne h2, upd_ne h1, upd_ne h2]
  rw [e]
  exact q dx nd hda
end
end DL

namespace DL
open PySem PySem.Spec L2

/-! ### running a core text: equations, from the head -/
def condB (b : Bool) (A B : Prop) : Prop := match b with
  | true => A
  | false => B
theorem condB_t {A B : Prop} : condB true A B = A := rfl
theorem condB_f {A B : Prop} : condB false A B = B := rfl
theorem condB_d {p : Prop} [Decidable p] {A B : Prop} : condB (decide p) A B = ((p → A) ∧ (¬ p → B)) := by
  by_cases h : p
  · rw [decide_eq_true h]; simp [condB, h]
  · rw [decide_eq_false h]; simp [condB, h]
theorem condB_n {b : Bool} {A B : Prop} : condB (!b) A B = condB b B A := by cases b <;> rfl
theorem condB_v {b : Bool} {A B : Prop} : condB b A B = ((b = true → A) ∧ (b = false → B)) := by cases b <;> simp [condB]
def setK : DSt → Nat → D → (DSt → Prop) → Prop := fun σ i d k => k (σ.set i (some d))
theorem setK_z {x : Option D} {σ : DSt} {d : D} {k : DSt → Prop} : setK (x :: σ) 0 d k = k (some d :: σ) := rfl
theorem setK_s {x : Option D} {σ : DSt} {n : Nat} {d : D} {k : DSt → Prop} : setK (x :: σ) (n + 1) d k = setK σ n d fun σ' => k (x :: σ') := rfl
theorem getS_z {d : D} {σ : DSt} {k : D → Prop} : getS (some d :: σ) 0 k = k d := rfl
theorem getS_s {x : Option D} {σ : DSt} {n : Nat} {k : D → Prop} : getS (x :: σ) (n + 1) k = getS σ n k := rfl
/-- the list that stands at a -/
def withL (μ : Mu) (a : Addr) (k : List D → Prop) : Prop := ∃ ds, Mu.get μ a = some (.lst ds) ∧ k ds
theorem withL_z {a : Addr} {ds : List D} {μ : Mu} {k : List D → Prop} : withL ((a, .lst ds) :: μ) a k = k ds := by
  unfold withL Mu.get
  simp [List.lookup_cons]
theorem withL_s {a b : Addr} {m : MO} {μ : Mu} {k : List D → Prop} (h : b ≠ a) : withL ((b, m) :: μ) a k = withL μ a k := by
  unfold withL Mu.get
  have e : (a == b) = false := beq_eq_false_iff_ne.mpr (Ne.symm h)
  simp [List.lookup_cons, e]
theorem withL_s' {a b : Addr} {m : MO} {μ : Mu} {k : List D → Prop} (h : a ≠ b) : withL ((b, m) :: μ) a k = withL μ a k := withL_s (Ne.symm h)
def putK (μ : Mu) (a : Addr) (ds : List D) (k : Mu → Prop) : Prop := k (Mu.put μ a (.lst ds))
theorem putK_z {a : Addr} {m : MO} {ds : List D} {μ : Mu} {k : Mu → Prop} : putK ((a, m) :: μ) a ds k = k ((a, .lst ds) :: μ) := by
  unfold putK Mu.put
  rw [if_pos rfl]
theorem putK_s {a b : Addr} {m : MO} {ds : List D} {μ : Mu} {k : Mu → Prop} (h : b ≠ a) : putK ((b, m) :: μ) a ds k = putK μ a ds fun μ' => k ((b, m) :: μ') := by
  unfold putK
  rw [show Mu.put ((b, m) :: μ) a (.lst ds) = (b, m) :: Mu.put μ a (.lst ds) by
    rw [Mu.put, if_neg h]]
theorem putK_s' {a b : Addr} {m : MO} {ds : List D} {μ : Mu} {k : Mu → Prop} (h : a ≠ b) : putK ((b, m) :: μ) a ds k = putK μ a ds fun μ' => k ((b, m) :: μ') := putK_s (Ne.symm h)

section
variable {Γ : Nat → DSp} {gl : Nat → D} {σ : DSt} {μ : Mu} {Q : DQ} {E : DE} {Ed : DXE} {R : DEnds} {a b c : C} {as : Cs} {d x y : D} {ds es : List D}
-- statements
theorem m_nil : wpSs Γ gl .nil σ μ R Ed = R.nx σ μ := rfl
theorem m_cons {s : Sm} {r : Ss} : wpSs Γ gl (.cons s r) σ μ R Ed = wpM Γ gl s σ μ { R with nx := fun σ1 μ1 => wpSs Γ gl r σ1 μ1 R Ed } Ed := rfl
theorem m_asg {i : Nat} : wpM Γ gl (.asg (.name i) a) σ μ R Ed = wpE Γ gl a σ μ (fun d μ1 => setK σ i d fun σ1 => R.nx σ1 μ1) (fun x μ' => Ed x σ μ') := rfl
theorem m_asgT {is : List Nat} : wpM Γ gl (.asg (.tup is) a) σ μ R Ed = wpE Γ gl a σ μ (fun d μ1 => tgW (.tup is) d σ fun σ1 => R.nx σ1 μ1) (fun x μ' => Ed x σ μ') := rfl
theorem m_asgC {i : Nat} : wpM Γ gl (.asgC i a) σ μ R Ed = wpE Γ gl a σ μ (fun d μ1 => setK σ i d fun σ1 => R.nx σ1 μ1) (fun x μ' => Ed x σ μ') := rfl
theorem m_par3 {i j l : Nat} : wpM Γ gl (.par3 i j l a b c) σ μ R Ed = wpE Γ gl a σ μ (fun d μ1 => wpE Γ gl b σ μ1 (fun d2 μ2 => wpE Γ gl c σ μ2 (fun d3 μ3 => setK σ i d fun σ1 => setK σ1 j d2 fun σ2 => setK σ2 l d3 fun σ3 => R.nx σ3 μ3) (fun x μ' => Ed x σ μ')) (fun x μ' => Ed x σ μ')) (fun x μ' => Ed x σ μ') := rfl
theorem m_par {i j : Nat} : wpM Γ gl (.par i j a b) σ μ R Ed = wpE Γ gl a σ μ (fun d μ1 => wpE Γ gl b σ μ1 (fun d' μ2 => setK σ i d fun σ1 => setK σ1 j d' fun σ2 => R.nx σ2 μ2) (fun x μ' => Ed x σ μ')) (fun x μ' => Ed x σ μ') := rfl
theorem m_aug {i : Nat} {o : BO} : wpM Γ gl (.aug i o a) σ μ R Ed = getS σ i fun x => wpE Γ gl a σ μ (fun y μ1 => augW o x y μ1 fun z μ2 => setK σ i z fun σ1 => R.nx σ1 μ2) (fun x μ' => Ed x σ μ') := rfl
theorem m_daug {b' : BO} : wpM Γ gl (.daug b' a b c) σ μ R Ed = wpE Γ gl a σ μ (fun x μ1 => wpE Γ gl b σ μ1 (fun y μ2 => dgetW x y μ2 fun v μ2 => wpE Γ gl c σ μ2 (fun w μ3 => augW b' v w μ3 fun z μ4 => dputW x y z μ4 fun μ5 => R.nx σ μ5) (fun x μ' => Ed x σ μ')) (fun x μ' => Ed x σ μ')) (fun x μ' => Ed x σ μ') := rfl
theorem m_dput2 {o2 i2 : C} : wpM Γ gl (.dput2 a b o2 i2 c) σ μ R Ed = wpE Γ gl c σ μ (fun v μ1 => ∃ d1 d2, seqT v = some [d1, d2] ∧ wpE Γ gl a σ μ1 (fun x μ2 => wpE Γ gl b σ μ2 (fun y μ3 => dputW x y d1 μ3 fun μ4 => wpE Γ gl o2 σ μ4 (fun x2 μ5 => wpE Γ gl i2 σ μ5 (fun y2 μ6 => dputW x2 y2 d2 μ6 fun μ7 => R.nx σ μ7) (fun x μ' => Ed x σ μ')) (fun x μ' => Ed x σ μ')) (fun x μ' => Ed x σ μ')) (fun x μ' => Ed x σ μ')) (fun x μ' => Ed x σ μ') := rfl
theorem m_dput : wpM Γ gl (.dput a b c) σ μ R Ed = wpE Γ gl c σ μ (fun v μ1 => wpE Γ gl a σ μ1 (fun x μ2 => wpE Γ gl b σ μ2 (fun y μ3 => dputW x y v μ3 fun μ4 => R.nx σ μ4) (fun x μ' => Ed x σ μ')) (fun x μ' => Ed x σ μ')) (fun x μ' => Ed x σ μ') := rfl
theorem m_seti : wpM Γ gl (.seti a b c) σ μ R Ed = wpE Γ gl c σ μ (fun v μ1 => wpE Γ gl a σ μ1 (fun x μ2 => wpE Γ gl b σ μ2 (fun y μ3 => setW x y v μ3 fun μ4 => R.nx σ μ4) (fun x μ' => Ed x σ μ')) (fun x μ' => Ed x σ μ')) (fun x μ' => Ed x σ μ') := rfl
theorem m_augi {o : BO} : wpM Γ gl (.augi o a b c) σ μ R Ed = wpE Γ gl a σ μ (fun x μ1 => wpE Γ gl b σ μ1 (fun y μ2 => getW x y μ2 fun old => wpE Γ gl c σ μ2 (fun v μ4 => augW o old v μ4 fun z μ5 => setW x y z μ5 fun μ6 => R.nx σ μ6) (fun x μ' => Ed x σ μ')) (fun x μ' => Ed x σ μ')) (fun x μ' => Ed x σ μ') := rfl
theorem m_ex : wpM Γ gl (.ex a) σ μ R Ed = wpE Γ gl a σ μ (fun _ μ1 => R.nx σ μ1) (fun x μ' => Ed x σ μ') := rfl
theorem m_ret : wpM Γ gl (.ret a) σ μ R Ed = wpE Γ gl a σ μ (fun d μ1 => R.rt d μ1) (fun x μ' => Ed x σ μ') := rfl
theorem m_ret0 : wpM Γ gl .ret0 σ μ R Ed = R.rt .non μ := rfl
theorem m_brk : wpM Γ gl .brk σ μ R Ed = R.bk σ μ := rfl
theorem m_cont : wpM Γ gl .cont σ μ R Ed = R.ct σ μ := rfl
theorem m_pas : wpM Γ gl .pas σ μ R Ed = R.nx σ μ := rfl
theorem m_raise {i : Nat} : wpM Γ gl (.raise i) σ μ R Ed = (match gl i with
    | .cls x true => exPlain x = true ∧ Ed ⟨x, [], []⟩ σ μ
    | _ => False) := rfl
def unsK (σ : DSt) (i : Nat) (k : DSt → Prop) : Prop := k (σ.set i none)
def caughtW (gl : Nat → D) (R : DEnds) (Ed : DXE) (g i j : Nat) : DXE := fun dx σ' μ' => (∃ k, gl k = .cls dx.x true) ∧ ∃ y t, gl g = .cls y t ∧ condB (exSub dx.x y) (setK σ' i (.exc dx.x dx.ns dx.ds) fun σ1 => setK σ1 j (.exc dx.x dx.ns dx.ds) fun σ2 => unsK σ2 i fun σ3 => R.nx σ3 μ') (Ed dx σ' μ')
theorem unsK_z {x : Option D} {σ : DSt} {k : DSt → Prop} : unsK (x :: σ) 0 k = k (none :: σ) := rfl
theorem unsK_s {x : Option D} {σ : DSt} {n : Nat} {k : DSt → Prop} : unsK (x :: σ) (n + 1) k = unsK σ n fun σ' => k (x :: σ') := rfl
theorem m_tryA {b : Ss} {g i j : Nat} : wpM Γ gl (.tryA b g i j) σ μ R Ed = wpSs Γ gl b σ μ R (caughtW gl R Ed g i j) := by
  show wpSs Γ gl b σ μ R _ = _
  congr 1
def caughtL (gl : Nat → D) (R : DEnds) (Ed : DXE) (g i j : Nat) : DXE := fun dx σ' μ' => (∃ k, gl k = .cls dx.x true) ∧ ∃ y t, gl g = .cls y t ∧ (match exSub dx.x y with
    | true => getS σ' j fun o => ∃ a ds, o = .obj a ∧ Mu.get μ' a = some (.lst ds) ∧ ds.length < sizeLine ∧ R.nx (σ'.set i none) (Mu.put μ' a (.lst (ds ++ [.exc dx.x dx.ns dx.ds])))
    | false => Ed dx σ' μ')
theorem m_tryL {b : Ss} {g i j : Nat} : wpM Γ gl (.tryL b g i j) σ μ R Ed = wpSs Γ gl b σ μ R (caughtL gl R Ed g i j) := rfl
theorem m_raiseX {i : Nat} : wpM Γ gl (.raiseX i as) σ μ R Ed = raiseW gl i fun x => wpA Γ gl as σ μ (fun ds μ1 => ds.length = (exFields x).length ∧ Ed ⟨x, (exFields x).reverse, ds.reverse⟩ σ μ1) (fun x μ' => Ed x σ μ') := rfl
def noX : DXE := fun _ _ _ => False
def caughtS (Γ : Nat → DSp) (gl : Nat → D) (R : DEnds) (Ed : DXE) (g i : Nat) (s : Ss) : DXE := fun dx σ' μ' => (∃ k, gl k = .cls dx.x true) ∧ ∃ y t, gl g = .cls y t ∧ condB (exSub dx.x y) (setK σ' i (.exc dx.x dx.ns dx.ds) fun σ1 => wpSs Γ gl s σ1 μ' { nx := fun σ2 μ2 => unsK σ2 i fun σ3 => R.nx σ3 μ2, rt := fun _ _ => False } noX) (Ed dx σ' μ')
theorem m_setf {n : Str} : wpM Γ gl (.setf a n b) σ μ R Ed = wpE Γ gl b σ μ (fun v μ1 => wpE Γ gl a σ μ1 (fun x μ2 => fputW gl x n v μ2 fun μ3 => R.nx σ μ3) (fun x μ' => Ed x σ μ')) (fun x μ' => Ed x σ μ') := rfl
theorem m_augf {o : BO} {n : Str} : wpM Γ gl (.augf o a n b) σ μ R Ed = wpE Γ gl a σ μ (fun x μ1 => ∃ a c ns ds old, x = .obj a ∧ Mu.get μ1 a = some (.ins c ns ds) ∧ attrOk gl c n ∧ (ns.zip ds).lookup n = some old ∧ wpE Γ gl b σ μ1 (fun v μ2 => augW o old v μ2 fun z μ3 => ∃ ns' ds', Mu.get μ3 a = some (.ins c ns' ds') ∧ ns'.length < 900 ∧ R.nx σ (Mu.put μ3 a (.ins c (putN ns' n) (putX ns' ds' n z)))) (fun x μ' => Ed x σ μ')) (fun x μ' => Ed x σ μ') := rfl
theorem m_setf2 {n1 n2 : Str} {o1 o2 : C} : wpM Γ gl (.setf2 o1 n1 o2 n2 a) σ μ R Ed = wpE Γ gl a σ μ (fun v μ1 => ∃ d1 d2, seqT v = some [d1, d2] ∧ wpE Γ gl o1 σ μ1 (fun x μ2 => fputW gl x n1 d1 μ2 fun μ3 => wpE Γ gl o2 σ μ3 (fun y μ4 => fputW gl y n2 d2 μ4 fun μ5 => R.nx σ μ5) (fun x μ' => Ed x σ μ')) (fun x μ' => Ed x σ μ')) (fun x μ' => Ed x σ μ') := rfl
theorem m_tryS {b s : Ss} {g i : Nat} : wpM Γ gl (.tryS b g i s) σ μ R Ed = wpSs Γ gl b σ μ R (caughtS Γ gl R Ed g i s) := by
  show wpSs Γ gl b σ μ R _ = _
  congr 1
theorem m_never : wpM Γ gl .never σ μ R Ed = False := rfl
theorem m_ife {t : T} {p q : Ss} : wpM Γ gl (.ife t p q) σ μ R Ed = wpT Γ gl t σ μ (fun k μ1 => condB k (wpSs Γ gl p σ μ1 R Ed) (wpSs Γ gl q σ μ1 R Ed)) (fun x μ' => Ed x σ μ') := rfl
theorem m_fr {tg : Tg} {it : Ic} {p : Ss} : wpM Γ gl (.fr tg it p) σ μ R Ed = wpI Γ gl it σ μ (fun items stab μ1 => forW tg stab (fun σ' μ' R' => wpSs Γ gl p σ' μ' R' Ed) R items σ μ1) (fun x μ' => Ed x σ μ') := rfl
theorem t_of : wpT Γ gl (.of a) σ μ (fun k μ1 => R.bk σ μ1) E = wpT Γ gl (.of a) σ μ (fun k μ1 => R.bk σ μ1) E := rfl
-- tests
variable {t u : T} {K : Bool → Mu → Prop}
def isBl (x : D) (k : Bool → Prop) : Prop := match x with
  | .bl b => k b
  | _ => False
theorem isBl_b {b : Bool} {k : Bool → Prop} : isBl (.bl b) k = k b := rfl
theorem t_and : wpT Γ gl (.and t u) σ μ K E = wpT Γ gl t σ μ (fun k μ1 => condB k (wpT Γ gl u σ μ1 K E) (K false μ1)) E := rfl
theorem t_or : wpT Γ gl (.or t u) σ μ K E = wpT Γ gl t σ μ (fun k μ1 => condB k (K true μ1) (wpT Γ gl u σ μ1 K E)) E := rfl
theorem t_not : wpT Γ gl (.not t) σ μ K E = wpT Γ gl t σ μ (fun k μ1 => K (!k) μ1) E := rfl
theorem t_v : wpT Γ gl (.of a) σ μ K E = wpE Γ gl a σ μ (fun x μ1 => isBl x fun k => K k μ1) E := rfl
theorem t_cmp {o : CO} : wpT Γ gl (.cmp o a b) σ μ K E = wpE Γ gl a σ μ (fun x μ1 => wpE Γ gl b σ μ1 (fun y μ2 => cmpW o x y μ2 fun k => K k μ2) E) E := rfl
theorem t_mdin {n : Bool} {i : Nat} : wpT Γ gl (.mdin n a i) σ μ K E = wpE Γ gl a σ μ (fun y μ1 => mdinW (gl i) y fun k => K (k == n) μ1) E := rfl
theorem t_din {n : Bool} : wpT Γ gl (.din n a b) σ μ K E = wpE Γ gl a σ μ (fun y μ1 => wpE Γ gl b σ μ1 (fun x μ2 => dinW x y μ2 fun k => K (k == n) μ2) E) E := rfl
theorem t_chain {o o' : CO} : wpT Γ gl (.chain o o' a b c) σ μ K E = wpE Γ gl a σ μ (fun x μ1 => wpE Γ gl b σ μ1 (fun y μ2 => cmpW o x y μ2 fun k => condB k (wpE Γ gl c σ μ2 (fun z μ3 => cmpW o' y z μ3 fun k' => K k' μ3) E) (K false μ2)) E) E := rfl
theorem t_yes : wpT Γ gl .yes σ μ K E = K true μ := rfl
-- expressions
theorem e_var {i : Nat} : wpE Γ gl (.var i) σ μ Q E = getS σ i fun d => Q d μ := rfl
theorem e_int {n : Int} : wpE Γ gl (.int n) σ μ Q E = Q (.int n) μ := rfl
theorem e_str {s : Str} : wpE Γ gl (.str s) σ μ Q E = Q (.str s) μ := rfl
theorem e_bl {k : Bool} : wpE Γ gl (.bl k) σ μ Q E = Q (.bl k) μ := rfl
theorem e_non : wpE Γ gl .non σ μ Q E = Q .non μ := rfl
theorem e_glob {i : Nat} : wpE Γ gl (.glob i) σ μ Q E = Q (gl i) μ := rfl
theorem e_bin {o : BO} : wpE Γ gl (.bin o a b) σ μ Q E = wpE Γ gl a σ μ (fun x μ1 => wpE Γ gl b σ μ1 (fun y μ2 => binW o x y μ2 Q) E) E := rfl
theorem e_neg : wpE Γ gl (.neg a) σ μ Q E = wpE Γ gl a σ μ (fun x μ1 => onI x fun i => Q (.int (-i)) μ1) E := rfl
theorem e_cmp {o : CO} : wpE Γ gl (.cmp o a b) σ μ Q E = wpE Γ gl a σ μ (fun x μ1 => wpE Γ gl b σ μ1 (fun y μ2 => cmpW o x y μ2 fun k => Q (.bl k) μ2) E) E := rfl
theorem e_chain {o o' : CO} : wpE Γ gl (.chain o o' a b c) σ μ Q E = wpE Γ gl a σ μ (fun x μ1 => wpE Γ gl b σ μ1 (fun y μ2 => cmpW o x y μ2 fun k => condB k (wpE Γ gl c σ μ2 (fun z μ3 => cmpW o' y z μ3 fun k' => Q (.bl k') μ3) E) (Q (.bl false) μ2)) E) E := rfl
theorem e_and : wpE Γ gl (.and a b) σ μ Q E = wpE Γ gl a σ μ (fun x μ1 => isBl x fun k => condB k (wpE Γ gl b σ μ1 Q E) (Q (.bl false) μ1)) E := by
  show wpE Γ gl a σ μ _ E = _
  congr 1
  funext x μ1
  cases x <;> first | rfl | skip
  rename_i b
  cases b <;> rfl
theorem e_or : wpE Γ gl (.or a b) σ μ Q E = wpE Γ gl a σ μ (fun x μ1 => isBl x fun k => condB k (Q (.bl true) μ1) (wpE Γ gl b σ μ1 Q E)) E := by
  show wpE Γ gl a σ μ _ E = _
  congr 1
  funext x μ1
  cases x <;> first | rfl | skip
  rename_i b
  cases b <;> rfl
theorem e_not : wpE Γ gl (.not a) σ μ Q E = wpE Γ gl a σ μ (fun x μ1 => isBl x fun k => Q (.bl (!k)) μ1) E := rfl
theorem e_ite : wpE Γ gl (.ite t a b) σ μ Q E = wpT Γ gl t σ μ (fun k μ1 => condB k (wpE Γ gl a σ μ1 Q E) (wpE Γ gl b σ μ1 Q E)) E := rfl
theorem e_idx : wpE Γ gl (.idx a b) σ μ Q E = wpE Γ gl a σ μ (fun x μ1 => wpE Γ gl b σ μ1 (fun y μ2 => idxW x y μ2 Q) E) E := rfl
theorem e_sl {own : Bool} : wpE Γ gl (.sl own a b c) σ μ Q E = wpE Γ gl a σ μ (fun x μ1 => optW (isAbs b) (fun m q => wpE Γ gl b σ m q E) μ1 fun l μ2 => optW (isAbs c) (fun m q => wpE Γ gl c σ m q E) μ2 fun h μ3 => slW own x l h μ3 Q) E := rfl
theorem e_sl2 {own b : Bool} : wpE Γ gl (.sl2 own b a) σ μ Q E = wpE Γ gl a σ μ (fun x μ1 => sl2W own b x μ1 Q) E := rfl
theorem e_revs : wpE Γ gl (.revs a) σ μ Q E = wpE Γ gl a σ μ (fun x μ1 => revW x μ1 Q) E := rfl
theorem e_tup : wpE Γ gl (.tup as) σ μ Q E = wpA Γ gl as σ μ (fun ds μ1 => Q (.tup ds) μ1) E := rfl
theorem e_lst {own : Bool} : wpE Γ gl (.lst own as) σ μ Q E = wpA Γ gl as σ μ (fun ds μ1 => newL own ds μ1 Q) E := rfl
theorem e_callH {f : Nat} : wpE Γ gl (.callH f as) σ μ Q E = wpA Γ gl as σ μ (fun ds μ1 => callW (Γ f) ds μ1 Q E) E := rfl
theorem e_call {f : Nat} : wpE Γ gl (.call f as) σ μ Q E = wpA Γ gl as σ μ (fun ds μ1 => callW (Γ f) ds μ1 Q E) E := rfl
theorem e_bi {f : Bi} : wpE Γ gl (.bi f as) σ μ Q E = wpA Γ gl as σ μ (fun ds μ1 => biW f ds μ1 Q) E := rfl
theorem e_isi {s : String} : wpE Γ gl (.isi a s) σ μ Q E = wpE Γ gl a σ μ (fun x μ1 => isiW s x μ1 fun k => Q (.bl k) μ1) E := rfl
theorem e_me0 {m : Me} : wpE Γ gl (.me0 m a) σ μ Q E = wpE Γ gl a σ μ (fun x μ1 => me0W m x μ1 Q) E := rfl
theorem e_me1 {m : Me} : wpE Γ gl (.me1 m a b) σ μ Q E = wpE Γ gl a σ μ (fun x μ1 => recvW m x μ1 ∧ wpE Γ gl b σ μ1 (fun y μ2 => me1W m x y μ2 Q) E) E := rfl
theorem e_dnew : wpE Γ gl .dnew σ μ Q E = ∀ p, fresh p μ → Q (.obj p) ((p, .dic []) :: μ) := rfl
theorem e_disp {as : Cs} : wpE Γ gl (.disp as) σ μ Q E = wpA Γ gl as σ μ (fun ds μ1 => dispW ds μ1 Q) E := rfl
theorem e_split : wpE Γ gl (.split a b) σ μ Q E = wpE Γ gl a σ μ (fun x μ1 => onStr x fun s => wpE Γ gl b σ μ1 (fun y μ2 => onStr y fun t => splitW s t μ2 Q) E) E := rfl
theorem e_join : wpE Γ gl (.join a b) σ μ Q E = wpE Γ gl a σ μ (fun x μ1 => onStr x fun s => wpE Γ gl b σ μ1 (fun y μ2 => joinW s y μ2 Q) E) E := rfl
theorem e_idxS : wpE Γ gl (.idxS a b) σ μ Q E = wpE Γ gl a σ μ (fun x μ1 => wpE Γ gl b σ μ1 (fun y μ2 => onStr x fun s => onI y fun n => chrW s n fun d => Q d μ2) E) E := rfl
theorem e_sw : wpE Γ gl (.sw a b) σ μ Q E = wpE Γ gl a σ μ (fun x μ1 => onStr x fun s => wpE Γ gl b σ μ1 (fun y μ2 => onStr y fun t => Q (.bl (Txt.startswith s t)) μ2) E) E := rfl
theorem e_intS : wpE Γ gl (.intS a) σ μ Q E = wpE Γ gl a σ μ (fun x μ1 => onStr x fun s => ∃ n, PySem.intText? s = some n ∧ s.length ≤ 640 ∧ Q (.int n) μ1) E := rfl
theorem onStr_s {s : Str} {k : Str → Prop} : onStr (.str s) k = k s := rfl
theorem s_str {s : Str} {lo hi : Option Int} : slW false (.str s) lo hi μ Q = (s.length ≤ sizeLine ∧ Q (.str (cutS s lo hi)) μ) := rfl
theorem e_mget {i : Nat} : wpE Γ gl (.mget i a) σ μ Q E = wpE Γ gl a σ μ (fun y μ1 => mgetW (gl i) y μ1 Q) E := rfl
def onCls (d : D) (fs : List (Str × Nat)) (k : Nat → Prop) : Prop := match d with
  | .cls y _ => ∃ j, (y, j) ∈ fs ∧ k j
  | _ => False
theorem e_callV {i : Nat} {fs : List (Str × Nat)} : wpE Γ gl (.callV i fs as) σ μ Q E = getS σ i fun d => onCls d fs fun j => wpA Γ gl as σ μ (fun ds μ1 => callW (Γ j) ds μ1 Q E) E := by
  show (match σ[i]? with
    | some (some (.cls y _)) => ∃ j, (y, j) ∈ fs ∧ wpA Γ gl as σ μ (fun ds μ1 => callW (Γ j) ds μ1 Q E) E
    | _ => False) = _
  unfold getS
  rcases σ[i]? with _ | _ | d
  · rfl
  · rfl
  · cases d <;> rfl
theorem e_dget : wpE Γ gl (.dget a b) σ μ Q E = wpE Γ gl a σ μ (fun x μ1 => wpE Γ gl b σ μ1 (fun y μ2 => dgetW x y μ2 Q) E) E := rfl
theorem e_dict0 : wpE Γ gl .dict0 σ μ Q E = Q .dic0 μ := rfl
theorem e_dict : wpE Γ gl (.dict as) σ μ Q E = wpA Γ gl as σ μ (fun ds μ1 => keysD ds = true ∧ Q .dic μ1) E := rfl
def lookW (ps : List (Str × Int)) (x : D) (μ : Mu) (Q : DQ) : Prop := match x with
  | .str s => ∃ n, ps.lookup s = some n ∧ Q (.int n) μ
  | _ => False
theorem e_isx : wpE Γ gl (.isx a b) σ μ Q E = wpE Γ gl a σ μ (fun x μ1 => wpE Γ gl b σ μ1 (fun y μ2 => isxW gl x y fun k => Q (.bl k) μ2) E) E := rfl
theorem e_fld {n : Str} : wpE Γ gl (.fld a n) σ μ Q E = wpE Γ gl a σ μ (fun x μ1 => fldW gl x n fun d => Q d μ1) E := rfl
theorem e_callN {f : Nat} : wpE Γ gl (.callN f as) σ μ Q E = wpA Γ gl as σ μ (fun ds μ1 => callWN (Γ f) ds μ1 Q E) E := rfl
theorem e_new0 {x : Str} {i : Nat} : wpE Γ gl (.new0 x i) σ μ Q E = ((∃ t, gl i = .cls x t) ∧ Q (.ins x [] []) μ) := rfl
theorem e_meth {m : Str} {rs : List (Str × Nat)} : wpE Γ gl (.meth a m rs as) σ μ Q E = wpE Γ gl a σ μ (fun x μ1 => methW m rs x (fun j => wpA Γ gl as σ μ1 (fun ds μ2 => callW (Γ j) (x :: ds) μ2 Q E) E) μ1) E := rfl
theorem e_revT {own : Bool} : wpE Γ gl (.revT own a) σ μ Q E = wpE Γ gl a σ μ (fun x μ1 => revLW own x μ1 Q) E := rfl
theorem revLW_t {own : Bool} {ds : List D} : revLW own (.tup ds) μ Q = newL own ds.reverse μ Q := rfl
theorem e_trng : wpE Γ gl (.trng as) σ μ Q E = wpA Γ gl as σ μ (fun ds μ1 => trngW ds μ1 Q) E := rfl
theorem trngW_1 {n : Int} : trngW [.int n] μ Q = (RngOk 0 n ∧ Q (.tup (rngD 0 n)) μ) := rfl
theorem trngW_2 {i j : Int} : trngW [.int i, .int j] μ Q = (RngOk i j ∧ Q (.tup (rngD i j)) μ) := rfl
theorem trngW_3 {i j k : Int} : trngW [.int i, .int j, .int k] μ Q = (k = -1 ∧ RngOk j i ∧ Q (.tup (rngDD i j)) μ) := rfl
theorem e_lzip {own : Bool} : wpE Γ gl (.lzip own as) σ μ Q E = wpA Γ gl as σ μ (fun ds μ1 => lzipW own ds μ1 Q) E := rfl
theorem v_lzipLL {own : Bool} {es : List D} : lzipW own [.lst ds, .lst es] μ Q = newL own ((ds.zip es).map fun p => D.tup [p.1, p.2]) μ Q := by
  apply propext
  constructor
  · rintro ⟨xs, ys, e1, e2, q⟩
    cases e1
    cases e2
    exact q
  · exact fun q => ⟨_, _, rfl, rfl, q⟩
theorem e_lrng {own : Bool} : wpE Γ gl (.lrng own as) σ μ Q E = wpA Γ gl as σ μ (fun ds μ1 => lrngW own ds μ1 Q) E := rfl
theorem e_attr {n : Str} : wpE Γ gl (.attr a n) σ μ Q E = wpE Γ gl a σ μ (fun x μ1 => attrW gl μ1 x n fun d => Q d μ1) E := rfl
theorem e_newI {own : Bool} {x : Str} {i j : Nat} : wpE Γ gl (.newI own x i j as) σ μ Q E = ((gl i = .cls x false) ∧ wpA Γ gl as σ μ (fun ds μ1 => ∀ p, fresh p μ1 → callW (Γ j) (.obj p :: ds) ((p, .ins x [] []) :: μ1) (fun d μ2 => d = .non ∧ keepW own x p μ2 Q) noE) E) := rfl
theorem e_isv : wpE Γ gl (.isv a) σ μ Q E = wpE Γ gl a σ μ (fun x μ1 => isvW gl x fun k => Q (.bl k) μ1) E := rfl
theorem e_look {ps : List (Str × Int)} : wpE Γ gl (.look ps a) σ μ Q E = wpE Γ gl a σ μ (fun x μ1 => lookW ps x μ1 Q) E := by
  show wpE Γ gl a σ μ _ E = _
  congr 1
theorem k_nil : (keysD [] = true) = True := by simp [keysD]
theorem k_int {i : Int} {d : D} {r : List D} : keysD (.int i :: d :: r) = keysD r := by simp [keysD, keyD]
theorem k_str {i : Str} {d : D} {r : List D} : keysD (.str i :: d :: r) = keysD r := by simp [keysD, keyD]
theorem e_comp {own : Bool} {vs : List Nat} {tg : Tg} {it : Ic} : wpE Γ gl (.comp own vs tg it t a) σ μ Q E = wpI Γ gl it σ μ (fun items stab μ1 => items.length ≤ sizeLine ∧ compW tg vs (fun σ' μ' k => wpT Γ gl t σ' μ' k noE) (fun σ' μ' k => wpE Γ gl a σ' μ' k noE) stab σ items [] μ1 fun ds μ2 => newL own ds μ2 Q) E := rfl
theorem a_nil {L : List D → Mu → Prop} : wpA Γ gl .nil σ μ L E = L [] μ := rfl
theorem a_cons {L : List D → Mu → Prop} : wpA Γ gl (.cons a as) σ μ L E = wpE Γ gl a σ μ (fun d μ1 => wpA Γ gl as σ μ1 (fun ds μ2 => L (d :: ds) μ2) E) E := rfl
theorem o_abs {w : Mu → DQ → Prop} {k : Option Int → Mu → Prop} : optW (isAbs .absent) w μ k = k none μ := rfl
theorem o_int {n : Int} {w : Mu → DQ → Prop} {k : Option Int → Mu → Prop} : optW (isAbs (.int n)) w μ k = w μ fun d μ' => onI d fun n => k (some n) μ' := rfl
theorem o_var {n : Nat} {w : Mu → DQ → Prop} {k : Option Int → Mu → Prop} : optW (isAbs (.var n)) w μ k = w μ fun d μ' => onI d fun n => k (some n) μ' := rfl
theorem o_bin {o : BO} {w : Mu → DQ → Prop} {k : Option Int → Mu → Prop} : optW (isAbs (.bin o a b)) w μ k = w μ fun d μ' => onI d fun n => k (some n) μ' := rfl
theorem o_bi {o : Bi} {w : Mu → DQ → Prop} {k : Option Int → Mu → Prop} : optW (isAbs (.bi o as)) w μ k = w μ fun d μ' => onI d fun n => k (some n) μ' := rfl
theorem o_call {o : Nat} {w : Mu → DQ → Prop} {k : Option Int → Mu → Prop} : optW (isAbs (.call o as)) w μ k = w μ fun d μ' => onI d fun n => k (some n) μ' := rfl
theorem o_neg {w : Mu → DQ → Prop} {k : Option Int → Mu → Prop} : optW (isAbs (.neg a)) w μ k = w μ fun d μ' => onI d fun n => k (some n) μ' := rfl
theorem o_idx {w : Mu → DQ → Prop} {k : Option Int → Mu → Prop} : optW (isAbs (.idx a b)) w μ k = w μ fun d μ' => onI d fun n => k (some n) μ' := rfl
theorem i_seq {L : IQ} : wpI Γ gl (.seq a) σ μ L E = wpE Γ gl a σ μ (fun x μ1 => itSeq x μ1 L) E := rfl
theorem i_rng {L : IQ} : wpI Γ gl (.rng as) σ μ L E = wpA Γ gl as σ μ (fun ds μ1 => itRng ds μ1 L) E := rfl
theorem i_enum {L : IQ} : wpI Γ gl (.enum a) σ μ L E = wpE Γ gl a σ μ (fun x μ1 => itEnum x μ1 L) E := rfl
theorem i_zip {L : IQ} : wpI Γ gl (.zip a b) σ μ L E = wpE Γ gl a σ μ (fun x μ1 => wpE Γ gl b σ μ1 (fun y μ2 => itZip x y μ2 L) E) E := rfl
theorem i_zip3 {L : IQ} : wpI Γ gl (.zip3 a b c) σ μ L E = wpE Γ gl a σ μ (fun x μ1 => wpE Γ gl b σ μ1 (fun y μ2 => wpE Γ gl c σ μ2 (fun z μ3 => itZip3 x y z μ3 L) E) E) E := rfl
theorem i_rev {L : IQ} : wpI Γ gl (.rev a) σ μ L E = wpE Γ gl a σ μ (fun x μ1 => itRev x μ1 L) E := rfl
-- operators on data
variable {i j : Int}
theorem onI_i {k : Int → Prop} : onI (.int i) k = k i := rfl
theorem b_add : binW .add (.int i) (.int j) μ Q = Q (.int (i + j)) μ := rfl
theorem b_addT : binW .add (.tup ds) (.tup es) μ Q = (ds.length + es.length ≤ sizeLine ∧ Q (.tup (ds ++ es)) μ) := rfl
theorem b_sub : binW .sub (.int i) (.int j) μ Q = Q (.int (i - j)) μ := rfl
theorem b_mul : binW .mul (.int i) (.int j) μ Q = (IntMulOk i j ∧ Q (.int (i * j)) μ) := rfl
theorem b_fdiv : binW .fdiv (.int i) (.int j) μ Q = (DivOk i j ∧ Q (.int (i / j)) μ) := rfl
theorem b_mod : binW .mod (.int i) (.int j) μ Q = (0 < j ∧ Q (.int (i % j)) μ) := rfl
theorem b_pow : binW .pow (.int i) (.int j) μ Q = (CPow i j ∧ Q (.int (i ^ j.toNat)) μ) := rfl
theorem b_shl : binW .shl (.int i) (.int j) μ Q = (CShl i j ∧ Q (.int (i * 2 ^ j.toNat)) μ) := rfl
theorem b_addBI {p : Bool} : binW .add (.bl p) (.int j) μ Q = Q (.int ((if p then 1 else 0) + j)) μ := rfl
theorem b_addBB {p q : Bool} : binW .add (.bl p) (.bl q) μ Q = Q (.int ((if p then 1 else 0) + (if q then 1 else 0))) μ := rfl
theorem b_subBI {p : Bool} : binW .sub (.bl p) (.int j) μ Q = Q (.int ((if p then 1 else 0) - j)) μ := rfl
theorem b_mulS {x : Str} : binW .mul (.str x) (.int i) μ Q = (MulOk x i ∧ Q (.str (Txt.mul x i)) μ) := rfl
theorem b_mulT : binW .mul (.tup ds) (.int i) μ Q = (-(2 ^ 63) ≤ i ∧ i < 2 ^ 63 ∧ ds.length * i.toNat ≤ sizeLine ∧ Q (.tup (List.replicate i.toNat ds).flatten) μ) := rfl
theorem b_addLL : binW .add (.lst ds) (.lst es) μ Q = (ds.length + es.length ≤ sizeLine ∧ Q (.lst (ds ++ es)) μ) := by
  show (∃ a b, some ds = some a ∧ some es = some b ∧ _ ∧ newL false (a ++ b) μ Q) = _
  simp [newL]
theorem b_addOL {p : Addr} : binW .add (.obj p) (.lst es) μ Q = withL μ p fun ds => (ds.length + es.length ≤ sizeLine ∧ Q (.lst (ds ++ es)) μ) := by
  show (∃ a b, seqR μ (.obj p) = some a ∧ some es = some b ∧ _ ∧ newL false (a ++ b) μ Q) = _
  unfold withL seqR newL
  cases e : Mu.get μ p with
  | none => simp [e]
  | some m => cases m <;> simp [e]
theorem b_mulO : binW .mulO (.lst ds) (.int i) μ Q = (-(2 ^ 63) ≤ i ∧ i < 2 ^ 63 ∧ ds.length * i.toNat ≤ sizeLine ∧ newL true (List.replicate i.toNat ds).flatten μ Q) := by
  show (∃ a, some ds = some a ∧ _) = _
  simp
theorem b_mulL : binW .mul (.lst ds) (.int i) μ Q = (-(2 ^ 63) ≤ i ∧ i < 2 ^ 63 ∧ ds.length * i.toNat ≤ sizeLine ∧ Q (.lst (List.replicate i.toNat ds).flatten) μ) := by
  show (∃ a, some ds = some a ∧ _ ∧ _ ∧ _ ∧ newL false _ μ Q) = _
  simp [newL]
theorem u_add : augW .add (.int i) (.int j) μ Q = Q (.int (i + j)) μ := rfl
theorem u_sub : augW .sub (.int i) (.int j) μ Q = Q (.int (i - j)) μ := rfl
theorem u_mul : augW .mul (.int i) (.int j) μ Q = (IntMulOk i j ∧ Q (.int (i * j)) μ) := rfl
variable {k : Bool → Prop}
theorem c_lt : cmpW .lt (.int i) (.int j) μ k = k (decide (i < j)) := rfl
theorem c_le : cmpW .le (.int i) (.int j) μ k = k (decide (i ≤ j)) := rfl
theorem c_gt : cmpW .gt (.int i) (.int j) μ k = k (decide (j < i)) := rfl
theorem c_ge : cmpW .ge (.int i) (.int j) μ k = k (decide (j ≤ i)) := rfl
theorem c_eq : cmpW .eq (.int i) (.int j) μ k = k (decide (i = j)) := rfl
theorem c_ne : cmpW .ne (.int i) (.int j) μ k = k (!decide (i = j)) := rfl
theorem c_eqB {p q : Bool} : cmpW .eq (.bl p) (.bl q) μ k = k (decide (p = q)) := rfl
theorem c_neB {p q : Bool} : cmpW .ne (.bl p) (.bl q) μ k = k (!decide (p = q)) := rfl
theorem c_eqS {p q : Str} : cmpW .eq (.str p) (.str q) μ k = k (decide (p = q)) := rfl
theorem c_neS {p q : Str} : cmpW .ne (.str p) (.str q) μ k = k (!decide (p = q)) := rfl
theorem c_eqT : cmpW .eq (.tup ds) (.tup es) μ k = eqG μ (.tup ds) (.tup es) k := rfl
theorem c_neT : cmpW .ne (.tup ds) (.tup es) μ k = eqG μ (.tup ds) (.tup es) fun b => k (!b) := rfl
theorem c_isBt {p q : Bool} : cmpW (.isB q) (.bl p) y μ k = k (decide (p = q)) := rfl
theorem c_notBt {p q : Bool} : cmpW (.notB q) (.bl p) y μ k = k (!decide (p = q)) := rfl
/-- in a row of flat things, item by item -/
def inK (x : D) (ds : List D) (k : Bool → Prop) : Prop := flB x = true ∧ ds.all flB = true ∧ k (inD x ds)
theorem c_isNo {p : Addr} : cmpW .isN (.obj p) y μ k = k false := rfl
theorem c_noNo {p : Addr} : cmpW .notN (.obj p) y μ k = k true := rfl
theorem c_isE {n : Str} {ns : List Str} : cmpW .isN (.exc n ns ds) y μ k = k false := rfl
theorem c_noE {n : Str} {ns : List Str} : cmpW .notN (.exc n ns ds) y μ k = k true := rfl
theorem c_isC {n : Str} {t : Bool} : cmpW .isN (.cls n t) y μ k = k false := rfl
theorem c_inT : cmpW .isin x (.tup ds) μ k = inK x ds k := by
  show (∃ es, some ds = some es ∧ _) = _
  simp [inK]
theorem c_inL : cmpW .isin x (.lst ds) μ k = inK x ds k := by
  show (∃ es, some ds = some es ∧ _) = _
  simp [inK]
theorem c_inK : cmpW .isin x (.klst ds) μ k = inK x ds k := by
  show (∃ es, some ds = some es ∧ _) = _
  simp [inK]
theorem c_inS {p q : Str} : cmpW .isin (.str p) (.str q) μ k = k (!(Builtin.Str.occurrences q p 0 q.length 1).isEmpty) := rfl
theorem c_noT : cmpW .notin x (.tup ds) μ k = inK x ds fun b => k (!b) := c_inT
theorem c_noL : cmpW .notin x (.lst ds) μ k = inK x ds fun b => k (!b) := c_inL
theorem c_noK : cmpW .notin x (.klst ds) μ k = inK x ds fun b => k (!b) := c_inK
theorem c_inO {p : Addr} : cmpW .isin x (.obj p) μ k = withL μ p fun ds => inK x ds k := by
  show (∃ es, seqA μ (.obj p) = some es ∧ _) = _
  rw [show seqA μ (.obj p) = match Mu.get μ p with | some (.lst ds) => some ds | _ => none by unfold seqA seqT seqL; rfl]
  unfold withL inK
  cases e : Mu.get μ p with
  | none => simp [e]
  | some m => cases m <;> simp [e]
theorem c_noO {p : Addr} : cmpW .notin x (.obj p) μ k = withL μ p fun ds => inK x ds fun b => k (!b) := c_inO
theorem inK_s0 {p : Str} : inK (.str p) [] k = k false := by simp [inK, inD, flB]
theorem inK_sc {p q : Str} : inK (.str p) (.str q :: ds) k = inK (.str p) ds fun b => k (decide (q = p) || b) := by
  simp [inK, inD, flB, eqF]
theorem inK_i0 {p : Int} : inK (.int p) [] k = k false := by simp [inK, inD, flB]
theorem inK_ic {p q : Int} : inK (.int p) (.int q :: ds) k = inK (.int p) ds fun b => k (decide (q = p) || b) := by
  simp [inK, inD, flB, eqF]
theorem h_inI {n : Int} {ns : List Int} : inK (.int n) (ns.map D.int) k = k (decide (n ∈ ns)) := by
  have h1 : ∀ ns : List Int, (ns.map D.int).all flB = true := fun ns => by
    induction ns with
    | nil => rfl
    | cons a r ih => rw [List.map_cons, List.all_cons, ih]; rfl
  have h2 : ∀ ns : List Int, inD (.int n) (ns.map D.int) = decide (n ∈ ns) := fun ns => by
    induction ns with
    | nil => simp [inD]
    | cons a r ih =>
      unfold inD at ih ⊢
      rw [List.map_cons, List.any_cons, ih]
      simp [eqF, eq_comm, Bool.decide_or]
  simp [inK, h1, h2, flB]
theorem condB_o {a b : Bool} {A B : Prop} : condB (a || b) A B = condB a A (condB b A B) := by cases a <;> rfl
theorem x_tup : idxW (.tup ds) (.int i) μ Q = ∃ d, atI ds i = some d ∧ Q d μ := by
  show (∃ es d, some ds = some es ∧ _) = _
  simp
theorem x_lst : idxW (.lst ds) (.int i) μ Q = ∃ d, atI ds i = some d ∧ Q d μ := by
  show (∃ es d, some ds = some es ∧ _) = _
  simp
theorem x_klst : idxW (.klst ds) (.int i) μ Q = ∃ d, atI ds i = some d ∧ Q d μ := by
  show (∃ es d, some ds = some es ∧ _) = _
  simp
/-- the item at a written place -/
def atK (ds : List D) (i : Int) (k : D → Prop) : Prop := ∃ d, atI ds i = some d ∧ k d
theorem atK_0 {k : D → Prop} : atK (d :: ds) 0 k = k d := by
  unfold atK
  rw [show atI (d :: ds) 0 = some d from atI_nat (j := 0) rfl]
  simp
theorem atK_1 {d1 : D} {k : D → Prop} : atK (d :: d1 :: ds) 1 k = k d1 := by
  unfold atK
  rw [show atI (d :: d1 :: ds) 1 = some d1 from atI_nat (j := 1) rfl]
  simp
theorem atK_2 {d1 d2 : D} {k : D → Prop} : atK (d :: d1 :: d2 :: ds) 2 k = k d2 := by
  unfold atK
  rw [show atI (d :: d1 :: d2 :: ds) 2 = some d2 from atI_nat (j := 2) rfl]
  simp
theorem atK_3 {d1 d2 d3 : D} {k : D → Prop} : atK (d :: d1 :: d2 :: d3 :: ds) 3 k = k d3 := by
  unfold atK
  rw [show atI (d :: d1 :: d2 :: d3 :: ds) 3 = some d3 from atI_nat (j := 3) rfl]
  simp
theorem x_tupK : idxW (.tup ds) (.int i) μ Q = atK ds i fun d => Q d μ := x_tup
theorem x_lstK : idxW (.lst ds) (.int i) μ Q = atK ds i fun d => Q d μ := x_lst
theorem x_klstK : idxW (.klst ds) (.int i) μ Q = atK ds i fun d => Q d μ := x_klst
theorem seqA_obj {p : Addr} : seqA μ (.obj p) = match Mu.get μ p with | some (.lst ds) => some ds | _ => none := by
  unfold seqA seqT seqL
  rfl
theorem x_obj {p : Addr} : idxW (.obj p) (.int i) μ Q = withL μ p fun ds => atK ds i fun d => Q d μ := by
  show (∃ es d, seqA μ (.obj p) = some es ∧ _) = _
  rw [seqA_obj]
  unfold withL atK
  cases e : Mu.get μ p with
  | none => simp [e]
  | some m => cases m <;> simp [e]
theorem l_tup : biW .len [.tup ds] μ Q = Q (.int ds.length) μ := by
  show (∃ es, some ds = some es ∧ _) = _
  simp
theorem l_lst : biW .len [.lst ds] μ Q = Q (.int ds.length) μ := by
  show (∃ es, some ds = some es ∧ _) = _
  simp
theorem l_klst : biW .len [.klst ds] μ Q = Q (.int ds.length) μ := by
  show (∃ es, some ds = some es ∧ _) = _
  simp
theorem l_obj {p : Addr} : biW .len [.obj p] μ Q = withL μ p fun ds => Q (.int ds.length) μ := by
  show (∃ es, seqA μ (.obj p) = some es ∧ _) = _
  rw [seqA_obj]
  unfold withL
  cases e : Mu.get μ p with
  | none => simp [e]
  | some m => cases m <;> simp [e]
theorem l_str {p : Str} : biW .len [.str p] μ Q = (p.length ≤ sizeLine ∧ Q (.int p.length) μ) := rfl
theorem f_str : biW .str [.int i] μ Q = (i.natAbs.log2 < 1920 ∧ Q (.str (toString i)) μ) := rfl
theorem f_abs : biW .abs [.int i] μ Q = Q (.int (if i < 0 then -i else i)) μ := rfl
theorem f_min : biW .min2 [.int i, .int j] μ Q = Q (.int (if j < i then j else i)) μ := rfl
theorem f_max3 {k : Int} : biW .max3 [.int i, .int j, .int k] μ Q = Q (.int (max (max i j) k)) μ := rfl
theorem f_max : biW .max2 [.int i, .int j] μ Q = Q (.int (if j > i then j else i)) μ := rfl
theorem f_bool : biW .bool [.int i] μ Q = Q (.bl (i != 0)) μ := rfl
theorem f_int : biW .int [.int i] μ Q = Q (.int i) μ := rfl
theorem f_intB {p : Bool} : biW .int [.bl p] μ Q = Q (.int (if p then 1 else 0)) μ := rfl
theorem f_divmod : biW .divmod [.int i, .int j] μ Q = (DivOk i j ∧ Q (.tup [.int (i / j), .int (i % j)]) μ) := rfl
theorem f_tupT : biW .tuple [.tup ds] μ Q = Q (.tup ds) μ := by
  show (∃ es, some ds = some es ∧ _) = _
  simp
theorem f_tupL : biW .tuple [.lst ds] μ Q = Q (.tup ds) μ := by
  show (∃ es, some ds = some es ∧ _) = _
  simp
theorem f_tupK : biW .tuple [.klst ds] μ Q = Q (.tup ds) μ := by
  show (∃ es, some ds = some es ∧ _) = _
  simp
theorem f_tupO {p : Addr} : biW .tuple [.obj p] μ Q = withL μ p fun ds => Q (.tup ds) μ := by
  show (∃ es, seqA μ (.obj p) = some es ∧ _) = _
  rw [seqA_obj]
  unfold withL
  cases e : Mu.get μ p with
  | none => simp [e]
  | some m => cases m <;> simp [e]
theorem s_tup {lo hi : Option Int} : slW false (.tup ds) lo hi μ Q = Q (.tup (cutD ds lo hi)) μ := rfl
theorem s_tupO {lo hi : Option Int} : slW true (.tup ds) lo hi μ Q = Q (.tup (cutD ds lo hi)) μ := rfl
theorem s_lst {lo hi : Option Int} : slW false (.lst ds) lo hi μ Q = Q (.lst (cutD ds lo hi)) μ := by
  show (∃ es, some ds = some es ∧ newL false _ μ Q) = _
  simp [newL]
theorem s_klst {lo hi : Option Int} : slW false (.klst ds) lo hi μ Q = Q (.lst (cutD ds lo hi)) μ := by
  show (∃ es, some ds = some es ∧ newL false _ μ Q) = _
  simp [newL]
theorem s_obj {p : Addr} {lo hi : Option Int} : slW false (.obj p) lo hi μ Q = withL μ p fun ds => Q (.lst (cutD ds lo hi)) μ := by
  show (∃ es, seqL μ (.obj p) = some es ∧ newL false _ μ Q) = _
  unfold withL seqL newL
  cases e : Mu.get μ p with
  | none => simp [e]
  | some m => cases m <;> simp [e]
theorem v_revT : revW (.tup ds) μ Q = Q (.tup ds.reverse) μ := rfl
theorem v_revL : revW (.lst ds) μ Q = Q (.lst ds.reverse) μ := by
  show (∃ es, some ds = some es ∧ _) = _
  simp
theorem v_revO {p : Addr} : revW (.obj p) μ Q = withL μ p fun ds => Q (.lst ds.reverse) μ := by
  show (∃ es, seqL μ (.obj p) = some es ∧ _) = _
  unfold withL seqL
  cases e : Mu.get μ p with
  | none => simp [e]
  | some m => cases m <;> simp [e]
theorem w_set {p : Addr} {d : D} {k : Mu → Prop} : setW (.obj p) (.int i) d μ k = withL μ p fun ds => ∃ j, ixN ds.length i = some j ∧ putK μ p (ds.set j d) k := by
  unfold withL putK setW
  simp only [exists_and_left]
def getK (ds : List D) (i : Int) (k : D → Prop) : Prop := ∃ d, 0 ≤ i ∧ ds[i.toNat]? = some d ∧ k d
theorem w_get {p : Addr} {k : D → Prop} : getW (.obj p) (.int i) μ k = withL μ p fun ds => getK ds i k := by
  unfold withL getK getW
  simp only [exists_and_left]
/-- a written place is stored -/
def ixK (n : Nat) (i : Int) (k : Nat → Prop) : Prop := ∃ j, ixN n i = some j ∧ k j
theorem w_setK {p : Addr} {d : D} {k : Mu → Prop} : setW (.obj p) (.int i) d μ k = withL μ p fun ds => ixK ds.length i fun j => putK μ p (ds.set j d) k := w_set
theorem m_app {p : Addr} {d : D} : me1W .append (.obj p) d μ Q = withL μ p fun ds => ds.length < sizeLine ∧ putK μ p (ds ++ [d]) fun μ' => Q .non μ' := rfl
theorem r_app {p : Addr} : recvW .append (.obj p) μ = withL μ p fun _ => True := by
  unfold recvW withL seqL
  cases e : Mu.get μ p with
  | none => simp [e]
  | some m => cases m <;> simp [e]
def cntK (x : D) (ds : List D) (k : Int → Prop) : Prop := flB x = true ∧ ds.all flB = true ∧ k (cntD x ds)
theorem m_cntL {d : D} : me1W .count (.lst ds) d μ Q = cntK d ds fun n => Q (.int n) μ := by
  show (∃ es, some ds = some es ∧ _) = _
  simp [cntK]
theorem m_ext {p : Addr} : me1W .extend (.obj p) (.lst ds) μ Q = withL μ p fun es => es.length + ds.length ≤ sizeLine ∧ putK μ p (es ++ ds) fun μ' => Q .non μ' := rfl
theorem r_ext {p : Addr} : recvW .extend (.obj p) μ = withL μ p fun _ => True := by
  unfold recvW withL seqL
  cases e : Mu.get μ p with
  | none => simp [e]
  | some m => cases m <;> simp [e]
theorem r_cntL : recvW .count (.lst ds) μ = True := by
  show ((some ds).isSome = true) = True
  simp
theorem m_cntO {p : Addr} {d : D} : me1W .count (.obj p) d μ Q = withL μ p fun ds => cntK d ds fun n => Q (.int n) μ := by
  show (∃ es, seqL μ (.obj p) = some es ∧ _) = _
  unfold withL cntK seqL
  cases e : Mu.get μ p with
  | none => simp [e]
  | some m => cases m <;> simp [e]
theorem r_cntO {p : Addr} : recvW .count (.obj p) μ = withL μ p fun _ => True := by
  unfold recvW withL seqL
  cases e : Mu.get μ p with
  | none => simp [e]
  | some m => cases m <;> simp [e]
theorem c_eqT0 {ds : List D} {k : Bool → Prop} : cmpW .eqT (.tup ds) (.tup []) μ k = k (decide (ds = [])) := by
  show (∃ c, eqXs ds [] = some c ∧ k (c && ds.length == 0)) = _
  have e : eqXs ds [] = some true := by cases ds <;> rfl
  rw [e]
  have e2 : (true && ds.length == 0) = decide (ds = []) := by cases ds <;> simp
  refine propext ⟨?_, fun h => ⟨true, rfl, by rw [e2]; exact h⟩⟩
  rintro ⟨c, e1, h⟩
  cases e1
  rw [← e2]
  exact h
theorem sl2_L {own b : Bool} : sl2W own b (.lst ds) μ Q = newL own (evJ b ds) μ Q := by
  show (∃ es, some ds = some es ∧ _) = _
  simp
theorem sl2_O {own b : Bool} {p : Addr} : sl2W own b (.obj p) μ Q = withL μ p fun ds => newL own (evJ b ds) μ Q := by
  show (∃ es, seqL μ (.obj p) = some es ∧ _) = _
  unfold withL seqL
  cases e : Mu.get μ p with
  | none => simp [e]
  | some m => cases m <;> simp [e]
def idxK (x : D) (ds : List D) (k : Int → Prop) : Prop := ∃ j z, flB x = true ∧ ds.all flB = true ∧ ds[j]? = some z ∧ eqF z x = true ∧ (∀ m z', m < j → ds[m]? = some z' → eqF z' x = false) ∧ k (j : Nat)
theorem m_idxL {d : D} : me1W .index (.lst ds) d μ Q = idxK d ds fun n => Q (.int n) μ := by
  show (∃ es j z, some ds = some es ∧ _) = _
  simp [idxK]
theorem r_idxL : recvW .index (.lst ds) μ = True := by
  show ((some ds).isSome = true) = True
  simp
theorem m_idxO {p : Addr} {d : D} : me1W .index (.obj p) d μ Q = withL μ p fun ds => idxK d ds fun n => Q (.int n) μ := by
  show (∃ es j z, seqL μ (.obj p) = some es ∧ _) = _
  unfold withL idxK seqL
  cases e : Mu.get μ p with
  | none => simp [e]
  | some m => cases m <;> simp [e]
theorem r_idxO {p : Addr} : recvW .index (.obj p) μ = withL μ p fun _ => True := by
  unfold recvW withL seqL
  cases e : Mu.get μ p with
  | none => simp [e]
  | some m => cases m <;> simp [e]
theorem m_pop {p : Addr} : me0W .pop (.obj p) μ Q = withL μ p fun ds => ∃ d, ds[ds.length - 1]? = some d ∧ putK μ p ds.dropLast fun μ' => Q d μ' := by
  unfold withL putK me0W
  simp only [exists_and_left]
theorem m_popAt {p : Addr} : me1W .pop (.obj p) (.int i) μ Q = ∃ ds k d, Mu.get μ p = some (.lst ds) ∧ -(2 ^ 63) ≤ i ∧ i < 2 ^ 63 ∧ seqIndex? i ds.length = some k ∧ ds[k]? = some d ∧ Q d (Mu.put μ p (.lst (ds.eraseIdx k))) := rfl
theorem r_pop {p : Addr} : recvW .pop (.obj p) μ = withL μ p fun _ => True := by
  unfold recvW withL seqL
  cases e : Mu.get μ p with
  | none => simp [e]
  | some m => cases m <;> simp [e]
theorem n_f : newL false ds μ Q = Q (.lst ds) μ := rfl
theorem n_t : newL true ds μ Q = ∀ p, fresh p μ → Q (.obj p) ((p, .lst ds) :: μ) := rfl
theorem q_tup {L : IQ} : itSeq (.tup ds) μ L = L ds (fun _ => True) μ := by
  show (∃ es, some ds = some es ∧ _) = _
  simp
  rfl
theorem q_lst {L : IQ} : itSeq (.lst ds) μ L = L ds (fun _ => True) μ := by
  show (∃ es, some ds = some es ∧ _) = _
  simp
  rfl
theorem q_klst {L : IQ} : itSeq (.klst ds) μ L = L ds (fun _ => True) μ := by
  show (∃ es, some ds = some es ∧ _) = _
  simp
  rfl
theorem q_r1 {L : IQ} : itRng [.int i] μ L = ((-(2 ^ 62) ≤ i ∧ i < 2 ^ 62) ∧ L (rngL 0 i.toNat) (fun _ => True) μ) := rfl
theorem q_r2 {L : IQ} : itRng [.int i, .int j] μ L = ((-(2 ^ 62) ≤ i ∧ i < 2 ^ 62 ∧ -(2 ^ 62) ≤ j ∧ j < 2 ^ 62) ∧ L (rngL i (j - i).toNat) (fun _ => True) μ) := rfl
theorem g_tup {is : List Nat} {k : DSt → Prop} : tgW (.tup is) (.tup ds) σ k = ∃ σ', setAll is ds σ = some σ' ∧ k σ' := by
  show (∃ es σ', some ds = some es ∧ _) = _
  simp
def setsK : List Nat → List D → DSt → (DSt → Prop) → Prop := fun is ds σ k => ∃ σ', setAll is ds σ = some σ' ∧ k σ'
theorem g_tupK {is : List Nat} {k : DSt → Prop} : tgW (.tup is) (.tup ds) σ k = setsK is ds σ k := g_tup
theorem setsK_n {k : DSt → Prop} : setsK [] [] σ k = k σ := by unfold setsK setAll; simp
theorem setsK_c {n : Nat} {is : List Nat} {k : DSt → Prop} : setsK (n :: is) (d :: ds) σ k = setK σ n d fun σ' => setsK is ds σ' k := rfl
theorem g_name {n : Nat} {k : DSt → Prop} : tgW (.name n) d σ k = setK σ n d k := rfl
theorem for_nil {tg : Tg} {stab : Mu → Prop} {body : DSt → Mu → DEnds → Prop} : forW tg stab body R [] σ μ = R.nx σ μ := rfl
theorem for_cons {tg : Tg} {stab : Mu → Prop} {body : DSt → Mu → DEnds → Prop} : forW tg stab body R (d :: ds) σ μ = tgW tg d σ fun σ1 => body σ1 μ { R with nx := fun σ2 μ2 => stab μ2 ∧ forW tg stab body R ds σ2 μ2, ct := fun σ2 μ2 => stab μ2 ∧ forW tg stab body R ds σ2 μ2, bk := R.nx } := rfl
/-- a for, by a word about the items gone through -/
theorem for_inv {tg : Tg} {stab : Mu → Prop} {body : DSt → Mu → DEnds → Prop} {items : List D} (W : List D → DSt → Mu → Prop) (h0 : W [] σ μ)
    (hs : ∀ pre d post σ μ (N : DSt → Mu → Prop), items = pre ++ d :: post → W pre σ μ → (∀ σ2 μ2, stab μ2 → W (pre ++ [d]) σ2 μ2 → N σ2 μ2) → tgW tg d σ fun σ1 => body σ1 μ { R with nx := N, ct := N, bk := R.nx })
    (hd : ∀ σ μ, W items σ μ → R.nx σ μ) : forW tg stab body R items σ μ := by
  have key : ∀ (post pre : List D) σ μ, items = pre ++ post → W pre σ μ → forW tg stab body R post σ μ := by
    intro post
    induction post with
    | nil => intro pre σ μ e w; rw [List.append_nil] at e; subst e; exact hd σ μ w
    | cons d post ih =>
      intro pre σ μ e w
      exact hs pre d post σ μ (fun σ2 μ2 => stab μ2 ∧ forW tg stab body R post σ2 μ2) e w fun σ2 μ2 st w2 => ⟨st, ih (pre ++ [d]) σ2 μ2 (by rw [e, List.append_assoc]; rfl) w2⟩
  exact key items [] σ μ rfl h0
/-- a comprehension, by a word about the items gone through and what is told so far -/
theorem comp_inv {tg : Tg} {vs : List Nat} {wc : DSt → Mu → (Bool → Mu → Prop) → Prop} {we : DSt → Mu → DQ → Prop} {stab : Mu → Prop} {items : List D} {K : List D → Mu → Prop} (W : List D → List D → Mu → Prop) (h0 : W [] [] μ)
    (hs : ∀ pre d post acc μ (N : List D → Mu → Prop), items = pre ++ d :: post → W pre acc μ → (∀ acc' μ', stab μ' → W (pre ++ [d]) acc' μ' → N acc' μ') → tgW tg d (dwipe σ vs) fun σ1 => wc σ1 μ fun b μ1 => condB b (we σ1 μ1 fun y μ2 => N (acc ++ [y]) μ2) (N acc μ1))
    (hd : ∀ acc μ, W items acc μ → K acc μ) : compW tg vs wc we stab σ items [] μ K := by
  have key : ∀ (post pre acc : List D) μ, items = pre ++ post → W pre acc μ → compW tg vs wc we stab σ post acc μ K := by
    intro post
    induction post with
    | nil => intro pre acc μ e w; rw [List.append_nil] at e; subst e; exact hd acc μ w
    | cons d post ih =>
      intro pre acc μ e w
      exact hs pre d post acc μ (fun acc' μ' => stab μ' ∧ compW tg vs wc we stab σ post acc' μ' K) e w fun acc' μ' st w2 => ⟨st, ih (pre ++ [d]) acc' μ' (by rw [e, List.append_assoc]; rfl) w2⟩
  exact key items [] [] μ rfl h0
/-- a comprehension that tells a thing of each item -/
theorem comp_map {tg : Tg} {vs : List Nat} {wc : DSt → Mu → (Bool → Mu → Prop) → Prop} {we : DSt → Mu → DQ → Prop} {stab : Mu → Prop} {items : List D} {K : List D → Mu → Prop} (f : D → D) (st : stab μ)
    (hs : ∀ d, d ∈ items → ∀ (Q : DQ) (B : Mu → Prop), Q (f d) μ → tgW tg d (dwipe σ vs) fun σ1 => wc σ1 μ fun b μ1 => condB b (we σ1 μ1 Q) (B μ1))
    (hd : K (items.map f) μ) : compW tg vs wc we stab σ items [] μ K := by
  refine comp_inv (fun pre acc μ' => μ' = μ ∧ acc = pre.map f) ⟨rfl, rfl⟩ ?_ ?_
  · rintro pre d post acc μ' N e ⟨e1, rfl⟩ hN
    subst e1
    exact hs d (by rw [e]; exact List.mem_append_right _ List.mem_cons_self) (fun y μ2 => N (pre.map f ++ [y]) μ2) (fun μ1 => N (pre.map f) μ1) (hN _ _ st ⟨rfl, by rw [List.map_append]; rfl⟩)
  · rintro acc μ' ⟨rfl, rfl⟩
    exact hd
end
section
variable {Γ : Nat → DSp} {gl : Nat → D} {μ : Mu} {Q : DQ} {ds es : List D} {k : Bool → Prop} {x : D}
theorem h_isi {t n : String} {b : Bool} (h1 : tyM μ x = some n) (h2 : kitB n t = some b) : isiW t x μ k = k b := by
  unfold isiW
  rw [h1]
  exact propext ⟨fun ⟨n', b', e1, e2, q⟩ => by cases e1; rw [h2] at e2; cases e2; exact q, fun q => ⟨n, b, rfl, h2, q⟩⟩
theorem j_intD  : isiW "int" .dic μ k = k false := h_isi rfl rfl
theorem j_boolD  : isiW "bool" .dic μ k = k false := h_isi rfl rfl
theorem j_strD  : isiW "str" .dic μ k = k false := h_isi rfl rfl
theorem j_tupleD  : isiW "tuple" .dic μ k = k false := h_isi rfl rfl
theorem j_listD  : isiW "list" .dic μ k = k false := h_isi rfl rfl
theorem j_int0  : isiW "int" .dic0 μ k = k false := h_isi rfl rfl
theorem j_bool0  : isiW "bool" .dic0 μ k = k false := h_isi rfl rfl
theorem j_str0  : isiW "str" .dic0 μ k = k false := h_isi rfl rfl
theorem j_tuple0  : isiW "tuple" .dic0 μ k = k false := h_isi rfl rfl
theorem j_list0  : isiW "list" .dic0 μ k = k false := h_isi rfl rfl
theorem j_dict0  : isiW "dict" .dic0 μ k = k true := h_isi rfl rfl
theorem j_dictD  : isiW "dict" .dic μ k = k true := h_isi rfl rfl
theorem j_intN  : isiW "int" (.non) μ k = k false := h_isi rfl rfl
theorem j_intB {p : Bool} : isiW "int" (.bl p) μ k = k true := h_isi rfl rfl
theorem j_intI {i : Int} : isiW "int" (.int i) μ k = k true := h_isi rfl rfl
theorem j_intS {p : Str} : isiW "int" (.str p) μ k = k false := h_isi rfl rfl
theorem j_intT  : isiW "int" (.tup ds) μ k = k false := h_isi rfl rfl
theorem j_intL  : isiW "int" (.lst ds) μ k = k false := h_isi rfl rfl
theorem j_intK  : isiW "int" (.klst ds) μ k = k false := h_isi rfl rfl
theorem j_boolN  : isiW "bool" (.non) μ k = k false := h_isi rfl rfl
theorem j_boolB {p : Bool} : isiW "bool" (.bl p) μ k = k true := h_isi rfl rfl
theorem j_boolI {i : Int} : isiW "bool" (.int i) μ k = k false := h_isi rfl rfl
theorem j_boolS {p : Str} : isiW "bool" (.str p) μ k = k false := h_isi rfl rfl
theorem j_boolT  : isiW "bool" (.tup ds) μ k = k false := h_isi rfl rfl
theorem j_boolL  : isiW "bool" (.lst ds) μ k = k false := h_isi rfl rfl
theorem j_boolK  : isiW "bool" (.klst ds) μ k = k false := h_isi rfl rfl
theorem j_strN  : isiW "str" (.non) μ k = k false := h_isi rfl rfl
theorem j_strB {p : Bool} : isiW "str" (.bl p) μ k = k false := h_isi rfl rfl
theorem j_strI {i : Int} : isiW "str" (.int i) μ k = k false := h_isi rfl rfl
theorem j_strS {p : Str} : isiW "str" (.str p) μ k = k true := h_isi rfl rfl
theorem j_strT  : isiW "str" (.tup ds) μ k = k false := h_isi rfl rfl
theorem j_strL  : isiW "str" (.lst ds) μ k = k false := h_isi rfl rfl
theorem j_strK  : isiW "str" (.klst ds) μ k = k false := h_isi rfl rfl
theorem j_tupleN  : isiW "tuple" (.non) μ k = k false := h_isi rfl rfl
theorem j_tupleB {p : Bool} : isiW "tuple" (.bl p) μ k = k false := h_isi rfl rfl
theorem j_tupleI {i : Int} : isiW "tuple" (.int i) μ k = k false := h_isi rfl rfl
theorem j_tupleS {p : Str} : isiW "tuple" (.str p) μ k = k false := h_isi rfl rfl
theorem j_tupleT  : isiW "tuple" (.tup ds) μ k = k true := h_isi rfl rfl
theorem j_tupleL  : isiW "tuple" (.lst ds) μ k = k false := h_isi rfl rfl
theorem j_tupleK  : isiW "tuple" (.klst ds) μ k = k false := h_isi rfl rfl
theorem j_listN  : isiW "list" (.non) μ k = k false := h_isi rfl rfl
theorem j_listB {p : Bool} : isiW "list" (.bl p) μ k = k false := h_isi rfl rfl
theorem j_listI {i : Int} : isiW "list" (.int i) μ k = k false := h_isi rfl rfl
theorem j_listS {p : Str} : isiW "list" (.str p) μ k = k false := h_isi rfl rfl
theorem j_listT  : isiW "list" (.tup ds) μ k = k false := h_isi rfl rfl
theorem j_listL  : isiW "list" (.lst ds) μ k = k true := h_isi rfl rfl
theorem j_listK  : isiW "list" (.klst ds) μ k = k true := h_isi rfl rfl
theorem j_dictN  : isiW "dict" (.non) μ k = k false := h_isi rfl rfl
theorem j_dictB {p : Bool} : isiW "dict" (.bl p) μ k = k false := h_isi rfl rfl
theorem j_dictI {i : Int} : isiW "dict" (.int i) μ k = k false := h_isi rfl rfl
theorem j_dictS {p : Str} : isiW "dict" (.str p) μ k = k false := h_isi rfl rfl
theorem j_dictT  : isiW "dict" (.tup ds) μ k = k false := h_isi rfl rfl
theorem j_dictL  : isiW "dict" (.lst ds) μ k = k false := h_isi rfl rfl
theorem j_dictK  : isiW "dict" (.klst ds) μ k = k false := h_isi rfl rfl
theorem v_listT : biW .list [.tup ds] μ Q = Q (.lst ds) μ := by
  show (∃ es, some ds = some es ∧ newL false es μ Q) = _
  simp [newL]
theorem v_listL : biW .list [.lst ds] μ Q = Q (.lst ds) μ := by
  show (∃ es, some ds = some es ∧ newL false es μ Q) = _
  simp [newL]
theorem v_listOT : biW .listO [.tup ds] μ Q = newL true ds μ Q := by
  show (∃ es, some ds = some es ∧ newL true es μ Q) = _
  simp
theorem v_listK : biW .list [.klst ds] μ Q = Q (.lst ds) μ := by
  show (∃ es, some ds = some es ∧ newL false es μ Q) = _
  simp [newL]
theorem v_listOK : biW .listO [.klst ds] μ Q = newL true ds μ Q := by
  show (∃ es, some ds = some es ∧ newL true es μ Q) = _
  simp
theorem v_listOL : biW .listO [.lst ds] μ Q = newL true ds μ Q := by
  show (∃ es, some ds = some es ∧ newL true es μ Q) = _
  simp
theorem v_addLO {p : Addr} : binW .add (.lst ds) (.obj p) μ Q = withL μ p fun es => ds.length + es.length ≤ sizeLine ∧ Q (.lst (ds ++ es)) μ := by
  show (∃ a b, some ds = some a ∧ seqR μ (.obj p) = some b ∧ a.length + b.length ≤ sizeLine ∧ newL false (a ++ b) μ Q) = _
  rw [show seqR μ (.obj p) = match Mu.get μ p with | some (.lst ds) => some ds | _ => none by unfold seqR; rfl]
  unfold withL
  cases e : Mu.get μ p with
  | none => simp [e]
  | some m => cases m <;> simp [e, newL]
theorem v_addOL {p : Addr} : binW .add (.obj p) (.lst ds) μ Q = withL μ p fun es => es.length + ds.length ≤ sizeLine ∧ Q (.lst (es ++ ds)) μ := by
  show (∃ a b, seqR μ (.obj p) = some a ∧ some ds = some b ∧ a.length + b.length ≤ sizeLine ∧ newL false (a ++ b) μ Q) = _
  rw [show seqR μ (.obj p) = match Mu.get μ p with | some (.lst ds) => some ds | _ => none by unfold seqR; rfl]
  unfold withL
  cases e : Mu.get μ p with
  | none => simp [e]
  | some m => cases m <;> simp [e, newL]
theorem v_addOo {es : List D} : binW .addO (.lst ds) (.lst es) μ Q = (ds.length + es.length ≤ sizeLine ∧ ∀ p, fresh p μ → Q (.obj p) ((p, .lst (ds ++ es)) :: μ)) := by
  show (∃ a b, some ds = some a ∧ some es = some b ∧ a.length + b.length ≤ sizeLine ∧ newL true (a ++ b) μ Q) = _
  simp [newL]
theorem v_addB {i : Int} {p : Bool} : binW .add (.int i) (.bl p) μ Q = Q (.int (i + (if p then 1 else 0))) μ := rfl
theorem v_addS {p q : Str} : binW .add (.str p) (.str q) μ Q = (p.length + q.length ≤ sizeLine ∧ Q (.str (p ++ q)) μ) := rfl
theorem h_asInts {ns : List Int} : asInts (ns.map D.int) = some ns := by
  induction ns with
  | nil => rfl
  | cons n ns ih => show (asInts (ns.map D.int)).map _ = _; rw [ih]; rfl
theorem vv_sum {ns : List Int} : biW .sum [.lst (ns.map D.int)] μ Q = Q (.int ns.sum) μ := by
  show (∃ es ms, some (ns.map D.int) = some es ∧ asInts es = some ms ∧ _) = _
  have : ∀ es, some (ns.map D.int) = some es ↔ es = ns.map D.int := fun es => ⟨fun h => (Option.some.inj h).symm, fun h => by rw [h]⟩
  simp [this, h_asInts]
theorem h_sumT {ns : List Int} : biW .sum [.tup (ns.map D.int)] μ Q = Q (.int ns.sum) μ := by
  show (∃ es ms, some (ns.map D.int) = some es ∧ asInts es = some ms ∧ _) = _
  have : ∀ es, some (ns.map D.int) = some es ↔ es = ns.map D.int := fun es => ⟨fun h => (Option.some.inj h).symm, fun h => by rw [h]⟩
  simp [this, h_asInts]
theorem h_sorted {ns : List Int} (h : ∀ ns' : List Int, ns'.Perm ns → ns'.Pairwise (· ≤ ·) → Q (.lst (ns'.map D.int)) μ) : biW .sorted [.lst (ns.map D.int)] μ Q := ⟨_, _, rfl, h_asInts, h⟩
theorem h_asBls {bs : List Bool} : asBls (bs.map D.bl) = some bs := by
  induction bs with
  | nil => rfl
  | cons n ns ih => show (asBls (ns.map D.bl)).map _ = _; rw [ih]; rfl
theorem vv_all {bs : List Bool} : biW .all [.lst (bs.map D.bl)] μ Q = Q (.bl (bs.all id)) μ := by
  show (∃ es ms, some (bs.map D.bl) = some es ∧ asBls es = some ms ∧ _) = _
  have : ∀ es, some (bs.map D.bl) = some es ↔ es = bs.map D.bl := fun es => ⟨fun h => (Option.some.inj h).symm, fun h => by rw [h]⟩
  simp [this, h_asBls]
theorem vv_any {bs : List Bool} : biW .any [.lst (bs.map D.bl)] μ Q = Q (.bl (bs.any id)) μ := by
  show (∃ es ms, some (bs.map D.bl) = some es ∧ asBls es = some ms ∧ _) = _
  have : ∀ es, some (bs.map D.bl) = some es ↔ es = bs.map D.bl := fun es => ⟨fun h => (Option.some.inj h).symm, fun h => by rw [h]⟩
  simp [this, h_asBls]
end
section
variable {n : Nat} {i : Int} {k : Nat → Prop} {ds : List D} {K : D → Prop}
theorem k_ix0 : ixK (n + 1) 0 k = k 0 := by
  unfold ixK ixN
  rw [if_pos (by omega), if_pos (by omega)]
  simp
theorem k_ix1 : ixK (n + 2) 1 k = k 1 := by
  unfold ixK ixN
  rw [if_pos (by omega), if_pos (by omega)]
  simp
theorem k_ix2 : ixK (n + 3) 2 k = k 2 := by
  unfold ixK ixN
  rw [if_pos (by omega), if_pos (by omega)]
  simp
theorem k_ix3 : ixK (n + 4) 3 k = k 3 := by
  unfold ixK ixN
  rw [if_pos (by omega), if_pos (by omega)]
  simp
theorem h_ix (h0 : 0 ≤ i) (h1 : i < n) (q : k i.toNat) : ixK n i k := by
  unfold ixK ixN
  rw [if_pos h0, if_pos h1]
  exact ⟨_, rfl, q⟩
theorem h_at (h0 : 0 ≤ i) (h1 : i < ds.length) (q : K (ds[i.toNat]'(by omega))) : atK ds i K := by
  refine ⟨_, ?_, q⟩
  unfold atI ixN
  rw [if_pos h0, if_pos h1]
  exact List.getElem?_eq_getElem _
theorem h_atI {ns : List Int} (h0 : 0 ≤ i) (h1 : i < ns.length) (q : K (.int (ns.getD i.toNat 0))) : atK (ns.map D.int) i K := by
  refine h_at h0 (by rw [List.length_map]; exact h1) ?_
  rw [List.getElem_map]
  rw [List.getD_eq_getElem?_getD, List.getElem?_eq_getElem (by omega)] at q
  exact q
theorem h_atL (d : D) (q : K d) : atK (ds ++ [d]) (-1) K := ⟨d, atI_last _ _, q⟩
/-- a sequence's place, told from either end -/
theorem atK_one {d : D} : atK [d] (-1) K = K d := by
  refine propext ⟨fun ⟨x, h, q⟩ => ?_, fun q => h_atL (ds := []) d q⟩
  rw [show atI [d] (-1) = some d from atI_last [] d] at h
  cases h
  exact q
theorem h_len {μ : Mu} {Q : DQ} {α : Type} {f : α → D} {xs : List α} : biW .len [.klst (xs.map f)] μ Q = Q (.int xs.length) μ := by rw [l_klst, List.length_map]
theorem h_pow10 {j : Int} (h0 : 0 ≤ j) (h1 : j ≤ 1000000) : CPow 10 j := ⟨h0, h1, by decide⟩
end
/-! ### products and quotients whose sizes are small -/
theorem h_mulL {a b : Int} (h1 : -(2 ^ 63) ≤ a) (h2 : a < 2 ^ 63) : IntMulOk a b := .of_left (intBits_le_64 (by omega) (by omega))
theorem h_mulR {a b : Int} (h1 : -(2 ^ 63) ≤ b) (h2 : b < 2 ^ 63) : IntMulOk a b := .of_right (intBits_le_64 (by omega) (by omega))
theorem h_01 {p : Prop} [Decidable p] : 0 ≤ (if p then (1 : Int) else 0) ∧ (if p then (1 : Int) else 0) ≤ 1 := by
  by_cases h : p
  · rw [if_pos h]; decide
  · rw [if_neg h]; decide
theorem h_mul01 {a : Int} {p : Prop} [Decidable p] : IntMulOk a (if p then (1 : Int) else 0) := by
  have h := h_01 (p := p)
  exact h_mulR (by omega) (by omega)
theorem h_div {a b : Int} (h1 : 0 < b) (h2 : b < 2 ^ 63) : DivOk a b := by
  refine ⟨h1, ?_⟩
  unfold Builtin.divisionGoesByPylong
  have e : ¬ (b == 0) = true := by simp; omega
  have e2 : b.natAbs.log2 < 63 := by
    have hn : b.natAbs < 2 ^ 63 := by omega
    exact (Nat.log2_lt (by omega)).mpr hn
  simp only [e]
  have : decide (b.natAbs.log2 / 30 + 1 > 300) = false := decide_eq_false (by omega)
  simp [this]
section
variable {Γ : Nat → DSp} {gl : Nat → D} {σ : DSt} {μ : Mu} {Q : DQ} {E : DE} {Ed : DXE} {R : DEnds} {ds : List D} {S : DSp}
theorem h_wh {t : T} {p : Ss} (W : Nat → DSt → Mu → Prop) (m : Nat) (h0 : W m σ μ) (hs : ∀ m σ1 μ1 (N : DSt → Mu → Prop), W m σ1 μ1 → (∀ m' σ2 μ2, m' < m → W m' σ2 μ2 → N σ2 μ2) → wpT Γ gl t σ1 μ1 (fun k μ2 => condB k (wpSs Γ gl p σ1 μ2 { R with nx := N, ct := N, bk := R.nx } Ed) (R.nx σ1 μ2)) (fun x μ' => Ed x σ1 μ')) : wpM Γ gl (.wh t p) σ μ R Ed :=
  ⟨W, ⟨m, h0⟩, fun m σ μ w => hs m σ μ (fun σ' μ' => ∃ m', m' < m ∧ W m' σ' μ') w fun m' σ2 μ2 l w => ⟨m', l, w⟩⟩
theorem h_rngMid {lo : Int} {n : Nat} {pre post : List D} {d : D} (e : rngL lo n = pre ++ d :: post) : d = .int (lo + (pre.length : Int)) ∧ pre.length < n := by
  have hl : (rngL lo n).length = n := by unfold rngL; rw [List.length_map, List.length_range]
  have h1 : pre.length < n := by
    rw [← hl, e, List.length_append, List.length_cons]; omega
  refine ⟨?_, h1⟩
  have h2 : (rngL lo n)[pre.length]? = some d := by
    rw [e, List.getElem?_append_right (Nat.le_refl _), Nat.sub_self]; rfl
  unfold rngL at h2
  rw [List.getElem?_map, List.getElem?_range h1] at h2
  exact (Option.some.inj h2).symm
theorem for_rng {tg : Tg} {stab : Mu → Prop} {body : DSt → Mu → DEnds → Prop} {lo : Int} {n : Nat} (W : Nat → DSt → Mu → Prop) (h0 : W 0 σ μ)
    (hs : ∀ (i : Nat) σ μ (N : DSt → Mu → Prop), i < n → W i σ μ → (∀ σ2 μ2, stab μ2 → W (i + 1) σ2 μ2 → N σ2 μ2) → tgW tg (.int (lo + (i : Int))) σ fun σ1 => body σ1 μ { R with nx := N, ct := N, bk := R.nx })
    (hd : ∀ σ μ, W n σ μ → R.nx σ μ) : forW tg stab body R (rngL lo n) σ μ := by
  refine for_inv (fun pre => W pre.length) h0 ?_ ?_
  · intro pre d post σ μ N e w hN
    obtain ⟨rfl, h⟩ := h_rngMid e
    refine hs _ σ μ N h w fun σ2 μ2 st w2 => hN σ2 μ2 st ?_
    rw [List.length_append]
    exact w2
  · intro σ μ w
    refine hd σ μ ?_
    unfold rngL at w
    rw [List.length_map, List.length_range] at w
    exact w
theorem h_call0 (h : S ds [] (fun d μ' => Q d (μ' ++ μ)) (fun x μ' => E x (μ' ++ μ))) : callW S ds μ Q E := ⟨[], μ, List.Perm.refl _, h⟩
theorem h_callN0 (h : S ds [] (fun d μ' => ((μ' ++ μ).map (·.1)).Nodup → Q d (μ' ++ μ)) (fun x μ' => E x (μ' ++ μ))) : callWN S ds μ Q E := ⟨[], μ, List.Perm.refl _, h⟩
theorem h_callA (h : S ds μ (fun d μ' => Q d (μ' ++ [])) (fun x μ' => E x (μ' ++ []))) : callW S ds μ Q E := ⟨μ, [], by rw [List.append_nil], h⟩
theorem h_call1 {x : Addr × MO} (h : S ds [x] (fun d μ' => Q d (μ' ++ μ)) (fun y μ' => E y (μ' ++ μ))) : callW S ds (x :: μ) Q E := ⟨[x], μ, List.Perm.refl _, h⟩
theorem h_call2 {x y : Addr × MO} (h : S ds [y] (fun d μ' => Q d (μ' ++ x :: μ)) (fun z μ' => E z (μ' ++ x :: μ))) : callW S ds (x :: y :: μ) Q E := ⟨[y], x :: μ, List.Perm.swap _ _ _, h⟩
theorem h_call3 {x y z : Addr × MO} (h : S ds [z] (fun d μ' => Q d (μ' ++ x :: y :: μ)) (fun w μ' => E w (μ' ++ x :: y :: μ))) : callW S ds (x :: y :: z :: μ) Q E := ⟨[z], x :: y :: μ, (List.Perm.cons x (List.Perm.swap _ _ _)).trans (List.Perm.swap _ _ _), h⟩
end
theorem h_cutLe {ds : List D} {lo hi : Option Int} : (cutD ds lo hi).length ≤ ds.length := by
  unfold cutD
  rw [List.length_take, List.length_drop]
  omega
theorem h_take {ds : List D} {k : Int} (h : 0 ≤ k) : cutD ds none (some k) = ds.take k.toNat := by
  unfold cutD HT.sIx
  simp only [List.drop_zero, Nat.sub_zero]
  rw [if_neg (by omega)]
  rw [← List.take_eq_take_min]
theorem h_drop {ds : List D} {k : Int} (h : 0 ≤ k) : cutD ds (some k) none = ds.drop k.toNat := by
  unfold cutD HT.sIx
  simp only []
  rw [if_neg (by omega)]
  rw [List.take_of_length_le (by rw [List.length_drop]; omega)]
  by_cases e : k.toNat ≤ ds.length
  · rw [Nat.min_eq_left e]
  · rw [Nat.min_eq_right (by omega), List.drop_length, List.drop_eq_nil_of_le (by omega)]
theorem Out.here {Q : DQ} {d : D} {μ : Mu} (h : Q d μ) : Out Q d μ := .inl ⟨μ, List.Sublist.refl _, h⟩
theorem Out.bare {Q : DQ} {d : D} {μ : Mu} (h : Q d []) : Out Q d μ := .inl ⟨[], List.nil_sublist _, h⟩
theorem Out.less {Q : DQ} {d : D} {x : Addr × MO} {μ : Mu} (h : Out Q d μ) : Out Q d (x :: μ) := by
  rcases h with ⟨μ2, s, q⟩ | ⟨a, ds, μr, μ2, e, p, s, q⟩
  · exact .inl ⟨μ2, s.cons _, q⟩
  · exact .inr ⟨a, ds, x :: μr, μ2, e, (p.cons x).trans (List.Perm.swap _ _ _), s.cons _, q⟩
theorem Out.fz {Q : DQ} {a : Addr} {ds : List D} {μ μ2 : Mu} (s : List.Sublist μ2 μ) (h : Q (.lst ds) μ2) : Out Q (.obj a) ((a, .lst ds) :: μ) := .inr ⟨a, ds, μ, μ2, rfl, List.Perm.refl _, s, h⟩
end DL

namespace DL
open PySem PySem.Spec L2

/-! ### what many laws' helpers are -/
theorem h_dwipe0 {σ : DSt} : dwipe σ [] = σ := rfl
theorem h_dwipe1 {σ : DSt} {v : Nat} {vs : List Nat} : dwipe σ (v :: vs) = (dwipe σ vs).set v none := rfl
theorem h_atAll {ds : List D} {i : Int} {K : D → Prop} (h0 : 0 ≤ i) (h1 : i < ds.length) (q : ∀ d, d ∈ ds → K d) : atK ds i K := h_at h0 h1 (q _ (List.getElem_mem _))
def inB (lo hi : Int) (d : D) : Bool := match d with
  | .int n => decide (lo ≤ n) && decide (n < hi)
  | _ => false
theorem h_atB {ds : List D} {i : Int} {K : D → Prop} (lo hi : Int) (h0 : 0 ≤ i) (h1 : i < ds.length) (h : ds.all (inB lo hi) = true) (q : ∀ n, lo ≤ n → n < hi → K (.int n)) : atK ds i K := by
  refine h_atAll h0 h1 fun d hd => ?_
  have h2 := List.all_eq_true.mp h d hd
  cases d with
  | int n =>
    have h3 := Bool.and_eq_true_iff.mp h2
    exact q n (of_decide_eq_true h3.1) (of_decide_eq_true h3.2)
  | _ => cases h2
/-- a bag of figures to draw from: three numbers -/
def isBox (o : MO) : Prop := ∃ a b c : Int, o = .lst [.int a, .int b, .int c] ∧ 0 ≤ b ∧ b < 2147483648
def sp_cell : DSp := fun ds μ Q _ => ∃ (ns : List Int) (k : Int), ds = [.klst (ns.map D.int), .int k] ∧ 0 ≤ k ∧ ∀ n, Q (.int n) μ
def sp_mk : DSp := fun ds μ Q _ => ∃ (ns : List Int) (k : Int), ds = [.klst (ns.map D.int), .int k] ∧ μ = [] ∧ 0 ≤ k ∧ k < 100000 ∧ ∀ o p, isBox o → Q (.obj p) [(p, o)]
def sp_take : DSp := fun ds μ Q _ => ∃ p o m, ds = [.obj p, .int m] ∧ μ = [(p, o)] ∧ isBox o ∧ 0 < m ∧ m < 2 ^ 63 ∧ ∀ t o', 0 ≤ t → t < m → isBox o' → Q (.int t) [(p, o')]
/-- a number drawn, between two others -/
def sp_draw (lo hi : Int) : DSp := fun ds μ Q _ => ∃ p o, ds = [.obj p] ∧ μ = [(p, o)] ∧ isBox o ∧ ∀ t o', lo ≤ t → t < hi → isBox o' → Q (.int t) [(p, o')]
/-- a for whose turns are alike -/
theorem for_each {σ : DSt} {μ : Mu} {R : DEnds} {tg : Tg} {stab : Mu → Prop} {body : DSt → Mu → DEnds → Prop} {items : List D} (P : D → Prop) (W : DSt → Mu → Prop) (hP : ∀ d, d ∈ items → P d) (h0 : W σ μ)
    (hs : ∀ d σ μ (N : DSt → Mu → Prop), P d → W σ μ → (∀ σ2 μ2, stab μ2 → W σ2 μ2 → N σ2 μ2) → tgW tg d σ fun σ1 => body σ1 μ { R with nx := N, ct := N, bk := R.nx })
    (hd : ∀ σ μ, W σ μ → R.nx σ μ) : forW tg stab body R items σ μ :=
  for_inv (fun _ => W) h0 (fun pre d post σ μ N e w hN => hs d σ μ N (hP d (by rw [e]; exact List.mem_append_right _ List.mem_cons_self)) w hN) hd
theorem h_size {n : Nat} (h : n ≤ 16777216) : n ≤ sizeLine := by rw [sizeLine_eq]; exact h
section
variable {σ : DSt} {μ : Mu} {ds es acc : List D} {d : D} {Q : DQ}
theorem q_comp0 {tg : Tg} {vs : List Nat} {wc : DSt → Mu → (Bool → Mu → Prop) → Prop} {we : DSt → Mu → DQ → Prop} {stab : Mu → Prop} {K : List D → Mu → Prop} : compW tg vs wc we stab σ [] acc μ K = K acc μ := rfl
theorem q_compS {tg : Tg} {vs : List Nat} {wc : DSt → Mu → (Bool → Mu → Prop) → Prop} {we : DSt → Mu → DQ → Prop} {stab : Mu → Prop} {K : List D → Mu → Prop} : compW tg vs wc we stab σ (d :: ds) acc μ K = tgW tg d (dwipe σ vs) fun σ1 => wc σ1 μ fun b μ1 => condB b (we σ1 μ1 fun y μ2 => stab μ2 ∧ compW tg vs wc we stab σ ds (acc ++ [y]) μ2 K) (stab μ1 ∧ compW tg vs wc we stab σ ds acc μ1 K) := rfl
theorem q_zipTT {L : IQ} : itZip (.tup ds) (.tup es) μ L = L ((ds.zip es).map fun p => D.tup [p.1, p.2]) (fun _ => True ∧ True) μ := by
  refine propext ⟨?_, fun h => ⟨ds, es, rfl, rfl, h⟩⟩
  rintro ⟨ds', es', e1, e2, h⟩
  cases e1
  cases e2
  exact h
theorem q_zipLT {L : IQ} : itZip (.lst ds) (.tup es) μ L = L ((ds.zip es).map fun p => D.tup [p.1, p.2]) (fun _ => True ∧ True) μ := by
  refine propext ⟨?_, fun h => ⟨ds, es, rfl, rfl, h⟩⟩
  rintro ⟨ds', es', e1, e2, h⟩
  cases e1
  cases e2
  exact h
theorem q_zipTL {L : IQ} : itZip (.tup ds) (.lst es) μ L = L ((ds.zip es).map fun p => D.tup [p.1, p.2]) (fun _ => True ∧ True) μ := by
  refine propext ⟨?_, fun h => ⟨ds, es, rfl, rfl, h⟩⟩
  rintro ⟨ds', es', e1, e2, h⟩
  cases e1
  cases e2
  exact h
theorem q_zipLL {L : IQ} : itZip (.lst ds) (.lst es) μ L = L ((ds.zip es).map fun p => D.tup [p.1, p.2]) (fun _ => True ∧ True) μ := by
  refine propext ⟨?_, fun h => ⟨ds, es, rfl, rfl, h⟩⟩
  rintro ⟨ds', es', e1, e2, h⟩
  cases e1
  cases e2
  exact h
theorem q_zipTTT {fs : List D} {L : IQ} : itZip3 (.tup ds) (.tup es) (.tup fs) μ L = L ((ds.zip (es.zip fs)).map fun p => D.tup [p.1, p.2.1, p.2.2]) (fun _ => True ∧ True ∧ True) μ := by
  refine propext ⟨?_, fun h => ⟨ds, es, fs, rfl, rfl, rfl, h⟩⟩
  rintro ⟨ds', es', fs', e1, e2, e3, h⟩
  cases e1
  cases e2
  cases e3
  exact h
theorem h_zipOT {a : Addr} {L : IQ} (hg : Mu.get μ a = some (.lst ds)) (q : L ((ds.zip es).map fun p => D.tup [p.1, p.2]) (fun μ' => stands (.obj a) ds μ' ∧ True) μ) : itZip (.obj a) (.tup es) μ L := by
  refine ⟨ds, es, ?_, rfl, q⟩
  rw [seqA_obj, hg]
theorem q_seqO {a : Addr} {L : IQ} : itSeq (.obj a) μ L = withL μ a fun ds => L ds (stands (.obj a) ds) μ := by
  show (∃ es, seqA μ (.obj a) = some es ∧ _) = _
  rw [seqA_obj]
  unfold withL
  cases e : Mu.get μ a with
  | none => simp [e]
  | some m => cases m <;> simp [e]
theorem h_stand {a : Addr} : stands (.obj a) ds ((a, .lst ds) :: μ) := by
  show Mu.get _ a = _
  unfold Mu.get
  simp [List.lookup_cons]
theorem q_all2 {p q : Bool} : biW .all [.lst [.bl p, .bl q]] μ Q = Q (.bl (p && q)) μ := by
  have h := vv_all (μ := μ) (Q := Q) (bs := [p, q])
  simp only [List.map_cons, List.map_nil, List.all_cons, List.all_nil, id, Bool.and_true] at h
  exact h
theorem q_revTT {L : IQ} : itRev (.tup ds) μ L = L ds.reverse (fun _ => True) μ := by
  refine propext ⟨?_, fun h => ⟨ds, rfl, h⟩⟩
  rintro ⟨ds', e1, h⟩
  cases e1
  exact h
theorem q_revLL {L : IQ} : itRev (.lst ds) μ L = L ds.reverse (fun _ => True) μ := by
  refine propext ⟨?_, fun h => ⟨ds, rfl, h⟩⟩
  rintro ⟨ds', e1, h⟩
  cases e1
  exact h
end
/-! ### rows of numbers, compared -/
theorem h_pdsI : ∀ ns : List Int, pds (ns.map D.int) = ns.map PyData.int
  | [] => rfl
  | n :: ns => by rw [List.map_cons, List.map_cons, pds, h_pdsI ns]; rfl
theorem h_canI : ∀ ns : List Int, PyData.canLayAll0 (ns.map PyData.int) = true
  | [] => rfl
  | n :: ns => by rw [List.map_cons, PyData.canLayAll0, h_canI ns]; rfl
theorem h_depI : ∀ ns : List Int, PyData.depthAll (ns.map PyData.int) = 0
  | [] => rfl
  | n :: ns => by rw [List.map_cons, PyData.depthAll, h_depI ns]; rfl
theorem h_eqvI : ∀ ns ms : List Int, PyData.eqvAll (ns.map PyData.int) (ms.map PyData.int) = decide (ns = ms)
  | [], [] => rfl
  | [], m :: ms => by rw [List.map_nil, List.map_cons, PyData.eqvAll]; simp
  | n :: ns, [] => by rw [List.map_nil, List.map_cons, PyData.eqvAll]; simp
  | n :: ns, m :: ms => by
    rw [List.map_cons, List.map_cons, PyData.eqvAll, h_eqvI ns ms, PyData.eqv]
    by_cases h : n = m
    · subst h; simp
    · simp [h]
theorem h_shI (ns : List Int) : SeqAt.shaped (pd (.tup (ns.map D.int))) = true := by
  rw [pd, h_pdsI]
  unfold SeqAt.shaped
  rw [PyData.canLay0, h_canI, PyData.depth, h_depI]
  decide
section
variable {μ : Mu} {k : Bool → Prop} {ns ms ls : List Int} {i j a b : Int}
theorem q_II : eqG μ (.tup (ns.map D.int)) (.tup (ms.map D.int)) k = k (decide (ns = ms)) := by
  unfold eqG
  rw [show pdm μ (.tup (ns.map D.int)) = pd (.tup (ns.map D.int)) from rfl, show pdm μ (.tup (ms.map D.int)) = pd (.tup (ms.map D.int)) from rfl, h_shI, h_shI, pd, pd, h_pdsI, h_pdsI, PyData.eqv, h_eqvI]
  simp
theorem q_I0 : eqG μ (.tup (ns.map D.int)) (.tup []) k = k (decide (ns = [])) := q_II (ms := [])
theorem q_0I : eqG μ (.tup []) (.tup (ns.map D.int)) k = k (decide ([] = ns)) := q_II (ns := [])
theorem q_00 : eqG μ (.tup []) (.tup []) k = k true := q_II (ns := []) (ms := [])
theorem q_22 : eqG μ (.tup [.int i, .int j]) (.tup [.int a, .int b]) k = k (decide (i = a ∧ j = b)) := by
  have h := q_II (μ := μ) (k := k) (ns := [i, j]) (ms := [a, b])
  simp only [List.map_cons, List.map_nil, List.cons.injEq, and_true] at h
  exact h
theorem q_P : eqG μ (.tup [.tup (ns.map D.int), .tup (ms.map D.int)]) (.tup [.tup [], .tup (ls.map D.int)]) k = k (decide (ns = [] ∧ ms = ls)) := by
  have sh : ∀ xs ys : List Int, SeqAt.shaped (pd (.tup [.tup (xs.map D.int), .tup (ys.map D.int)])) = true := fun xs ys => by
    simp only [pd, pds, h_pdsI]
    unfold SeqAt.shaped
    simp only [PyData.canLay0, PyData.canLayAll0, h_canI, PyData.depth, PyData.depthAll, h_depI]
    decide
  unfold eqG
  rw [show pdm μ (.tup [.tup (ns.map D.int), .tup (ms.map D.int)]) = pd (.tup [.tup (ns.map D.int), .tup (ms.map D.int)]) from rfl, show pdm μ (.tup [.tup [], .tup (ls.map D.int)]) = pd (.tup [.tup (([] : List Int).map D.int), .tup (ls.map D.int)]) from rfl, sh, sh]
  simp only [pd, pds, h_pdsI, PyData.eqv, PyData.eqvAll, h_eqvI, true_and, Bool.and_true]
  rw [Bool.decide_and]
theorem q_NN : cmpW .ne .non .non μ k = k false := by
  show (SeqAt.shaped .none = true ∧ SeqAt.shaped .none = true ∧ k (!(PyData.eqv .none .none))) = _
  rw [show SeqAt.shaped .none = true from rfl, show PyData.eqv .none .none = true from rfl]
  simp
theorem q_isNN : cmpW .isN .non .non μ k = k true := rfl
theorem q_isNT {ds : List D} : cmpW .isN (.tup ds) .non μ k = k false := rfl
theorem q_noNN : cmpW .notN .non .non μ k = k false := rfl
theorem q_noNT {ds : List D} : cmpW .notN (.tup ds) .non μ k = k true := rfl
end
theorem h_ixL {n : Nat} {k : Nat → Prop} (h : 0 < n) (q : k (n - 1)) : ixK n (-1) k := by
  refine ⟨n - 1, ?_, q⟩
  unfold ixN
  rw [if_neg (by decide), if_pos (by omega)]
  congr 1
  omega
theorem h_neO {a : Addr} {ns : List Int} {μ : Mu} {k : Bool → Prop} : cmpW .ne (.obj a) (.lst []) ((a, .lst (ns.map D.int)) :: μ) k = k (!decide (ns = [])) := by
  show (SeqAt.shaped (pdm ((a, .lst (ns.map D.int)) :: μ) (.obj a)) = true ∧ SeqAt.shaped (.list []) = true ∧ k (!(PyData.eqv (pdm ((a, .lst (ns.map D.int)) :: μ) (.obj a)) (.list [])))) = _
  have e : pdm ((a, .lst (ns.map D.int)) :: μ) (.obj a) = .list (ns.map PyData.int) := by
    show (match Mu.get ((a, MO.lst (ns.map D.int)) :: μ) a with | some (.lst ds) => PyData.list (pds ds) | _ => .dict []) = _
    unfold Mu.get
    simp only [List.lookup_cons, beq_self_eq_true, h_pdsI]
  have sh : SeqAt.shaped (.list (ns.map PyData.int)) = true := by
    unfold SeqAt.shaped
    rw [PyData.canLay0, h_canI, PyData.depth, h_depI]
    decide
  rw [e, sh, show SeqAt.shaped (.list []) = true from rfl, PyData.eqv, show ([] : List PyData) = ([] : List Int).map PyData.int from rfl, h_eqvI]
  simp
theorem h_pop {a : Addr} {ds : List D} {d : D} {μ : Mu} {Q : DQ} (q : Q d ((a, .lst ds) :: μ)) : me0W .pop (.obj a) ((a, .lst (ds ++ [d])) :: μ) Q := by
  rw [m_pop, withL_z]
  refine ⟨d, by simp, ?_⟩
  rw [List.dropLast_concat, putK_z]
  exact q
theorem h_bits {x : Int} {m : Nat} (h0 : 0 ≤ x) (h : x < 2 ^ m) : Builtin.Int.intBits x ≤ m := by
  unfold Builtin.Int.intBits
  split
  · exact Nat.zero_le _
  · have hn : x.natAbs < 2 ^ m := by
      have : ((x.natAbs : Nat) : Int) < ((2 ^ m : Nat) : Int) := by
        rw [Int.natAbs_of_nonneg h0]
        rw [Int.natCast_pow]
        exact h
      exact Int.ofNat_lt.mp this
    by_cases hx : x.natAbs = 0
    · have : x = 0 := Int.natAbs_eq_zero.mp hx
      subst this
      rename_i h3
      exact absurd rfl h3
    · have : x.natAbs.log2 < m := (Nat.log2_lt hx).mpr hn
      omega
theorem h_mulBig {a b : Int} {m n : Nat} (a0 : 0 ≤ a) (a1 : a < 2 ^ m) (b0 : 0 ≤ b) (b1 : b < 2 ^ n) (h : m + n ≤ 134217728) : IntMulOk a b := by
  have ha := h_bits a0 a1
  have hb := h_bits b0 b1
  have hc : Builtin.Int.intTooBig (Builtin.Int.intBits a + Builtin.Int.intBits b) = false := by
    unfold Builtin.Int.intTooBig bitsLine
    exact decide_eq_false (by omega)
  unfold IntMulOk
  rw [hc]
  simp
/-! ### rows: what they are worth, without noughts at their end -/
def worth (b : Int) : List Int → Int
  | [] => 0
  | x :: xs => x + b * worth b xs
def stripZ : List Int → List Int
  | [] => []
  | x :: xs => if x = 0 ∧ stripZ xs = [] then [] else x :: stripZ xs
theorem stripZ_snoc0 : ∀ xs : List Int, stripZ (xs ++ [0]) = stripZ xs
  | [] => by simp [stripZ]
  | x :: xs => by rw [List.cons_append, stripZ, stripZ, stripZ_snoc0 xs]
theorem stripZ_snoc {d : Int} (h : d ≠ 0) : ∀ xs : List Int, stripZ (xs ++ [d]) = xs ++ [d]
  | [] => by simp [stripZ, h]
  | x :: xs => by rw [List.cons_append, stripZ, stripZ_snoc h xs]; simp
theorem stripZ_rep : ∀ n : Nat, stripZ (List.replicate n 0) = []
  | 0 => rfl
  | n + 1 => by rw [List.replicate_succ, stripZ, stripZ_rep n]; simp
theorem worth_stripZ (b : Int) : ∀ xs : List Int, worth b (stripZ xs) = worth b xs
  | [] => rfl
  | x :: xs => by
    rw [stripZ]
    have ih := worth_stripZ b xs
    split
    · rename_i h
      rw [h.2] at ih
      rw [worth, worth, ← ih, h.1, worth]
      simp
    · rw [worth, worth, ih]
theorem worth_cut (b : Int) : ∀ (n : Nat) (xs : List Int), worth b (xs.take n) + b ^ n * worth b (xs.drop n) = worth b xs
  | 0, xs => by simp [worth]
  | n + 1, [] => by simp [worth]
  | n + 1, x :: xs => by
    rw [List.take_succ_cons, List.drop_succ_cons, worth, worth, ← worth_cut b n xs, Int.pow_succ, Int.mul_add]
    have : b ^ n * b * worth b (List.drop n xs) = b * (b ^ n * worth b (List.drop n xs)) := by rw [Int.mul_comm (b ^ n) b, Int.mul_assoc]
    rw [this]
    omega
def digs (b : Int) (xs : List Int) : Prop := ∀ x ∈ xs, 0 ≤ x ∧ x < b
theorem worth_lt {b : Int} (hb : 1 ≤ b) : ∀ {xs : List Int}, digs b xs → 0 ≤ worth b xs ∧ worth b xs < b ^ xs.length
  | [], _ => by simp [worth]
  | x :: xs, h => by
    have h1 := h x List.mem_cons_self
    have ih := worth_lt hb (xs := xs) fun y hy => h y (List.mem_cons_of_mem _ hy)
    rw [worth, List.length_cons, Int.pow_succ]
    have h2 : 0 ≤ b * worth b xs := Int.mul_nonneg (by omega) ih.1
    have h3 : b * (worth b xs + 1) ≤ b * b ^ xs.length := Int.mul_le_mul_of_nonneg_left (by omega) (by omega)
    rw [Int.mul_add, Int.mul_one, Int.mul_comm b (b ^ xs.length)] at h3
    omega
theorem pow_lt2 {b : Int} (h0 : 0 ≤ b) (h1 : b ≤ 2 ^ 20) : ∀ n : Nat, 0 ≤ b ^ n ∧ b ^ n ≤ 2 ^ (20 * n)
  | 0 => by simp
  | n + 1 => by
    have ih := pow_lt2 h0 h1 n
    rw [Int.pow_succ, Nat.mul_succ, Int.pow_add]
    exact ⟨Int.mul_nonneg ih.1 h0, Int.mul_le_mul ih.2 h1 h0 (Int.le_trans ih.1 ih.2)⟩
theorem digs_take {b : Int} {xs : List Int} (n : Nat) (h : digs b xs) : digs b (xs.take n) := fun x hx => h x (List.mem_of_mem_take hx)
theorem digs_drop {b : Int} {xs : List Int} (n : Nat) (h : digs b xs) : digs b (xs.drop n) := fun x hx => h x (List.mem_of_mem_drop hx)
def sp_worth : DSp := fun ds μ Q _ => ∃ (b : Int) (ns : List Int), ds = [.int b, .tup (ns.map D.int)] ∧ 0 ≤ b ∧ b < 2 ^ 62 ∧ Q (.int (worth b ns)) μ
/-- a row handed out by the law's own drawing -/
def sp_row (most : Int) : DSp := fun ds μ Q _ => ∃ p o b m, ds = [.obj p, .int b, .int m] ∧ μ = [(p, o)] ∧ isBox o ∧ 2 ≤ b ∧ b ≤ 1000001 ∧ 0 ≤ m ∧ m ≤ most ∧ ∀ ns o', digs b ns → (ns.length : Int) ≤ m → (∀ z, ns ≠ z ++ [0]) → isBox o' → Q (.tup (ns.map D.int)) [(p, o')]
def sp_is : DSp := fun ds μ Q _ => ∃ ns : List Int, ds = [.tup (ns.map D.int), .tup (ns.map D.int)] ∧ ns.length < 1000000 ∧ Q (.bl true) μ
theorem h_atP {ds : List D} {i : Int} {K : D → Prop} (P : Int → Prop) (h0 : 0 ≤ i) (h1 : i < ds.length) (h : ∀ d, d ∈ ds → ∃ n : Int, d = .int n ∧ P n) (q : ∀ n, P n → K (.int n)) : atK ds i K := by
  refine h_atAll h0 h1 fun d hd => ?_
  obtain ⟨n, rfl, hn⟩ := h d hd
  exact q n hn
theorem h_get2 {p a : Addr} {o m : MO} {μ : Mu} (ne : p ≠ a) : Mu.get ((p, o) :: (a, m) :: μ) a = some m := by
  unfold Mu.get
  have e : (a == p) = false := beq_eq_false_iff_ne.mpr (Ne.symm ne)
  simp [List.lookup_cons, e]
theorem h_neOm {a : Addr} {ns : List Int} {μ : Mu} {k : Bool → Prop} (hg : Mu.get μ a = some (.lst (ns.map D.int))) : cmpW .ne (.obj a) (.lst []) μ k = k (!decide (ns = [])) := by
  show (SeqAt.shaped (pdm μ (.obj a)) = true ∧ SeqAt.shaped (.list []) = true ∧ k (!(PyData.eqv (pdm μ (.obj a)) (.list [])))) = _
  have e : pdm μ (.obj a) = .list (ns.map PyData.int) := by
    show (match Mu.get μ a with | some (.lst ds) => PyData.list (pds ds) | _ => .dict []) = _
    rw [hg]
    simp only [h_pdsI]
  have sh : SeqAt.shaped (.list (ns.map PyData.int)) = true := by
    unfold SeqAt.shaped
    rw [PyData.canLay0, h_canI, PyData.depth, h_depI]
    decide
  rw [e, sh, show SeqAt.shaped (.list []) = true from rfl, PyData.eqv, show ([] : List PyData) = ([] : List Int).map PyData.int from rfl, h_eqvI]
  simp
theorem q_I1 {ns : List Int} {i : Int} {μ : Mu} {k : Bool → Prop} : eqG μ (.tup (ns.map D.int)) (.tup [.int i]) k = k (decide (ns = [i])) := q_II (ms := [i])
theorem h_rgc {l m : Nat} (hl : l ≤ 100000) (m1 : 1 ≤ m) (m2 : m ≤ 3) : RgC 0 (l : Int) (m : Int) ((l + m - 1) / m) := by
  have hs := PyProof.Rows.rangeSize_pos (len := (l : Int)) (c := (m : Int)) (by omega) (by omega)
  have e : ((l : Int) + (m : Int) - 1) / (m : Int) = (((l + m - 1) / m : Nat) : Int) := by
    have : ((l : Int) + (m : Int) - 1) = ((l + m - 1 : Nat) : Int) := by omega
    rw [this]
    rfl
  have b1 : (l + m - 1) / m ≤ l + m - 1 := Nat.div_le_self _ _
  refine ⟨by omega, by omega, ?_, by rw [hs, e]⟩
  have gt : (m : Int) > 0 := by omega
  have h3 : m = 1 ∨ m = 2 ∨ m = 3 := by omega
  unfold Builtin.Range.small
  rw [hs, e]
  generalize (l + m - 1) / m = g at *
  simp only [Builtin.Range.rangeFitsLong, Bool.and_eq_true, Bool.or_eq_true, decide_eq_true_eq, beq_iff_eq, gt, if_true]
  rcases h3 with rfl | rfl | rfl <;> (try split) <;> omega
theorem h_cutN {ds : List D} {i n : Nat} {a b : Int} (ha : a = (i : Int)) (hb : b = (i : Int) + (n : Int)) : cutD ds (some a) (some b) = (ds.drop i).take n := by
  subst ha hb
  unfold cutD HT.sIx
  simp only []
  rw [if_neg (by omega), if_neg (by omega)]
  rw [Int.toNat_natCast, show ((i : Int) + (n : Int)).toNat = i + n by omega]
  by_cases h : i ≤ ds.length
  · rw [Nat.min_eq_left h, List.take_eq_take_iff, List.length_drop]
    omega
  · rw [List.drop_eq_nil_of_le (show ds.length ≤ min i ds.length by omega), List.drop_eq_nil_of_le (show ds.length ≤ i by omega), List.take_nil, List.take_nil]
theorem for_map {σ : DSt} {μ : Mu} {R : DEnds} {tg : Tg} {stab : Mu → Prop} {body : DSt → Mu → DEnds → Prop} {f : Nat → D} {n : Nat} (W : Nat → DSt → Mu → Prop) (h0 : W 0 σ μ)
    (hs : ∀ (i : Nat) σ μ (N : DSt → Mu → Prop), i < n → W i σ μ → (∀ σ2 μ2, stab μ2 → W (i + 1) σ2 μ2 → N σ2 μ2) → tgW tg (f i) σ fun σ1 => body σ1 μ { R with nx := N, ct := N, bk := R.nx })
    (hd : ∀ σ μ, W n σ μ → R.nx σ μ) : forW tg stab body R ((List.range n).map f) σ μ := by
  refine for_inv (fun pre => W pre.length) h0 ?_ ?_
  · intro pre d post σ μ N e w hN
    have hl : ((List.range n).map f).length = n := by rw [List.length_map, List.length_range]
    have h1 : pre.length < n := by rw [← hl, e, List.length_append, List.length_cons]; omega
    have h2 : ((List.range n).map f)[pre.length]? = some d := by rw [e, List.getElem?_append_right (Nat.le_refl _), Nat.sub_self]; rfl
    rw [List.getElem?_map, List.getElem?_range h1] at h2
    have h3 : f pre.length = d := Option.some.inj h2
    subst h3
    refine hs _ σ μ N h1 w fun σ2 μ2 st w2 => hN σ2 μ2 st ?_
    rw [List.length_append]
    exact w2
  · intro σ μ w
    refine hd σ μ ?_
    rw [List.length_map, List.length_range] at w
    exact w
theorem q_enumTT {ds : List D} {μ : Mu} {L : IQ} : itEnum (.tup ds) μ L = L (ds.mapIdx fun (i : Nat) d => D.tup [.int (i : Int), d]) (fun _ => True) μ := by
  refine propext ⟨?_, fun h => ⟨ds, rfl, h⟩⟩
  rintro ⟨ds', e1, h⟩
  cases e1
  exact h
theorem q_enumLL {ds : List D} {μ : Mu} {L : IQ} : itEnum (.lst ds) μ L = L (ds.mapIdx fun (i : Nat) d => D.tup [.int (i : Int), d]) (fun _ => True) μ := by
  refine propext ⟨?_, fun h => ⟨ds, rfl, h⟩⟩
  rintro ⟨ds', e1, h⟩
  cases e1
  exact h
theorem q_enumOL {a : Addr} {μ : Mu} {L : IQ} : itEnum (.obj a) μ L = withL μ a fun ds => L (ds.mapIdx fun (i : Nat) d => D.tup [.int (i : Int), d]) (stands (.obj a) ds) μ := by
  show (∃ es, seqA μ (.obj a) = some es ∧ _) = _
  rw [seqA_obj]
  unfold withL
  cases e : Mu.get μ a with
  | none => simp [e]
  | some m => cases m <;> simp [e]
theorem withL_of {μ : Mu} {a : Addr} {ds : List D} {k : List D → Prop} (h : Mu.get μ a = some (.lst ds)) : withL μ a k = k ds := by
  unfold withL
  rw [h]
  exact propext ⟨fun ⟨_, e, q⟩ => by cases e; exact q, fun q => ⟨_, rfl, q⟩⟩
theorem h_divB {a b : Int} {m : Nat} (h1 : 0 < b) (h2 : b < 2 ^ m) (h3 : m ≤ 8900) : DivOk a b := by
  refine ⟨h1, ?_⟩
  unfold Builtin.divisionGoesByPylong
  have e : ¬ (b == 0) = true := by simp; omega
  have e2 : b.natAbs.log2 < m := by
    have hn : b.natAbs < 2 ^ m := by
      have : ((b.natAbs : Nat) : Int) < ((2 ^ m : Nat) : Int) := by
        rw [Int.natAbs_of_nonneg (by omega), Int.natCast_pow]
        exact h2
      exact Int.ofNat_lt.mp this
    exact (Nat.log2_lt (by omega)).mpr hn
  simp only [e]
  have : decide (b.natAbs.log2 / 30 + 1 > 300) = false := decide_eq_false (by omega)
  simp [this]
theorem q_PP {μ : Mu} {k : Bool → Prop} {ns ms as ls : List Int} : eqG μ (.tup [.tup (ns.map D.int), .tup (ms.map D.int)]) (.tup [.tup (as.map D.int), .tup (ls.map D.int)]) k = k (decide (ns = as ∧ ms = ls)) := by
  have sh : ∀ xs ys : List Int, SeqAt.shaped (pd (.tup [.tup (xs.map D.int), .tup (ys.map D.int)])) = true := fun xs ys => by
    simp only [pd, pds, h_pdsI]
    unfold SeqAt.shaped
    simp only [PyData.canLay0, PyData.canLayAll0, h_canI, PyData.depth, PyData.depthAll, h_depI]
    decide
  unfold eqG
  rw [show pdm μ (.tup [.tup (ns.map D.int), .tup (ms.map D.int)]) = pd (.tup [.tup (ns.map D.int), .tup (ms.map D.int)]) from rfl, show pdm μ (.tup [.tup (as.map D.int), .tup (ls.map D.int)]) = pd (.tup [.tup (as.map D.int), .tup (ls.map D.int)]) from rfl, sh, sh]
  simp only [pd, pds, h_pdsI, PyData.eqv, PyData.eqvAll, h_eqvI, true_and, Bool.and_true]
  rw [Bool.decide_and]
theorem h_enumI (ns : List Int) : ((ns.map D.int).mapIdx fun (i : Nat) d => D.tup [.int (i : Int), d]) = (List.range ns.length).map fun (i : Nat) => D.tup [.int (i : Int), .int (ns.getD i 0)] := by
  refine List.ext_getElem (by simp) fun i h1 h2 => ?_
  have h3 : i < ns.length := by simpa using h1
  simp only [List.getElem_mapIdx, List.getElem_map, List.getElem_range, List.getD_eq_getElem?_getD, List.getElem?_eq_getElem h3]
  rfl
theorem h_atR {f : Nat → D} {n : Nat} {i : Int} {K : D → Prop} (h0 : 0 ≤ i) (h1 : i < n) (q : K (f i.toNat)) : atK ((List.range n).map f) i K := by
  refine h_at h0 (by rw [List.length_map, List.length_range]; exact h1) ?_
  rw [List.getElem_map, List.getElem_range]
  exact q
theorem h_setR {f g : Nat → D} {n k0 : Nat} {v : D} (h : ∀ k, k < n → g k = if k = k0 then v else f k) : ((List.range n).map f).set k0 v = (List.range n).map g := by
  refine List.ext_getElem (by simp) fun i h1 h2 => ?_
  have h3 : i < n := by simpa using h2
  rw [List.getElem_set]
  simp only [List.getElem_map, List.getElem_range, h i h3]
  by_cases e : k0 = i
  · rw [if_pos e, if_pos e.symm]
  · rw [if_neg e, if_neg (Ne.symm e)]
theorem h_bitsS {x : Int} {m : Nat} (h0 : -(2 ^ m) < x) (h : x < 2 ^ m) : Builtin.Int.intBits x ≤ m := by
  have e : Builtin.Int.intBits x = Builtin.Int.intBits (x.natAbs : Int) := by
    unfold Builtin.Int.intBits
    by_cases hx : x = 0
    · subst hx; rfl
    · have h1 : (x == 0) = false := beq_eq_false_iff_ne.mpr hx
      have h2 : ((x.natAbs : Int) == 0) = false := beq_eq_false_iff_ne.mpr (by omega)
      rw [h1, h2]
      rfl
  rw [e]
  exact h_bits (by omega) (by generalize (2 : Int) ^ m = g at *; omega)
theorem h_mulS {a b : Int} {m n : Nat} (a0 : -(2 ^ m) < a) (a1 : a < 2 ^ m) (b0 : -(2 ^ n) < b) (b1 : b < 2 ^ n) (h : m + n ≤ 134217728) : IntMulOk a b := by
  have ha := h_bitsS a0 a1
  have hb := h_bitsS b0 b1
  have hc : Builtin.Int.intTooBig (Builtin.Int.intBits a + Builtin.Int.intBits b) = false := by
    unfold Builtin.Int.intTooBig bitsLine
    exact decide_eq_false (by omega)
  unfold IntMulOk
  rw [hc]
  simp
def sumN : Nat → (Nat → Int) → Int
  | 0, _ => 0
  | n + 1, f => sumN n f + f n
theorem sumN_congr {f g : Nat → Int} : ∀ {n : Nat}, (∀ i, i < n → f i = g i) → sumN n f = sumN n g
  | 0, _ => rfl
  | n + 1, h => by rw [sumN, sumN, sumN_congr (n := n) fun i hi => h i (by omega), h n (by omega)]
theorem sumN_zero : ∀ n : Nat, sumN n (fun _ => 0) = 0
  | 0 => rfl
  | n + 1 => by rw [sumN, sumN_zero n]; rfl
theorem sumN_add (f g : Nat → Int) : ∀ n : Nat, sumN n (fun i => f i + g i) = sumN n f + sumN n g
  | 0 => rfl
  | n + 1 => by rw [sumN, sumN, sumN, sumN_add f g n]; omega
theorem sumN_comm (f : Nat → Nat → Int) (n : Nat) : ∀ m : Nat, sumN m (fun i => sumN n (f i)) = sumN n (fun j => sumN m (fun i => f i j))
  | 0 => (sumN_zero n).symm
  | m + 1 => by
    rw [sumN, sumN_comm f n m, ← sumN_add]
    rfl
theorem sumN_one (g : Nat → Int) (c : Nat) : ∀ n : Nat, sumN n (fun j => if j = c then g j else 0) = if c < n then g c else 0
  | 0 => rfl
  | n + 1 => by
    rw [sumN, sumN_one g c n]
    by_cases h : n = c
    · subst h; simp
    · rw [if_neg h, Int.add_zero]
      by_cases h2 : c < n
      · rw [if_pos h2, if_pos (by omega)]
      · rw [if_neg h2, if_neg (by omega)]
theorem h_getR {f : Nat → D} {n : Nat} {i : Int} {K : D → Prop} (h0 : 0 ≤ i) (h1 : i < n) (q : K (f i.toNat)) : getK ((List.range n).map f) i K := by
  refine ⟨_, h0, ?_, q⟩
  rw [List.getElem?_map, List.getElem?_range (by omega)]
  rfl
theorem sumN_front (f : Nat → Int) : ∀ n : Nat, sumN (n + 1) f = f 0 + sumN n (fun i => f (i + 1))
  | 0 => by simp [sumN]
  | n + 1 => by rw [sumN, sumN_front f n, sumN]; omega
theorem sumN_rev : ∀ (n : Nat) (f : Nat → Int), sumN n (fun i => f (n - 1 - i)) = sumN n f
  | 0, _ => rfl
  | n + 1, f => by
    rw [sumN_front f n, sumN]
    have e : sumN n (fun i => f (n + 1 - 1 - i)) = sumN n (fun i => (fun j => f (j + 1)) (n - 1 - i)) := sumN_congr fun i hi => by
      show f (n + 1 - 1 - i) = f (n - 1 - i + 1)
      congr 1
      omega
    rw [e, sumN_rev n (fun j => f (j + 1)), show n + 1 - 1 - n = 0 by omega]
    omega
/-- how great a number is -/
def bd (m : Nat) (a : Int) : Prop := -(2 ^ m) < a ∧ a < 2 ^ m
theorem bd_mono {m n : Nat} {a : Int} (h : bd m a) (l : m ≤ n) : bd n a := by
  have h1 : (2 : Int) ^ m ≤ 2 ^ n := by
    obtain ⟨k, rfl⟩ := Nat.le.dest l
    rw [Int.pow_add]
    have h1 : (0 : Int) < 2 ^ k := Int.pow_pos (by decide)
    have h2 : (0 : Int) ≤ 2 ^ m := Int.le_of_lt (Int.pow_pos (by decide))
    have := Int.mul_le_mul_of_nonneg_left (show (1 : Int) ≤ 2 ^ k by omega) h2
    omega
  unfold bd at *
  omega
theorem bd_abs {m : Nat} {a : Int} : bd m a ↔ a.natAbs < 2 ^ m := by
  unfold bd
  have e : ((2 ^ m : Nat) : Int) = (2 : Int) ^ m := Int.natCast_pow 2 m
  rw [← e]
  omega
theorem bd_mul {m n : Nat} {a b : Int} (ha : bd m a) (hb : bd n b) : bd (m + n) (a * b) := by
  rw [bd_abs] at *
  rw [Int.natAbs_mul, Nat.pow_add]
  exact Nat.mul_lt_mul'' ha hb
theorem bd_ok {m n : Nat} {a b : Int} (ha : bd m a) (hb : bd n b) (h : m + n ≤ 134217728) : IntMulOk a b := h_mulS ha.1 ha.2 hb.1 hb.2 h
theorem bd_add {m : Nat} {a b : Int} (ha : bd m a) (hb : bd m b) : bd (m + 1) (a + b) := by
  unfold bd at *
  rw [Int.pow_succ]
  omega
theorem bd_sub {m : Nat} {a b : Int} (ha : bd m a) (hb : bd m b) : bd (m + 1) (a - b) := by
  unfold bd at *
  rw [Int.pow_succ]
  omega
theorem bd_neg {m : Nat} {a : Int} (ha : bd m a) : bd m (-a) := by
  unfold bd at *
  omega
theorem bd_div {m : Nat} {a b : Int} (ha : bd m a) : bd m (a / b) := by
  rw [bd_abs] at *
  refine Nat.lt_of_le_of_lt ?_ ha
  exact Int.natAbs_ediv_le_natAbs a b
theorem bd_pow {b : Int} {k : Nat} (h0 : 0 ≤ b) (h1 : b ≤ 2 ^ 20) : bd (20 * k + 1) (b ^ k) := by
  have h := pow_lt2 h0 h1 k
  have e : (2 : Int) ^ (20 * k + 1) = 2 ^ (20 * k) * 2 := Int.pow_succ 2 (20 * k)
  have hp : (0 : Int) < 2 ^ (20 * k) := Int.pow_pos (by decide)
  unfold bd
  rw [e]
  generalize (2 : Int) ^ (20 * k) = g at *
  generalize b ^ k = p at *
  omega
theorem bd_of {m : Nat} {a : Int} (h0 : 0 ≤ a) (h1 : a < 2 ^ m) : bd m a := ⟨by have : (0 : Int) < 2 ^ m := Int.pow_pos (by decide); omega, h1⟩
theorem h_popZ {a : Addr} {d : D} {ds : List D} {μ : Mu} {Q : DQ} (hg : Mu.get μ a = some (.lst (d :: ds))) (q : Q d (Mu.put μ a (.lst ds))) : me1W .pop (.obj a) (.int 0) μ Q := by
  refine ⟨d :: ds, 0, d, hg, by decide, by decide, ?_, rfl, q⟩
  unfold seqIndex?
  simp
theorem h_callB {S : DSp} {ds : List D} {μ : Mu} {Q : DQ} {E : DE} {x y : Addr × MO} (h : S ds [x, y] (fun d μ' => Q d (μ' ++ μ)) (fun z μ' => E z (μ' ++ μ))) : callW S ds (x :: y :: μ) Q E := ⟨[x, y], μ, List.Perm.refl _, h⟩
theorem h_callB1 {S : DSp} {ds : List D} {μ : Mu} {Q : DQ} {E : DE} {w x y : Addr × MO} (h : S ds [x, y] (fun d μ' => Q d (μ' ++ w :: μ)) (fun z μ' => E z (μ' ++ w :: μ))) : callW S ds (w :: x :: y :: μ) Q E := ⟨[x, y], w :: μ, (List.Perm.swap x w _).trans (List.Perm.cons x (List.Perm.swap y w μ)), h⟩
/-! ### instances -/
theorem attr_ins {gl : Nat → D} {μ : Mu} {c n : Str} {ns : List Str} {ds : List D} {d : D} {k : D → Prop} (h1 : attrOk gl c n) (h2 : (ns.zip ds).lookup n = some d) : attrW gl μ (.ins c ns ds) n k = k d := by
  unfold attrW
  refine propext ⟨fun ⟨c', ns', ds', d', e1, _, e2, q⟩ => ?_, fun q => ⟨c, ns, ds, d, rfl, h1, h2, q⟩⟩
  cases e1
  cases e2.symm.trans h2
  exact q
theorem attr_obj {gl : Nat → D} {μ : Mu} {a : Addr} {c n : Str} {ns : List Str} {ds : List D} {d : D} {k : D → Prop} (h0 : Mu.get μ a = some (.ins c ns ds)) (h1 : attrOk gl c n) (h2 : (ns.zip ds).lookup n = some d) : attrW gl μ (.obj a) n k = k d := by
  have e0 : insOf μ (.obj a) = some (c, ns, ds) := by
    show (match Mu.get μ a with | some (.ins c ns ds) => some (c, ns, ds) | _ => none) = _
    rw [h0]
  unfold attrW
  refine propext ⟨fun ⟨c', ns', ds', d', e1, _, e2, q⟩ => ?_, fun q => ⟨c, ns, ds, d, e0, h1, h2, q⟩⟩
  cases e1.symm.trans e0
  cases e2.symm.trans h2
  exact q
theorem fput_z {gl : Nat → D} {μ : Mu} {a : Addr} {c n : Str} {ns ns' : List Str} {ds ds' : List D} {v : D} {k : Mu → Prop} (h1 : attrOk gl c n) (h2 : ns.length < 900) (e1 : putN ns n = ns') (e2 : putX ns ds n v = ds') (q : k ((a, .ins c ns' ds') :: μ)) : fputW gl (.obj a) n v ((a, .ins c ns ds) :: μ) k := by
  subst e1 e2
  refine ⟨c, ns, ds, by unfold Mu.get; simp [List.lookup_cons], h1, h2, ?_⟩
  unfold Mu.put
  rw [if_pos rfl]
  exact q
theorem fput_s {gl : Nat → D} {μ : Mu} {a b : Addr} {m : MO} {n : Str} {v : D} {k : Mu → Prop} (ne : b ≠ a) (q : fputW gl (.obj a) n v μ fun μ' => k ((b, m) :: μ')) : fputW gl (.obj a) n v ((b, m) :: μ) k := by
  obtain ⟨c, ns, ds, h0, h1, h2, q⟩ := q
  refine ⟨c, ns, ds, ?_, h1, h2, ?_⟩
  · unfold Mu.get at h0 ⊢
    rw [List.lookup_cons, beq_eq_false_iff_ne.mpr (Ne.symm ne)]
    exact h0
  · rw [Mu.put, if_neg ne]
    exact q
theorem h_methO {m c : Str} {ns : List Str} {ds : List D} {rs : List (Str × Nat)} {k : Nat → Prop} {μ : Mu} {a : Addr} (j : Nat) (h0 : Mu.get μ a = some (.ins c ns ds)) (hn : m ∉ ns) (hj : (c, j) ∈ rs) (q : k j) : methW m rs (.obj a) k μ := ⟨c, ns, ds, by show (match Mu.get μ a with | some (.ins c ns ds) => some (c, ns, ds) | _ => none) = _; rw [h0], hn, j, hj, q⟩
theorem get_z {a : Addr} {m : MO} {μ : Mu} : Mu.get ((a, m) :: μ) a = some m := by unfold Mu.get; simp [List.lookup_cons]
theorem get_s {a b : Addr} {m : MO} {μ : Mu} (h : b ≠ a) : Mu.get ((b, m) :: μ) a = Mu.get μ a := by
  unfold Mu.get
  rw [List.lookup_cons, beq_eq_false_iff_ne.mpr (Ne.symm h)]
theorem put_z {a : Addr} {m o : MO} {μ : Mu} : Mu.put ((a, m) :: μ) a o = (a, o) :: μ := by rw [Mu.put, if_pos rfl]
theorem put_s {a b : Addr} {m o : MO} {μ : Mu} (h : b ≠ a) : Mu.put ((b, m) :: μ) a o = (b, m) :: Mu.put μ a o := by rw [Mu.put, if_neg h]
theorem Mu.get_perm {a : Addr} {m : MO} : ∀ {μ ν : Mu}, List.Perm μ ν → (ν.map (·.1)).Nodup → Mu.get ν a = some m → Mu.get μ a = some m := fun {μ ν} hp nd h => by
  have hm : (a, m) ∈ μ := hp.mem_iff.mpr (Mu.mem_of_get h)
  have nd2 : (μ.map (·.1)).Nodup := (hp.map _).nodup_iff.mpr nd
  clear h hp nd
  induction μ with
  | nil => cases hm
  | cons x r ih =>
    obtain ⟨b, n⟩ := x
    rw [List.map_cons, List.nodup_cons] at nd2
    unfold Mu.get
    rw [List.lookup_cons]
    rcases List.mem_cons.mp hm with e | hm
    · cases e
      rw [beq_self_eq_true]
    · have ne : a ≠ b := fun z => nd2.1 (by rw [← z]; exact List.mem_map_of_mem (f := (·.1)) hm)
      rw [beq_eq_false_iff_ne.mpr ne]
      exact ih hm nd2.2
theorem put_map {a : Addr} {o : MO} : ∀ {μ : Mu}, (μ.map (·.1)).Nodup → Mu.put μ a o = μ.map fun x => if x.1 = a then (a, o) else x
  | [], _ => rfl
  | (b, m) :: r, nd => by
    have nd := List.nodup_cons.mp nd
    rw [Mu.put, List.map_cons]
    by_cases h : b = a
    · rw [if_pos h]
      dsimp only
      rw [if_pos h]
      subst h
      congr 1
      have key : ∀ r : Mu, b ∉ r.map (·.1) → r = r.map fun x => if x.1 = b then (b, o) else x := by
        intro r
        induction r with
        | nil => intro _; rfl
        | cons y r ih =>
          intro h
          rw [List.map_cons, List.mem_cons, not_or] at h
          rw [List.map_cons, ← ih h.2, if_neg (Ne.symm h.1)]
      exact key r nd.1
    · rw [if_neg h]
      dsimp only
      rw [if_neg h, put_map nd.2]
theorem put_perm {μ ν : Mu} {a : Addr} {o : MO} (hp : List.Perm μ ν) (nd : (ν.map (·.1)).Nodup) : List.Perm (Mu.put μ a o) (Mu.put ν a o) := by
  rw [put_map nd, put_map ((hp.map _).nodup_iff.mpr nd)]
  exact hp.map _
/-- the objects in any order -/
theorem withL_p {μ ν : Mu} {a : Addr} {ds : List D} {k : List D → Prop} (hp : List.Perm μ ν) (nd : (ν.map (·.1)).Nodup) (h : Mu.get ν a = some (.lst ds)) (q : k ds) : withL μ a k := ⟨ds, Mu.get_perm hp nd h, q⟩
theorem putK_p {μ ν : Mu} {a : Addr} {ds : List D} {k : Mu → Prop} (hp : List.Perm μ ν) (nd : (ν.map (·.1)).Nodup) (q : ∀ μ', List.Perm μ' (Mu.put ν a (.lst ds)) → k μ') : putK μ a ds k := q _ (put_perm hp nd)
theorem h_callP {S : DSp} {ds : List D} {μ μp μr : Mu} {Q : DQ} {E : DE} (hp : List.Perm μ (μp ++ μr)) (h : S ds μp (fun d μ' => Q d (μ' ++ μr)) (fun z μ' => E z (μ' ++ μr))) : callW S ds μ Q E := ⟨μp, μr, hp, h⟩
theorem comp_mapP {σ : DSt} {μ : Mu} {tg : Tg} {vs : List Nat} {wc : DSt → Mu → (Bool → Mu → Prop) → Prop} {we : DSt → Mu → DQ → Prop} {stab : Mu → Prop} {items : List D} {K : List D → Mu → Prop} (f : D → D) (ν : Mu) (hp : List.Perm μ ν) (st : ∀ μ', List.Perm μ' ν → stab μ')
    (hs : ∀ d, d ∈ items → ∀ μ' (Q : DQ) (B : Mu → Prop), List.Perm μ' ν → (∀ μ'', List.Perm μ'' ν → Q (f d) μ'') → tgW tg d (dwipe σ vs) fun σ1 => wc σ1 μ' fun b μ1 => condB b (we σ1 μ1 Q) (B μ1))
    (hd : ∀ μ', List.Perm μ' ν → K (items.map f) μ') : compW tg vs wc we stab σ items [] μ K := by
  refine comp_inv (fun pre acc μ' => List.Perm μ' ν ∧ acc = pre.map f) ⟨hp, rfl⟩ ?_ ?_
  · rintro pre d post acc μ' N e ⟨e1, rfl⟩ hN
    refine hs d (by rw [e]; exact List.mem_append_right _ List.mem_cons_self) μ' (fun y μ2 => N (pre.map f ++ [y]) μ2) (fun μ1 => N (pre.map f) μ1) e1 fun μ'' h => hN _ _ (st _ h) ⟨h, by rw [List.map_append]; rfl⟩
  · rintro acc μ' ⟨h, rfl⟩
    exact hd _ h
theorem out_one {Q : DQ} {d : D} {μ μr : Mu} {x : Addr × MO} (hp : List.Perm μ (x :: μr)) (q : Q d [x]) : Out Q d μ := .inl ⟨[x], List.singleton_sublist.mpr (hp.mem_iff.mpr List.mem_cons_self), q⟩
/-- many lists of one's own -/
def lots : List Addr → List (List D) → Mu
  | p :: ps, l :: ls => (p, .lst l) :: lots ps ls
  | _, _ => []
theorem lots_keys : ∀ {ps : List Addr} {ls : List (List D)}, ps.length = ls.length → (lots ps ls).map (·.1) = ps
  | [], [], _ => rfl
  | [], _ :: _, h => by cases h
  | _ :: _, [], h => by cases h
  | p :: ps, l :: ls, h => by rw [lots, List.map_cons, lots_keys (by simpa using h)]
theorem lots_get : ∀ {ps : List Addr} {ls : List (List D)} {i : Nat} {p : Addr} {l : List D}, ps.Nodup → ps[i]? = some p → ls[i]? = some l → Mu.get (lots ps ls) p = some (.lst l)
  | [], _, _, _, _, _, h, _ => by simp at h
  | _ :: _, [], _, _, _, _, _, h => by simp at h
  | q :: ps, k :: ls, 0, p, l, _, h1, h2 => by
    simp at h1 h2
    subst h1 h2
    exact get_z
  | q :: ps, k :: ls, i + 1, p, l, nd, h1, h2 => by
    have h1 : ps[i]? = some p := by simpa using h1
    have nd := List.nodup_cons.mp nd
    rw [lots, get_s fun z => nd.1 (by rw [z]; exact List.mem_of_getElem? h1)]
    exact lots_get nd.2 h1 (by simpa using h2)
theorem lots_put : ∀ {ps : List Addr} {ls : List (List D)} {i : Nat} {p : Addr} {l : List D}, ps.Nodup → ps.length = ls.length → ps[i]? = some p → Mu.put (lots ps ls) p (.lst l) = lots ps (ls.set i l)
  | [], _, _, _, _, _, _, h => by simp at h
  | _ :: _, [], _, _, _, _, h, _ => by cases h
  | q :: ps, k :: ls, 0, p, l, _, _, h1 => by
    simp at h1
    subst h1
    exact put_z
  | q :: ps, k :: ls, i + 1, p, l, nd, hl, h1 => by
    have h1 : ps[i]? = some p := by simpa using h1
    have nd := List.nodup_cons.mp nd
    rw [lots, put_s fun z => nd.1 (by rw [z]; exact List.mem_of_getElem? h1), lots_put nd.2 (by simpa using hl) h1]
    rfl
theorem lots_snoc : ∀ {ps : List Addr} {ls : List (List D)} {p : Addr} {l : List D}, ps.length = ls.length → lots (ps ++ [p]) (ls ++ [l]) = lots ps ls ++ [(p, .lst l)]
  | [], [], _, _, _ => rfl
  | [], _ :: _, _, _, h => by cases h
  | _ :: _, [], _, _, h => by cases h
  | q :: ps, k :: ls, p, l, h => by
    rw [List.cons_append, List.cons_append, lots, lots_snoc (by simpa using h)]
    rfl
/-- one of them, and the others -/
theorem lots_split : ∀ {ps : List Addr} {ls : List (List D)} {i : Nat} {p : Addr} {l : List D}, ps[i]? = some p → ls[i]? = some l → List.Perm (lots ps ls) ((p, .lst l) :: lots (ps.eraseIdx i) (ls.eraseIdx i))
  | [], _, _, _, _, h, _ => by simp at h
  | _ :: _, [], _, _, _, _, h => by simp at h
  | q :: ps, k :: ls, 0, p, l, h1, h2 => by
    simp at h1 h2
    subst h1 h2
    exact List.Perm.refl _
  | q :: ps, k :: ls, i + 1, p, l, h1, h2 => by
    rw [lots, List.eraseIdx_cons_succ, List.eraseIdx_cons_succ, lots]
    exact (List.Perm.cons _ (lots_split (by simpa using h1) (by simpa using h2))).trans (List.Perm.swap _ _ _)
/-! ### refusals -/
section
variable {gl : Nat → D} {R : DEnds} {Ed : DXE} {σ : DSt} {μ : Mu} {n : Str} {ns : List Str} {ds : List D} {k : Bool → Prop}
theorem h_caught {g i j : Nat} {y : Str} {t : Bool} (l : Nat) (hx : gl l = .cls n true) (hy : gl g = .cls y t) (hs : exSub n y = true) (q : setK σ i (.exc n ns ds) fun σ1 => setK σ1 j (.exc n ns ds) fun σ2 => unsK σ2 i fun σ3 => R.nx σ3 μ) : caughtW gl R Ed g i j ⟨n, ns, ds⟩ σ μ := by
  refine ⟨⟨l, hx⟩, y, t, hy, ?_⟩
  rw [hs]
  exact q
theorem h_caughtL {g i j : Nat} {y : Str} {t : Bool} {a : Addr} (l : Nat) (hx : gl l = .cls n true) (hy : gl g = .cls y t) (hs : exSub n y = true) (q : getS σ j fun o => o = .obj a ∧ withL μ a fun es => es.length < sizeLine ∧ putK μ a (es ++ [.exc n ns ds]) fun μ' => unsK σ i fun σ' => R.nx σ' μ') : caughtL gl R Ed g i j ⟨n, ns, ds⟩ σ μ := by
  refine ⟨⟨l, hx⟩, y, t, hy, ?_⟩
  rw [hs]
  unfold getS at q ⊢
  dsimp only
  split at q
  · obtain ⟨q1, es, q2, q3, q4⟩ := q
    exact ⟨a, es, q1, q2, q3, q4⟩
  · exact q.elim
theorem h_caughtS {Γ : Nat → DSp} {s : Ss} {g i : Nat} {y : Str} {t : Bool} (l : Nat) (hx : gl l = .cls n true) (hy : gl g = .cls y t) (hs : exSub n y = true) (q : setK σ i (.exc n ns ds) fun σ1 => wpSs Γ gl s σ1 μ { nx := fun σ2 μ2 => unsK σ2 i fun σ3 => R.nx σ3 μ2, rt := fun _ _ => False } noX) : caughtS Γ gl R Ed g i s ⟨n, ns, ds⟩ σ μ := by
  refine ⟨⟨l, hx⟩, y, t, hy, ?_⟩
  rw [hs]
  exact q
theorem h_fld {m : Str} {k : D → Prop} {d : D} (l : Nat) (hx : gl l = .cls n true) (he : exPlain n = false) (hn : m ∈ fldNs) (hd : (ns.zip ds).lookup m = some d) (q : k d) : fldW gl (.exc n ns ds) m k := ⟨⟨l, hx⟩, he, hn, d, hd, q⟩
theorem h_raiseX {i : Nat} {x : Str} {k : Str → Prop} (hi : gl i = .cls x true) (he : exPlain x = false) (q : k x) : raiseW gl i k := by
  unfold raiseW
  rw [hi]
  exact ⟨he, q⟩
theorem h_isx {g : Nat} {y : Str} {t b : Bool} (l : Nat) (hx : gl l = .cls n true) (hy : gl g = .cls y t) (hs : exSub n y = b) (q : k b) : isxW gl (.exc n ns ds) (gl g) k := by
  rw [hy]
  refine ⟨[y], rfl, ⟨l, hx⟩, fun z hz => ⟨g, t, by rw [List.mem_singleton.mp hz]; exact hy⟩, ?_⟩
  rw [List.any_cons, List.any_nil, Bool.or_false, hs]
  exact q
theorem clsL_map : ∀ {ls : List (Nat × Str)}, (∀ p ∈ ls, ∃ t, gl p.1 = .cls p.2 t) → clsL (ls.map fun p => gl p.1) = some (ls.map (·.2))
  | [], _ => rfl
  | p :: ls, h => by
    obtain ⟨t, e⟩ := h p List.mem_cons_self
    rw [List.map_cons, e, List.map_cons]
    show (clsL _).map _ = _
    rw [clsL_map fun q hq => h q (List.mem_cons_of_mem _ hq)]
    rfl
theorem h_isxT {b : Bool} (ls : List (Nat × Str)) (l : Nat) (hx : gl l = .cls n true) (hy : ∀ p ∈ ls, ∃ t, gl p.1 = .cls p.2 t) (hs : (ls.map (·.2)).any (exSub n) = b) (q : k b) : isxW gl (.exc n ns ds) (.tup (ls.map fun p => gl p.1)) k := by
  refine ⟨_, clsL_map hy, ⟨l, hx⟩, fun z hz => ?_, by rw [hs]; exact q⟩
  obtain ⟨p, hp, rfl⟩ := List.mem_map.mp hz
  obtain ⟨t, e⟩ := hy p hp
  exact ⟨p.1, t, e⟩
theorem h_meth {m c : Str} {ns : List Str} {ds : List D} {rs : List (Str × Nat)} {k : Nat → Prop} {μ : Mu} (j : Nat) (hn : m ∉ ns) (hj : (c, j) ∈ rs) (q : k j) : methW m rs (.ins c ns ds) k μ := ⟨c, ns, ds, rfl, hn, j, hj, q⟩
end
theorem h_idx {ns : List Int} {n : Int} {k : Int → Prop} (h : n ∈ ns) (q : k (ns.idxOf n : Nat)) : idxK (.int n) (ns.map D.int) k := by
  have hj : ns.idxOf n < ns.length := List.idxOf_lt_length_of_mem h
  refine ⟨ns.idxOf n, .int n, rfl, ?_, ?_, ?_, ?_, q⟩
  · rw [List.all_eq_true]
    intro x hx
    obtain ⟨i, _, rfl⟩ := List.mem_map.mp hx
    rfl
  · rw [List.getElem?_map, List.getElem?_eq_getElem hj, List.getElem_idxOf]
    rfl
  · show decide (n = n) = true
    simp
  · intro m z' hm hz'
    rw [List.getElem?_map, List.getElem?_eq_getElem (by omega)] at hz'
    cases hz'
    show decide (ns[m] = n) = false
    rw [decide_eq_false_iff_not]
    intro e
    exact absurd (List.not_of_lt_findIdx (p := (· == n)) hm) (by simp [e])
end DL

namespace K83
open PySem PySem.Spec PyProof.Rows L2 DL
/-! ### the text -/
def topS (i : Nat) : Stmt := PySem.Challenge.pw_partmill_k83_works_written.main.body.getD i (.Pass ⟨0, 0, 0, 0⟩)
def fns : List (Str × Nat) := [("_law_well", 1), ("_law_alike", 2), ("_law_stirred", 2), ("_law_draw", 2), ("_law_any_work", 2), ("_law_work_text", 1), ("words_of", 2), ("number_in", 1), ("numbers_in", 1), ("is_whole", 1), ("is_cell", 2), ("is_step", 2), ("are_steps", 2), ("are_outs", 2), ("is_work", 1), ("signed_in", 1), ("step_in", 1), ("read_work", 1), ("show_work", 1), ("law", 1)]
def gls : List Str := ["STEP_WORDS", "FIGURES", "MOST_FIGURES", "SIGNS", "WORDS"]
-- recursive: _law_alike
def tb (i : Nat) (N : List Str) : Tb := ⟨N, fns.take i, gls, false, [], [], []⟩
abbrev s__law_well : Stmt := topS 24
def N__law_well : List Str := ["_law_script"]
theorem sc__law_well : FnScope N__law_well ["_law_script"] (defScope s__law_well) := ⟨rfl, rfl, rfl, by decide +kernel, rfl, by decide +kernel, by decide +kernel⟩
def c__law_well : Ss := (.cons (.ret (.disp (.cons (.str "script") (.cons (.bi .list (.cons (.var 0) .nil)) (.cons (.str "next") (.cons (.int 0) (.cons (.str "great") (.cons (.int 0) (.cons (.str "room") (.cons (.int 0) (.cons (.str "turn") (.cons (.int 0) (.cons (.str "mixed") (.cons (.int 29) .nil))))))))))))))
    .nil)
theorem ck__law_well : chkSs (tb 0 N__law_well) (defScope s__law_well) c__law_well (defBody s__law_well) = true := by decide +kernel
abbrev s__law_alike : Stmt := topS 29
def N__law_alike : List Str := ["_law_found", "_law_due", "_law_mine", "_law_its"]
theorem sc__law_alike : FnScope N__law_alike ["_law_found", "_law_due"] (defScope s__law_alike) := ⟨rfl, rfl, rfl, by decide +kernel, rfl, by decide +kernel, by decide +kernel⟩
def c__law_alike : Ss := (.cons (.ife (.of (.isi (.var 1) "tuple")) (.cons (.ife (.or (.not (.of (.isi (.var 0) "tuple"))) (.cmp .ne (.bi .len (.cons (.var 0) .nil)) (.bi .len (.cons (.var 1) .nil)))) (.cons (.ret (.bl false))
    .nil) .nil)
    (.cons (.ret (.bi .all (.cons (.comp false [2, 3] (.tup [2, 3]) (.zip (.var 0) (.var 1)) .yes (.call 1 (.cons (.var 2) (.cons (.var 3) .nil)))) .nil)))
    .nil)) .nil)
    (.cons (.ife (.of (.isi (.var 1) "str")) (.cons (.ret (.and (.isi (.var 0) "str") (.cmp .eq (.var 0) (.var 1))))
    .nil) .nil)
    (.cons (.ret (.and (.isi (.var 0) "int") (.and (.not (.isi (.var 0) "bool")) (.cmp .eq (.var 0) (.var 1)))))
    .nil)))
theorem ck__law_alike : chkSs (tb 2 N__law_alike) (defScope s__law_alike) c__law_alike (defBody s__law_alike) = true := by decide +kernel
abbrev s__law_stirred : Stmt := topS 25
def N__law_stirred : List Str := ["_law_number", "_law_turn", "_law_one"]
theorem sc__law_stirred : FnScope N__law_stirred ["_law_number", "_law_turn"] (defScope s__law_stirred) := ⟨rfl, rfl, rfl, by decide +kernel, rfl, by decide +kernel, by decide +kernel⟩
def c__law_stirred : Ss := (.cons (.asg (.name 2) (.bin .mod (.bin .mul (.bin .mod (.bin .add (.bin .add (.var 0) (.bin .mul (.int 40487) (.var 1))) (.int 19)) (.int 2147483587)) (.int 69621)) (.int 2147483647)))
    (.cons (.ret (.bin .mod (.bin .add (.bin .mul (.var 2) (.bin .add (.bin .mod (.var 2) (.int 32749)) (.int 5))) (.var 1)) (.int 2147483579)))
    .nil))
theorem ck__law_stirred : chkSs (tb 2 N__law_stirred) (defScope s__law_stirred) c__law_stirred (defBody s__law_stirred) = true := by decide +kernel
abbrev s__law_draw : Stmt := topS 26
def N__law_draw : List Str := ["_law_well_here", "_law_many", "_law_cell", "_law_drawn"]
theorem sc__law_draw : FnScope N__law_draw ["_law_well_here", "_law_many"] (defScope s__law_draw) := ⟨rfl, rfl, rfl, by decide +kernel, rfl, by decide +kernel, by decide +kernel⟩
def c__law_draw : Ss := (.cons (.daug .add (.var 0) (.str "turn") (.int 1))
    (.cons (.ife (.and (.cmp .eq (.dget (.var 0) (.str "room")) (.int 0)) (.cmp .lt (.dget (.var 0) (.str "next")) (.bi .len (.cons (.dget (.var 0) (.str "script")) .nil)))) (.cons (.asg (.name 2) (.idx (.dget (.var 0) (.str "script")) (.dget (.var 0) (.str "next"))))
    (.cons (.daug .add (.var 0) (.str "next") (.int 1))
    (.cons (.dput (.var 0) (.str "mixed") (.call 2 (.cons (.bin .add (.dget (.var 0) (.str "mixed")) (.bin .mod (.var 2) (.int 1000000000039))) (.cons (.dget (.var 0) (.str "turn")) .nil))))
    (.cons (.ife (.cmp .ge (.var 2) (.bin .pow (.int 10) (.int 18))) (.cons (.dput2 (.var 0) (.str "great") (.var 0) (.str "room") (.tup (.cons (.bin .mod (.var 2) (.bin .mul (.bin .pow (.int 10) (.int 64)) (.bin .pow (.int 10) (.int 64)))) (.cons (.int 60) .nil))))
    .nil) .nil)
    .nil)))) .nil)
    (.cons (.ife (.and (.cmp .gt (.dget (.var 0) (.str "room")) (.int 0)) (.cmp .gt (.dget (.var 0) (.str "great")) (.int 0))) (.cons (.asg (.name 3) (.bin .mod (.dget (.var 0) (.str "great")) (.var 1)))
    (.cons (.dput (.var 0) (.str "great") (.bin .fdiv (.dget (.var 0) (.str "great")) (.var 1)))
    (.cons (.daug .sub (.var 0) (.str "room") (.int 1))
    (.cons (.ret (.var 3))
    .nil)))) .nil)
    (.cons (.dput (.var 0) (.str "room") (.int 0))
    (.cons (.dput (.var 0) (.str "mixed") (.call 2 (.cons (.dget (.var 0) (.str "mixed")) (.cons (.dget (.var 0) (.str "turn")) .nil))))
    (.cons (.ret (.bin .mod (.bin .fdiv (.call 2 (.cons (.dget (.var 0) (.str "mixed")) (.cons (.int 7) .nil))) (.int 11)) (.var 1)))
    .nil))))))
theorem ck__law_draw : chkSs (tb 3 N__law_draw) (defScope s__law_draw) c__law_draw (defBody s__law_draw) = true := by decide +kernel
abbrev s__law_any_work : Stmt := topS 27
def N__law_any_work : List Str := ["_law_well_here", "_law_most", "_law_n", "_law_m", "_law_steps", "_law_k", "_law_cells", "_law_word", "_law_first", "_law_outs"]
theorem sc__law_any_work : FnScope N__law_any_work ["_law_well_here", "_law_most"] (defScope s__law_any_work) := ⟨rfl, rfl, rfl, by decide +kernel, rfl, by decide +kernel, by decide +kernel⟩
def c__law_any_work : Ss := (.cons (.asg (.name 2) (.bin .add (.int 1) (.call 3 (.cons (.var 0) (.cons (.idx (.lst false (.cons (.int 2) (.cons (.int 4) (.cons (.int 8) .nil)))) (.call 3 (.cons (.var 0) (.cons (.int 3) .nil)))) .nil)))))
    (.cons (.asg (.name 3) (.idx (.lst false (.cons (.int 0) (.cons (.bin .add (.int 1) (.call 3 (.cons (.var 0) (.cons (.int 6) .nil)))) (.cons (.var 2) .nil)))) (.call 3 (.cons (.var 0) (.cons (.int 3) .nil)))))
    (.cons (.asg (.name 4) (.lst true .nil))
    (.cons (.fr (.name 5) (.rng (.cons (.call 3 (.cons (.var 0) (.cons (.bin .add (.var 1) (.int 1)) .nil))) .nil)) (.cons (.asg (.name 6) (.bin .add (.bin .add (.var 2) (.var 3)) (.var 5)))
    (.cons (.asg (.name 7) (.idx (.lst false (.cons (.str "plus") (.cons (.str "minus") (.cons (.str "times") (.cons (.str "by") (.cons (.str "part") (.cons (.str "plus") (.cons (.str "times") (.cons (.str "by") .nil))))))))) (.call 3 (.cons (.var 0) (.cons (.int 8) .nil)))))
    (.cons (.asg (.name 8) (.call 3 (.cons (.var 0) (.cons (.var 6) .nil))))
    (.cons (.ife (.cmp .eq (.var 7) (.str "by")) (.cons (.ex (.me1 .append (.var 4) (.tup (.cons (.var 7) (.cons (.var 8) (.cons (.idx (.lst false (.cons (.int 0) (.cons (.int 1) (.cons (.neg (.int 1)) (.cons (.int 2) (.cons (.int 6) (.cons (.neg (.int 3)) (.cons (.bin .sub (.int 1) (.bin .pow (.int 10) (.int 60))) .nil)))))))) (.call 3 (.cons (.var 0) (.cons (.int 7) .nil)))) .nil))))))
    .nil) (.cons (.ife (.cmp .eq (.var 7) (.str "part")) (.cons (.ex (.me1 .append (.var 4) (.tup (.cons (.var 7) (.cons (.var 8) (.cons (.idx (.lst false (.cons (.int 2) (.cons (.int 3) (.cons (.int 6) (.cons (.int 2) .nil))))) (.call 3 (.cons (.var 0) (.cons (.int 4) .nil)))) .nil))))))
    .nil) (.cons (.ex (.me1 .append (.var 4) (.tup (.cons (.var 7) (.cons (.var 8) (.cons (.call 3 (.cons (.var 0) (.cons (.idx (.lst false (.cons (.var 6) (.cons (.bin .add (.var 2) (.var 3)) .nil))) (.call 3 (.cons (.var 0) (.cons (.int 2) .nil)))) .nil))) .nil))))))
    .nil))
    .nil))
    .nil)))))
    (.cons (.asgC 9 (.comp false [5] (.name 5) (.rng (.cons (.bin .add (.int 1) (.call 3 (.cons (.var 0) (.cons (.int 6) .nil)))) .nil)) .yes (.call 3 (.cons (.var 0) (.cons (.bin .add (.bin .add (.var 2) (.var 3)) (.bi .len (.cons (.var 4) .nil))) .nil)))))
    (.cons (.ret (.tup (.cons (.var 2) (.cons (.var 3) (.cons (.bi .tuple (.cons (.var 4) .nil)) (.cons (.bi .tuple (.cons (.var 9) .nil)) .nil))))))
    .nil))))))
theorem ck__law_any_work : chkSs (tb 4 N__law_any_work) (defScope s__law_any_work) c__law_any_work (defBody s__law_any_work) = true := by decide +kernel
abbrev s__law_work_text : Stmt := topS 28
def N__law_work_text : List Str := ["_law_work", "_law_signs", "_law_words", "_law_step", "_law_cell"]
theorem sc__law_work_text : FnScope N__law_work_text ["_law_work"] (defScope s__law_work_text) := ⟨rfl, rfl, rfl, by decide +kernel, rfl, by decide +kernel, by decide +kernel⟩
def c__law_work_text : Ss := (.cons (.asg (.name 1) (.disp (.cons (.str "plus") (.cons (.str "+") (.cons (.str "minus") (.cons (.str "-") (.cons (.str "times") (.cons (.str "*") (.cons (.str "by") (.cons (.str "x") (.cons (.str "part") (.cons (.str "/") .nil))))))))))))
    (.cons (.asg (.name 2) (.lst true (.cons (.bin .add (.bin .add (.bin .add (.str "work ") (.bi .str (.cons (.idx (.var 0) (.int 0)) .nil))) (.str " ")) (.bi .str (.cons (.idx (.var 0) (.int 1)) .nil))) .nil)))
    (.cons (.fr (.name 3) (.seq (.idx (.var 0) (.int 2))) (.cons (.ex (.me1 .append (.var 2) (.bin .add (.bin .add (.bin .add (.bin .add (.dget (.var 1) (.idx (.var 3) (.int 0))) (.str " ")) (.bi .str (.cons (.idx (.var 3) (.int 1)) .nil))) (.str " ")) (.bi .str (.cons (.idx (.var 3) (.int 2)) .nil)))))
    .nil))
    (.cons (.ret (.join (.str " ") (.bin .add (.bin .add (.var 2) (.lst false (.cons (.str ":") .nil))) (.comp false [4] (.name 4) (.seq (.idx (.var 0) (.int 3))) .yes (.bi .str (.cons (.var 4) .nil))))))
    .nil))))
theorem ck__law_work_text : chkSs (tb 5 N__law_work_text) (defScope s__law_work_text) c__law_work_text (defBody s__law_work_text) = true := by decide +kernel
abbrev s_words_of : Stmt := topS 19
def N_words_of : List Str := ["text", "sign"]
theorem sc_words_of : FnScope N_words_of ["text", "sign"] (defScope s_words_of) := ⟨rfl, rfl, rfl, by decide +kernel, rfl, by decide +kernel, by decide +kernel⟩
def c_words_of : Ss := (.cons (.ife (.not (.of (.isi (.var 0) "str"))) (.cons .never
    .nil) .nil)
    (.cons (.ret (.split (.var 0) (.var 1)))
    .nil))
theorem ck_words_of : chkSs (tb 6 N_words_of) (defScope s_words_of) c_words_of (defBody s_words_of) = true := by decide +kernel
abbrev s_number_in : Stmt := topS 16
def N_number_in : List Str := ["word", "sign"]
theorem sc_number_in : FnScope N_number_in ["word"] (defScope s_number_in) := ⟨rfl, rfl, rfl, by decide +kernel, rfl, by decide +kernel, by decide +kernel⟩
def c_number_in : Ss := (.cons (.ife (.or (.not (.chain .le .le (.int 1) (.bi .len (.cons (.var 0) .nil)) (.glob 2))) (.not (.of (.bi .all (.cons (.comp false [1] (.name 1) (.seq (.var 0)) .yes (.cmp .isin (.var 1) (.glob 1))) .nil))))) (.cons (.ret .non)
    .nil) .nil)
    (.cons (.ife (.and (.cmp .eq (.idxS (.var 0) (.int 0)) (.str "0")) (.cmp .ne (.var 0) (.str "0"))) (.cons (.ret .non)
    .nil) .nil)
    (.cons (.ret (.intS (.var 0)))
    .nil)))
theorem ck_number_in : chkSs (tb 7 N_number_in) (defScope s_number_in) c_number_in (defBody s_number_in) = true := by decide +kernel
abbrev s_numbers_in : Stmt := topS 18
def N_numbers_in : List Str := ["words", "numbers", "word"]
theorem sc_numbers_in : FnScope N_numbers_in ["words"] (defScope s_numbers_in) := ⟨rfl, rfl, rfl, by decide +kernel, rfl, by decide +kernel, by decide +kernel⟩
def c_numbers_in : Ss := (.cons (.asgC 1 (.comp false [2] (.name 2) (.seq (.var 0)) .yes (.call 7 (.cons (.var 2) .nil))))
    (.cons (.ife (.cmp .isin .non (.var 1)) (.cons .never
    .nil) .nil)
    (.cons (.ret (.bi .tuple (.cons (.var 1) .nil)))
    .nil)))
theorem ck_numbers_in : chkSs (tb 8 N_numbers_in) (defScope s_numbers_in) c_numbers_in (defBody s_numbers_in) = true := by decide +kernel
abbrev s_is_whole : Stmt := topS 5
def N_is_whole : List Str := ["thing"]
theorem sc_is_whole : FnScope N_is_whole ["thing"] (defScope s_is_whole) := ⟨rfl, rfl, rfl, by decide +kernel, rfl, by decide +kernel, by decide +kernel⟩
def c_is_whole : Ss := (.cons (.ret (.and (.isi (.var 0) "int") (.not (.isi (.var 0) "bool"))))
    .nil)
theorem ck_is_whole : chkSs (tb 9 N_is_whole) (defScope s_is_whole) c_is_whole (defBody s_is_whole) = true := by decide +kernel
abbrev s_is_cell : Stmt := topS 6
def N_is_cell : List Str := ["thing", "many"]
theorem sc_is_cell : FnScope N_is_cell ["thing", "many"] (defScope s_is_cell) := ⟨rfl, rfl, rfl, by decide +kernel, rfl, by decide +kernel, by decide +kernel⟩
def c_is_cell : Ss := (.cons (.ret (.and (.call 9 (.cons (.var 0) .nil)) (.chain .le .lt (.int 0) (.var 0) (.var 1))))
    .nil)
theorem ck_is_cell : chkSs (tb 10 N_is_cell) (defScope s_is_cell) c_is_cell (defBody s_is_cell) = true := by decide +kernel
abbrev s_is_step : Stmt := topS 7
def N_is_step : List Str := ["thing", "many", "word", "here", "there"]
theorem sc_is_step : FnScope N_is_step ["thing", "many"] (defScope s_is_step) := ⟨rfl, rfl, rfl, by decide +kernel, rfl, by decide +kernel, by decide +kernel⟩
def c_is_step : Ss := (.cons (.ife (.or (.not (.of (.isi (.var 0) "tuple"))) (.or (.cmp .ne (.bi .len (.cons (.var 0) .nil)) (.int 3)) (.not (.of (.isi (.idx (.var 0) (.int 0)) "str"))))) (.cons (.ret (.bl false))
    .nil) .nil)
    (.cons (.asg (.tup [2, 3, 4]) (.var 0))
    (.cons (.ife (.or (.cmp .notin (.var 2) (.glob 0)) (.not (.of (.call 10 (.cons (.var 3) (.cons (.var 1) .nil)))))) (.cons (.ret (.bl false))
    .nil) .nil)
    (.cons (.ife (.cmp .eq (.var 2) (.str "by")) (.cons (.ret (.call 9 (.cons (.var 4) .nil)))
    .nil) .nil)
    (.cons (.ife (.cmp .eq (.var 2) (.str "part")) (.cons (.ret (.and (.call 9 (.cons (.var 4) .nil)) (.cmp .ge (.var 4) (.int 2))))
    .nil) .nil)
    (.cons (.ret (.call 10 (.cons (.var 4) (.cons (.var 1) .nil))))
    .nil))))))
theorem ck_is_step : chkSs (tb 11 N_is_step) (defScope s_is_step) c_is_step (defBody s_is_step) = true := by decide +kernel
abbrev s_are_steps : Stmt := topS 8
def N_are_steps : List Str := ["thing", "many", "at", "step"]
theorem sc_are_steps : FnScope N_are_steps ["thing", "many"] (defScope s_are_steps) := ⟨rfl, rfl, rfl, by decide +kernel, rfl, by decide +kernel, by decide +kernel⟩
def c_are_steps : Ss := (.cons (.ife (.not (.of (.isi (.var 0) "tuple"))) (.cons (.ret (.bl false))
    .nil) .nil)
    (.cons (.ret (.bi .all (.cons (.comp false [2, 3] (.tup [2, 3]) (.enum (.var 0)) .yes (.call 11 (.cons (.var 3) (.cons (.bin .add (.var 1) (.var 2)) .nil)))) .nil)))
    .nil))
theorem ck_are_steps : chkSs (tb 12 N_are_steps) (defScope s_are_steps) c_are_steps (defBody s_are_steps) = true := by decide +kernel
abbrev s_are_outs : Stmt := topS 9
def N_are_outs : List Str := ["thing", "many", "out"]
theorem sc_are_outs : FnScope N_are_outs ["thing", "many"] (defScope s_are_outs) := ⟨rfl, rfl, rfl, by decide +kernel, rfl, by decide +kernel, by decide +kernel⟩
def c_are_outs : Ss := (.cons (.ret (.and (.isi (.var 0) "tuple") (.and (.cmp .gt (.bi .len (.cons (.var 0) .nil)) (.int 0)) (.bi .all (.cons (.comp false [2] (.name 2) (.seq (.var 0)) .yes (.call 10 (.cons (.var 2) (.cons (.var 1) .nil)))) .nil)))))
    .nil)
theorem ck_are_outs : chkSs (tb 13 N_are_outs) (defScope s_are_outs) c_are_outs (defBody s_are_outs) = true := by decide +kernel
abbrev s_is_work : Stmt := topS 10
def N_is_work : List Str := ["thing", "n", "m", "steps", "outs"]
theorem sc_is_work : FnScope N_is_work ["thing"] (defScope s_is_work) := ⟨rfl, rfl, rfl, by decide +kernel, rfl, by decide +kernel, by decide +kernel⟩
def c_is_work : Ss := (.cons (.ife (.or (.not (.of (.isi (.var 0) "tuple"))) (.cmp .ne (.bi .len (.cons (.var 0) .nil)) (.int 4))) (.cons (.ret (.bl false))
    .nil) .nil)
    (.cons (.asg (.tup [1, 2, 3, 4]) (.var 0))
    (.cons (.ife (.or (.not (.of (.call 9 (.cons (.var 1) .nil)))) (.or (.not (.of (.call 9 (.cons (.var 2) .nil)))) (.or (.cmp .lt (.var 1) (.int 1)) (.cmp .lt (.var 2) (.int 0))))) (.cons (.ret (.bl false))
    .nil) .nil)
    (.cons (.ret (.and (.call 12 (.cons (.var 3) (.cons (.bin .add (.var 1) (.var 2)) .nil))) (.call 13 (.cons (.var 4) (.cons (.bin .add (.bin .add (.var 1) (.var 2)) (.bi .len (.cons (.var 3) .nil))) .nil)))))
    .nil))))
theorem ck_is_work : chkSs (tb 14 N_is_work) (defScope s_is_work) c_is_work (defBody s_is_work) = true := by decide +kernel
abbrev s_signed_in : Stmt := topS 17
def N_signed_in : List Str := ["word", "size"]
theorem sc_signed_in : FnScope N_signed_in ["word"] (defScope s_signed_in) := ⟨rfl, rfl, rfl, by decide +kernel, rfl, by decide +kernel, by decide +kernel⟩
def c_signed_in : Ss := (.cons (.ife (.not (.of (.sw (.var 0) (.str "-")))) (.cons (.ret (.call 7 (.cons (.var 0) .nil)))
    .nil) .nil)
    (.cons (.asg (.name 1) (.call 7 (.cons (.sl false (.var 0) (.int 1) .absent) .nil)))
    (.cons (.ife (.or (.cmp .isN (.var 1) .non) (.cmp .eq (.var 1) (.int 0))) (.cons (.ret .non)
    .nil) .nil)
    (.cons (.ret (.neg (.var 1)))
    .nil))))
theorem ck_signed_in : chkSs (tb 15 N_signed_in) (defScope s_signed_in) c_signed_in (defBody s_signed_in) = true := by decide +kernel
abbrev s_step_in : Stmt := topS 21
def N_step_in : List Str := ["words", "word", "second", "first"]
theorem sc_step_in : FnScope N_step_in ["words"] (defScope s_step_in) := ⟨rfl, rfl, rfl, by decide +kernel, rfl, by decide +kernel, by decide +kernel⟩
def c_step_in : Ss := (.cons (.ife (.mdin false (.idx (.var 0) (.int 0)) 4) (.cons .never
    .nil) .nil)
    (.cons (.asg (.name 1) (.mget 4 (.idx (.var 0) (.int 0))))
    (.cons (.asg (.name 2) (.ite (.cmp .eq (.var 1) (.str "by")) (.call 15 (.cons (.idx (.var 0) (.int 2)) .nil)) (.call 7 (.cons (.idx (.var 0) (.int 2)) .nil))))
    (.cons (.asg (.name 3) (.call 7 (.cons (.idx (.var 0) (.int 1)) .nil)))
    (.cons (.ife (.or (.cmp .isN (.var 3) .non) (.cmp .isN (.var 2) .non)) (.cons .never
    .nil) .nil)
    (.cons (.ret (.tup (.cons (.var 1) (.cons (.var 3) (.cons (.var 2) .nil)))))
    .nil))))))
theorem ck_step_in : chkSs (tb 16 N_step_in) (defScope s_step_in) c_step_in (defBody s_step_in) = true := by decide +kernel
abbrev s_read_work : Stmt := topS 22
def N_read_work : List Str := ["text", "words", "end", "n", "m", "steps", "at", "work"]
theorem sc_read_work : FnScope N_read_work ["text"] (defScope s_read_work) := ⟨rfl, rfl, rfl, by decide +kernel, rfl, by decide +kernel, by decide +kernel⟩
def c_read_work : Ss := (.cons (.asg (.name 1) (.call 6 (.cons (.var 0) (.cons (.str " ") .nil))))
    (.cons (.ife (.or (.cmp .ne (.idx (.var 1) (.int 0)) (.str "work")) (.cmp .notin (.str ":") (.var 1))) (.cons .never
    .nil) .nil)
    (.cons (.asg (.name 2) (.me1 .index (.var 1) (.str ":")))
    (.cons (.ife (.or (.cmp .lt (.var 2) (.int 3)) (.cmp .ne (.bin .mod (.bin .sub (.var 2) (.int 3)) (.int 3)) (.int 0))) (.cons .never
    .nil) .nil)
    (.cons (.asg (.tup [3, 4]) (.call 8 (.cons (.sl false (.var 1) (.int 1) (.int 3)) .nil)))
    (.cons (.asg (.name 5) (.bi .tuple (.cons (.comp false [6] (.name 6) (.rng (.cons (.int 3) (.cons (.var 2) (.cons (.int 3) .nil)))) .yes (.call 16 (.cons (.sl false (.var 1) (.var 6) (.bin .add (.var 6) (.int 3))) .nil))) .nil)))
    (.cons (.asg (.name 7) (.tup (.cons (.var 3) (.cons (.var 4) (.cons (.var 5) (.cons (.call 8 (.cons (.sl false (.var 1) (.bin .add (.var 2) (.int 1)) .absent) .nil)) .nil))))))
    (.cons (.ife (.not (.of (.call 14 (.cons (.var 7) .nil)))) (.cons .never
    .nil) .nil)
    (.cons (.ret (.var 7))
    .nil)))))))))
theorem ck_read_work : chkSs (tb 17 N_read_work) (defScope s_read_work) c_read_work (defBody s_read_work) = true := by decide +kernel
abbrev s_show_work : Stmt := topS 20
def N_show_work : List Str := ["work", "n", "m", "steps", "outs", "words", "word", "first", "second", "cell"]
theorem sc_show_work : FnScope N_show_work ["work"] (defScope s_show_work) := ⟨rfl, rfl, rfl, by decide +kernel, rfl, by decide +kernel, by decide +kernel⟩
def c_show_work : Ss := (.cons (.asg (.tup [1, 2, 3, 4]) (.var 0))
    (.cons (.asg (.name 5) (.lst true (.cons (.str "work") (.cons (.bi .str (.cons (.var 1) .nil)) (.cons (.bi .str (.cons (.var 2) .nil)) .nil)))))
    (.cons (.fr (.tup [6, 7, 8]) (.seq (.var 3)) (.cons (.ex (.me1 .extend (.var 5) (.lst false (.cons (.mget 3 (.var 6)) (.cons (.bi .str (.cons (.var 7) .nil)) (.cons (.bi .str (.cons (.var 8) .nil)) .nil))))))
    .nil))
    (.cons (.ret (.join (.str " ") (.bin .add (.bin .add (.var 5) (.lst false (.cons (.str ":") .nil))) (.comp false [9] (.name 9) (.seq (.var 4)) .yes (.bi .str (.cons (.var 9) .nil))))))
    .nil))))
theorem ck_show_work : chkSs (tb 18 N_show_work) (defScope s_show_work) c_show_work (defBody s_show_work) = true := by decide +kernel
abbrev s_law : Stmt := topS 30
def N_law : List Str := ["_law_script", "_law_well_here", "_law_k", "_law_work", "_law_text", "_law_turn"]
theorem sc_law : FnScope N_law ["_law_script"] (defScope s_law) := ⟨rfl, rfl, rfl, by decide +kernel, rfl, by decide +kernel, by decide +kernel⟩
def c_law : Ss := (.cons (.asg (.name 1) (.call 0 (.cons (.var 0) .nil)))
    (.cons (.fr (.name 2) (.rng (.cons (.bin .add (.int 3) (.bin .fdiv (.bi .len (.cons (.var 0) .nil)) (.int 6))) .nil)) (.cons (.asg (.name 3) (.call 4 (.cons (.var 1) (.cons (.int 40) .nil))))
    (.cons (.asg (.name 4) (.call 5 (.cons (.var 3) .nil)))
    (.cons (.fr (.name 5) (.rng (.cons (.int 2) .nil)) (.cons (.ife (.or (.cmp .ne (.call 18 (.cons (.var 3) .nil)) (.var 4)) (.not (.of (.call 1 (.cons (.call 17 (.cons (.var 4) .nil)) (.cons (.var 3) .nil)))))) (.cons (.ret (.bl false))
    .nil) .nil)
    .nil))
    .nil))))
    (.cons (.ret (.call 1 (.cons (.call 17 (.cons (.str "work 1 0 : 0") .nil)) (.cons (.tup (.cons (.int 1) (.cons (.int 0) (.cons (.tup .nil) (.cons (.tup (.cons (.int 0) .nil)) .nil))))) .nil))))
    .nil)))
theorem ck_law : chkSs (tb 19 N_law) (defScope s_law) c_law (defBody s_law) = true := by decide +kernel
end K83
namespace K83
open PySem PySem.Spec PyProof.Rows L2 DL
local macro_rules | `(tactic| walk_at "dl") => `(tactic| simp only [↓condB_t, ↓condB_f, ↓condB_d, ↓condB_n, ↓setK_z, ↓setK_s, ↓getS_z, ↓getS_s, ↓withL_z, ↓withL_s, ↓withL_s', ↓putK_z, ↓putK_s, ↓putK_s', ↓m_nil, ↓m_cons, ↓m_asg, ↓m_asgT, ↓m_asgC, ↓m_par3, ↓m_par, ↓m_aug, ↓m_daug, ↓m_dput2, ↓m_dput, ↓m_seti, ↓m_augi, ↓m_ex, ↓m_ret, ↓m_ret0, ↓m_brk, ↓m_cont, ↓m_pas, ↓m_raise, ↓unsK_z, ↓unsK_s, ↓m_tryA, ↓m_tryL, ↓m_raiseX, ↓m_setf, ↓m_augf, ↓m_setf2, ↓m_tryS, ↓m_never, ↓m_ife, ↓m_fr, ↓isBl_b, ↓t_and, ↓t_or, ↓t_not, ↓t_v, ↓t_cmp, ↓t_mdin, ↓t_din, ↓t_chain, ↓t_yes, ↓e_var, ↓e_int, ↓e_str, ↓e_bl, ↓e_non, ↓e_glob, ↓e_bin, ↓e_neg, ↓e_cmp, ↓e_chain, ↓e_and, ↓e_or, ↓e_not, ↓e_ite, ↓e_idx, ↓e_sl, ↓e_sl2, ↓e_revs, ↓e_tup, ↓e_lst, ↓e_callH, ↓e_call, ↓e_bi, ↓e_isi, ↓e_me0, ↓e_me1, ↓e_dnew, ↓e_disp, ↓e_split, ↓e_join, ↓e_idxS, ↓e_sw, ↓e_intS, ↓onStr_s, ↓s_str, ↓e_mget, ↓e_callV, ↓e_dget, ↓e_dict0, ↓e_dict, ↓e_isx, ↓e_fld, ↓e_callN, ↓e_new0, ↓e_meth, ↓e_revT, ↓revLW_t, ↓e_trng, ↓trngW_1, ↓trngW_2, ↓trngW_3, ↓e_lzip, ↓v_lzipLL, ↓e_lrng, ↓e_attr, ↓e_newI, ↓e_isv, ↓e_look, ↓k_nil, ↓k_int, ↓k_str, ↓e_comp, ↓a_nil, ↓a_cons, ↓o_abs, ↓o_int, ↓o_var, ↓o_bin, ↓o_bi, ↓o_call, ↓o_neg, ↓o_idx, ↓i_seq, ↓i_rng, ↓i_enum, ↓i_zip, ↓i_zip3, ↓i_rev, ↓onI_i, ↓b_add, ↓b_addT, ↓b_sub, ↓b_mul, ↓b_fdiv, ↓b_mod, ↓b_pow, ↓b_shl, ↓b_addBI, ↓b_addBB, ↓b_subBI, ↓b_mulS, ↓b_mulT, ↓b_addLL, ↓b_addOL, ↓b_mulO, ↓b_mulL, ↓u_add, ↓u_sub, ↓u_mul, ↓c_lt, ↓c_le, ↓c_gt, ↓c_ge, ↓c_eq, ↓c_ne, ↓c_eqB, ↓c_neB, ↓c_eqS, ↓c_neS, ↓c_eqT, ↓c_neT, ↓c_isBt, ↓c_notBt, ↓c_isNo, ↓c_noNo, ↓c_isE, ↓c_noE, ↓c_isC, ↓c_inT, ↓c_inL, ↓c_inK, ↓c_inS, ↓c_noT, ↓c_noL, ↓c_noK, ↓c_inO, ↓c_noO, ↓inK_s0, ↓inK_sc, ↓inK_i0, ↓inK_ic, ↓atK_0, ↓atK_1, ↓atK_2, ↓atK_3, ↓x_tupK, ↓x_lstK, ↓x_klstK, ↓x_obj, ↓l_tup, ↓l_lst, ↓l_klst, ↓l_obj, ↓l_str, ↓f_str, ↓f_abs, ↓f_min, ↓f_max3, ↓f_max, ↓f_bool, ↓f_int, ↓f_intB, ↓f_divmod, ↓f_tupT, ↓f_tupL, ↓f_tupK, ↓f_tupO, ↓s_tup, ↓s_tupO, ↓s_lst, ↓s_klst, ↓s_obj, ↓v_revT, ↓v_revL, ↓v_revO, ↓w_get, ↓w_setK, ↓m_app, ↓r_app, ↓m_cntL, ↓m_ext, ↓r_ext, ↓r_cntL, ↓m_cntO, ↓r_cntO, ↓c_eqT0, ↓sl2_L, ↓sl2_O, ↓m_idxL, ↓r_idxL, ↓m_idxO, ↓r_idxO, ↓m_pop, ↓r_pop, ↓n_f, ↓q_tup, ↓q_lst, ↓q_klst, ↓q_r1, ↓q_r2, ↓g_tupK, ↓setsK_n, ↓setsK_c, ↓g_name, ↓j_intD, ↓j_boolD, ↓j_strD, ↓j_tupleD, ↓j_listD, ↓j_int0, ↓j_bool0, ↓j_str0, ↓j_tuple0, ↓j_list0, ↓j_dict0, ↓j_dictD, ↓j_intN, ↓j_intB, ↓j_intI, ↓j_intS, ↓j_intT, ↓j_intL, ↓j_intK, ↓j_boolN, ↓j_boolB, ↓j_boolI, ↓j_boolS, ↓j_boolT, ↓j_boolL, ↓j_boolK, ↓j_strN, ↓j_strB, ↓j_strI, ↓j_strS, ↓j_strT, ↓j_strL, ↓j_strK, ↓j_tupleN, ↓j_tupleB, ↓j_tupleI, ↓j_tupleS, ↓j_tupleT, ↓j_tupleL, ↓j_tupleK, ↓j_listN, ↓j_listB, ↓j_listI, ↓j_listS, ↓j_listT, ↓j_listL, ↓j_listK, ↓j_dictN, ↓j_dictB, ↓j_dictI, ↓j_dictS, ↓j_dictT, ↓j_dictL, ↓j_dictK, ↓v_listT, ↓v_listL, ↓v_listOT, ↓v_listK, ↓v_listOK, ↓v_listOL, ↓v_addLO, ↓v_addOL, ↓v_addOo, ↓v_addB, ↓v_addS, ↓vv_sum, ↓vv_all, ↓vv_any, ↓k_ix0, ↓k_ix1, ↓k_ix2, ↓k_ix3, ↓atK_one, ↓for_rng, ↓q_comp0, ↓q_compS, ↓q_zipTT, ↓q_zipLT, ↓q_zipTL, ↓q_zipLL, ↓q_zipTTT, ↓q_seqO, ↓q_all2, ↓q_revTT, ↓q_revLL, ↓q_II, ↓q_I0, ↓q_0I, ↓q_00, ↓q_22, ↓q_P, ↓q_NN, ↓q_isNN, ↓q_isNT, ↓q_noNN, ↓q_noNT, ↓q_I1, ↓q_enumTT, ↓q_enumLL, ↓q_enumOL, ↓withL_of, ↓q_PP, ↓bd_mono, ↓bd_abs, ↓bd_mul, ↓bd_ok, ↓bd_add, ↓bd_sub, ↓bd_neg, ↓bd_div, ↓bd_pow, ↓bd_of, ↓clsL_map, ↓dstart, h_dwipe0, h_dwipe1, List.zip_cons_cons, List.zip_nil_left, List.nil_append, List.set_cons_zero, List.set_cons_succ, List.map_cons, List.map_nil, List.replicate, List.length_cons, List.length_nil, List.cons_append, List.nil_append, Nat.reduceAdd, Nat.reduceSub, Int.reduceNeg, Int.reduceToNat, Nat.zero_add, Nat.sub_zero, Int.reduceMul, Int.reduceAdd, Int.reducePow, forall_const, true_and, and_true, decide_true, decide_false, Bool.and_true, Bool.and_false, Bool.not_true, Bool.not_false])
local macro_rules | `(tactic| walk_at "dc") => `(tactic| simp only [↓condB_t, ↓condB_f, ↓condB_d, ↓condB_n, ↓setK_z, ↓setK_s, ↓getS_z, ↓getS_s, ↓withL_z, ↓withL_s, ↓withL_s', ↓putK_z, ↓putK_s, ↓putK_s', ↓m_nil, ↓m_cons, ↓m_asg, ↓m_asgT, ↓m_asgC, ↓m_par3, ↓m_par, ↓m_aug, ↓m_daug, ↓m_dput2, ↓m_dput, ↓m_seti, ↓m_augi, ↓m_ex, ↓m_ret, ↓m_ret0, ↓m_brk, ↓m_cont, ↓m_pas, ↓m_raise, ↓unsK_z, ↓unsK_s, ↓m_tryA, ↓m_tryL, ↓m_raiseX, ↓m_setf, ↓m_augf, ↓m_setf2, ↓m_tryS, ↓m_never, ↓m_ife, ↓m_fr, ↓isBl_b, ↓t_and, ↓t_or, ↓t_not, ↓t_v, ↓t_cmp, ↓t_mdin, ↓t_din, ↓t_chain, ↓t_yes, ↓e_var, ↓e_int, ↓e_str, ↓e_bl, ↓e_non, ↓e_glob, ↓e_bin, ↓e_neg, ↓e_cmp, ↓e_chain, ↓e_and, ↓e_or, ↓e_not, ↓e_ite, ↓e_idx, ↓e_sl, ↓e_sl2, ↓e_revs, ↓e_tup, ↓e_lst, ↓e_callH, ↓e_call, ↓e_bi, ↓e_isi, ↓e_me0, ↓e_me1, ↓e_dnew, ↓e_disp, ↓e_split, ↓e_join, ↓e_idxS, ↓e_sw, ↓e_intS, ↓onStr_s, ↓s_str, ↓e_mget, ↓e_callV, ↓e_dget, ↓e_dict0, ↓e_dict, ↓e_isx, ↓e_fld, ↓e_callN, ↓e_new0, ↓e_meth, ↓e_revT, ↓revLW_t, ↓e_trng, ↓trngW_1, ↓trngW_2, ↓trngW_3, ↓e_lzip, ↓v_lzipLL, ↓e_lrng, ↓e_attr, ↓e_newI, ↓e_isv, ↓e_look, ↓k_nil, ↓k_int, ↓k_str, ↓e_comp, ↓a_nil, ↓a_cons, ↓o_abs, ↓o_int, ↓o_var, ↓o_bin, ↓o_bi, ↓o_call, ↓o_neg, ↓o_idx, ↓i_seq, ↓i_rng, ↓i_enum, ↓i_zip, ↓i_zip3, ↓i_rev, ↓onI_i, ↓b_add, ↓b_addT, ↓b_sub, ↓b_mul, ↓b_fdiv, ↓b_mod, ↓b_pow, ↓b_shl, ↓b_addBI, ↓b_addBB, ↓b_subBI, ↓b_mulS, ↓b_mulT, ↓b_addLL, ↓b_addOL, ↓b_mulO, ↓b_mulL, ↓u_add, ↓u_sub, ↓u_mul, ↓c_lt, ↓c_le, ↓c_gt, ↓c_ge, ↓c_eq, ↓c_ne, ↓c_eqB, ↓c_neB, ↓c_eqS, ↓c_neS, ↓c_eqT, ↓c_neT, ↓c_isBt, ↓c_notBt, ↓c_isNo, ↓c_noNo, ↓c_isE, ↓c_noE, ↓c_isC, ↓c_inT, ↓c_inL, ↓c_inK, ↓c_inS, ↓c_noT, ↓c_noL, ↓c_noK, ↓c_inO, ↓c_noO, ↓inK_s0, ↓inK_sc, ↓inK_i0, ↓inK_ic, ↓atK_0, ↓atK_1, ↓atK_2, ↓atK_3, ↓x_tupK, ↓x_lstK, ↓x_klstK, ↓x_obj, ↓l_tup, ↓l_lst, ↓l_klst, ↓l_obj, ↓l_str, ↓f_str, ↓f_abs, ↓f_min, ↓f_max3, ↓f_max, ↓f_bool, ↓f_int, ↓f_intB, ↓f_divmod, ↓f_tupT, ↓f_tupL, ↓f_tupK, ↓f_tupO, ↓s_tup, ↓s_tupO, ↓s_lst, ↓s_klst, ↓s_obj, ↓v_revT, ↓v_revL, ↓v_revO, ↓w_get, ↓w_setK, ↓m_app, ↓r_app, ↓m_cntL, ↓m_ext, ↓r_ext, ↓r_cntL, ↓m_cntO, ↓r_cntO, ↓c_eqT0, ↓sl2_L, ↓sl2_O, ↓m_idxL, ↓r_idxL, ↓m_idxO, ↓r_idxO, ↓m_pop, ↓r_pop, ↓n_f, ↓q_tup, ↓q_lst, ↓q_klst, ↓q_r1, ↓q_r2, ↓g_tupK, ↓setsK_n, ↓setsK_c, ↓g_name, ↓j_intD, ↓j_boolD, ↓j_strD, ↓j_tupleD, ↓j_listD, ↓j_int0, ↓j_bool0, ↓j_str0, ↓j_tuple0, ↓j_list0, ↓j_dict0, ↓j_dictD, ↓j_intN, ↓j_intB, ↓j_intI, ↓j_intS, ↓j_intT, ↓j_intL, ↓j_intK, ↓j_boolN, ↓j_boolB, ↓j_boolI, ↓j_boolS, ↓j_boolT, ↓j_boolL, ↓j_boolK, ↓j_strN, ↓j_strB, ↓j_strI, ↓j_strS, ↓j_strT, ↓j_strL, ↓j_strK, ↓j_tupleN, ↓j_tupleB, ↓j_tupleI, ↓j_tupleS, ↓j_tupleT, ↓j_tupleL, ↓j_tupleK, ↓j_listN, ↓j_listB, ↓j_listI, ↓j_listS, ↓j_listT, ↓j_listL, ↓j_listK, ↓j_dictN, ↓j_dictB, ↓j_dictI, ↓j_dictS, ↓j_dictT, ↓j_dictL, ↓j_dictK, ↓v_listT, ↓v_listL, ↓v_listOT, ↓v_listK, ↓v_listOK, ↓v_listOL, ↓v_addLO, ↓v_addOL, ↓v_addOo, ↓v_addB, ↓v_addS, ↓vv_sum, ↓vv_all, ↓vv_any, ↓k_ix0, ↓k_ix1, ↓k_ix2, ↓k_ix3, ↓atK_one, ↓for_rng, ↓q_zipTT, ↓q_zipLT, ↓q_zipTL, ↓q_zipLL, ↓q_zipTTT, ↓q_seqO, ↓q_all2, ↓q_revTT, ↓q_revLL, ↓q_II, ↓q_I0, ↓q_0I, ↓q_00, ↓q_22, ↓q_P, ↓q_NN, ↓q_isNN, ↓q_isNT, ↓q_noNN, ↓q_noNT, ↓q_I1, ↓q_enumTT, ↓q_enumLL, ↓q_enumOL, ↓withL_of, ↓q_PP, ↓bd_mono, ↓bd_abs, ↓bd_mul, ↓bd_ok, ↓bd_add, ↓bd_sub, ↓bd_neg, ↓bd_div, ↓bd_pow, ↓bd_of, ↓clsL_map, ↓dstart, h_dwipe0, h_dwipe1, List.zip_cons_cons, List.zip_nil_left, List.nil_append, List.set_cons_zero, List.set_cons_succ, List.map_cons, List.map_nil, List.replicate, List.length_cons, List.length_nil, List.cons_append, List.nil_append, Nat.reduceAdd, Nat.reduceSub, Int.reduceNeg, Int.reduceToNat, Nat.zero_add, Nat.sub_zero, Int.reduceMul, Int.reduceAdd, Int.reducePow, forall_const, true_and, and_true, decide_true, decide_false, Bool.and_true, Bool.and_false, Bool.not_true, Bool.not_false])
local macro_rules | `(tactic| walk_at "fit") => `(tactic| (repeat' first | decide | with_reducible assumption | omega | (refine h_pow10 ?_ ?_ <;> omega) | (refine h_mulL ?_ ?_ <;> omega) | (refine h_mulR ?_ ?_ <;> omega) | (refine h_div ?_ ?_ <;> omega)))

def isWord (w : Str) : Prop := w = ("times" : Str) ∨ w = ("plus" : Str) ∨ w = ("minus" : Str) ∨ w = ("by" : Str) ∨ w = ("part" : Str)
def isRt (p n w : Int) : Prop := (0 < w ∧ w < p) ∧ w ^ n.toNat % p = 1 ∧ ∀ k : Nat, 1 ≤ k → k < n.toNat → w ^ k % p ≠ 1 ∧ w ^ k % p ≠ 0
def numJ (p n : Int) (j : Nat) : Int := (1 + (j : Int)) ^ ((p - 1) / n).toNat % p
def isFst (p n w : Int) : Prop := ∃ j : Nat, j < 59 ∧ w = numJ p n j ∧ isRt p n w ∧ ∀ i : Nat, i < j → ¬ isRt p n (numJ p n i)
def lst (p n l : Int) : Prop := ∃ v, isFst p n v ∧ (∃ k : Nat, 1 ≤ k ∧ k ≤ n.toNat ∧ Nat.gcd n.toNat k = 1 ∧ l = v ^ k % p) ∧ ∀ k : Nat, 1 ≤ k → k ≤ n.toNat → Nat.gcd n.toNat k = 1 → l ≤ v ^ k % p
def hg : Nat → Nat → Int → Int
  | 0, _, _ => 1
  | _ + 1, 0, _ => 0
  | k + 1, j + 1, y => hg (k + 1) j y + (y + (j : Int)) * hg k (j + 1) y
def sh (s : Nat) (f : Nat → Int) (q : Nat) : Int := if s ≤ q then f (q - s) else 0
def great : DX := ⟨("TooGreat" : Str), [], []⟩
def TS (p w : Int) (s : List Int) (k : Nat) : Int := sumN s.length (fun i => s.getD i 0 * w ^ (k * i)) % p
def TL (p w : Int) (s : List Int) : List Int := (List.range s.length).map (TS p w s)
def term (a b : List Int) (k i : Nat) : Int := if i ≤ k then a.getD i 0 * b.getD (k - i) 0 else 0
def S (a b : List Int) (k i : Nat) : Int := sumN i (term a b k)
def below : DX := ⟨("Below" : Str), [], []⟩
def small (n p : Int) : Prop := 0 ≤ n ∧ n < 1000000 ∧ -100 ≤ p ∧ p ≤ 100
def tl (F : Nat → Int) (o : Nat) (q : Nat) : Int := F (o + q)
def wellD (sc : List Int) (nx gr ro tu mi : Int) : MO := .dic [(.inr "script", .lst (sc.map D.int)), (.inr "next", .int nx), (.inr "great", .int gr), (.inr "room", .int ro), (.inr "turn", .int tu), (.inr "mixed", .int mi)]
theorem wk_ne : ((Sum.inr "script" : Key) = .inr "next") = False ∧ ((Sum.inr "script" : Key) = .inr "great") = False ∧ ((Sum.inr "script" : Key) = .inr "room") = False ∧ ((Sum.inr "script" : Key) = .inr "turn") = False ∧ ((Sum.inr "script" : Key) = .inr "mixed") = False ∧ ((Sum.inr "next" : Key) = .inr "script") = False ∧ ((Sum.inr "next" : Key) = .inr "great") = False ∧ ((Sum.inr "next" : Key) = .inr "room") = False ∧ ((Sum.inr "next" : Key) = .inr "turn") = False ∧ ((Sum.inr "next" : Key) = .inr "mixed") = False ∧ ((Sum.inr "great" : Key) = .inr "script") = False ∧ ((Sum.inr "great" : Key) = .inr "next") = False ∧ ((Sum.inr "great" : Key) = .inr "room") = False ∧ ((Sum.inr "great" : Key) = .inr "turn") = False ∧ ((Sum.inr "great" : Key) = .inr "mixed") = False ∧ ((Sum.inr "room" : Key) = .inr "script") = False ∧ ((Sum.inr "room" : Key) = .inr "next") = False ∧ ((Sum.inr "room" : Key) = .inr "great") = False ∧ ((Sum.inr "room" : Key) = .inr "turn") = False ∧ ((Sum.inr "room" : Key) = .inr "mixed") = False ∧ ((Sum.inr "turn" : Key) = .inr "script") = False ∧ ((Sum.inr "turn" : Key) = .inr "next") = False ∧ ((Sum.inr "turn" : Key) = .inr "great") = False ∧ ((Sum.inr "turn" : Key) = .inr "room") = False ∧ ((Sum.inr "turn" : Key) = .inr "mixed") = False ∧ ((Sum.inr "mixed" : Key) = .inr "script") = False ∧ ((Sum.inr "mixed" : Key) = .inr "next") = False ∧ ((Sum.inr "mixed" : Key) = .inr "great") = False ∧ ((Sum.inr "mixed" : Key) = .inr "room") = False ∧ ((Sum.inr "mixed" : Key) = .inr "turn") = False := by
  refine ⟨?_, ?_, ?_, ?_, ?_, ?_, ?_, ?_, ?_, ?_, ?_, ?_, ?_, ?_, ?_, ?_, ?_, ?_, ?_, ?_, ?_, ?_, ?_, ?_, ?_, ?_, ?_, ?_, ?_, ?_⟩ <;> exact eq_false (by decide +kernel)
theorem wg_script {p : Addr} {μ : Mu} {sc : List Int} {nx gr ro tu mi : Int} {Q : DQ} : dgetW (.obj p) (.str "script") ((p, wellD sc nx gr ro tu mi) :: μ) Q = Q (.lst (sc.map D.int)) ((p, wellD sc nx gr ro tu mi) :: μ) := by
  obtain ⟨n01, n02, n03, n04, n05, n10, n12, n13, n14, n15, n20, n21, n23, n24, n25, n30, n31, n32, n34, n35, n40, n41, n42, n43, n45, n50, n51, n52, n53, n54⟩ := wk_ne
  refine propext ⟨?_, fun q => ⟨_, .inr "script", _, get_z, rfl, by simp [dgetD, n01, n02, n03, n04, n05, n10, n12, n13, n14, n15, n20, n21, n23, n24, n25, n30, n31, n32, n34, n35, n40, n41, n42, n43, n45, n50, n51, n52, n53, n54], q⟩⟩
  rintro ⟨kds, k, d, h1, h2, h3, q⟩
  rw [get_z] at h1
  unfold wellD at h1
  cases h1
  cases h2
  simp [dgetD, n01, n02, n03, n04, n05, n10, n12, n13, n14, n15, n20, n21, n23, n24, n25, n30, n31, n32, n34, n35, n40, n41, n42, n43, n45, n50, n51, n52, n53, n54] at h3
  subst h3
  exact q
theorem wg_next {p : Addr} {μ : Mu} {sc : List Int} {nx gr ro tu mi : Int} {Q : DQ} : dgetW (.obj p) (.str "next") ((p, wellD sc nx gr ro tu mi) :: μ) Q = Q (.int nx) ((p, wellD sc nx gr ro tu mi) :: μ) := by
  obtain ⟨n01, n02, n03, n04, n05, n10, n12, n13, n14, n15, n20, n21, n23, n24, n25, n30, n31, n32, n34, n35, n40, n41, n42, n43, n45, n50, n51, n52, n53, n54⟩ := wk_ne
  refine propext ⟨?_, fun q => ⟨_, .inr "next", _, get_z, rfl, by simp [dgetD, n01, n02, n03, n04, n05, n10, n12, n13, n14, n15, n20, n21, n23, n24, n25, n30, n31, n32, n34, n35, n40, n41, n42, n43, n45, n50, n51, n52, n53, n54], q⟩⟩
  rintro ⟨kds, k, d, h1, h2, h3, q⟩
  rw [get_z] at h1
  unfold wellD at h1
  cases h1
  cases h2
  simp [dgetD, n01, n02, n03, n04, n05, n10, n12, n13, n14, n15, n20, n21, n23, n24, n25, n30, n31, n32, n34, n35, n40, n41, n42, n43, n45, n50, n51, n52, n53, n54] at h3
  subst h3
  exact q
theorem wg_great {p : Addr} {μ : Mu} {sc : List Int} {nx gr ro tu mi : Int} {Q : DQ} : dgetW (.obj p) (.str "great") ((p, wellD sc nx gr ro tu mi) :: μ) Q = Q (.int gr) ((p, wellD sc nx gr ro tu mi) :: μ) := by
  obtain ⟨n01, n02, n03, n04, n05, n10, n12, n13, n14, n15, n20, n21, n23, n24, n25, n30, n31, n32, n34, n35, n40, n41, n42, n43, n45, n50, n51, n52, n53, n54⟩ := wk_ne
  refine propext ⟨?_, fun q => ⟨_, .inr "great", _, get_z, rfl, by simp [dgetD, n01, n02, n03, n04, n05, n10, n12, n13, n14, n15, n20, n21, n23, n24, n25, n30, n31, n32, n34, n35, n40, n41, n42, n43, n45, n50, n51, n52, n53, n54], q⟩⟩
  rintro ⟨kds, k, d, h1, h2, h3, q⟩
  rw [get_z] at h1
  unfold wellD at h1
  cases h1
  cases h2
  simp [dgetD, n01, n02, n03, n04, n05, n10, n12, n13, n14, n15, n20, n21, n23, n24, n25, n30, n31, n32, n34, n35, n40, n41, n42, n43, n45, n50, n51, n52, n53, n54] at h3
  subst h3
  exact q
theorem wg_room {p : Addr} {μ : Mu} {sc : List Int} {nx gr ro tu mi : Int} {Q : DQ} : dgetW (.obj p) (.str "room") ((p, wellD sc nx gr ro tu mi) :: μ) Q = Q (.int ro) ((p, wellD sc nx gr ro tu mi) :: μ) := by
  obtain ⟨n01, n02, n03, n04, n05, n10, n12, n13, n14, n15, n20, n21, n23, n24, n25, n30, n31, n32, n34, n35, n40, n41, n42, n43, n45, n50, n51, n52, n53, n54⟩ := wk_ne
  refine propext ⟨?_, fun q => ⟨_, .inr "room", _, get_z, rfl, by simp [dgetD, n01, n02, n03, n04, n05, n10, n12, n13, n14, n15, n20, n21, n23, n24, n25, n30, n31, n32, n34, n35, n40, n41, n42, n43, n45, n50, n51, n52, n53, n54], q⟩⟩
  rintro ⟨kds, k, d, h1, h2, h3, q⟩
  rw [get_z] at h1
  unfold wellD at h1
  cases h1
  cases h2
  simp [dgetD, n01, n02, n03, n04, n05, n10, n12, n13, n14, n15, n20, n21, n23, n24, n25, n30, n31, n32, n34, n35, n40, n41, n42, n43, n45, n50, n51, n52, n53, n54] at h3
  subst h3
  exact q
theorem wg_turn {p : Addr} {μ : Mu} {sc : List Int} {nx gr ro tu mi : Int} {Q : DQ} : dgetW (.obj p) (.str "turn") ((p, wellD sc nx gr ro tu mi) :: μ) Q = Q (.int tu) ((p, wellD sc nx gr ro tu mi) :: μ) := by
  obtain ⟨n01, n02, n03, n04, n05, n10, n12, n13, n14, n15, n20, n21, n23, n24, n25, n30, n31, n32, n34, n35, n40, n41, n42, n43, n45, n50, n51, n52, n53, n54⟩ := wk_ne
  refine propext ⟨?_, fun q => ⟨_, .inr "turn", _, get_z, rfl, by simp [dgetD, n01, n02, n03, n04, n05, n10, n12, n13, n14, n15, n20, n21, n23, n24, n25, n30, n31, n32, n34, n35, n40, n41, n42, n43, n45, n50, n51, n52, n53, n54], q⟩⟩
  rintro ⟨kds, k, d, h1, h2, h3, q⟩
  rw [get_z] at h1
  unfold wellD at h1
  cases h1
  cases h2
  simp [dgetD, n01, n02, n03, n04, n05, n10, n12, n13, n14, n15, n20, n21, n23, n24, n25, n30, n31, n32, n34, n35, n40, n41, n42, n43, n45, n50, n51, n52, n53, n54] at h3
  subst h3
  exact q
theorem wg_mixed {p : Addr} {μ : Mu} {sc : List Int} {nx gr ro tu mi : Int} {Q : DQ} : dgetW (.obj p) (.str "mixed") ((p, wellD sc nx gr ro tu mi) :: μ) Q = Q (.int mi) ((p, wellD sc nx gr ro tu mi) :: μ) := by
  obtain ⟨n01, n02, n03, n04, n05, n10, n12, n13, n14, n15, n20, n21, n23, n24, n25, n30, n31, n32, n34, n35, n40, n41, n42, n43, n45, n50, n51, n52, n53, n54⟩ := wk_ne
  refine propext ⟨?_, fun q => ⟨_, .inr "mixed", _, get_z, rfl, by simp [dgetD, n01, n02, n03, n04, n05, n10, n12, n13, n14, n15, n20, n21, n23, n24, n25, n30, n31, n32, n34, n35, n40, n41, n42, n43, n45, n50, n51, n52, n53, n54], q⟩⟩
  rintro ⟨kds, k, d, h1, h2, h3, q⟩
  rw [get_z] at h1
  unfold wellD at h1
  cases h1
  cases h2
  simp [dgetD, n01, n02, n03, n04, n05, n10, n12, n13, n14, n15, n20, n21, n23, n24, n25, n30, n31, n32, n34, n35, n40, n41, n42, n43, n45, n50, n51, n52, n53, n54] at h3
  subst h3
  exact q
theorem wq_next_ {p : Addr} {μ : Mu} {sc : List Int} {nx gr ro tu mi v : Int} {q : Mu → Prop} : dputW (.obj p) (.str "next") (.int v) ((p, wellD sc nx gr ro tu mi) :: μ) q = q ((p, wellD sc v gr ro tu mi) :: μ) := by
  obtain ⟨n01, n02, n03, n04, n05, n10, n12, n13, n14, n15, n20, n21, n23, n24, n25, n30, n31, n32, n34, n35, n40, n41, n42, n43, n45, n50, n51, n52, n53, n54⟩ := wk_ne
  have e : Mu.put ((p, wellD sc nx gr ro tu mi) :: μ) p (.dic (dputD [(.inr "script", .lst (sc.map D.int)), (.inr "next", .int nx), (.inr "great", .int gr), (.inr "room", .int ro), (.inr "turn", .int tu), (.inr "mixed", .int mi)] (.inr "next") (.int v))) = (p, wellD sc v gr ro tu mi) :: μ := by
    rw [put_z]
    unfold wellD
    simp [dputD, dgetD, n01, n02, n03, n04, n05, n10, n12, n13, n14, n15, n20, n21, n23, n24, n25, n30, n31, n32, n34, n35, n40, n41, n42, n43, n45, n50, n51, n52, n53, n54]
  refine propext ⟨?_, fun q => ⟨_, .inr "next", get_z, rfl, by rw [sizeLine_eq]; show 6 < 16777216; decide, by rw [e]; exact q⟩⟩
  rintro ⟨kds, k, h1, h2, _, q⟩
  rw [get_z] at h1
  unfold wellD at h1
  cases h1
  cases h2
  rw [e] at q
  exact q
theorem wq_great_ {p : Addr} {μ : Mu} {sc : List Int} {nx gr ro tu mi v : Int} {q : Mu → Prop} : dputW (.obj p) (.str "great") (.int v) ((p, wellD sc nx gr ro tu mi) :: μ) q = q ((p, wellD sc nx v ro tu mi) :: μ) := by
  obtain ⟨n01, n02, n03, n04, n05, n10, n12, n13, n14, n15, n20, n21, n23, n24, n25, n30, n31, n32, n34, n35, n40, n41, n42, n43, n45, n50, n51, n52, n53, n54⟩ := wk_ne
  have e : Mu.put ((p, wellD sc nx gr ro tu mi) :: μ) p (.dic (dputD [(.inr "script", .lst (sc.map D.int)), (.inr "next", .int nx), (.inr "great", .int gr), (.inr "room", .int ro), (.inr "turn", .int tu), (.inr "mixed", .int mi)] (.inr "great") (.int v))) = (p, wellD sc nx v ro tu mi) :: μ := by
    rw [put_z]
    unfold wellD
    simp [dputD, dgetD, n01, n02, n03, n04, n05, n10, n12, n13, n14, n15, n20, n21, n23, n24, n25, n30, n31, n32, n34, n35, n40, n41, n42, n43, n45, n50, n51, n52, n53, n54]
  refine propext ⟨?_, fun q => ⟨_, .inr "great", get_z, rfl, by rw [sizeLine_eq]; show 6 < 16777216; decide, by rw [e]; exact q⟩⟩
  rintro ⟨kds, k, h1, h2, _, q⟩
  rw [get_z] at h1
  unfold wellD at h1
  cases h1
  cases h2
  rw [e] at q
  exact q
theorem wq_room_ {p : Addr} {μ : Mu} {sc : List Int} {nx gr ro tu mi v : Int} {q : Mu → Prop} : dputW (.obj p) (.str "room") (.int v) ((p, wellD sc nx gr ro tu mi) :: μ) q = q ((p, wellD sc nx gr v tu mi) :: μ) := by
  obtain ⟨n01, n02, n03, n04, n05, n10, n12, n13, n14, n15, n20, n21, n23, n24, n25, n30, n31, n32, n34, n35, n40, n41, n42, n43, n45, n50, n51, n52, n53, n54⟩ := wk_ne
  have e : Mu.put ((p, wellD sc nx gr ro tu mi) :: μ) p (.dic (dputD [(.inr "script", .lst (sc.map D.int)), (.inr "next", .int nx), (.inr "great", .int gr), (.inr "room", .int ro), (.inr "turn", .int tu), (.inr "mixed", .int mi)] (.inr "room") (.int v))) = (p, wellD sc nx gr v tu mi) :: μ := by
    rw [put_z]
    unfold wellD
    simp [dputD, dgetD, n01, n02, n03, n04, n05, n10, n12, n13, n14, n15, n20, n21, n23, n24, n25, n30, n31, n32, n34, n35, n40, n41, n42, n43, n45, n50, n51, n52, n53, n54]
  refine propext ⟨?_, fun q => ⟨_, .inr "room", get_z, rfl, by rw [sizeLine_eq]; show 6 < 16777216; decide, by rw [e]; exact q⟩⟩
  rintro ⟨kds, k, h1, h2, _, q⟩
  rw [get_z] at h1
  unfold wellD at h1
  cases h1
  cases h2
  rw [e] at q
  exact q
theorem wq_turn_ {p : Addr} {μ : Mu} {sc : List Int} {nx gr ro tu mi v : Int} {q : Mu → Prop} : dputW (.obj p) (.str "turn") (.int v) ((p, wellD sc nx gr ro tu mi) :: μ) q = q ((p, wellD sc nx gr ro v mi) :: μ) := by
  obtain ⟨n01, n02, n03, n04, n05, n10, n12, n13, n14, n15, n20, n21, n23, n24, n25, n30, n31, n32, n34, n35, n40, n41, n42, n43, n45, n50, n51, n52, n53, n54⟩ := wk_ne
  have e : Mu.put ((p, wellD sc nx gr ro tu mi) :: μ) p (.dic (dputD [(.inr "script", .lst (sc.map D.int)), (.inr "next", .int nx), (.inr "great", .int gr), (.inr "room", .int ro), (.inr "turn", .int tu), (.inr "mixed", .int mi)] (.inr "turn") (.int v))) = (p, wellD sc nx gr ro v mi) :: μ := by
    rw [put_z]
    unfold wellD
    simp [dputD, dgetD, n01, n02, n03, n04, n05, n10, n12, n13, n14, n15, n20, n21, n23, n24, n25, n30, n31, n32, n34, n35, n40, n41, n42, n43, n45, n50, n51, n52, n53, n54]
  refine propext ⟨?_, fun q => ⟨_, .inr "turn", get_z, rfl, by rw [sizeLine_eq]; show 6 < 16777216; decide, by rw [e]; exact q⟩⟩
  rintro ⟨kds, k, h1, h2, _, q⟩
  rw [get_z] at h1
  unfold wellD at h1
  cases h1
  cases h2
  rw [e] at q
  exact q
theorem wq_mixed_ {p : Addr} {μ : Mu} {sc : List Int} {nx gr ro tu mi v : Int} {q : Mu → Prop} : dputW (.obj p) (.str "mixed") (.int v) ((p, wellD sc nx gr ro tu mi) :: μ) q = q ((p, wellD sc nx gr ro tu v) :: μ) := by
  obtain ⟨n01, n02, n03, n04, n05, n10, n12, n13, n14, n15, n20, n21, n23, n24, n25, n30, n31, n32, n34, n35, n40, n41, n42, n43, n45, n50, n51, n52, n53, n54⟩ := wk_ne
  have e : Mu.put ((p, wellD sc nx gr ro tu mi) :: μ) p (.dic (dputD [(.inr "script", .lst (sc.map D.int)), (.inr "next", .int nx), (.inr "great", .int gr), (.inr "room", .int ro), (.inr "turn", .int tu), (.inr "mixed", .int mi)] (.inr "mixed") (.int v))) = (p, wellD sc nx gr ro tu v) :: μ := by
    rw [put_z]
    unfold wellD
    simp [dputD, dgetD, n01, n02, n03, n04, n05, n10, n12, n13, n14, n15, n20, n21, n23, n24, n25, n30, n31, n32, n34, n35, n40, n41, n42, n43, n45, n50, n51, n52, n53, n54]
  refine propext ⟨?_, fun q => ⟨_, .inr "mixed", get_z, rfl, by rw [sizeLine_eq]; show 6 < 16777216; decide, by rw [e]; exact q⟩⟩
  rintro ⟨kds, k, h1, h2, _, q⟩
  rw [get_z] at h1
  unfold wellD at h1
  cases h1
  cases h2
  rw [e] at q
  exact q
def isWell (o : MO) : Prop := ∃ (sc : List Int) (nx gr ro tu mi : Int), o = wellD sc nx gr ro tu mi ∧ 0 ≤ nx ∧ nx ≤ (sc.length : Int) ∧ sc.length ≤ 1000 ∧ 0 ≤ gr
def sp_well : DSp := fun ds μ Q _ => ∃ ns : List Int, ds = [.klst (ns.map D.int)] ∧ μ = [] ∧ ns.length ≤ 1000 ∧ ∀ o p, isWell o → Q (.obj p) [(p, o)]
def sp_stirred : DSp := fun ds μ Q _ => ∃ a t : Int, ds = [.int a, .int t] ∧ ∀ r, 0 ≤ r → r < 2147483579 → Q (.int r) μ
def sp_drawW : DSp := fun ds μ Q _ => ∃ (p : Addr) (o : MO) (m : Int), ds = [.obj p, .int m] ∧ μ = [(p, o)] ∧ isWell o ∧ 0 < m ∧ m < 2 ^ 200 ∧ ∀ t o', 0 ≤ t → t < m → isWell o' → Q (.int t) [(p, o')]

def nz (ns : List Int) : Prop := ∀ z, ns ≠ z ++ [0]
def inRow (b : Int) : D → Bool
  | .int n => decide (0 ≤ n ∧ n < b)
  | _ => false
def lastOk : List D → Bool
  | [] => true
  | [.int n] => decide (n ≠ 0)
  | [_] => false
  | _ :: r => lastOk r
def isRowD (b : Int) : D → Bool
  | .tup ds => ds.all (inRow b) && lastOk ds
  | _ => false
theorem lastOk_snoc {n : Int} : ∀ ds : List D, lastOk (ds ++ [.int n]) = decide (n ≠ 0)
  | [] => rfl
  | [d] => by cases d <;> rfl
  | d :: e :: r => by
    show lastOk (d :: e :: (r ++ [.int n])) = _
    have ih := lastOk_snoc (n := n) (e :: r)
    cases d <;> exact ih

/-! ### numbers as texts -/
open PySem.NumText in
def numV (cs : List Nat) : Int := ((digitsVal cs : Nat) : Int)
def tS (n : Int) : Str := Str.ofString (toString n)
def isDg (c : Nat) : Bool := decide (48 ≤ c) && decide (c ≤ 57)
def numOk (s : Str) : Bool := decide (1 ≤ s.length) && decide (s.length ≤ 60) && s.cps.toList.all isDg && !(decide (s.cps.toList.head? = some 48) && decide (1 < s.length))
def numW (s : Str) : Option Int := if numOk s = true then some (numV s.cps.toList) else none
def optD : Option Int → D
  | some n => .int n
  | none => .non
theorem all_dg {cs : List Nat} (h : cs.all isDg = true) : PySem.NumText.AllDigits cs := fun c hc => by
  have := List.all_eq_true.mp h c hc
  unfold isDg at this
  rw [Bool.and_eq_true, decide_eq_true_eq, decide_eq_true_eq] at this
  exact this
theorem dg_all {cs : List Nat} (h : PySem.NumText.AllDigits cs) : cs.all isDg = true := by
  rw [List.all_eq_true]
  intro c hc
  have := h c hc
  unfold isDg
  rw [Bool.and_eq_true, decide_eq_true_eq, decide_eq_true_eq]
  exact this
theorem tS_cps (m : Nat) : (tS (m : Int)).cps.toList = (Nat.toDigits 10 m).map Char.toNat := PySem.W.KIN.signs_num m
theorem dig_chars (m : Nat) : PySem.NumText.AllDigits ((Nat.toDigits 10 m).map Char.toNat) := by
  intro c hc
  obtain ⟨d, hd, rfl⟩ := List.mem_map.mp hc
  have := Nat.isDigit_of_mem_toDigits (by decide) (by decide) hd
  unfold Char.isDigit at this
  rw [Bool.and_eq_true, decide_eq_true_eq, decide_eq_true_eq] at this
  exact ⟨this.1, this.2⟩
theorem toDig_step {n : Nat} (h : 10 ≤ n) : Nat.toDigits 10 n = Nat.toDigits 10 (n / 10) ++ [Nat.digitChar (n % 10)] := Nat.toDigits_of_base_le (by decide) h
theorem dig_pos (m : Nat) : 1 ≤ (Nat.toDigits 10 m).length := by
  by_cases h : 10 ≤ m
  · rw [toDig_step h, List.length_append]; simp
  · rw [Nat.toDigits_of_lt_base (by omega)]; simp
theorem dig_len : ∀ (k m : Nat), m < 10 ^ (k + 1) → (Nat.toDigits 10 m).length ≤ k + 1
  | 0, m, h => by rw [Nat.toDigits_of_lt_base (by omega)]; simp
  | k + 1, m, h => by
    by_cases h2 : 10 ≤ m
    · rw [toDig_step h2, List.length_append, List.length_singleton]
      have := dig_len k (m / 10) (by rw [Nat.pow_succ] at h; omega)
      omega
    · rw [Nat.toDigits_of_lt_base (by omega)]; simp
theorem dig_head : ∀ m : Nat, 1 ≤ m → ((Nat.toDigits 10 m).map Char.toNat).head? ≠ some 48 := by
  intro m
  induction m using Nat.strongRecOn with
  | ind m ih =>
    intro h1 h
    by_cases h2 : 10 ≤ m
    · rw [toDig_step h2, List.map_append] at h
      have hp := dig_pos (m / 10)
      have i1 := ih (m / 10) (by omega) (by omega)
      cases e : (Nat.toDigits 10 (m / 10)).map Char.toNat with
      | nil =>
        have := congrArg List.length e
        rw [List.length_map, List.length_nil] at this
        omega
      | cons c cs =>
        rw [e] at h i1
        exact i1 (by simpa using h)
    · rw [Nat.toDigits_of_lt_base (by omega)] at h
      have : m = 1 ∨ m = 2 ∨ m = 3 ∨ m = 4 ∨ m = 5 ∨ m = 6 ∨ m = 7 ∨ m = 8 ∨ m = 9 := by omega
      rcases this with rfl | rfl | rfl | rfl | rfl | rfl | rfl | rfl | rfl <;> exact absurd h (by decide)
theorem tS_len (m : Nat) : (tS (m : Int)).length = (Nat.toDigits 10 m).length := by
  show (tS (m : Int)).cps.size = _
  rw [← Array.length_toList, tS_cps, List.length_map]
theorem tS_numOk {m : Nat} (h : m < 10 ^ 60) : numOk (tS (m : Int)) = true := by
  unfold numOk
  rw [tS_len, tS_cps, dg_all (dig_chars m)]
  have h1 := dig_pos m
  have h2 := dig_len 59 m h
  rw [decide_eq_true h1, decide_eq_true h2]
  by_cases hm : 1 ≤ m
  · rw [decide_eq_false (dig_head m hm)]; rfl
  · have : m = 0 := by omega
    subst this
    decide
theorem tS_num {m : Nat} (h : m < 10 ^ 60) : numW (tS (m : Int)) = some (m : Int) := by
  unfold numW
  rw [if_pos (tS_numOk h), tS_cps]
  unfold numV
  rw [PySem.W.KIN.val_back]
theorem num_text {s : Str} (h : numOk s = true) : PySem.intText? s = some (numV s.cps.toList) ∧ s.length ≤ 640 := by
  unfold numOk at h
  rw [Bool.and_eq_true, Bool.and_eq_true, Bool.and_eq_true, decide_eq_true_eq, decide_eq_true_eq] at h
  obtain ⟨⟨⟨h1, h2⟩, h3⟩, _⟩ := h
  have e : s.length = s.cps.toList.length := Array.length_toList.symm
  refine ⟨PySem.intText_digits (all_dg h3) (fun z => ?_) (by omega), by omega⟩
  rw [z] at e
  rw [e] at h1
  simp at h1
theorem tS_free {m : Nat} {c : Nat} (h : c < 48 ∨ 57 < c) : c ∉ (tS (m : Int)).cps.toList := by
  rw [tS_cps]
  intro hc
  have := dig_chars m c hc
  omega

def rowT (ns : List Int) : Str := if ns = [] then ("-" : Str) else Txt.join ("." : Str) (ns.reverse.map tS)
def sp_wordsof : DSp := fun ds μ Q _ => ∃ s t : Str, ds = [.str s, .str t] ∧ (t.length == 0) = false ∧ s.length + 2 ≤ sizeLine ∧ Q (.lst ((Txt.split s t).map D.str)) μ
def sp_numin : DSp := fun ds μ Q _ => ∃ s : Str, ds = [.str s] ∧ s.length ≤ sizeLine ∧ Q (optD (numW s)) μ
def sp_numsin : DSp := fun ds μ Q _ => ∃ ws : List Str, ds = [.lst (ws.map D.str)] ∧ ws.length ≤ 1000000 ∧ (∀ w ∈ ws, numOk w = true) ∧ Q (.tup (ws.map fun w => D.int (numV w.cps.toList))) μ
def sp_pointed : DSp := fun ds μ Q _ => ∃ ns : List Int, ds = [.tup (ns.map D.int)] ∧ ns.length ≤ 1000 ∧ (∀ n ∈ ns, 0 ≤ n ∧ n < 10 ^ 60) ∧ Q (.str (Txt.join ("." : Str) (ns.map tS))) μ
def sp_showrow : DSp := fun ds μ Q _ => ∃ ns : List Int, ds = [.tup (ns.map D.int)] ∧ ns.length ≤ 1000 ∧ (∀ n ∈ ns, 0 ≤ n ∧ n < 10 ^ 60) ∧ Q (.str (rowT ns)) μ
def sp_readrow : DSp := fun ds μ Q _ => ∃ (b : Int) (ns : List Int), ds = [.int b, .str (rowT ns)] ∧ b ≤ 2000000 ∧ digs b ns ∧ nz ns ∧ ns.length ≤ 1000 ∧ Q (.tup (ns.map D.int)) μ
def sp_baseW : DSp := fun ds μ Q _ => ∃ (p : Addr) (o : MO), ds = [.obj p] ∧ μ = [(p, o)] ∧ isWell o ∧ ∀ b o', 2 ≤ b → b ≤ 1000001 → isWell o' → Q (.int b) [(p, o')]
def sp_rowW : DSp := fun ds μ Q _ => ∃ (p : Addr) (o : MO) (b m : Int), ds = [.obj p, .int b, .int m] ∧ μ = [(p, o)] ∧ isWell o ∧ 2 ≤ b ∧ b ≤ 1000001 ∧ 0 ≤ m ∧ m ≤ 1000 ∧ ∀ ns o', digs b ns → (ns.length : Int) ≤ m → nz ns → isWell o' → Q (.tup (ns.map D.int)) [(p, o')]

theorem in_fig {c : Nat} {μ : Mu} {k : Bool → Prop} : cmpW .isin (.str ⟨#[c]⟩) (.str ("0123456789" : Str)) μ k = k (isDg c) := by
  show k (!(Builtin.Str.occurrences ("0123456789" : Str) ⟨#[c]⟩ 0 ("0123456789" : Str).length 1).isEmpty) = _
  rw [PySem.StrLaws.found_one]
  congr 1
  rw [show ("0123456789" : Str).cps.toList = [48, 49, 50, 51, 52, 53, 54, 55, 56, 57] by decide +kernel]
  unfold isDg
  rw [← Bool.decide_and, decide_eq_decide]
  simp only [List.mem_cons, List.not_mem_nil, or_false]
  omega
theorem fig_eq (c : Nat) : (!(Builtin.Str.occurrences ("0123456789" : Str) ⟨#[c]⟩ 0 ("0123456789" : Str).length 1).isEmpty) = isDg c := by
  have h := in_fig (c := c) (μ := []) (k := fun b => b = isDg c)
  exact h.mpr rfl
theorem mk_cps {s : Str} {cs : List Nat} (h : s.cps.toList = cs) : s = ⟨cs.toArray⟩ := by
  cases s
  subst h
  rfl
theorem str_zero : ("0" : Str) = ⟨#[48]⟩ := by decide +kernel
theorem asStrs_map : ∀ ss : List Str, asStrs (ss.map D.str) = some ss
  | [] => rfl
  | s :: ss => by
    show (asStrs (ss.map D.str)).map (s :: ·) = _
    rw [asStrs_map ss]
    rfl
theorem sum_le {ss : List Str} {b : Nat} (h : ∀ s ∈ ss, s.length ≤ b) : (ss.map (·.length)).sum ≤ ss.length * b := by
  induction ss with
  | nil => simp
  | cons s ss ih =>
    have h1 := h s List.mem_cons_self
    have h2 := ih fun x hx => h x (List.mem_cons_of_mem _ hx)
    rw [List.map_cons, List.sum_cons, List.length_cons, Nat.succ_mul]
    omega
theorem tS_le {n : Int} (h0 : 0 ≤ n) (h1 : n < 10 ^ 60) : (tS n).length ≤ 60 := by
  obtain ⟨m, rfl⟩ := Int.eq_ofNat_of_zero_le h0
  have hm : m < 10 ^ 60 := by
    have e : ((10 ^ 60 : Nat) : Int) = (10 : Int) ^ 60 := Int.natCast_pow 10 60
    rw [← e] at h1
    exact Int.ofNat_lt.mp h1
  rw [tS_len]
  exact dig_len 59 m hm
theorem log_60 {n : Int} (h0 : 0 ≤ n) (h1 : n < 10 ^ 60) : n.natAbs.log2 < 1920 := by
  obtain ⟨m, rfl⟩ := Int.eq_ofNat_of_zero_le h0
  have hm : m < 2 ^ 1920 := by
    have e : ((10 ^ 60 : Nat) : Int) = (10 : Int) ^ 60 := Int.natCast_pow 10 60
    rw [← e] at h1
    exact Nat.lt_of_lt_of_le (Int.ofNat_lt.mp h1) (by decide +kernel)
  show (((m : Nat) : Int).natAbs).log2 < _
  rw [Int.natAbs_natCast]
  by_cases h : m = 0
  · subst h; decide
  · exact (Nat.log2_lt h).mpr hm
/-- texts of numbers, put together -/
theorem join_nums {ns : List Int} {sep : Str} {μ : Mu} {Q : DQ} (hs : sep.length = 1) (hl : ns.length ≤ 1000) (hn : ∀ n ∈ ns, 0 ≤ n ∧ n < 10 ^ 60) (q : Q (.str (Txt.join sep (ns.map tS))) μ) : joinW sep (.lst (ns.map fun n => D.str (tS n))) μ Q := by
  refine ⟨_, ns.map tS, rfl, by rw [← asStrs_map, List.map_map]; rfl, ?_, q⟩
  have := sum_le (ss := ns.map tS) (b := 60) fun s h => by
    obtain ⟨n, h', rfl⟩ := List.mem_map.mp h
    exact tS_le (hn n h').1 (hn n h').2
  rw [List.length_map] at this ⊢
  rw [hs, Nat.mul_one]
  omega
theorem h_neG {a : Addr} {ns : List Int} {μ : Mu} {k : Bool → Prop} (hg : Mu.get μ a = some (.lst (ns.map D.int))) : cmpW .ne (.obj a) (.lst []) μ k = k (!decide (ns = [])) := by
  show (SeqAt.shaped (pdm μ (.obj a)) = true ∧ SeqAt.shaped (.list []) = true ∧ k (!(PyData.eqv (pdm μ (.obj a)) (.list [])))) = _
  have e : pdm μ (.obj a) = .list (ns.map PyData.int) := by
    show (match Mu.get μ a with | some (.lst ds) => PyData.list (pds ds) | _ => .dict []) = _
    rw [hg]
    simp only [h_pdsI]
  have sh : SeqAt.shaped (.list (ns.map PyData.int)) = true := by
    unfold SeqAt.shaped
    rw [PyData.canLay0, h_canI, PyData.depth, h_depI]
    decide
  rw [e, sh, show SeqAt.shaped (.list []) = true from rfl, PyData.eqv, show ([] : List PyData) = ([] : List Int).map PyData.int from rfl, h_eqvI]
  simp

theorem numV_tS {n : Int} (h0 : 0 ≤ n) : numV (tS n).cps.toList = n := by
  obtain ⟨m, rfl⟩ := Int.eq_ofNat_of_zero_le h0
  rw [tS_cps]
  unfold numV
  rw [PySem.W.KIN.val_back]
theorem tS_ok {n : Int} (h0 : 0 ≤ n) (h1 : n < 10 ^ 60) : numOk (tS n) = true := by
  obtain ⟨m, rfl⟩ := Int.eq_ofNat_of_zero_le h0
  have e : ((10 ^ 60 : Nat) : Int) = (10 : Int) ^ 60 := Int.natCast_pow 10 60
  rw [← e] at h1
  exact tS_numOk (Int.ofNat_lt.mp h1)
theorem numOk_len {w : Str} (h : numOk w = true) : w.length ≤ 60 := by
  unfold numOk at h
  rw [Bool.and_eq_true, Bool.and_eq_true, Bool.and_eq_true, decide_eq_true_eq, decide_eq_true_eq] at h
  exact h.1.1.2
theorem inD_non : ∀ ns : List Int, inD .non (ns.map D.int) = false
  | [] => rfl
  | n :: ns => by
    show (eqF (.int n) .non || inD .non (ns.map D.int)) = false
    rw [inD_non ns]
    rfl
theorem all_int : ∀ ns : List Int, (ns.map D.int).all flB = true
  | [] => rfl
  | n :: ns => by rw [List.map_cons, List.all_cons, all_int ns]; rfl
theorem dot_tl : ("." : Str).cps.toList = 46 :: [] := by decide +kernel
theorem split_nums {ns : List Int} (hn : ns ≠ []) (h : ∀ n ∈ ns, 0 ≤ n) : Txt.split (Txt.join ("." : Str) (ns.map tS)) ("." : Str) = ns.map tS :=
  TL.split_join dot_tl (by decide +kernel) (fun z => hn (List.map_eq_nil_iff.mp z)) fun p hp => by
    obtain ⟨n, hn', rfl⟩ := List.mem_map.mp hp
    obtain ⟨m, rfl⟩ := Int.eq_ofNat_of_zero_le (h n hn')
    exact tS_free (.inl (by decide))
theorem join_len {ns : List Int} (hl : ns.length ≤ 1000) (hn : ∀ n ∈ ns, 0 ≤ n ∧ n < 10 ^ 60) : (Txt.join ("." : Str) (ns.map tS)).length ≤ 61000 := by
  have h1 := PySem.StrLaws.join_length_le ("." : Str) (ns.map tS)
  rw [← TL.join_eq] at h1
  have h2 := sum_le (ss := ns.map tS) (b := 60) fun s h => by
    obtain ⟨n, h', rfl⟩ := List.mem_map.mp h
    exact tS_le (hn n h').1 (hn n h').2
  rw [List.length_map] at h1 h2
  have e : ("." : Str).length = 1 := by decide +kernel
  rw [e, Nat.mul_one] at h1
  omega
theorem join_no {ns : List Int} {w : Str} (hn : ns ≠ []) (h : ∀ n ∈ ns, 0 ≤ n ∧ n < 10 ^ 60) (hw : numOk w = false) (hd : 46 ∉ w.cps.toList) : Txt.join ("." : Str) (ns.map tS) ≠ w := by
  intro e
  have h1 := split_nums hn fun n hn => (h n hn).1
  have h2 : Txt.split (Txt.join ("." : Str) [w]) ("." : Str) = [w] := TL.split_join dot_tl (by decide +kernel) (by simp) fun p hp => by
    rw [List.mem_singleton.mp hp]; exact hd
  have h3 : Txt.join ("." : Str) [w] = w := by rw [TL.join_eq]; rfl
  rw [h3] at h2
  rw [e, h2] at h1
  cases ns with
  | nil => exact hn rfl
  | cons n r =>
    rw [List.map_cons] at h1
    injection h1 with h1 _
    have := tS_ok (h n List.mem_cons_self).1 (h n List.mem_cons_self).2
    rw [← h1, hw] at this
    cases this
theorem isRow_ints {b : Int} {ns : List Int} (hd : digs b ns) (hz : nz ns) : isRowD b (.tup (ns.map D.int)) = true := by
  show ((ns.map D.int).all (inRow b) && lastOk (ns.map D.int)) = true
  rw [Bool.and_eq_true]
  constructor
  · rw [List.all_eq_true]
    intro d h
    obtain ⟨n, hn, rfl⟩ := List.mem_map.mp h
    exact decide_eq_true (hd n hn)
  · rcases List.eq_nil_or_concat ns with h | ⟨z, n, h⟩
    · subst h; rfl
    · rw [List.concat_eq_append] at h
      subst h
      rw [List.map_append, List.map_cons, List.map_nil, lastOk_snoc]
      exact decide_eq_true fun e => hz z (by rw [e])

def stepP (c : Int) (d : D) : Prop := ∃ (w : Str) (h t : Int), d = .tup [.str w, .int h, .int t] ∧ 0 ≤ h ∧ h < c ∧ (((w = ("times" : Str) ∨ w = ("plus" : Str) ∨ w = ("minus" : Str)) ∧ 0 ≤ t ∧ t < c) ∨ w = ("by" : Str) ∨ (w = ("part" : Str) ∧ 2 ≤ t))
def stepsP (c : Int) (ss : List D) : Prop := ∀ (i : Nat) (h : i < ss.length), stepP (c + (i : Int)) ss[i]
def outsP (c : Int) (os : List Int) : Prop := ∀ x ∈ os, 0 ≤ x ∧ x < c
def okE (x : D) : Prop := ∃ n, tyN x = some n
def okD (x : D) : Prop := okE x ∧ ∀ ds, x = .tup ds → ds.length < 1000000 ∧ ∀ d ∈ ds, okE d
def okD2 (x : D) : Prop := okE x ∧ ∀ ds, x = .tup ds → ds.length < 1000000 ∧ ∀ d ∈ ds, okD d
def isWI : D → Bool
  | .int _ => true
  | _ => false
def cellB (c : Int) : D → Bool
  | .int i => decide (0 ≤ i) && decide (i < c)
  | _ => false
def twoB : D → Bool
  | .int i => decide (2 ≤ i)
  | _ => false
def wordB (c : Int) (w : Str) (h t : D) : Bool := cellB c h && (if w = ("times" : Str) ∨ w = ("plus" : Str) ∨ w = ("minus" : Str) then cellB c t else if w = ("by" : Str) then isWI t else decide (w = ("part" : Str)) && twoB t)
def headB (c : Int) (a h t : D) : Bool := match a with
  | .str w => wordB c w h t
  | _ => false
def threeB (c : Int) : List D → Bool
  | [a, h, t] => headB c a h t
  | _ => false
def stepB (c : Int) : D → Bool
  | .tup ds => threeB c ds
  | _ => false
def stepsB : Int → List D → Bool
  | _, [] => true
  | c, d :: ds => stepB c d && stepsB (c + 1) ds
def stepsD (c : Int) : D → Bool
  | .tup ds => stepsB c ds
  | _ => false
def outsD (c : Int) : D → Bool
  | .tup ds => !ds.isEmpty && ds.all (cellB c)
  | _ => false
def lenD : D → Int
  | .tup ds => (ds.length : Int)
  | _ => 0
def workF (n m s o : D) : Bool := match n, m with
  | .int n, .int m => decide (1 ≤ n) && decide (0 ≤ m) && stepsD (n + m) s && outsD (n + m + lenD s) o
  | _, _ => false
def fourB : List D → Bool
  | [n, m, s, o] => workF n m s o
  | _ => false
def workB : D → Bool
  | .tup ds => fourB ds
  | _ => false
def okW (x : D) : Prop := okE x ∧ ∀ n m s o, x = .tup [n, m, s, o] → okE n ∧ okE m ∧ okD2 s ∧ okD o
def sp_whH : DSp := fun ds μ Q _ => ∃ x, ds = [x] ∧ okE x ∧ Q (.bl (isWI x)) μ
def sp_cellH : DSp := fun ds μ Q _ => ∃ (x : D) (c : Int), ds = [x, .int c] ∧ okE x ∧ Q (.bl (cellB c x)) μ
def sp_stepH : DSp := fun ds μ Q _ => ∃ (x : D) (c : Int), ds = [x, .int c] ∧ okD x ∧ Q (.bl (stepB c x)) μ
def sp_stepsH : DSp := fun ds μ Q _ => ∃ (x : D) (c : Int), ds = [x, .int c] ∧ okD2 x ∧ Q (.bl (stepsD c x)) μ
def sp_outsH : DSp := fun ds μ Q _ => ∃ (x : D) (c : Int), ds = [x, .int c] ∧ okD x ∧ Q (.bl (outsD c x)) μ
def sp_workH : DSp := fun ds μ Q _ => ∃ x : D, ds = [x] ∧ okW x ∧ Q (.bl (workB x)) μ
def nb (d : D) : Prop := (∃ i, d = .int i) ∨ ∃ b, d = .bl b
def bstep (d : D) : Prop := ∃ (w : Str) (h t : D), d = .tup [.str w, h, t] ∧ nb h ∧ nb t ∧ PyData.strOk w = true
def bwork (x : D) : Prop := ∃ (n m : D) (ss os : List D), x = .tup [n, m, .tup ss, .tup os] ∧ nb n ∧ nb m ∧ (∀ s ∈ ss, bstep s) ∧ ss.length ≤ 40 ∧ (∀ o ∈ os, nb o) ∧ os.length ≤ 9
theorem nb_E {d : D} (h : nb d) : okE d := by rcases h with ⟨i, rfl⟩ | ⟨b, rfl⟩ <;> exact ⟨_, rfl⟩
theorem bstep_D {d : D} (h : bstep d) : okD d := by
  obtain ⟨w, a, b, rfl, h1, h2, _⟩ := h
  refine ⟨⟨_, rfl⟩, fun ds e => ?_⟩
  cases e
  refine ⟨by show 3 < 1000000; decide, ?_⟩
  simp only [List.forall_mem_cons]
  exact ⟨⟨_, rfl⟩, nb_E h1, nb_E h2, fun _ h => absurd h List.not_mem_nil⟩
theorem bwork_W {x : D} (h : bwork x) : okW x := by
  obtain ⟨n, m, ss, os, rfl, h1, h2, h3, l1, h4, l2⟩ := h
  refine ⟨⟨_, rfl⟩, fun n' m' s' o' e => ?_⟩
  cases e
  refine ⟨nb_E h1, nb_E h2, ⟨⟨_, rfl⟩, fun ds e => ?_⟩, ⟨⟨_, rfl⟩, fun ds e => ?_⟩⟩
  · cases e; exact ⟨by omega, fun d hd => bstep_D (h3 d hd)⟩
  · cases e; exact ⟨by omega, fun d hd => nb_E (h4 d hd)⟩
theorem nbI {i : Int} : nb (.int i) := .inl ⟨_, rfl⟩
theorem stepP_bent {c : Int} {d : D} (h : stepP c d) : bstep d := by
  obtain ⟨w, a, t, rfl, _, _, h2⟩ := h
  refine ⟨w, _, _, rfl, nbI, nbI, ?_⟩
  rcases h2 with ⟨h | h | h, _⟩ | h | ⟨h, _⟩ <;> (subst h; decide +kernel)
theorem stepP_B {c : Int} {d : D} (h : stepP c d) : stepB c d = true := by
  obtain ⟨w, a, t, rfl, a0, a1, h2⟩ := h
  show wordB c w (.int a) (.int t) = true
  have ca : cellB c (.int a) = true := by show (decide (0 ≤ a) && decide (a < c)) = true; rw [decide_eq_true a0, decide_eq_true a1]; rfl
  unfold wordB
  rw [ca, Bool.true_and]
  rcases h2 with ⟨h, t0, t1⟩ | h | ⟨h, h2⟩
  · rw [if_pos h]
    show (decide (0 ≤ t) && decide (t < c)) = true
    rw [decide_eq_true t0, decide_eq_true t1]; rfl
  · subst h
    rw [if_neg (by decide), if_pos rfl]
    rfl
  · subst h
    rw [if_neg (by decide), if_neg (by decide), decide_eq_true rfl, Bool.true_and]
    exact decide_eq_true h2
theorem stepsP_B : ∀ {ss : List D} {c : Int}, stepsP c ss → stepsB c ss = true
  | [], _, _ => rfl
  | d :: ss, c, h => by
    have h0 : stepP (c + ((0 : Nat) : Int)) d := h 0 (Nat.succ_pos _)
    rw [Int.natCast_zero, Int.add_zero] at h0
    rw [stepsB, stepP_B h0, Bool.true_and]
    refine stepsP_B fun i hi => ?_
    have := h (i + 1) (Nat.succ_lt_succ hi)
    rw [show c + 1 + (i : Int) = c + ((i + 1 : Nat) : Int) by omega]
    exact this
theorem work_good {n m : Int} {ss : List D} {os : List Int} (h1 : 1 ≤ n) (h2 : 0 ≤ m) (h3 : stepsP (n + m) ss) (h4 : 1 ≤ os.length) (h5 : outsP (n + m + (ss.length : Int)) os) : workB (.tup [.int n, .int m, .tup ss, .tup (os.map D.int)]) = true := by
  show (decide (1 ≤ n) && decide (0 ≤ m) && stepsB (n + m) ss && (!(os.map D.int).isEmpty && (os.map D.int).all (cellB (n + m + (ss.length : Int))))) = true
  rw [decide_eq_true h1, decide_eq_true h2, stepsP_B h3]
  have e : (os.map D.int).isEmpty = false := by cases os with | nil => exact absurd h4 (by decide) | cons _ _ => rfl
  rw [e]
  show (os.map D.int).all _ = true
  rw [List.all_map, List.all_eq_true]
  intro x hx
  have := h5 x hx
  show (decide (0 ≤ x) && decide (x < _)) = true
  rw [decide_eq_true this.1, decide_eq_true this.2]; rfl
theorem bwork_good {n m : Int} {ss : List D} {os : List Int} (h3 : stepsP (n + m) ss) (l1 : ss.length ≤ 40) (l2 : os.length ≤ 9) : bwork (.tup [.int n, .int m, .tup ss, .tup (os.map D.int)]) := by
  refine ⟨_, _, _, _, rfl, nbI, nbI, fun s hs => ?_, l1, fun o ho => ?_, by rw [List.length_map]; exact l2⟩
  · obtain ⟨i, hi, rfl⟩ := List.getElem_of_mem hs
    exact stepP_bent (h3 i hi)
  · obtain ⟨x, _, rfl⟩ := List.mem_map.mp ho
    exact nbI

def trD : Nat → D → Prop
  | _, .int _ => True
  | _, .str _ => True
  | d + 1, .tup es => es.length ≤ 10000000 ∧ ∀ e ∈ es, trD d e
  | _, _ => False
def M__law_alike : Nat := 5
def rs__law_alike (d : Nat) : DSp := fun ds μ Q _ => ∃ x, ds = [x, x] ∧ trD d x ∧ Q (.bl true) μ
theorem tr_ints {d : Nat} {ns : List Int} (h : ns.length ≤ 10000000) : trD (d + 1) (.tup (ns.map D.int)) := ⟨by rw [List.length_map]; exact h, fun e he => by
  obtain ⟨n, _, rfl⟩ := List.mem_map.mp he
  unfold trD
  trivial⟩
theorem all_bl (n : Nat) : asBls (List.replicate n (D.bl true)) = some (List.replicate n true) := by
  induction n with
  | zero => rfl
  | succ n ih => rw [List.replicate_succ, List.replicate_succ]; show (asBls _).map _ = _; rw [ih]; rfl

/-! ### works as texts -/
abbrev Stp := Str × Int × Int
def stepD (s : Stp) : D := .tup [.str s.1, .int s.2.1, .int s.2.2]
def BIG : Int := 10 ^ 60
def stepK (c : Int) (s : Stp) : Prop := 0 ≤ s.2.1 ∧ s.2.1 < c ∧ (((s.1 = ("times" : Str) ∨ s.1 = ("plus" : Str) ∨ s.1 = ("minus" : Str)) ∧ 0 ≤ s.2.2 ∧ s.2.2 < c) ∨ (s.1 = ("by" : Str) ∧ -BIG < s.2.2 ∧ s.2.2 < BIG) ∨ (s.1 = ("part" : Str) ∧ 2 ≤ s.2.2 ∧ s.2.2 < 10))
def stepsK (c : Int) (ss : List Stp) : Prop := ∀ (i : Nat) (h : i < ss.length), stepK (c + (i : Int)) ss[i]
def workD (n m : Int) (ss : List Stp) (os : List Int) : D := .tup [.int n, .int m, .tup (ss.map stepD), .tup (os.map D.int)]
def wkOk (n m : Int) (ss : List Stp) (os : List Int) : Prop := 1 ≤ n ∧ n ≤ 8 ∧ 0 ≤ m ∧ m ≤ 8 ∧ stepsK (n + m) ss ∧ ss.length ≤ 100 ∧ 1 ≤ os.length ∧ os.length ≤ 6 ∧ ∀ x ∈ os, 0 ≤ x ∧ x < n + m + (ss.length : Int)
def sg (w : Str) : Str := if w = ("plus" : Str) then "+" else if w = ("minus" : Str) then "-" else if w = ("times" : Str) then "*" else if w = ("by" : Str) then "x" else "/"
def stW (s : Stp) : List Str := [sg s.1, tS s.2.1, tS s.2.2]
def wkH (n m : Int) (ss : List Stp) : List Str := ("work" : Str) :: tS n :: tS m :: (ss.map stW).flatten
def wkW (n m : Int) (ss : List Stp) (os : List Int) : List Str := wkH n m ss ++ (":" : Str) :: os.map tS
def JB (ws : List Str) : Str := Txt.join (" " : Str) ws
theorem stepK_mono {c e : Int} {s : Stp} (h : stepK c s) (l : c ≤ e) : stepK e s := by
  obtain ⟨h1, h2, h3⟩ := h
  refine ⟨h1, by omega, ?_⟩
  rcases h3 with ⟨a, b, c⟩ | h | h
  · exact .inl ⟨a, b, by omega⟩
  · exact .inr (.inl h)
  · exact .inr (.inr h)
theorem stepsK_snoc {c : Int} {ss : List Stp} {s : Stp} (h : stepsK c ss) (hd : stepK (c + (ss.length : Int)) s) : stepsK c (ss ++ [s]) := fun i hi => by
  by_cases hl : i < ss.length
  · rw [List.getElem_append_left hl]
    exact h i hl
  · rw [List.length_append, List.length_singleton] at hi
    have : i = ss.length := by omega
    subst this
    rw [List.getElem_append_right (Nat.le_refl _)]
    simpa using hd
theorem stepsK_all {c : Int} {ss : List Stp} {B : Int} (h : stepsK c ss) (hb : c + (ss.length : Int) ≤ B) : ∀ s ∈ ss, stepK B s := fun s hs => by
  obtain ⟨i, hi, rfl⟩ := List.getElem_of_mem hs
  exact stepK_mono (h i hi) (by omega)
theorem stepK_P {c : Int} {s : Stp} (h : stepK c s) : stepP c (stepD s) := by
  obtain ⟨h1, h2, h3⟩ := h
  refine ⟨s.1, s.2.1, s.2.2, rfl, h1, h2, ?_⟩
  rcases h3 with ⟨a, b, c⟩ | ⟨a, b⟩ | ⟨a, b, c⟩
  · exact .inl ⟨a, b, c⟩
  · exact .inr (.inl a)
  · exact .inr (.inr ⟨a, b⟩)
theorem stepsK_P {c : Int} {ss : List Stp} (h : stepsK c ss) : stepsP c (ss.map stepD) := fun i hi => by
  rw [List.getElem_map]
  exact stepK_P (h i (by rw [List.length_map] at hi; exact hi))
theorem wk_good {n m : Int} {ss : List Stp} {os : List Int} (h : wkOk n m ss os) : workB (workD n m ss os) = true := by
  obtain ⟨n1, n2, m1, m2, hs, ls, o1, o2, ho⟩ := h
  exact work_good n1 m1 (stepsK_P hs) o1 (by rw [List.length_map]; exact ho)
/-! numbers below nought, as texts -/
theorem tS_neg {m : Nat} : (tS (Int.negSucc m)).cps.toList = 45 :: (tS ((m + 1 : Nat) : Int)).cps.toList := by
  show TL.tl (Str.ofString (toString (Int.negSucc m))) = 45 :: TL.tl (Str.ofString (toString ((m + 1 : Nat) : Int)))
  rw [TL.tl_ofString, TL.tl_ofString]
  show (("-" ++ toString (m + 1)).toList.map Char.toNat) = 45 :: ((toString (m + 1)).toList.map Char.toNat)
  rw [String.toList_append, List.map_append]
  rfl
theorem tS_chars (n : Int) : ∀ c ∈ (tS n).cps.toList, c = 45 ∨ isDg c = true := by
  have pos : ∀ (m : Nat) c, c ∈ (tS (m : Int)).cps.toList → isDg c = true := fun m c hc => by
    rw [tS_cps] at hc
    exact List.all_eq_true.mp (dg_all (dig_chars m)) c hc
  intro c hc
  cases n with
  | ofNat m => exact .inr (pos m c hc)
  | negSucc m =>
    rw [tS_neg] at hc
    rcases List.mem_cons.mp hc with h | h
    · exact .inl h
    · exact .inr (pos _ c h)
theorem tS_head (m : Nat) : ∀ c r, (tS (m : Int)).cps.toList = c :: r → isDg c = true := fun c r h => by
  have : c ∈ (tS (m : Int)).cps.toList := by rw [h]; exact List.mem_cons_self
  rw [tS_cps] at this
  exact List.all_eq_true.mp (dg_all (dig_chars m)) c this
def negW (s : Str) : Bool := decide (s.cps.toList.head? = some 45)
def sgnW (s : Str) : Option Int := if negW s = true then (match numW ⟨(s.cps.toList.drop 1).toArray⟩ with | some n => if n = 0 then none else some (-n) | none => none) else numW s
theorem neg_starts (s : Str) : Txt.startswith s ("-" : Str) = negW s := by
  unfold Txt.startswith negW
  rw [PySem.StrLaws.subAt_eq, show ("-" : Str).length = 1 by decide +kernel, show ("-" : Str).cps.toList = [45] by decide +kernel, List.drop_zero]
  cases e : s.cps.toList with
  | nil => simp
  | cons c r =>
    have : 1 ≤ s.length := by rw [TL.len_tl]; show 1 ≤ s.cps.toList.length; rw [e]; simp
    rw [decide_eq_true (show 0 + 1 ≤ s.length by omega), Bool.true_and, List.take_succ_cons, List.take_zero, List.head?_cons]
    rw [Bool.eq_iff_iff, beq_iff_eq, decide_eq_true_iff]
    simp
theorem cut_one (s : Str) (h : 1 ≤ s.length) : cutS s (some 1) none = ⟨(s.cps.toList.drop 1).toArray⟩ := by
  unfold cutS HT.sIx
  simp only []
  rw [if_neg (by decide), show (1 : Int).toNat = 1 from rfl, Nat.min_eq_left h]
  congr 2
  rw [List.take_of_length_le]
  rw [List.length_drop]
  show s.cps.toList.length - 1 ≤ _
  rw [TL.len_tl]
  exact Nat.le_refl _
theorem str_eta (s : Str) : (⟨s.cps.toList.toArray⟩ : Str) = s := TL.mk_tl s
theorem sgn_tS {n : Int} (h1 : -BIG < n) (h2 : n < BIG) : sgnW (tS n) = some n := by
  unfold BIG at h1 h2
  cases n with
  | ofNat m =>
    have hm : m < 10 ^ 60 := Int.ofNat_lt.mp (by rw [Int.natCast_pow]; exact h2)
    have hn : negW (tS (Int.ofNat m)) = false := by
      unfold negW
      rw [decide_eq_false]
      intro h
      cases e : (tS (Int.ofNat m)).cps.toList with
      | nil => rw [e] at h; cases h
      | cons c r =>
        rw [e] at h
        have := tS_head m c r e
        cases h
        cases this
    unfold sgnW
    rw [if_neg (by rw [hn]; exact Bool.false_ne_true)]
    exact tS_num hm
  | negSucc m =>
    have hm : m + 1 < 10 ^ 60 := by
      have : ((m + 1 : Nat) : Int) < ((10 ^ 60 : Nat) : Int) := by
        rw [Int.natCast_pow]
        have e : Int.negSucc m = -((m + 1 : Nat) : Int) := Int.negSucc_eq m
        rw [e] at h1
        have h3 := Int.lt_of_neg_lt_neg h1
        exact h3
      exact Int.ofNat_lt.mp this
    have hn : negW (tS (Int.negSucc m)) = true := by
      unfold negW
      rw [tS_neg]
      rfl
    unfold sgnW
    rw [if_pos hn, tS_neg, List.drop_succ_cons, List.drop_zero, str_eta, tS_num hm]
    show (if ((m + 1 : Nat) : Int) = 0 then none else some (-((m + 1 : Nat) : Int))) = _
    rw [if_neg (by omega)]
    rfl
/-! the words -/
theorem sg_all {w : Str} : sg w ∈ [("+" : Str), "-", "*", "x", "/"] := by
  unfold sg
  split
  · simp
  split
  · simp
  split
  · simp
  split <;> simp
def noSp (w : Str) : Prop := 32 ∉ w.cps.toList
theorem sg_sp {w : Str} : noSp (sg w) := by
  have := sg_all (w := w)
  simp only [List.mem_cons, List.not_mem_nil, or_false] at this
  unfold noSp
  rcases this with h | h | h | h | h <;> rw [h] <;> decide +kernel
theorem tS_sp (n : Int) : noSp (tS n) := fun h => by
  rcases tS_chars n 32 h with h | h <;> exact absurd h (by decide)
theorem sg_ne {w : Str} : sg w ≠ (":" : Str) := by
  have := sg_all (w := w)
  simp only [List.mem_cons, List.not_mem_nil, or_false] at this
  rcases this with h | h | h | h | h <;> rw [h] <;> decide +kernel
theorem tS_ne (n : Int) : tS n ≠ (":" : Str) := fun e => by
  have h : 58 ∈ (tS n).cps.toList := by rw [e]; decide +kernel
  rcases tS_chars n 58 h with h | h <;> exact absurd h (by decide)
theorem wkH_mem {n m : Int} {ss : List Stp} {w : Str} (h : w ∈ wkH n m ss) : w = ("work" : Str) ∨ (∃ x, w = sg x) ∨ ∃ i, w = tS i := by
  unfold wkH at h
  rcases List.mem_cons.mp h with h | h
  · exact .inl h
  rcases List.mem_cons.mp h with h | h
  · exact .inr (.inr ⟨_, h⟩)
  rcases List.mem_cons.mp h with h | h
  · exact .inr (.inr ⟨_, h⟩)
  obtain ⟨l, hl, hw⟩ := List.mem_flatten.mp h
  obtain ⟨s, hs, rfl⟩ := List.mem_map.mp hl
  unfold stW at hw
  simp only [List.mem_cons, List.not_mem_nil, or_false] at hw
  rcases hw with h | h | h
  · exact .inr (.inl ⟨_, h⟩)
  · exact .inr (.inr ⟨_, h⟩)
  · exact .inr (.inr ⟨_, h⟩)
theorem wkH_no {n m : Int} {ss : List Stp} : (":" : Str) ∉ wkH n m ss := fun h => by
  rcases wkH_mem h with h | ⟨x, h⟩ | ⟨i, h⟩
  · exact absurd h (by decide +kernel)
  · exact sg_ne h.symm
  · exact tS_ne i h.symm
theorem wkW_sp {n m : Int} {ss : List Stp} {os : List Int} : ∀ w ∈ wkW n m ss os, noSp w := fun w h => by
  unfold wkW at h
  rcases List.mem_append.mp h with h | h
  · rcases wkH_mem h with rfl | ⟨x, rfl⟩ | ⟨i, rfl⟩
    · unfold noSp; decide +kernel
    · exact sg_sp
    · exact tS_sp i
  · rcases List.mem_cons.mp h with rfl | h
    · unfold noSp; decide +kernel
    · obtain ⟨i, _, rfl⟩ := List.mem_map.mp h
      exact tS_sp i
theorem sp_tl : (" " : Str).cps.toList = 32 :: [] := by decide +kernel
theorem JB_split {ws : List Str} (h : ws ≠ []) (hf : ∀ w ∈ ws, noSp w) : Txt.split (JB ws) (" " : Str) = ws := TL.split_join sp_tl (by decide +kernel) h hf
theorem stW_len (s : Stp) : (stW s).length = 3 := rfl
theorem flat_len : ∀ ss : List Stp, ((ss.map stW).flatten).length = 3 * ss.length
  | [] => rfl
  | s :: ss => by
    rw [List.map_cons, List.flatten_cons, List.length_append, flat_len ss, stW_len, List.length_cons]
    omega
theorem wkH_len {n m : Int} {ss : List Stp} : (wkH n m ss).length = 3 + 3 * ss.length := by
  unfold wkH
  rw [List.length_cons, List.length_cons, List.length_cons, flat_len]
  omega
theorem flat_at : ∀ (ss : List Stp) (k : Nat) (h : k < ss.length) (r : List Str), (((ss.map stW).flatten ++ r).drop (3 * k)).take 3 = stW ss[k]
  | s :: ss, 0, _, r => by
    rw [List.map_cons, List.flatten_cons, List.append_assoc]
    rfl
  | s :: ss, k + 1, h, r => by
    rw [List.map_cons, List.flatten_cons, List.append_assoc, show 3 * (k + 1) = (stW s).length + 3 * k by rw [stW_len]; omega, List.drop_length_add_append]
    rw [flat_at ss k (by simpa using h) r]
    rfl
theorem wkW_at {n m : Int} {ss : List Stp} {os : List Int} {k : Nat} (h : k < ss.length) : ((wkW n m ss os).drop (3 + 3 * k)).take 3 = stW ss[k] := by
  unfold wkW wkH
  rw [List.cons_append, List.cons_append, List.cons_append, show 3 + 3 * k = 3 * k + 1 + 1 + 1 by omega, List.drop_succ_cons, List.drop_succ_cons, List.drop_succ_cons]
  exact flat_at ss k h _
theorem wkW_outs {n m : Int} {ss : List Stp} {os : List Int} : (wkW n m ss os).drop (3 + 3 * ss.length + 1) = os.map tS := by
  unfold wkW
  rw [← wkH_len (n := n) (m := m) (ss := ss), List.drop_length_add_append]
  rfl
theorem wkW_idx {n m : Int} {ss : List Stp} {os : List Int} : (wkW n m ss os).idxOf (":" : Str) = 3 + 3 * ss.length := by
  unfold wkW
  rw [List.idxOf_append, if_neg wkH_no, List.idxOf_cons_self, wkH_len, Nat.zero_add]
/-! a text of texts -/
theorem jL_ne {S a : List Nat} {ls : List (List Nat)} (h : ls ≠ []) : TL.joinL S (a :: ls) = a ++ (S ++ TL.joinL S ls) := by
  cases ls with
  | nil => exact absurd rfl h
  | cons b r => rfl
theorem jL_two (S : List Nat) : ∀ (a b : List (List Nat)), a ≠ [] → b ≠ [] → TL.joinL S (a ++ b) = TL.joinL S a ++ (S ++ TL.joinL S b)
  | [], _, h, _ => absurd rfl h
  | [x], b, _, hb => jL_ne hb
  | x :: y :: r, b, _, hb => by
    show x ++ (S ++ TL.joinL S (y :: r ++ b)) = x ++ (S ++ TL.joinL S (y :: r)) ++ (S ++ TL.joinL S b)
    rw [jL_two S (y :: r) b (by simp) hb]
    simp only [List.append_assoc]
theorem JB_tl (ws : List Str) : (JB ws).cps.toList = TL.joinL [32] (ws.map TL.tl) := by
  unfold JB
  rw [TL.join_eq]
  have := TL.tl_join (" " : Str) ws
  rw [show TL.tl (" " : Str) = [32] from sp_tl] at this
  exact this
theorem JB_cons {a : Str} {ws : List Str} (h : ws ≠ []) : TL.tl (JB (a :: ws)) = TL.tl a ++ ([32] ++ TL.tl (JB ws)) := by
  show (JB _).cps.toList = TL.tl a ++ ([32] ++ (JB _).cps.toList)
  rw [JB_tl, JB_tl, List.map_cons, jL_ne fun z => h (List.map_eq_nil_iff.mp z)]
/-- the text of a step, and of the sizes -/
def stT (s : Stp) : Str := sg s.1 ++ (" " : Str) ++ tS s.2.1 ++ (" " : Str) ++ tS s.2.2
def hdT (n m : Int) : Str := ("work " : Str) ++ tS n ++ (" " : Str) ++ tS m
theorem JB_three (a b c : Str) : JB [a, b, c] = a ++ (" " : Str) ++ b ++ (" " : Str) ++ c := TL.ext_tl (by
  show (JB _).cps.toList = _
  rw [JB_tl, TL.tl_append, TL.tl_append, TL.tl_append, TL.tl_append, show TL.tl (" " : Str) = [32] from sp_tl]
  show TL.tl a ++ ([32] ++ (TL.tl b ++ ([32] ++ TL.tl c))) = _
  simp only [List.append_assoc])
theorem stT_eq (s : Stp) : stT s = JB (stW s) := (JB_three _ _ _).symm
theorem hdT_eq (n m : Int) : hdT n m = JB [("work" : Str), tS n, tS m] := by
  rw [JB_three]
  unfold hdT
  refine TL.ext_tl ?_
  simp only [TL.tl_append]
  rw [show TL.tl ("work " : Str) = TL.tl ("work" : Str) ++ TL.tl (" " : Str) by decide +kernel] <;> simp only [List.append_assoc]
theorem jL_flat (S : List Nat) : ∀ (ls : List (List (List Nat))) (r : List (List Nat)), (∀ l ∈ ls, l ≠ []) → TL.joinL S (ls.map (TL.joinL S) ++ r) = TL.joinL S (ls.flatten ++ r)
  | [], r, _ => rfl
  | l :: ls, r, h => by
    have hl := h l List.mem_cons_self
    have ih := jL_flat S ls r fun x hx => h x (List.mem_cons_of_mem _ hx)
    rw [List.map_cons, List.flatten_cons, List.cons_append, List.append_assoc]
    by_cases hn : ls.map (TL.joinL S) ++ r = []
    · rw [hn]
      have e1 : ls = [] := by
        cases ls with
        | nil => rfl
        | cons a b => simp at hn
      subst e1
      have e2 : r = [] := by simpa using hn
      subst e2
      show TL.joinL S l = TL.joinL S (l ++ ([] ++ []))
      rw [List.append_nil, List.append_nil]
    · have hn2 : ls.flatten ++ r ≠ [] := fun z => hn (by
        obtain ⟨z1, z2⟩ := List.append_eq_nil_iff.mp z
        cases ls with
        | nil => subst z2; rfl
        | cons a b =>
          rw [List.flatten_cons] at z1
          exact absurd (List.append_eq_nil_iff.mp z1).1 (h a (by simp)))
      rw [jL_ne hn, ih, jL_two S l _ hl hn2]
/-- the two ways to put the words together -/
theorem JB_parts {n m : Int} {ss : List Stp} {os : List Int} : JB (hdT n m :: (ss.map stT ++ (":" : Str) :: os.map tS)) = JB (wkW n m ss os) := TL.ext_tl (by
  show (JB _).cps.toList = (JB _).cps.toList
  rw [JB_tl, JB_tl]
  have h := jL_flat [32] ([("work" : Str), tS n, tS m].map TL.tl :: ss.map fun s => (stW s).map TL.tl) (((":" : Str) :: os.map tS).map TL.tl) (by
    intro l hl
    rcases List.mem_cons.mp hl with rfl | hl
    · simp
    · obtain ⟨s, _, rfl⟩ := List.mem_map.mp hl
      simp [stW])
  have e1 : ((hdT n m :: (ss.map stT ++ (":" : Str) :: os.map tS)).map TL.tl) = ([("work" : Str), tS n, tS m].map TL.tl :: ss.map fun s => (stW s).map TL.tl).map (TL.joinL [32]) ++ ((":" : Str) :: os.map tS).map TL.tl := by
    have j1 : TL.tl (hdT n m) = TL.joinL [32] ([("work" : Str), tS n, tS m].map TL.tl) := by rw [hdT_eq]; exact JB_tl _
    have j2 : ss.map (fun s => TL.tl (stT s)) = ss.map (fun s => TL.joinL [32] ((stW s).map TL.tl)) := List.map_congr_left fun s _ => by rw [stT_eq]; exact JB_tl _
    have j3 : (ss.map stT).map TL.tl = (ss.map fun s => (stW s).map TL.tl).map (TL.joinL [32]) := by rw [List.map_map, List.map_map]; exact j2
    show TL.tl (hdT n m) :: (ss.map stT ++ (":" : Str) :: os.map tS).map TL.tl = TL.joinL [32] ([("work" : Str), tS n, tS m].map TL.tl) :: (List.map (TL.joinL [32]) (ss.map fun s => (stW s).map TL.tl) ++ ((":" : Str) :: os.map tS).map TL.tl)
    rw [j1, List.map_append, j3]
  have e2 : ((wkW n m ss os).map TL.tl) = ([("work" : Str), tS n, tS m].map TL.tl :: ss.map fun s => (stW s).map TL.tl).flatten ++ ((":" : Str) :: os.map tS).map TL.tl := by
    unfold wkW wkH
    rw [List.map_append, List.map_cons, List.map_cons, List.map_cons, List.map_flatten, List.map_map]
    rfl
  rw [e1, e2]
  exact h)
theorem h_idxS {ws : List Str} {w : Str} {k : Int → Prop} (h : w ∈ ws) (q : k (ws.idxOf w : Nat)) : idxK (.str w) (ws.map D.str) k := by
  have hj : ws.idxOf w < ws.length := List.idxOf_lt_length_of_mem h
  refine ⟨ws.idxOf w, .str w, rfl, ?_, ?_, ?_, ?_, q⟩
  · rw [List.all_eq_true]
    intro x hx
    obtain ⟨i, _, rfl⟩ := List.mem_map.mp hx
    rfl
  · rw [List.getElem?_map, List.getElem?_eq_getElem hj, List.getElem_idxOf]
    rfl
  · show decide (w = w) = true
    simp
  · intro m z' hm hz'
    rw [List.getElem?_map, List.getElem?_eq_getElem (by omega)] at hz'
    cases hz'
    show decide (ws[m] = w) = false
    rw [decide_eq_false_iff_not]
    intro e
    exact absurd (List.not_of_lt_findIdx (p := (· == w)) hm) (by simp [e])
theorem inD_strs (w : Str) : ∀ ws : List Str, inD (.str w) (ws.map D.str) = decide (w ∈ ws)
  | [] => rfl
  | x :: ws => by
    show (decide (x = w) || inD (.str w) (ws.map D.str)) = _
    rw [inD_strs w ws, Bool.eq_iff_iff, Bool.or_eq_true, decide_eq_true_iff, decide_eq_true_iff, decide_eq_true_iff, List.mem_cons, eq_comm]
theorem fl_strs (ws : List Str) : (ws.map D.str).all flB = true := by
  rw [List.all_eq_true]
  intro d hd
  obtain ⟨w, _, rfl⟩ := List.mem_map.mp hd
  rfl
theorem rgc3g {a k m : Nat} (hk : k ≤ 100000) (ha : a ≤ 100) (hm : m = 3) : RgC (a : Int) ((a : Int) + (m : Int) * (k : Int)) (m : Int) k := by
  have gt : (m : Int) > 0 := by omega
  have hs : Builtin.Range.rangeSize (a : Int) ((a : Int) + (m : Int) * (k : Int)) (m : Int) = k := by
    unfold Builtin.Range.rangeSize
    rw [if_pos gt]
    subst hm
    by_cases hk : k = 0
    · subst hk
      rw [if_neg (by omega)]
      rfl
    · rw [if_pos (by omega)]
      omega
  refine ⟨by omega, by omega, ?_, hs⟩
  unfold Builtin.Range.small
  rw [hs]
  simp only [Builtin.Range.rangeFitsLong, Bool.and_eq_true, Bool.or_eq_true, decide_eq_true_eq, beq_iff_eq, gt, if_true]
  subst hm
  (try split) <;> omega
theorem rgc3 {k : Nat} (h : k ≤ 100000) : RgC 3 (3 + 3 * (k : Int)) 3 k := rgc3g (a := 3) (m := 3) h (by decide) rfl
def sp_anyW : DSp := fun ds μ Q _ => ∃ (p : Addr) (o : MO) (k : Int), ds = [.obj p, .int k] ∧ μ = [(p, o)] ∧ isWell o ∧ 0 ≤ k ∧ k ≤ 100 ∧ ∀ n m ss os o', wkOk n m ss os → (ss.length : Int) ≤ k → isWell o' → Q (workD n m ss os) [(p, o')]
def sp_workT : DSp := fun ds μ Q _ => ∃ n m ss os, ds = [workD n m ss os] ∧ wkOk n m ss os ∧ Q (.str (JB (wkW n m ss os))) μ
def sp_readW : DSp := fun ds μ Q _ => ∃ n m ss os, ds = [.str (JB (wkW n m ss os))] ∧ wkOk n m ss os ∧ Q (workD n m ss os) μ
def sp_signed : DSp := fun ds μ Q _ => ∃ s : Str, ds = [.str s] ∧ s.length ≤ sizeLine ∧ Q (optD (sgnW s)) μ
def sp_stepin : DSp := fun ds μ Q _ => ∃ (s : Stp) (c : Int), ds = [.lst ((stW s).map D.str)] ∧ stepK c s ∧ c ≤ 1000000 ∧ Q (stepD s) μ

theorem for_items {α : Type} {σ : DSt} {μ : Mu} {R : DEnds} {tg : Tg} {stab : Mu → Prop} {body : DSt → Mu → DEnds → Prop} (f : α → D) (ss : List α) (W : Nat → DSt → Mu → Prop) (h0 : W 0 σ μ)
    (hs : ∀ (i : Nat) (h : i < ss.length) σ μ (N : DSt → Mu → Prop), W i σ μ → (∀ σ2 μ2, stab μ2 → W (i + 1) σ2 μ2 → N σ2 μ2) → tgW tg (f ss[i]) σ fun σ1 => body σ1 μ { R with nx := N, ct := N, bk := R.nx })
    (hd : ∀ σ μ, W ss.length σ μ → R.nx σ μ) : forW tg stab body R (ss.map f) σ μ := by
  refine for_inv (fun pre => W pre.length) h0 (fun pre d post σ μ N e w hN => ?_) fun σ μ w => hd σ μ (by rw [List.length_map] at w; exact w)
  have hl : pre.length < ss.length := by
    have := congrArg List.length e
    rw [List.length_map, List.length_append, List.length_cons] at this
    omega
  have hd2 : d = f ss[pre.length] := by
    have h1 : (ss.map f)[pre.length]? = some d := by rw [e, List.getElem?_append_right (Nat.le_refl _), Nat.sub_self]; rfl
    rw [List.getElem?_map, List.getElem?_eq_getElem hl] at h1
    exact (Option.some.inj h1).symm
  subst hd2
  exact hs pre.length hl σ μ N w fun σ2 μ2 st w2 => hN σ2 μ2 st (by rw [List.length_append]; exact w2)
def isW5 (w : Str) : Prop := w = ("times" : Str) ∨ w = ("plus" : Str) ∨ w = ("minus" : Str) ∨ w = ("by" : Str) ∨ w = ("part" : Str)
theorem stepK_word {c : Int} {s : Stp} (h : stepK c s) : isW5 s.1 := by
  rcases h.2.2 with ⟨a | a | a, _⟩ | ⟨a, _⟩ | ⟨a, _⟩
  · exact .inl a
  · exact .inr (.inl a)
  · exact .inr (.inr (.inl a))
  · exact .inr (.inr (.inr (.inl a)))
  · exact .inr (.inr (.inr (.inr a)))
def signKs : List Key := (["plus", "minus", "times", "by", "part"] : List Str).map Sum.inr
def signDs : List D := [.str "+", .str "-", .str "*", .str "x", .str "/"]
def wordKs : List Key := (["+", "-", "*", "x", "/"] : List Str).map Sum.inr
def wordDs : List D := [.str "plus", .str "minus", .str "times", .str "by", .str "part"]
theorem key_ne {x y : Str} (h : x ≠ y) : ((Sum.inr x : Key) = Sum.inr y) = False := eq_false fun e => h (Sum.inr.inj e)
theorem sign_get {w : Str} (h : isW5 w) : dgetD (signKs.zip signDs) (.inr w) = some (.str (sg w)) := by
  unfold signKs signDs sg
  simp only [List.map_cons, List.map_nil, List.zip_cons_cons, List.zip_nil_left, dgetD]
  rcases h with rfl | rfl | rfl | rfl | rfl <;> simp [key_ne, show ("plus" : Str) ≠ "times" by decide +kernel, show ("minus" : Str) ≠ "times" by decide +kernel, show ("times" : Str) ≠ "plus" by decide +kernel, show ("times" : Str) ≠ "minus" by decide +kernel, show ("plus" : Str) ≠ "minus" by decide +kernel, show ("minus" : Str) ≠ "plus" by decide +kernel, show ("plus" : Str) ≠ "by" by decide +kernel, show ("minus" : Str) ≠ "by" by decide +kernel, show ("times" : Str) ≠ "by" by decide +kernel, show ("by" : Str) ≠ "plus" by decide +kernel, show ("by" : Str) ≠ "minus" by decide +kernel, show ("by" : Str) ≠ "times" by decide +kernel, show ("plus" : Str) ≠ "part" by decide +kernel, show ("minus" : Str) ≠ "part" by decide +kernel, show ("times" : Str) ≠ "part" by decide +kernel, show ("by" : Str) ≠ "part" by decide +kernel, show ("part" : Str) ≠ "plus" by decide +kernel, show ("part" : Str) ≠ "minus" by decide +kernel, show ("part" : Str) ≠ "times" by decide +kernel, show ("part" : Str) ≠ "by" by decide +kernel]
theorem word_get {w : Str} (h : isW5 w) : dgetD (wordKs.zip wordDs) (.inr (sg w)) = some (.str w) := by
  unfold wordKs wordDs sg
  simp only [List.map_cons, List.map_nil, List.zip_cons_cons, List.zip_nil_left, dgetD]
  have a1 : ("+" : Str) ≠ "-" := by decide +kernel
  have a2 : ("+" : Str) ≠ "*" := by decide +kernel
  have a3 : ("+" : Str) ≠ "x" := by decide +kernel
  have a4 : ("+" : Str) ≠ "/" := by decide +kernel
  have b2 : ("-" : Str) ≠ "*" := by decide +kernel
  have b3 : ("-" : Str) ≠ "x" := by decide +kernel
  have b4 : ("-" : Str) ≠ "/" := by decide +kernel
  have c3 : ("*" : Str) ≠ "x" := by decide +kernel
  have c4 : ("*" : Str) ≠ "/" := by decide +kernel
  have d4 : ("x" : Str) ≠ "/" := by decide +kernel
  rcases h with rfl | rfl | rfl | rfl | rfl <;> simp [key_ne, a1, a2, a3, a4, b2, b3, b4, c3, c4, d4, show ("plus" : Str) ≠ "times" by decide +kernel, show ("minus" : Str) ≠ "times" by decide +kernel, show ("times" : Str) ≠ "plus" by decide +kernel, show ("times" : Str) ≠ "minus" by decide +kernel, show ("plus" : Str) ≠ "minus" by decide +kernel, show ("minus" : Str) ≠ "plus" by decide +kernel, show ("plus" : Str) ≠ "by" by decide +kernel, show ("minus" : Str) ≠ "by" by decide +kernel, show ("times" : Str) ≠ "by" by decide +kernel, show ("by" : Str) ≠ "plus" by decide +kernel, show ("by" : Str) ≠ "minus" by decide +kernel, show ("by" : Str) ≠ "times" by decide +kernel, show ("plus" : Str) ≠ "part" by decide +kernel, show ("minus" : Str) ≠ "part" by decide +kernel, show ("times" : Str) ≠ "part" by decide +kernel, show ("by" : Str) ≠ "part" by decide +kernel, show ("part" : Str) ≠ "plus" by decide +kernel, show ("part" : Str) ≠ "minus" by decide +kernel, show ("part" : Str) ≠ "times" by decide +kernel, show ("part" : Str) ≠ "by" by decide +kernel]
theorem h_mget {ks : List Key} {ds : List D} {x : Str} {d : D} {μ : Mu} {Q : DQ} (h : dgetD (ks.zip ds) (.inr x) = some d) (q : Q d μ) : mgetW (.dkk ks ds) (.str x) μ Q := ⟨.inr x, d, rfl, h, q⟩
theorem h_mdin {ks : List Key} {ds : List D} {x : Str} {q : Bool → Prop} (h : q (dgetD (ks.zip ds) (.inr x)).isSome) : mdinW (.dkk ks ds) (.str x) q := ⟨.inr x, rfl, h⟩
theorem lenT {n : Int} (h1 : -BIG < n) (h2 : n < BIG) : (tS n).length ≤ 61 := by
  unfold BIG at h1 h2
  cases n with
  | ofNat m => exact Nat.le_trans (tS_le (Int.natCast_nonneg m) h2) (by decide)
  | negSucc m =>
    rw [TL.len_tl]
    show (tS (Int.negSucc m)).cps.toList.length ≤ 61
    rw [tS_neg, List.length_cons, ← TL.len_tl]
    have e : Int.negSucc m = -((m + 1 : Nat) : Int) := Int.negSucc_eq m
    rw [e] at h1
    have := tS_le (n := ((m + 1 : Nat) : Int)) (Int.natCast_nonneg _) (Int.lt_of_neg_lt_neg h1)
    omega
theorem logT {n : Int} (h1 : -BIG < n) (h2 : n < BIG) : n.natAbs.log2 < 1920 := by
  unfold BIG at h1 h2
  cases n with
  | ofNat m => exact log_60 (Int.natCast_nonneg m) h2
  | negSucc m =>
    have e : Int.negSucc m = -((m + 1 : Nat) : Int) := Int.negSucc_eq m
    rw [e] at h1 ⊢
    rw [Int.natAbs_neg]
    exact log_60 (Int.natCast_nonneg _) (Int.lt_of_neg_lt_neg h1)
theorem smallB {n : Int} (h0 : 0 ≤ n) (h1 : n < 1000000) : -BIG < n ∧ n < BIG := by
  have : (1000000 : Int) ≤ BIG := by decide +kernel
  omega
theorem stepK_big {c : Int} {s : Stp} (h : stepK c s) (hc : c ≤ 1000000) : (-BIG < s.2.1 ∧ s.2.1 < BIG) ∧ (-BIG < s.2.2 ∧ s.2.2 < BIG) := by
  obtain ⟨h1, h2, h3⟩ := h
  refine ⟨smallB h1 (by omega), ?_⟩
  rcases h3 with ⟨_, a, b⟩ | ⟨_, a⟩ | ⟨_, a, b⟩
  · exact smallB a (by omega)
  · exact a
  · exact smallB (by omega) (by omega)
theorem len_app (a b : Str) : (a ++ b).length = a.length + b.length := by
  rw [TL.len_tl, TL.tl_append, List.length_append, ← TL.len_tl, ← TL.len_tl]
theorem sg_len {w : Str} : (sg w).length = 1 := by
  have := sg_all (w := w)
  simp only [List.mem_cons, List.not_mem_nil, or_false] at this
  rcases this with h | h | h | h | h <;> rw [h] <;> decide +kernel
theorem sp_len : (" " : Str).length = 1 := by decide +kernel
theorem stT_len {c : Int} {s : Stp} (h : stepK c s) (hc : c ≤ 1000000) : (stT s).length ≤ 200 := by
  obtain ⟨⟨a1, a2⟩, b1, b2⟩ := stepK_big h hc
  have h1 := lenT a1 a2
  have h2 := lenT b1 b2
  unfold stT
  simp only [len_app, sg_len, sp_len]
  omega
theorem joinB {ws : List Str} {μ : Mu} {Q : DQ} {k : Nat} (h : ∀ w ∈ ws, w.length ≤ k) (hk : ws.length * (k + 1) ≤ 16777216) (q : Q (.str (JB ws)) μ) : joinW (" " : Str) (.lst (ws.map D.str)) μ Q := by
  refine ⟨_, ws, rfl, asStrs_map ws, ?_, q⟩
  have h2 := sum_le h
  rw [sp_len, Nat.mul_one]
  rw [Nat.mul_succ] at hk
  omega
theorem h_dgetO {g : Addr} {kds : List (Key × D)} {x : Str} {d : D} {μ : Mu} {Q : DQ} (hg : Mu.get μ g = some (.dic kds)) (h : dgetD kds (.inr x) = some d) (q : Q d μ) : dgetW (.obj g) (.str x) μ Q := ⟨kds, .inr x, d, hg, rfl, h, q⟩
theorem wkW_len {n m : Int} {ss : List Stp} {os : List Int} (h : wkOk n m ss os) : ∀ w ∈ wkW n m ss os, w.length ≤ 200 := fun w hw => by
  obtain ⟨n1, n2, m1, m2, hs, ls, o1, o2, hos⟩ := h
  have hall : ∀ s ∈ ss, stepK 1000000 s := stepsK_all hs (by omega)
  obtain ⟨nb1, nb2⟩ := smallB (n := n) (by omega) (by omega)
  obtain ⟨mb1, mb2⟩ := smallB (n := m) (by omega) (by omega)
  have l1 := lenT nb1 nb2
  have l2 := lenT mb1 mb2
  unfold wkW wkH at hw
  rcases List.mem_append.mp hw with hw | hw
  · rcases List.mem_cons.mp hw with rfl | hw
    · decide +kernel
    rcases List.mem_cons.mp hw with rfl | hw
    · omega
    rcases List.mem_cons.mp hw with rfl | hw
    · omega
    obtain ⟨l, hl, hw⟩ := List.mem_flatten.mp hw
    obtain ⟨s, hs2, rfl⟩ := List.mem_map.mp hl
    obtain ⟨⟨a1, a2⟩, b1, b2⟩ := stepK_big (hall s hs2) (Int.le_refl _)
    have k1 := lenT a1 a2
    have k2 := lenT b1 b2
    unfold stW at hw
    simp only [List.mem_cons, List.not_mem_nil, or_false] at hw
    rcases hw with rfl | rfl | rfl
    · rw [sg_len]; decide
    · omega
    · omega
  · rcases List.mem_cons.mp hw with rfl | hw
    · decide +kernel
    · obtain ⟨x, hx, rfl⟩ := List.mem_map.mp hw
      have := hos x hx
      obtain ⟨c1, c2⟩ := smallB (n := x) this.1 (by omega)
      have := lenT c1 c2
      omega
theorem wkW_many {n m : Int} {ss : List Stp} {os : List Int} (h : wkOk n m ss os) : (wkW n m ss os).length ≤ 320 := by
  obtain ⟨n1, n2, m1, m2, hs, ls, o1, o2, hos⟩ := h
  unfold wkW
  rw [List.length_append, List.length_cons, List.length_map, wkH_len]
  omega
theorem JB_len {ws : List Str} {k : Nat} (h : ∀ w ∈ ws, w.length ≤ k) : (JB ws).length ≤ ws.length * (k + 1) := by
  have h1 := PySem.StrLaws.join_length_le (" " : Str) ws
  rw [← TL.join_eq] at h1
  have h2 := sum_le h
  rw [sp_len, Nat.mul_one] at h1
  rw [Nat.mul_succ]
  exact Nat.le_trans h1 (by omega)
theorem mid_map {f : Nat → D} {n : Nat} {pre post : List D} {d : D} (e : (List.range n).map f = pre ++ d :: post) : d = f pre.length ∧ pre.length < n := by
  have hl : pre.length < n := by
    have := congrArg List.length e
    rw [List.length_map, List.length_append, List.length_cons, List.length_range] at this
    omega
  have h1 : ((List.range n).map f)[pre.length]? = some d := by rw [e, List.getElem?_append_right (Nat.le_refl _), Nat.sub_self]; rfl
  rw [List.getElem?_map, List.getElem?_eq_getElem (by rw [List.length_range]; exact hl), List.getElem_range] at h1
  exact ⟨(Option.some.inj h1).symm, hl⟩
theorem wk_okW {n m : Int} {ss : List Stp} {os : List Int} (h : wkOk n m ss os) : okW (workD n m ss os) := by
  obtain ⟨n1, n2, m1, m2, hs, ls, o1, o2, hos⟩ := h
  refine ⟨⟨_, rfl⟩, fun a b c d e => ?_⟩
  unfold workD at e
  cases e
  refine ⟨⟨_, rfl⟩, ⟨_, rfl⟩, ⟨⟨_, rfl⟩, fun ds e => ?_⟩, ⟨_, rfl⟩, fun ds e => ?_⟩
  · cases e
    refine ⟨by rw [List.length_map]; omega, fun d hd => ?_⟩
    obtain ⟨s, _, rfl⟩ := List.mem_map.mp hd
    refine ⟨⟨_, rfl⟩, fun es e => ?_⟩
    unfold stepD at e
    cases e
    refine ⟨by simp only [List.length_cons, List.length_nil]; omega, fun x hx => ?_⟩
    simp only [List.mem_cons, List.not_mem_nil, or_false] at hx
    rcases hx with rfl | rfl | rfl <;> exact ⟨_, rfl⟩
  · cases e
    refine ⟨by rw [List.length_map]; omega, fun d hd => ?_⟩
    obtain ⟨s, _, rfl⟩ := List.mem_map.mp hd
    exact ⟨_, rfl⟩
theorem tr_str {d : Nat} {s : Str} : trD d (.str s) := by
  cases d <;> trivial
theorem tr_int {d : Nat} {n : Int} : trD d (.int n) := by
  cases d <;> trivial
theorem wk_tr {n m : Int} {ss : List Stp} {os : List Int} (h : wkOk n m ss os) : trD 3 (workD n m ss os) := by
  obtain ⟨n1, n2, m1, m2, hs, ls, o1, o2, hos⟩ := h
  refine ⟨by simp, fun e he => ?_⟩
  simp only [List.mem_cons, List.not_mem_nil, or_false] at he
  rcases he with rfl | rfl | rfl | rfl
  · exact tr_int
  · exact tr_int
  · refine ⟨by rw [List.length_map]; omega, fun e he => ?_⟩
    obtain ⟨s, _, rfl⟩ := List.mem_map.mp he
    refine ⟨by simp, fun e he => ?_⟩
    simp only [List.mem_cons, List.not_mem_nil, or_false] at he
    rcases he with rfl | rfl | rfl
    · exact tr_str
    · exact tr_int
    · exact tr_int
  · refine ⟨by rw [List.length_map]; omega, fun e he => ?_⟩
    obtain ⟨x, _, rfl⟩ := List.mem_map.mp he
    exact tr_int

def sp_whE : DSp := fun ds μ Q _ => ∃ x, ds = [x] ∧ okE x ∧ Q (.bl (match x with | .int _ => true | _ => false)) μ
theorem wordB_no {c : Int} {w : Str} {h t : D} (n1 : w ≠ ("times" : Str)) (n2 : w ≠ ("plus" : Str)) (n3 : w ≠ ("minus" : Str)) (n4 : w ≠ ("by" : Str)) (n5 : w ≠ ("part" : Str)) : wordB c w h t = false := by
  unfold wordB
  rw [if_neg (by simp [n1, n2, n3]), if_neg n4, decide_eq_false n5]
  simp
def goS (c : Int) : D → Bool
  | .tup [.int i, d] => stepB (c + i) d
  | _ => false
theorem stepsB_idx : ∀ (ds : List D) (c : Int) (j : Nat), ((ds.mapIdx fun (i : Nat) d => D.tup [.int ((i + j : Nat) : Int), d]).map (goS c)).all id = stepsB (c + (j : Int)) ds
  | [], _, _ => rfl
  | d :: ds, c, j => by
    rw [List.mapIdx_cons, List.map_cons, List.all_cons, stepsB]
    have ih := stepsB_idx ds c (j + 1)
    have e : (fun (i : Nat) (d : D) => D.tup [.int ((i + 1 + j : Nat) : Int), d]) = fun (i : Nat) (d : D) => D.tup [.int ((i + (j + 1) : Nat) : Int), d] := by
      funext i d
      rw [Nat.add_right_comm, Nat.add_assoc]
    rw [e, ih, Nat.zero_add, show c + ((j + 1 : Nat) : Int) = c + (j : Int) + 1 by omega]
    rfl

def Gm : Nat → DSp
  | 0 => sp_well
  | 1 => fun ds μ Q E => ∃ d, d ≤ M__law_alike ∧ rs__law_alike d ds μ Q E
  | 2 => sp_stirred
  | 3 => sp_drawW
  | 4 => sp_anyW
  | 5 => sp_workT
  | 6 => sp_wordsof
  | 7 => sp_numin
  | 8 => sp_numsin
  | 9 => sp_whE
  | 10 => sp_cellH
  | 11 => sp_stepH
  | 12 => sp_stepsH
  | 13 => sp_outsH
  | 14 => sp_workH
  | 15 => sp_signed
  | 16 => sp_stepin
  | 17 => sp_readW
  | 18 => sp_workT
  | 19 => spLaw
  | _ => fun _ _ _ _ => False
def gl : Nat → D
  | 0 => .tup [.str "times", .str "plus", .str "minus", .str "by", .str "part"]
  | 1 => .str "0123456789"
  | 2 => .int 60
  | 3 => .dkk ((["plus", "minus", "times", "by", "part"] : List Str).map Sum.inr) [.str "+", .str "-", .str "*", .str "x", .str "/"]
  | 4 => .dkk ((["+", "-", "*", "x", "/"] : List Str).map Sum.inr) [.str "plus", .str "minus", .str "times", .str "by", .str "part"]
  | _ => .non
theorem wp__law_well : ∀ ds μ Q E, ds.length = 1 → Gm 0 ds μ Q E → wpSs Gm gl c__law_well (dstart N__law_well ds) μ { nx := fun _ μ' => Out Q .non μ', rt := Out Q } (fun dx _ μ' => ∃ μ2, List.Sublist μ2 μ' ∧ E dx μ2) := by
  rintro ds μ Q E _ ⟨ns, rfl, rfl, hl, q⟩
  unfold c__law_well N__law_well
  walk_at "dl"
  refine ⟨_, rfl, by show ([.inr "script", .inr "next", .inr "great", .inr "room", .inr "turn", .inr "mixed"] : List Key).Nodup; decide +kernel, fun p hp => ?_⟩
  exact Out.here (q _ _ ⟨ns, 0, 0, 0, 0, 29, rfl, by decide, by omega, hl, by decide⟩)
theorem wp__law_alike : ∀ d ds μ Q E, ds.length = 2 → rs__law_alike d ds μ Q E → wpSs (GamR Gm 1 (match d with | 0 => spNo | d + 1 => rs__law_alike d)) gl c__law_alike (dstart N__law_alike ds) μ { nx := fun _ μ' => Out Q .non μ', rt := Out Q } (fun dx _ μ' => ∃ μ2, List.Sublist μ2 μ' ∧ E dx μ2) := by
  rintro d ds μ Q E _ ⟨x, rfl, ht, q⟩
  unfold c__law_alike N__law_alike
  walk_at "dl"
  cases x with
  | int j =>
    walk_at "dl"
    exact Out.here q
  | str s =>
    walk_at "dl"
    exact Out.here q
  | tup es =>
    cases d with
    | zero => exact ht.elim
    | succ d =>
      obtain ⟨hl, he⟩ := ht
      try walk_at "dl"
      refine ⟨⟨by rw [List.length_map, List.length_zip, sizeLine_eq]; omega, DL.comp_map (fun _ => .bl true) trivial ?_ ?_⟩, fun z => absurd trivial z⟩
      · intro p hp Q' B q'
        obtain ⟨⟨a, b⟩, hab, rfl⟩ := List.mem_map.mp hp
        obtain ⟨z, hz, ez⟩ := List.getElem_of_mem hab
        rw [List.getElem_zip] at ez
        cases ez
        walk_at "dl"
        exact h_call0 ⟨_, rfl, he _ (List.getElem_mem _), q'⟩
      · rw [List.map_const']
        refine ⟨_, _, rfl, all_bl _, ?_⟩
        rw [show (List.replicate ((List.map (fun p => D.tup [p.1, p.2]) (es.zip es)).length) true).all id = true by simp]
        try walk_at "dl"
        exact Out.here q
  | _ => cases d <;> exact ht.elim
theorem wp__law_stirred : ∀ ds μ Q E, ds.length = 2 → Gm 2 ds μ Q E → wpSs Gm gl c__law_stirred (dstart N__law_stirred ds) μ { nx := fun _ μ' => Out Q .non μ', rt := Out Q } (fun dx _ μ' => ∃ μ2, List.Sublist μ2 μ' ∧ E dx μ2) := by
  rintro ds μ Q E _ ⟨a, t, rfl, q⟩
  unfold c__law_stirred N__law_stirred
  walk_at "dl"
  refine ⟨h_mulL (by decide) (by decide), by decide, h_mulR (by decide) (by decide), by decide, by decide, h_mulL (by omega) (by omega), by decide, ?_⟩
  exact Out.here (q _ (Int.emod_nonneg _ (by decide)) (Int.emod_lt_of_pos _ (by decide)))
theorem wp__law_draw : ∀ ds μ Q E, ds.length = 2 → Gm 3 ds μ Q E → wpSs Gm gl c__law_draw (dstart N__law_draw ds) μ { nx := fun _ μ' => Out Q .non μ', rt := Out Q } (fun dx _ μ' => ∃ μ2, List.Sublist μ2 μ' ∧ E dx μ2) := by
  rintro ds μ Q E _ ⟨p, o, m, rfl, rfl, ⟨sc, nx, gr, ro, tu, mi, rfl, nx0, nx1, ls, gr0⟩, m0, m1, q⟩
  unfold c__law_draw N__law_draw
  walk_at "dl"
  repeat (first | simp only [wg_script, wg_next, wg_great, wg_room, wg_turn, wg_mixed, wq_next_, wq_great_, wq_room_, wq_turn_, wq_mixed_] | walk_at "dl")
  refine ⟨fun a0 => ⟨fun b0 => ?_, fun b0 => ?_⟩, fun a0 => ?_⟩
  · rw [List.length_map] at b0
    refine h_atI (by omega) (by omega) ?_
    repeat (first | simp only [wg_script, wg_next, wg_great, wg_room, wg_turn, wg_mixed, wq_next_, wq_great_, wq_room_, wq_turn_, wq_mixed_] | walk_at "dl")
    refine ⟨by decide, ?_⟩
    repeat (first | simp only [wg_script, wg_next, wg_great, wg_room, wg_turn, wg_mixed, wq_next_, wq_great_, wq_room_, wq_turn_, wq_mixed_] | walk_at "dl")
    refine h_call0 ⟨_, _, rfl, fun r r0 r1 => ?_⟩
    repeat (first | simp only [wg_script, wg_next, wg_great, wg_room, wg_turn, wg_mixed, wq_next_, wq_great_, wq_room_, wq_turn_, wq_mixed_] | walk_at "dl")
    refine ⟨by unfold CPow; decide, fun c0 => ⟨by unfold CPow; decide, by unfold CPow; decide, h_mulBig (m := 300) (n := 300) (by decide) (by decide) (by decide) (by decide) (by decide), ?_⟩, fun c0 => ?_⟩
    · repeat (first | simp only [wg_script, wg_next, wg_great, wg_room, wg_turn, wg_mixed, wq_next_, wq_great_, wq_room_, wq_turn_, wq_mixed_] | walk_at "dl")
      refine ⟨by decide, _, _, rfl, ?_⟩
      have g0 : 0 ≤ sc.getD nx.toNat 0 % 100000000000000000000000000000000000000000000000000000000000000000000000000000000000000000000000000000000000000000000000000000000 := Int.emod_nonneg _ (by decide)
      repeat (first | simp only [wg_script, wg_next, wg_great, wg_room, wg_turn, wg_mixed, wq_next_, wq_great_, wq_room_, wq_turn_, wq_mixed_] | walk_at "dl")
      refine ⟨fun a1 => ⟨fun b1 => ?_, fun b1 => ?_⟩, fun a1 => ?_⟩
      · skip
        repeat (first | simp only [wg_script, wg_next, wg_great, wg_room, wg_turn, wg_mixed, wq_next_, wq_great_, wq_room_, wq_turn_, wq_mixed_] | walk_at "dl")
        refine ⟨m0, h_divB m0 m1 (by decide), ?_⟩
        repeat (first | simp only [wg_script, wg_next, wg_great, wg_room, wg_turn, wg_mixed, wq_next_, wq_great_, wq_room_, wq_turn_, wq_mixed_] | walk_at "dl")
        exact Out.here (q _ _ (Int.emod_nonneg _ (by omega)) (Int.emod_lt_of_pos _ m0) ⟨_, _, _, _, _, _, rfl, by omega, by omega, ls, Int.ediv_nonneg (by omega) (by omega)⟩)
      · skip
        repeat (first | simp only [wg_script, wg_next, wg_great, wg_room, wg_turn, wg_mixed, wq_next_, wq_great_, wq_room_, wq_turn_, wq_mixed_] | walk_at "dl")
        refine h_call0 ⟨_, _, rfl, fun r r0 r1 => ?_⟩
        repeat (first | simp only [wg_script, wg_next, wg_great, wg_room, wg_turn, wg_mixed, wq_next_, wq_great_, wq_room_, wq_turn_, wq_mixed_] | walk_at "dl")
        refine h_call0 ⟨_, _, rfl, fun r2 r20 r21 => ?_⟩
        repeat (first | simp only [wg_script, wg_next, wg_great, wg_room, wg_turn, wg_mixed, wq_next_, wq_great_, wq_room_, wq_turn_, wq_mixed_] | walk_at "dl")
        refine ⟨h_div (by decide) (by decide), m0, ?_⟩
        exact Out.here (q _ _ (Int.emod_nonneg _ (by omega)) (Int.emod_lt_of_pos _ m0) ⟨_, _, _, _, _, _, rfl, by omega, by omega, ls, by omega⟩)
      · skip
        repeat (first | simp only [wg_script, wg_next, wg_great, wg_room, wg_turn, wg_mixed, wq_next_, wq_great_, wq_room_, wq_turn_, wq_mixed_] | walk_at "dl")
        refine h_call0 ⟨_, _, rfl, fun r r0 r1 => ?_⟩
        repeat (first | simp only [wg_script, wg_next, wg_great, wg_room, wg_turn, wg_mixed, wq_next_, wq_great_, wq_room_, wq_turn_, wq_mixed_] | walk_at "dl")
        refine h_call0 ⟨_, _, rfl, fun r2 r20 r21 => ?_⟩
        repeat (first | simp only [wg_script, wg_next, wg_great, wg_room, wg_turn, wg_mixed, wq_next_, wq_great_, wq_room_, wq_turn_, wq_mixed_] | walk_at "dl")
        refine ⟨h_div (by decide) (by decide), m0, ?_⟩
        exact Out.here (q _ _ (Int.emod_nonneg _ (by omega)) (Int.emod_lt_of_pos _ m0) ⟨_, _, _, _, _, _, rfl, by omega, by omega, ls, by omega⟩)
    · skip
      repeat (first | simp only [wg_script, wg_next, wg_great, wg_room, wg_turn, wg_mixed, wq_next_, wq_great_, wq_room_, wq_turn_, wq_mixed_] | walk_at "dl")
      refine ⟨fun a1 => ⟨fun b1 => ?_, fun b1 => ?_⟩, fun a1 => ?_⟩
      · skip
        repeat (first | simp only [wg_script, wg_next, wg_great, wg_room, wg_turn, wg_mixed, wq_next_, wq_great_, wq_room_, wq_turn_, wq_mixed_] | walk_at "dl")
        refine ⟨m0, h_divB m0 m1 (by decide), ?_⟩
        repeat (first | simp only [wg_script, wg_next, wg_great, wg_room, wg_turn, wg_mixed, wq_next_, wq_great_, wq_room_, wq_turn_, wq_mixed_] | walk_at "dl")
        exact Out.here (q _ _ (Int.emod_nonneg _ (by omega)) (Int.emod_lt_of_pos _ m0) ⟨_, _, _, _, _, _, rfl, by omega, by omega, ls, Int.ediv_nonneg (by omega) (by omega)⟩)
      · skip
        repeat (first | simp only [wg_script, wg_next, wg_great, wg_room, wg_turn, wg_mixed, wq_next_, wq_great_, wq_room_, wq_turn_, wq_mixed_] | walk_at "dl")
        refine h_call0 ⟨_, _, rfl, fun r r0 r1 => ?_⟩
        repeat (first | simp only [wg_script, wg_next, wg_great, wg_room, wg_turn, wg_mixed, wq_next_, wq_great_, wq_room_, wq_turn_, wq_mixed_] | walk_at "dl")
        refine h_call0 ⟨_, _, rfl, fun r2 r20 r21 => ?_⟩
        repeat (first | simp only [wg_script, wg_next, wg_great, wg_room, wg_turn, wg_mixed, wq_next_, wq_great_, wq_room_, wq_turn_, wq_mixed_] | walk_at "dl")
        refine ⟨h_div (by decide) (by decide), m0, ?_⟩
        exact Out.here (q _ _ (Int.emod_nonneg _ (by omega)) (Int.emod_lt_of_pos _ m0) ⟨_, _, _, _, _, _, rfl, by omega, by omega, ls, by omega⟩)
      · skip
        repeat (first | simp only [wg_script, wg_next, wg_great, wg_room, wg_turn, wg_mixed, wq_next_, wq_great_, wq_room_, wq_turn_, wq_mixed_] | walk_at "dl")
        refine h_call0 ⟨_, _, rfl, fun r r0 r1 => ?_⟩
        repeat (first | simp only [wg_script, wg_next, wg_great, wg_room, wg_turn, wg_mixed, wq_next_, wq_great_, wq_room_, wq_turn_, wq_mixed_] | walk_at "dl")
        refine h_call0 ⟨_, _, rfl, fun r2 r20 r21 => ?_⟩
        repeat (first | simp only [wg_script, wg_next, wg_great, wg_room, wg_turn, wg_mixed, wq_next_, wq_great_, wq_room_, wq_turn_, wq_mixed_] | walk_at "dl")
        refine ⟨h_div (by decide) (by decide), m0, ?_⟩
        exact Out.here (q _ _ (Int.emod_nonneg _ (by omega)) (Int.emod_lt_of_pos _ m0) ⟨_, _, _, _, _, _, rfl, by omega, by omega, ls, by omega⟩)
  · skip
    repeat (first | simp only [wg_script, wg_next, wg_great, wg_room, wg_turn, wg_mixed, wq_next_, wq_great_, wq_room_, wq_turn_, wq_mixed_] | walk_at "dl")
    refine ⟨fun a1 => ⟨fun b1 => ?_, fun b1 => ?_⟩, fun a1 => ?_⟩
    · skip
      repeat (first | simp only [wg_script, wg_next, wg_great, wg_room, wg_turn, wg_mixed, wq_next_, wq_great_, wq_room_, wq_turn_, wq_mixed_] | walk_at "dl")
      refine ⟨m0, h_divB m0 m1 (by decide), ?_⟩
      repeat (first | simp only [wg_script, wg_next, wg_great, wg_room, wg_turn, wg_mixed, wq_next_, wq_great_, wq_room_, wq_turn_, wq_mixed_] | walk_at "dl")
      exact Out.here (q _ _ (Int.emod_nonneg _ (by omega)) (Int.emod_lt_of_pos _ m0) ⟨_, _, _, _, _, _, rfl, by omega, by omega, ls, Int.ediv_nonneg (by omega) (by omega)⟩)
    · skip
      repeat (first | simp only [wg_script, wg_next, wg_great, wg_room, wg_turn, wg_mixed, wq_next_, wq_great_, wq_room_, wq_turn_, wq_mixed_] | walk_at "dl")
      refine h_call0 ⟨_, _, rfl, fun r r0 r1 => ?_⟩
      repeat (first | simp only [wg_script, wg_next, wg_great, wg_room, wg_turn, wg_mixed, wq_next_, wq_great_, wq_room_, wq_turn_, wq_mixed_] | walk_at "dl")
      refine h_call0 ⟨_, _, rfl, fun r2 r20 r21 => ?_⟩
      repeat (first | simp only [wg_script, wg_next, wg_great, wg_room, wg_turn, wg_mixed, wq_next_, wq_great_, wq_room_, wq_turn_, wq_mixed_] | walk_at "dl")
      refine ⟨h_div (by decide) (by decide), m0, ?_⟩
      exact Out.here (q _ _ (Int.emod_nonneg _ (by omega)) (Int.emod_lt_of_pos _ m0) ⟨_, _, _, _, _, _, rfl, by omega, by omega, ls, by omega⟩)
    · skip
      repeat (first | simp only [wg_script, wg_next, wg_great, wg_room, wg_turn, wg_mixed, wq_next_, wq_great_, wq_room_, wq_turn_, wq_mixed_] | walk_at "dl")
      refine h_call0 ⟨_, _, rfl, fun r r0 r1 => ?_⟩
      repeat (first | simp only [wg_script, wg_next, wg_great, wg_room, wg_turn, wg_mixed, wq_next_, wq_great_, wq_room_, wq_turn_, wq_mixed_] | walk_at "dl")
      refine h_call0 ⟨_, _, rfl, fun r2 r20 r21 => ?_⟩
      repeat (first | simp only [wg_script, wg_next, wg_great, wg_room, wg_turn, wg_mixed, wq_next_, wq_great_, wq_room_, wq_turn_, wq_mixed_] | walk_at "dl")
      refine ⟨h_div (by decide) (by decide), m0, ?_⟩
      exact Out.here (q _ _ (Int.emod_nonneg _ (by omega)) (Int.emod_lt_of_pos _ m0) ⟨_, _, _, _, _, _, rfl, by omega, by omega, ls, by omega⟩)
  · skip
    repeat (first | simp only [wg_script, wg_next, wg_great, wg_room, wg_turn, wg_mixed, wq_next_, wq_great_, wq_room_, wq_turn_, wq_mixed_] | walk_at "dl")
    refine ⟨fun a1 => ⟨fun b1 => ?_, fun b1 => ?_⟩, fun a1 => ?_⟩
    · skip
      repeat (first | simp only [wg_script, wg_next, wg_great, wg_room, wg_turn, wg_mixed, wq_next_, wq_great_, wq_room_, wq_turn_, wq_mixed_] | walk_at "dl")
      refine ⟨m0, h_divB m0 m1 (by decide), ?_⟩
      repeat (first | simp only [wg_script, wg_next, wg_great, wg_room, wg_turn, wg_mixed, wq_next_, wq_great_, wq_room_, wq_turn_, wq_mixed_] | walk_at "dl")
      exact Out.here (q _ _ (Int.emod_nonneg _ (by omega)) (Int.emod_lt_of_pos _ m0) ⟨_, _, _, _, _, _, rfl, by omega, by omega, ls, Int.ediv_nonneg (by omega) (by omega)⟩)
    · skip
      repeat (first | simp only [wg_script, wg_next, wg_great, wg_room, wg_turn, wg_mixed, wq_next_, wq_great_, wq_room_, wq_turn_, wq_mixed_] | walk_at "dl")
      refine h_call0 ⟨_, _, rfl, fun r r0 r1 => ?_⟩
      repeat (first | simp only [wg_script, wg_next, wg_great, wg_room, wg_turn, wg_mixed, wq_next_, wq_great_, wq_room_, wq_turn_, wq_mixed_] | walk_at "dl")
      refine h_call0 ⟨_, _, rfl, fun r2 r20 r21 => ?_⟩
      repeat (first | simp only [wg_script, wg_next, wg_great, wg_room, wg_turn, wg_mixed, wq_next_, wq_great_, wq_room_, wq_turn_, wq_mixed_] | walk_at "dl")
      refine ⟨h_div (by decide) (by decide), m0, ?_⟩
      exact Out.here (q _ _ (Int.emod_nonneg _ (by omega)) (Int.emod_lt_of_pos _ m0) ⟨_, _, _, _, _, _, rfl, by omega, by omega, ls, by omega⟩)
    · skip
      repeat (first | simp only [wg_script, wg_next, wg_great, wg_room, wg_turn, wg_mixed, wq_next_, wq_great_, wq_room_, wq_turn_, wq_mixed_] | walk_at "dl")
      refine h_call0 ⟨_, _, rfl, fun r r0 r1 => ?_⟩
      repeat (first | simp only [wg_script, wg_next, wg_great, wg_room, wg_turn, wg_mixed, wq_next_, wq_great_, wq_room_, wq_turn_, wq_mixed_] | walk_at "dl")
      refine h_call0 ⟨_, _, rfl, fun r2 r20 r21 => ?_⟩
      repeat (first | simp only [wg_script, wg_next, wg_great, wg_room, wg_turn, wg_mixed, wq_next_, wq_great_, wq_room_, wq_turn_, wq_mixed_] | walk_at "dl")
      refine ⟨h_div (by decide) (by decide), m0, ?_⟩
      exact Out.here (q _ _ (Int.emod_nonneg _ (by omega)) (Int.emod_lt_of_pos _ m0) ⟨_, _, _, _, _, _, rfl, by omega, by omega, ls, by omega⟩)
theorem wp__law_any_work : ∀ ds μ Q E, ds.length = 2 → Gm 4 ds μ Q E → wpSs Gm gl c__law_any_work (dstart N__law_any_work ds) μ { nx := fun _ μ' => Out Q .non μ', rt := Out Q } (fun dx _ μ' => ∃ μ2, List.Sublist μ2 μ' ∧ E dx μ2) := by
  rintro ds μ Q E _ ⟨p, o, k, rfl, rfl, ho, k0, k1, q⟩
  unfold c__law_any_work N__law_any_work
  walk_at "dl"
  have sl := sizeLine_eq
  refine h_callA ⟨p, o, 3, rfl, rfl, ho, by decide, by decide, fun a o a0 a1 ho => ?_⟩
  try walk_at "dl"
  refine h_atP (fun v => 1 ≤ v ∧ v ≤ 8) a0 (by exact a1) (fun d hd => ?_) fun b hb => ?_
  · simp only [List.mem_cons, List.not_mem_nil, or_false] at hd
    rcases hd with rfl | rfl | rfl <;> exact ⟨_, rfl, by decide, by decide⟩
  refine h_callA ⟨p, o, b, rfl, rfl, ho, by omega, Int.lt_of_le_of_lt hb.2 (by decide), fun n1 o n0 n2 ho => ?_⟩
  try walk_at "dl"
  obtain ⟨n, hn⟩ : ∃ n, n = 1 + n1 := ⟨_, rfl⟩
  rw [← hn]
  refine h_callA ⟨p, o, 6, rfl, rfl, ho, by decide, by decide, fun m1 o m0 m2 ho => ?_⟩
  try walk_at "dl"
  refine h_callA ⟨p, o, 3, rfl, rfl, ho, by decide, by decide, fun w o w0 w1 ho => ?_⟩
  try walk_at "dl"
  refine h_atP (fun v => 0 ≤ v ∧ v ≤ 8) w0 (by exact w1) (fun d hd => ?_) fun m hm => ?_
  · simp only [List.mem_cons, List.not_mem_nil, or_false] at hd
    rcases hd with rfl | rfl | rfl <;> exact ⟨_, rfl, by omega, by omega⟩
  try walk_at "dl"
  intro f hf
  have fp : f ≠ p := fun z => hf (p, o) (by simp) z.symm
  have pf : p ≠ f := Ne.symm fp
  have nd : ∀ (x y : MO), (([(p, x), (f, y)] : Mu).map (·.1)).Nodup := fun x y => by
    simp only [List.map_cons, List.map_nil, List.nodup_cons, List.mem_cons, List.not_mem_nil, or_false, not_or, not_false_eq_true, List.nodup_nil, and_true]
    exact pf
  refine h_callP (μr := [(f, .lst [])]) (List.Perm.swap _ _ _) ⟨p, o, k + 1, rfl, rfl, ho, by omega, Int.lt_of_le_of_lt (show k + 1 ≤ 1001 by omega) (by decide), fun y o y0 y1 ho => ?_⟩
  try walk_at "dl"
  refine ⟨by omega, for_rng (fun i σ μ1 => ∃ (ss : List Stp) (o : MO) (x5 x6 x7 x8 : Option D), σ = [some (.obj p), some (.int k), some (.int n), some (.int m), some (.obj f), x5, x6, x7, x8, none] ∧ isWell o ∧ List.Perm μ1 [(p, o), (f, .lst (ss.map stepD))] ∧ ss.length = i ∧ stepsK (n + m) ss) ⟨[], o, _, _, _, _, rfl, ho, List.Perm.refl _, rfl, fun i h => absurd h (Nat.not_lt_zero _)⟩ ?_ ?_⟩
  · rintro i σ μ1 N hi ⟨ss, o, x5, x6, x7, x8, rfl, ho, hp, ln, hs⟩ hN
    have ib : (i : Int) < y := by omega
    walk_at "dl"
    refine h_callP (μr := [(f, .lst (ss.map stepD))]) hp ⟨p, o, 8, rfl, rfl, ho, by decide, by decide, fun t o t0 t1 ho => ?_⟩
    try walk_at "dl"
    refine h_atAll t0 (by exact t1) fun d hd => ?_
    obtain ⟨w, rfl, hw⟩ : ∃ w : Str, d = .str w ∧ (w = ("times" : Str) ∨ w = ("plus" : Str) ∨ w = ("minus" : Str) ∨ w = ("by" : Str) ∨ w = ("part" : Str)) := by
      simp only [List.mem_cons, List.not_mem_nil, or_false] at hd
      rcases hd with rfl | rfl | rfl | rfl | rfl | rfl | rfl | rfl <;> exact ⟨_, rfl, by simp⟩
    try walk_at "dl"
    refine h_callP (μr := [(f, .lst (ss.map stepD))]) (List.Perm.refl _) ⟨p, o, _, rfl, rfl, ho, by omega, Int.lt_of_le_of_lt (show _ ≤ (2000 : Int) by omega) (by decide), fun h o h0 h1 ho => ?_⟩
    try walk_at "dl"
    have fin : ∀ (t : Int) (o : MO), isWell o → stepK (n + m + (i : Int)) (w, h, t) → withL ([(p, o)] ++ [(f, .lst (ss.map stepD))]) f fun es => es.length < sizeLine ∧ DL.putK ([(p, o)] ++ [(f, .lst (ss.map stepD))]) f (es ++ [.tup [.str w, .int h, .int t]]) fun μ' => N [some (.obj p), some (.int k), some (.int n), some (.int m), some (.obj f), some (.int (0 + (i : Int))), some (.int (n + m + (0 + (i : Int)))), some (.str w), some (.int h), none] μ' := fun t o ho hk => by
      refine withL_p (ν := [(p, o), (f, .lst (ss.map stepD))]) (List.Perm.refl _) (nd _ _) (by rw [get_s pf]; exact get_z) ⟨by rw [List.length_map]; omega, putK_p (ν := [(p, o), (f, .lst (ss.map stepD))]) (List.Perm.refl _) (nd _ _) fun μ' hp' => ?_⟩
      rw [put_s pf, put_z] at hp'
      refine hN _ _ trivial ⟨ss ++ [(w, h, t)], o, _, _, _, _, rfl, ho, by rw [List.map_append]; exact hp', by rw [List.length_append, ln]; rfl, stepsK_snoc hs (by rw [ln]; exact hk)⟩
    have rcv : ∀ o : MO, withL ([(p, o)] ++ [(f, .lst (ss.map stepD))]) f fun _ => True := fun o => withL_p (ν := [(p, o), (f, .lst (ss.map stepD))]) (List.Perm.refl _) (nd _ _) (by rw [get_s pf]; exact get_z) trivial
    refine ⟨fun hby => ?_, fun hby => ⟨fun hpa => ?_, fun hpa => ?_⟩⟩
    · refine ⟨rcv _, by unfold CPow; decide, ?_⟩
      refine h_callP (μr := [(f, .lst (ss.map stepD))]) (List.Perm.refl _) ⟨p, o, 7, rfl, rfl, ho, by decide, by decide, fun t o t0 t1 ho => ?_⟩
      try walk_at "dl"
      refine h_atP (fun v => -BIG < v ∧ v < BIG) t0 (by exact t1) (fun d hd => ?_) fun v hv => fin v o ho ⟨h0, by show h < _; omega, .inr (.inl ⟨hby, hv⟩)⟩
      simp only [List.mem_cons, List.not_mem_nil, or_false] at hd
      rcases hd with rfl | rfl | rfl | rfl | rfl | rfl | rfl <;> exact ⟨_, rfl, by decide +kernel, by decide +kernel⟩
    · refine ⟨rcv _, ?_⟩
      refine h_callP (μr := [(f, .lst (ss.map stepD))]) (List.Perm.refl _) ⟨p, o, 4, rfl, rfl, ho, by decide, by decide, fun t o t0 t1 ho => ?_⟩
      try walk_at "dl"
      refine h_atP (fun v => 2 ≤ v ∧ v < 10) t0 (by exact t1) (fun d hd => ?_) fun v hv => fin v o ho ⟨h0, by show h < _; omega, .inr (.inr ⟨hpa, hv⟩)⟩
      simp only [List.mem_cons, List.not_mem_nil, or_false] at hd
      rcases hd with rfl | rfl | rfl | rfl <;> exact ⟨_, rfl, by decide, by decide⟩
    · refine ⟨rcv _, ?_⟩
      refine h_callP (μr := [(f, .lst (ss.map stepD))]) (List.Perm.refl _) ⟨p, o, 2, rfl, rfl, ho, by decide, by decide, fun t o t0 t1 ho => ?_⟩
      try walk_at "dl"
      refine h_atP (fun v => 1 ≤ v ∧ v ≤ n + m + (i : Int)) t0 (by exact t1) (fun d hd => ?_) fun v hv => ?_
      · simp only [List.mem_cons, List.not_mem_nil, or_false] at hd
        rcases hd with rfl | rfl <;> exact ⟨_, rfl, by omega, by omega⟩
      refine h_callP (μr := [(f, .lst (ss.map stepD))]) (List.Perm.refl _) ⟨p, o, v, rfl, rfl, ho, by omega, Int.lt_of_le_of_lt (show v ≤ (2000 : Int) by omega) (by decide), fun t o t0 t1 ho => ?_⟩
      try walk_at "dl"
      exact fin t o ho ⟨h0, by show h < _; omega, .inl ⟨by rcases hw with h | h | h | h | h <;> first | exact .inl h | exact .inr (.inl h) | exact .inr (.inr h) | exact absurd h hby | exact absurd h hpa, t0, by show t < _; omega⟩⟩
  · rintro σ μ1 ⟨ss, o, x5, x6, x7, x8, rfl, ho, hp, ln, hs⟩
    walk_at "dl"
    refine h_callP (μr := [(f, .lst (ss.map stepD))]) hp ⟨p, o, 6, rfl, rfl, ho, by decide, by decide, fun c o c0 c1 ho => ?_⟩
    try walk_at "dl"
    have hl3 : (rngL 0 (1 + c).toNat).length = (1 + c).toNat := by unfold rngL; rw [List.length_map, List.length_range]
    refine ⟨⟨by omega, by omega⟩, by omega, ?_⟩
    refine comp_inv (fun pre acc μ' => ∃ o, ∃ os : List Int, isWell o ∧ List.Perm μ' [(p, o), (f, .lst (ss.map stepD))] ∧ acc = os.map D.int ∧ os.length = pre.length ∧ ∀ x ∈ os, 0 ≤ x ∧ x < n + m + (ss.length : Int)) ⟨o, [], ho, List.Perm.refl _, rfl, rfl, fun x h => absurd h List.not_mem_nil⟩ ?_ ?_
    · rintro pre d post acc μ' N2 e ⟨o, os, ho, hp, rfl, hl4, hso⟩ hN2
      obtain ⟨rfl, hlt⟩ := h_rngMid e
      walk_at "dl"
      refine withL_p hp (nd _ _) (by rw [get_s pf]; exact get_z) ?_
      rw [List.length_map]
      refine h_callP (μr := [(f, .lst (ss.map stepD))]) hp ⟨p, o, _, rfl, rfl, ho, by omega, Int.lt_of_le_of_lt (show _ ≤ (2000 : Int) by omega) (by decide), fun x o x0 x1 ho => ?_⟩
      refine hN2 _ _ trivial ⟨o, os ++ [x], ho, List.Perm.refl _, by rw [List.map_append]; rfl, by rw [List.length_append, List.length_append, hl4]; rfl, fun y hy => ?_⟩
      rcases List.mem_append.mp hy with hy | hy
      · exact hso y hy
      · rw [List.mem_singleton.mp hy]; exact ⟨x0, x1⟩
    rintro acc μ' ⟨o, os, ho, hp, rfl, hl4, hso⟩
    try walk_at "dl"
    have hg : Mu.get μ' f = some (.lst (ss.map stepD)) := Mu.get_perm hp (nd _ _) (by rw [get_s pf]; exact get_z)
    refine ⟨_, hg, out_one hp (q n m ss os o ⟨by omega, by omega, hm.1, hm.2, hs, by omega, by omega, by omega, hso⟩ (by omega) ho)⟩
theorem wp__law_work_text : ∀ ds μ Q E, ds.length = 1 → Gm 5 ds μ Q E → wpSs Gm gl c__law_work_text (dstart N__law_work_text ds) μ { nx := fun _ μ' => Out Q .non μ', rt := Out Q } (fun dx _ μ' => ∃ μ2, List.Sublist μ2 μ' ∧ E dx μ2) := by
  rintro ds μ Q E _ ⟨n, m, ss, os, rfl, hw, q⟩
  unfold c__law_work_text N__law_work_text
  walk_at "dl"
  have sl := sizeLine_eq
  have hw' := hw
  obtain ⟨n1, n2, m1, m2, hs, ls, o1, o2, hos⟩ := hw'
  have hall : ∀ s ∈ ss, stepK 1000000 s := stepsK_all hs (by omega)
  obtain ⟨nb1, nb2⟩ := smallB (n := n) (by omega) (by omega)
  obtain ⟨mb1, mb2⟩ := smallB (n := m) (by omega) (by omega)
  have ln := lenT nb1 nb2
  have lm := lenT mb1 mb2
  have lwk : ("work " : Str).length = 5 := by decide +kernel
  refine ⟨_, rfl, by show ([.inr "plus", .inr "minus", .inr "times", .inr "by", .inr "part"] : List Key).Nodup; decide +kernel, fun g hg => ?_⟩
  unfold workD
  walk_at "dl"
  have lens : ∀ x : Int, (Str.ofString (toString x)).length = (tS x).length := fun x => rfl
  refine ⟨logT nb1 nb2, by rw [lens]; omega, by rw [len_app, sp_len, lens]; omega, logT mb1 mb2, by rw [len_app, len_app, sp_len, lens, lens]; omega, ?_⟩
  intro r hr
  have rg : r ≠ g := fun z => hr (g, _) List.mem_cons_self z.symm
  refine for_items stepD ss (fun i σ μ1 => ∃ x3, σ = [some (D.tup [D.int n, D.int m, D.tup (List.map stepD ss), D.tup (List.map D.int os)]), some (.obj g), some (.obj r), x3, none] ∧ μ1 = (r, .lst ((hdT n m :: (ss.take i).map stT).map D.str)) :: (g, .dic (signKs.zip signDs)) :: μ) ⟨_, rfl, rfl⟩ ?_ ?_
  · rintro i hi σ μ1 N ⟨x3, rfl, rfl⟩ hN
    have hk := hall _ (List.getElem_mem hi)
    obtain ⟨⟨a1, a2⟩, b1, b2⟩ := stepK_big hk (Int.le_refl _)
    have l1 := lenT a1 a2
    have l2 := lenT b1 b2
    have tk : (ss.take (i + 1)).map stT = (ss.take i).map stT ++ [stT ss[i]] := by rw [List.take_succ_eq_append_getElem hi, List.map_append]; rfl
    revert hN
    rw [tk]
    intro hN
    generalize ss[i] = s at *
    unfold stepD
    walk_at "dl"
    refine h_dgetO (kds := signKs.zip signDs) (by rw [get_s rg]; exact get_z) (sign_get (stepK_word hk)) ?_
    walk_at "dl"
    refine ⟨by rw [sg_len, sp_len, sl]; decide, logT a1 a2, by rw [len_app, sg_len, sp_len, lens]; omega, by rw [len_app, len_app, sg_len, sp_len, lens]; omega, logT b1 b2, by rw [len_app, len_app, len_app, sg_len, sp_len, lens, lens]; omega, by rw [List.length_map, List.length_map, List.length_take]; omega, ?_⟩
    refine hN _ _ trivial ⟨_, rfl, ?_⟩
    rw [List.map_cons, List.map_append]
    rfl
  · rintro σ μ1 ⟨x3, rfl, rfl⟩
    rw [List.take_length]
    walk_at "dl"
    have ol : (os.map D.int).length ≤ 6 := by rw [List.length_map]; exact o2
    have osb : ∀ x ∈ os, -BIG < x ∧ x < BIG := fun x hx => by
      have := hos x hx
      exact smallB this.1 (by omega)
    refine ⟨by rw [List.length_map, List.length_map]; omega, by omega, comp_map (fun d => match d with | .int n => .str (tS n) | d => d) trivial ?_ ?_⟩
    · intro d hd Q' B q'
      obtain ⟨x, hx, rfl⟩ := List.mem_map.mp hd
      walk_at "dl"
      exact ⟨logT (osb x hx).1 (osb x hx).2, q'⟩
    rw [show (os.map D.int).map (fun d => match d with | .int n => .str (tS n) | d => d) = (os.map tS).map D.str by rw [List.map_map, List.map_map]; rfl]
    refine ⟨by rw [List.length_append, List.length_map, List.length_map, List.length_map, List.length_map, List.length_singleton]; omega, ?_⟩
    have fe : D.str (hdT n m) :: ((ss.map stT).map D.str ++ [D.str (":" : Str)] ++ (os.map tS).map D.str) = (hdT n m :: (ss.map stT ++ (":" : Str) :: os.map tS)).map D.str := by
      rw [List.map_cons, List.map_append, List.map_cons, List.append_assoc]
      rfl
    rw [fe]
    have hl : (hdT n m).length ≤ 200 := by
      unfold hdT
      simp only [len_app, sp_len, lwk]
      omega
    refine joinB (k := 200) (fun w hw2 => ?_) ?_ ?_
    · rcases List.mem_cons.mp hw2 with rfl | h
      · exact hl
      · rcases List.mem_append.mp h with h | h
        · obtain ⟨s, hs2, rfl⟩ := List.mem_map.mp h
          exact stT_len (hall s hs2) (Int.le_refl _)
        · rcases List.mem_cons.mp h with rfl | h
          · decide +kernel
          · obtain ⟨x, hx, rfl⟩ := List.mem_map.mp h
            have := lenT (osb x hx).1 (osb x hx).2
            omega
    · rw [List.length_cons, List.length_append, List.length_map, List.length_cons, List.length_map]
      omega
    rw [JB_parts]
    exact Out.less (Out.less (Out.here q))
theorem wp_words_of : ∀ ds μ Q E, ds.length = 2 → Gm 6 ds μ Q E → wpSs Gm gl c_words_of (dstart N_words_of ds) μ { nx := fun _ μ' => Out Q .non μ', rt := Out Q } (fun dx _ μ' => ∃ μ2, List.Sublist μ2 μ' ∧ E dx μ2) := by
  rintro ds μ Q E _ ⟨s, t, rfl, ht, hs, q⟩
  unfold c_words_of N_words_of
  walk_at "dl"
  exact ⟨ht, hs, Out.here q⟩
theorem wp_number_in : ∀ ds μ Q E, ds.length = 1 → Gm 7 ds μ Q E → wpSs Gm gl c_number_in (dstart N_number_in ds) μ { nx := fun _ μ' => Out Q .non μ', rt := Out Q } (fun dx _ μ' => ∃ μ2, List.Sublist μ2 μ' ∧ E dx μ2) := by
  rintro ds μ Q E _ ⟨s, rfl, hl, q⟩
  unfold c_number_in N_number_in
  walk_at "dl"
  have g0 : gl 1 = .str ("0123456789" : Str) := rfl
  have g1 : gl 2 = .int 60 := rfl
  rw [g0, g1]
  have el : s.length = s.cps.toList.length := Array.length_toList.symm
  have no : numOk s = false → Out Q .non μ := fun h => Out.here (by unfold numW at q; rw [h] at q; exact q)
  refine ⟨hl, fun h1 => ?_, fun h1 => ?_⟩
  · walk_at "dl"
    refine ⟨fun h2 => ?_, fun h2 => ?_⟩
    · show (List.map (fun c => D.str ⟨#[c]⟩) s.cps.toList).length ≤ sizeLine ∧ compW _ _ _ _ _ _ (List.map (fun c => D.str ⟨#[c]⟩) s.cps.toList) _ _ _
      refine ⟨by rw [List.length_map, ← el]; exact hl, comp_map (fun d => match d with | .str x => .bl (x.cps.toList.all isDg) | d => d) trivial ?_ ?_⟩
      · intro d hd Q' B q'
        obtain ⟨c, hc, rfl⟩ := List.mem_map.mp hd
        walk_at "dl"
        rw [fig_eq]
        have q' : Q' (.bl ((⟨#[c]⟩ : Str).cps.toList.all isDg)) μ := q'
        simp at q'
        exact q'
      rw [List.map_map, show ((fun d => match d with | D.str x => D.bl (x.cps.toList.all isDg) | d => d) ∘ fun c => D.str ⟨#[c]⟩) = fun c => D.bl (isDg c) by funext c; simp, show (s.cps.toList.map fun c => D.bl (isDg c)) = (s.cps.toList.map isDg).map D.bl by rw [List.map_map]; rfl, vv_all]
      have e3 : (s.cps.toList.map isDg).all id = s.cps.toList.all isDg := by rw [List.all_map]; rfl
      rw [e3]
      cases e4 : s.cps.toList.all isDg with
      | false =>
        walk_at "dl"
        exact no (by unfold numOk; rw [e4]; simp)
      | true =>
        walk_at "dl"
        cases ec : s.cps.toList with
        | nil => rw [ec] at el; simp at el; omega
        | cons c cs =>
          refine ⟨hl, c, by rw [ec]; unfold atI ixN; simp, ?_⟩
          have es : s = ⟨(c :: cs).toArray⟩ := mk_cps ec
          have ln : s.length = cs.length + 1 := by rw [el, ec]; rfl
          walk_at "dl"
          refine ⟨fun hz => ⟨fun h0 => ?_, fun h0 => ?_⟩, fun hz => ?_⟩
          · have ok : numOk s = true := by
              rw [h0]; decide +kernel
            obtain ⟨n1, n2⟩ := num_text ok
            exact ⟨_, n1, n2, Out.here (by unfold numW at q; rw [if_pos ok] at q; exact q)⟩
          · refine no ?_
            have hc : c = 48 := by
              rw [str_zero] at hz
              injection hz with hz
              simpa using hz
            have hcs : cs ≠ [] := fun z => h0 (by rw [es, z, hc, str_zero])
            have : 1 ≤ cs.length := List.length_pos_iff.mpr hcs
            unfold numOk
            rw [ec, hc]
            simp
            omega
          · have hc : c ≠ 48 := fun z => hz (by rw [z, str_zero])
            have ok : numOk s = true := by
              unfold numOk
              rw [e4, ec]
              simp [hc]
              omega
            obtain ⟨n1, n2⟩ := num_text ok
            exact ⟨_, n1, n2, Out.here (by unfold numW at q; rw [if_pos ok] at q; exact q)⟩
    · refine no ?_
      unfold numOk
      rw [decide_eq_false (show ¬ s.length ≤ 60 by omega)]
      simp
  · refine no ?_
    unfold numOk
    rw [decide_eq_false (show ¬ 1 ≤ s.length by omega)]
    simp
theorem wp_numbers_in : ∀ ds μ Q E, ds.length = 1 → Gm 8 ds μ Q E → wpSs Gm gl c_numbers_in (dstart N_numbers_in ds) μ { nx := fun _ μ' => Out Q .non μ', rt := Out Q } (fun dx _ μ' => ∃ μ2, List.Sublist μ2 μ' ∧ E dx μ2) := by
  rintro ds μ Q E _ ⟨ws, rfl, hl, hw, q⟩
  unfold c_numbers_in N_numbers_in
  walk_at "dl"
  refine ⟨by rw [List.length_map, sizeLine_eq]; omega, comp_map (fun d => match d with | .str w => .int (numV w.cps.toList) | d => d) trivial ?_ ?_⟩
  · intro d hd Q' B q'
    obtain ⟨w, hw', rfl⟩ := List.mem_map.mp hd
    have ok := hw w hw'
    walk_at "dl"
    refine h_call0 ⟨w, rfl, by have := numOk_len ok; rw [sizeLine_eq]; omega, ?_⟩
    unfold numW
    rw [if_pos ok]
    exact q'
  rw [List.map_map, show ((fun d => match d with | D.str w => D.int (numV w.cps.toList) | d => d) ∘ D.str) = fun w : Str => D.int (numV w.cps.toList) from rfl]
  have e : (ws.map fun w => D.int (numV w.cps.toList)) = (ws.map fun w => numV w.cps.toList).map D.int := by rw [List.map_map]; rfl
  rw [e] at q ⊢
  refine ⟨rfl, all_int _, ?_⟩
  rw [inD_non]
  walk_at "dl"
  exact Out.here q
theorem wp_is_whole : ∀ ds μ Q E, ds.length = 1 → Gm 9 ds μ Q E → wpSs Gm gl c_is_whole (dstart N_is_whole ds) μ { nx := fun _ μ' => Out Q .non μ', rt := Out Q } (fun dx _ μ' => ∃ μ2, List.Sublist μ2 μ' ∧ E dx μ2) := by
  rintro ds μ Q E _ ⟨x, rfl, ⟨n, hx⟩, q⟩
  unfold c_is_whole N_is_whole
  walk_at "dl"
  cases x with
  | obj a => cases hx
  | op a => cases hx
  | cls a b => cases hx
  | exc a b c => cases hx
  | ins a b c => cases hx
  | dkk a b => cases hx
  | dct a b => cases hx
  | _ => walk_at "dl"; exact Out.here q
theorem wp_is_cell : ∀ ds μ Q E, ds.length = 2 → Gm 10 ds μ Q E → wpSs Gm gl c_is_cell (dstart N_is_cell ds) μ { nx := fun _ μ' => Out Q .non μ', rt := Out Q } (fun dx _ μ' => ∃ μ2, List.Sublist μ2 μ' ∧ E dx μ2) := by
  rintro ds μ Q E _ ⟨x, c, rfl, hx, q⟩
  unfold c_is_cell N_is_cell
  walk_at "dl"
  refine h_call0 ⟨x, rfl, hx, ?_⟩
  obtain ⟨n, hn⟩ := hx
  cases x with
  | int i =>
    simp only [isWI]
    walk_at "dl"
    refine ⟨fun h => Out.here ?_, fun h => Out.here ?_⟩
    · rw [show cellB c (.int i) = decide (i < c) by show (decide (0 ≤ i) && decide (i < c)) = _; rw [decide_eq_true h, Bool.true_and]] at q
      exact q
    · rw [show cellB c (.int i) = false by show (decide (0 ≤ i) && decide (i < c)) = _; rw [decide_eq_false h, Bool.false_and]] at q
      exact q
  | _ => first | (cases hn; done) | (simp only [isWI]; walk_at "dl"; exact Out.here q)
theorem wp_is_step : ∀ ds μ Q E, ds.length = 2 → Gm 11 ds μ Q E → wpSs Gm gl c_is_step (dstart N_is_step ds) μ { nx := fun _ μ' => Out Q .non μ', rt := Out Q } (fun dx _ μ' => ∃ μ2, List.Sublist μ2 μ' ∧ E dx μ2) := by
  rintro ds μ Q E _ ⟨x, c, rfl, hx, q⟩
  unfold c_is_step N_is_step
  walk_at "dl"
  cases x with
  | tup ds =>
    have h2 := (hx.2 ds rfl).2
    match ds, h2, q with
    | [], h2, q => walk_at "dl"; exact ⟨fun h => absurd h (by decide), fun _ => Out.here q⟩
    | [a], h2, q => walk_at "dl"; exact ⟨fun h => absurd h (by decide), fun _ => Out.here q⟩
    | [a, b], h2, q => walk_at "dl"; exact ⟨fun h => absurd h (by decide), fun _ => Out.here q⟩
    | a :: b :: d :: e :: r, h2, q =>
      walk_at "dl"
      exact ⟨fun h => absurd h (by omega), fun _ => Out.here q⟩
    | [a, h, t], h2, q =>
      have ha := h2 a (by simp)
      have hh := h2 h (by simp)
      have ht := h2 t (by simp)
      cases a with
      | str w =>
        walk_at "dl"
        simp only [gl]
        walk_at "dl"
        refine ⟨fun _ => ?_, fun h => absurd (by decide) h⟩
        have cell : ∀ (x : D) (μ : Mu) (Q : DQ) (E : DE), okE x → Q (.bl (cellB c x)) μ → callW (Gm 10) [x, D.int c] μ Q E := fun x μ Q E hx h => h_call0 ⟨x, c, rfl, hx, h⟩
        have wh : ∀ (x : D) (μ : Mu) (Q : DQ) (E : DE), okE x → Q (.bl (isWI x)) μ → callW (Gm 9) [x] μ Q E := fun x μ Q E hx h => h_call0 ⟨x, rfl, hx, h⟩
        have q : Q (.bl (wordB c w h t)) μ := q
        by_cases hw : isWord w
        · rw [show (decide (("times" : Str) = w) || (decide (("plus" : Str) = w) || (decide (("minus" : Str) = w) || (decide (("by" : Str) = w) || (decide (("part" : Str) = w) || false))))) = true by rcases hw with rfl | rfl | rfl | rfl | rfl <;> decide]
          walk_at "dl"
          refine cell _ _ _ _ hh ?_
          unfold wordB at q
          cases hc : cellB c h with
          | false =>
            rw [hc, Bool.false_and] at q
            walk_at "dl"
            exact Out.here q
          | true =>
            rw [hc, Bool.true_and] at q
            walk_at "dl"
            refine ⟨fun h1 => wh _ _ _ _ ht ?_, fun h1 => ⟨fun h2 => wh _ _ _ _ ht ?_, fun h2 => cell _ _ _ _ ht ?_⟩⟩
            · subst h1
              rw [if_neg (by decide), if_pos rfl] at q
              exact Out.here q
            · subst h2
              rw [if_neg (by decide), if_neg (by decide), decide_eq_true rfl, Bool.true_and] at q
              obtain ⟨n, hn⟩ := ht
              cases t <;> first | (cases hn; done) | (simp only [isWI]; walk_at "dl"; exact Out.here q)
            · rw [if_pos (by rcases hw with h | h | h | h | h <;> first | exact .inl h | exact .inr (.inl h) | exact .inr (.inr h) | exact absurd h h1 | exact absurd h h2)] at q
              exact Out.here q
        · have hn : w ≠ ("times" : Str) ∧ w ≠ ("plus" : Str) ∧ w ≠ ("minus" : Str) ∧ w ≠ ("by" : Str) ∧ w ≠ ("part" : Str) := ⟨fun z => hw (.inl z), fun z => hw (.inr (.inl z)), fun z => hw (.inr (.inr (.inl z))), fun z => hw (.inr (.inr (.inr (.inl z)))), fun z => hw (.inr (.inr (.inr (.inr z))))⟩
          rw [decide_eq_false hn.1.symm, decide_eq_false hn.2.1.symm, decide_eq_false hn.2.2.1.symm, decide_eq_false hn.2.2.2.1.symm, decide_eq_false hn.2.2.2.2.symm]
          rw [wordB_no hn.1 hn.2.1 hn.2.2.1 hn.2.2.2.1 hn.2.2.2.2] at q
          try walk_at "dl"
          exact Out.here q
      | _ => first | (obtain ⟨n, hn⟩ := ha; cases hn; done) | (walk_at "dl"; exact ⟨fun _ => Out.here q, fun h => absurd (by decide) h⟩)
  | _ => first | (obtain ⟨n, hn⟩ := hx.1; cases hn; done) | (walk_at "dl"; exact Out.here q)
theorem wp_are_steps : ∀ ds μ Q E, ds.length = 2 → Gm 12 ds μ Q E → wpSs Gm gl c_are_steps (dstart N_are_steps ds) μ { nx := fun _ μ' => Out Q .non μ', rt := Out Q } (fun dx _ μ' => ∃ μ2, List.Sublist μ2 μ' ∧ E dx μ2) := by
  rintro ds μ Q E _ ⟨x, c, rfl, hx, q⟩
  unfold c_are_steps N_are_steps
  walk_at "dl"
  cases x with
  | tup ds =>
    have h2 := hx.2 ds rfl
    have sl := sizeLine_eq
    walk_at "dl"
    refine ⟨by rw [List.length_mapIdx]; omega, comp_map (fun d => .bl (goS c d)) trivial ?_ ?_⟩
    · intro d hd Q' B q'
      obtain ⟨i, hi, rfl⟩ := List.mem_mapIdx.mp hd
      walk_at "dl"
      exact h_call0 ⟨_, _, rfl, h2.2 _ (List.getElem_mem _), q'⟩
    · have e := stepsB_idx ds c 0
      rw [Int.natCast_zero, Int.add_zero] at e
      rw [show (ds.mapIdx fun (i : Nat) d => D.tup [.int (i : Int), d]).map (fun d => D.bl (goS c d)) = ((ds.mapIdx fun (i : Nat) d => D.tup [.int (i : Int), d]).map (goS c)).map D.bl by rw [List.map_map]; rfl, vv_all]
      have e : ((ds.mapIdx fun (i : Nat) d => D.tup [.int (i : Int), d]).map (goS c)).all id = stepsB c ds := e
      rw [e]
      exact Out.here q
  | _ => first | (obtain ⟨n, hn⟩ := hx.1; cases hn; done) | (walk_at "dl"; exact Out.here q)
theorem wp_are_outs : ∀ ds μ Q E, ds.length = 2 → Gm 13 ds μ Q E → wpSs Gm gl c_are_outs (dstart N_are_outs ds) μ { nx := fun _ μ' => Out Q .non μ', rt := Out Q } (fun dx _ μ' => ∃ μ2, List.Sublist μ2 μ' ∧ E dx μ2) := by
  rintro ds μ Q E _ ⟨x, c, rfl, hx, q⟩
  unfold c_are_outs N_are_outs
  walk_at "dl"
  cases x with
  | tup ds =>
    have h2 := hx.2 ds rfl
    have sl := sizeLine_eq
    have q : Q (.bl (!ds.isEmpty && ds.all (cellB c))) μ := q
    walk_at "dl"
    refine ⟨fun h => ⟨by omega, comp_map (fun d => .bl (cellB c d)) trivial ?_ ?_⟩, fun h => Out.here ?_⟩
    · intro d hd Q' B q'
      walk_at "dl"
      exact h_call0 ⟨_, _, rfl, h2.2 _ hd, q'⟩
    · rw [show ds.map (fun d => D.bl (cellB c d)) = (ds.map (cellB c)).map D.bl by rw [List.map_map]; rfl, vv_all, List.all_map]
      have e : ds.isEmpty = false := by cases ds with | nil => exact absurd h (by decide) | cons _ _ => rfl
      rw [e] at q
      exact Out.here q
    · have e : ds.isEmpty = true := by cases ds with | nil => rfl | cons _ _ => exact absurd (by rw [List.length_cons]; omega) h
      rw [e] at q
      exact q
  | _ => first | (obtain ⟨n, hn⟩ := hx.1; cases hn; done) | (walk_at "dl"; exact Out.here q)
theorem wp_is_work : ∀ ds μ Q E, ds.length = 1 → Gm 14 ds μ Q E → wpSs Gm gl c_is_work (dstart N_is_work ds) μ { nx := fun _ μ' => Out Q .non μ', rt := Out Q } (fun dx _ μ' => ∃ μ2, List.Sublist μ2 μ' ∧ E dx μ2) := by
  rintro ds μ Q E _ ⟨x, rfl, hx, q⟩
  unfold c_is_work N_is_work
  walk_at "dl"
  cases x with
  | tup ds =>
    match ds, hx.2, q with
    | [], h2, q => walk_at "dl"; exact ⟨fun h => absurd h (by decide), fun _ => Out.here q⟩
    | [a], h2, q => walk_at "dl"; exact ⟨fun h => absurd h (by decide), fun _ => Out.here q⟩
    | [a, b], h2, q => walk_at "dl"; exact ⟨fun h => absurd h (by decide), fun _ => Out.here q⟩
    | [a, b, d], h2, q => walk_at "dl"; exact ⟨fun h => absurd h (by decide), fun _ => Out.here q⟩
    | a :: b :: d :: e :: f :: r, h2, q =>
      walk_at "dl"
      exact ⟨fun h => absurd h (by omega), fun _ => Out.here q⟩
    | [n, m, s, o], h2, q =>
      obtain ⟨hn, hm, hs, ho⟩ := h2 n m s o rfl
      walk_at "dl"
      refine ⟨fun _ => ?_, fun h => absurd (by decide) h⟩
      refine h_call0 ⟨n, rfl, hn, ?_⟩
      have q : Q (.bl (workF n m s o)) μ := q
      cases n with
      | int n =>
        simp only [isWI]
        walk_at "dl"
        refine h_call0 ⟨m, rfl, hm, ?_⟩
        cases m with
        | int m =>
          simp only [isWI]
          have q : Q (.bl (decide (1 ≤ n) && decide (0 ≤ m) && stepsD (n + m) s && outsD (n + m + lenD s) o)) μ := q
          walk_at "dl"
          refine ⟨fun h => ?_, fun h => ⟨fun h2 => ?_, fun h2 => ?_⟩⟩
          · rw [decide_eq_false (by omega : ¬ 1 ≤ n), Bool.false_and, Bool.false_and, Bool.false_and] at q
            exact Out.here q
          · rw [decide_eq_false (by omega : ¬ 0 ≤ m), Bool.and_false, Bool.false_and, Bool.false_and] at q
            exact Out.here q
          · rw [decide_eq_true (by omega : 1 ≤ n), decide_eq_true (by omega : 0 ≤ m), Bool.true_and, Bool.true_and] at q
            refine h_call0 ⟨s, _, rfl, hs, ?_⟩
            cases hsd : stepsD (n + m) s with
            | false =>
              rw [hsd, Bool.false_and] at q
              walk_at "dl"
              exact Out.here q
            | true =>
              rw [hsd, Bool.true_and] at q
              cases s with
              | tup ss =>
                walk_at "dl"
                exact h_call0 ⟨o, _, rfl, ho, Out.here q⟩
              | _ => cases hsd
        | _ => first | (obtain ⟨n, hn⟩ := hm; cases hn; done) | (simp only [isWI]; walk_at "dl"; exact Out.here q)
      | _ => first | (obtain ⟨n, hn⟩ := hn; cases hn; done) | (simp only [isWI]; walk_at "dl"; exact Out.here q)
  | _ => first | (obtain ⟨n, hn⟩ := hx.1; cases hn; done) | (walk_at "dl"; exact Out.here q)
theorem wp_signed_in : ∀ ds μ Q E, ds.length = 1 → Gm 15 ds μ Q E → wpSs Gm gl c_signed_in (dstart N_signed_in ds) μ { nx := fun _ μ' => Out Q .non μ', rt := Out Q } (fun dx _ μ' => ∃ μ2, List.Sublist μ2 μ' ∧ E dx μ2) := by
  rintro ds μ Q E _ ⟨s, rfl, hl, q⟩
  unfold c_signed_in N_signed_in
  walk_at "dl"
  rw [neg_starts]
  cases hn : negW s with
  | true =>
    walk_at "dl"
    have h1 : 1 ≤ s.length := by
      unfold negW at hn
      have hn := of_decide_eq_true hn
      rw [TL.len_tl]
      show 1 ≤ s.cps.toList.length
      cases e : s.cps.toList with
      | nil => rw [e] at hn; cases hn
      | cons c r => simp
    rw [cut_one s h1]
    refine ⟨hl, h_call0 ⟨_, rfl, ?_, ?_⟩⟩
    · rw [TL.len_tl, TL.tl_mk, List.length_drop]
      rw [TL.len_tl] at hl
      have hl : s.cps.toList.length ≤ sizeLine := hl
      omega
    unfold sgnW at q
    rw [if_pos hn] at q
    cases e : numW ⟨(s.cps.toList.drop 1).toArray⟩ with
    | none =>
      rw [e] at q
      unfold optD
      walk_at "dl"
      exact Out.here q
    | some n =>
      rw [e] at q
      unfold optD
      walk_at "dl"
      refine ⟨fun h => ?_, fun h => ?_⟩
      · simp only [if_pos h] at q
        exact Out.here q
      · simp only [if_neg h] at q
        exact Out.here q
  | false =>
    walk_at "dl"
    unfold sgnW at q
    rw [if_neg (by rw [hn]; exact Bool.false_ne_true)] at q
    exact h_call0 ⟨s, rfl, hl, Out.here q⟩
theorem wp_step_in : ∀ ds μ Q E, ds.length = 1 → Gm 16 ds μ Q E → wpSs Gm gl c_step_in (dstart N_step_in ds) μ { nx := fun _ μ' => Out Q .non μ', rt := Out Q } (fun dx _ μ' => ∃ μ2, List.Sublist μ2 μ' ∧ E dx μ2) := by
  rintro ds μ Q E _ ⟨s, c, rfl, hs, hc, q⟩
  unfold c_step_in N_step_in
  walk_at "dl"
  have sl := sizeLine_eq
  have gW : gl 4 = .dkk wordKs wordDs := rfl
  rw [gW]
  obtain ⟨⟨a1, a2⟩, b1, b2⟩ := stepK_big hs hc
  have hw := stepK_word hs
  have l1 := lenT a1 a2
  have l2 := lenT b1 b2
  have n1 : numW (tS s.2.1) = some s.2.1 := by
    obtain ⟨m, hm⟩ := Int.eq_ofNat_of_zero_le hs.1
    rw [hm] at a2 ⊢
    exact tS_num (Int.ofNat_lt.mp (by rw [Int.natCast_pow]; exact a2))
  unfold stW
  try walk_at "dl"
  refine h_mdin ?_
  rw [word_get hw, show ∀ d : D, ((some d).isSome == false) = false from fun d => rfl]
  try walk_at "dl"
  refine h_mget (word_get hw) ?_
  try walk_at "dl"
  refine ⟨fun hb => ?_, fun hb => ?_⟩
  · refine h_call0 ⟨_, rfl, by omega, ?_⟩
    rw [sgn_tS b1 b2]
    unfold optD
    try walk_at "dl"
    refine h_call0 ⟨_, rfl, by omega, ?_⟩
    rw [n1]
    try walk_at "dl"
    exact Out.here q
  · refine h_call0 ⟨_, rfl, by omega, ?_⟩
    have n2 : numW (tS s.2.2) = some s.2.2 := by
      have h0 : 0 ≤ s.2.2 := by
        rcases hs.2.2 with ⟨_, a, _⟩ | ⟨a, _⟩ | ⟨_, a, _⟩
        · exact a
        · exact absurd a hb
        · omega
      obtain ⟨m, hm⟩ := Int.eq_ofNat_of_zero_le h0
      rw [hm] at b2 ⊢
      exact tS_num (Int.ofNat_lt.mp (by rw [Int.natCast_pow]; exact b2))
    rw [n2]
    unfold optD
    try walk_at "dl"
    refine h_call0 ⟨_, rfl, by omega, ?_⟩
    rw [n1]
    try walk_at "dl"
    exact Out.here q
theorem wp_read_work : ∀ ds μ Q E, ds.length = 1 → Gm 17 ds μ Q E → wpSs Gm gl c_read_work (dstart N_read_work ds) μ { nx := fun _ μ' => Out Q .non μ', rt := Out Q } (fun dx _ μ' => ∃ μ2, List.Sublist μ2 μ' ∧ E dx μ2) := by
  rintro ds μ Q E _ ⟨n, m, ss, os, rfl, hw, q⟩
  unfold c_read_work N_read_work
  walk_at "dl"
  have sl := sizeLine_eq
  have hw' := hw
  obtain ⟨n1, n2, m1, m2, hs, ls, o1, o2, hos⟩ := hw'
  have jl := JB_len (wkW_len hw)
  have wm := wkW_many hw
  have jl2 : (JB (wkW n m ss os)).length ≤ 320 * (200 + 1) := Nat.le_trans jl (Nat.mul_le_mul_right _ wm)
  refine h_call0 ⟨_, _, rfl, by decide +kernel, by omega, ?_⟩
  rw [JB_split (by unfold wkW wkH; simp) wkW_sp]
  have mem : (":" : Str) ∈ wkW n m ss os := by unfold wkW; simp
  have e0 : (wkW n m ss os).map D.str = D.str ("work" : Str) :: D.str (tS n) :: D.str (tS m) :: (((ss.map stW).flatten ++ (":" : Str) :: os.map tS).map D.str) := rfl
  have h0 : ∀ K : D → Prop, K (.str ("work" : Str)) → atK ((wkW n m ss os).map D.str) 0 K := fun K h => ⟨_, by rw [e0]; exact atI_nat (j := 0) rfl, h⟩
  walk_at "dl"
  refine h0 _ ?_
  walk_at "dl"
  refine ⟨⟨rfl, fl_strs _, ?_⟩, fun z => absurd trivial z⟩
  rw [inD_strs, decide_eq_true mem]
  walk_at "dl"
  refine h_idxS mem ?_
  rw [wkW_idx, show ((3 + 3 * ss.length : Nat) : Int) = 3 + 3 * (ss.length : Int) by omega]
  refine ⟨fun z => by omega, fun _ => ⟨by decide, fun _ => ?_, fun z => by omega⟩⟩
  rw [h_cutN (a := 1) (b := 3) (i := 1) (n := 2) rfl rfl]
  have e2 : ((wkW n m ss os).map D.str |>.drop 1).take 2 = [tS n, tS m].map D.str := rfl
  rw [e2]
  have nz60 : n < 10 ^ 60 := Int.lt_of_le_of_lt n2 (by decide)
  have mz60 : m < 10 ^ 60 := Int.lt_of_le_of_lt m2 (by decide)
  refine h_call0 ⟨_, rfl, by simp, fun w hw2 => ?_, ?_⟩
  · simp only [List.mem_cons, List.not_mem_nil, or_false] at hw2
    rcases hw2 with rfl | rfl
    · exact tS_ok (by omega) nz60
    · exact tS_ok m1 mz60
  rw [List.map_cons, List.map_cons, List.map_nil, numV_tS (by omega : 0 ≤ n), numV_tS m1]
  walk_at "dl"
  refine ⟨_, rgc3 (by omega), by rw [List.length_map, List.length_range]; omega, ?_⟩
  refine comp_inv (fun pre acc μ' => μ' = μ ∧ acc = (ss.take pre.length).map stepD) ⟨rfl, rfl⟩ ?_ ?_
  · rintro pre d post acc μ' N2 e ⟨rfl, rfl⟩ hN2
    obtain ⟨rfl, hlt⟩ := mid_map e
    walk_at "dl"
    rw [h_cutN (a := 3 + (pre.length : Int) * 3) (b := 3 + (pre.length : Int) * 3 + 3) (i := 3 + 3 * pre.length) (n := 3) (by omega) (by omega), ← List.map_drop, ← List.map_take, wkW_at hlt]
    refine h_call0 ⟨ss[pre.length], n + m + (ss.length : Int), rfl, stepK_mono (hs _ hlt) (by omega), by omega, ?_⟩
    refine hN2 _ _ trivial ⟨rfl, ?_⟩
    rw [List.length_append, List.length_singleton, List.take_succ_eq_append_getElem hlt, List.map_append]
    rfl
  rintro acc μ' ⟨rfl, rfl⟩
  rw [List.length_map, List.length_range, List.take_length]
  try walk_at "dl"
  rw [h_drop (by omega), show (3 + 3 * (ss.length : Int) + 1).toNat = 3 + 3 * ss.length + 1 by omega, ← List.map_drop, wkW_outs]
  have osb : ∀ x ∈ os, 0 ≤ x ∧ x < 10 ^ 60 := fun x hx => ⟨(hos x hx).1, Int.lt_of_le_of_lt (show x ≤ 1000 by have := hos x hx; omega) (by decide)⟩
  refine h_call0 ⟨_, rfl, by rw [List.length_map]; omega, fun w hw2 => ?_, ?_⟩
  · obtain ⟨x, hx, rfl⟩ := List.mem_map.mp hw2
    exact tS_ok (osb x hx).1 (osb x hx).2
  have eo : ((os.map tS).map fun w => D.int (numV w.cps.toList)) = os.map D.int := by
    rw [List.map_map]
    exact List.map_congr_left fun x hx => congrArg D.int (numV_tS (osb x hx).1)
  rw [eo]
  walk_at "dl"
  refine h_call0 ⟨workD n m ss os, rfl, wk_okW hw, ?_⟩
  rw [wk_good hw]
  walk_at "dl"
  exact Out.here q
theorem wp_show_work : ∀ ds μ Q E, ds.length = 1 → Gm 18 ds μ Q E → wpSs Gm gl c_show_work (dstart N_show_work ds) μ { nx := fun _ μ' => Out Q .non μ', rt := Out Q } (fun dx _ μ' => ∃ μ2, List.Sublist μ2 μ' ∧ E dx μ2) := by
  rintro ds μ Q E _ ⟨n, m, ss, os, rfl, hw, q⟩
  unfold c_show_work N_show_work
  walk_at "dl"
  have sl := sizeLine_eq
  have gS : gl 3 = .dkk signKs signDs := rfl
  have hw' := hw
  obtain ⟨n1, n2, m1, m2, hs, ls, o1, o2, hos⟩ := hw'
  have hall : ∀ s ∈ ss, stepK 1000000 s := stepsK_all hs (by omega)
  obtain ⟨nb1, nb2⟩ := smallB (n := n) (by omega) (by omega)
  obtain ⟨mb1, mb2⟩ := smallB (n := m) (by omega) (by omega)
  unfold workD
  walk_at "dl"
  rw [gS]
  refine ⟨logT nb1 nb2, logT mb1 mb2, ?_⟩
  intro r hr
  refine for_items stepD ss (fun i σ μ1 => ∃ x6 x7 x8, σ = [some (D.tup [D.int n, D.int m, D.tup (List.map stepD ss), D.tup (List.map D.int os)]), some (.int n), some (.int m), some (.tup (ss.map stepD)), some (.tup (os.map D.int)), some (.obj r), x6, x7, x8, none] ∧ μ1 = (r, .lst ((wkH n m (ss.take i)).map D.str)) :: μ) ⟨_, _, _, rfl, rfl⟩ ?_ ?_
  · rintro i hi σ μ1 N ⟨x6, x7, x8, rfl, rfl⟩ hN
    have hk := hall _ (List.getElem_mem hi)
    obtain ⟨⟨a1, a2⟩, b1, b2⟩ := stepK_big hk (Int.le_refl _)
    have tk : wkH n m (ss.take (i + 1)) = wkH n m (ss.take i) ++ stW ss[i] := by
      unfold wkH
      rw [List.take_succ_eq_append_getElem hi, List.map_append, List.flatten_append]
      simp
    have lk : (wkH n m (ss.take i)).length ≤ 303 := by
      rw [wkH_len, List.length_take]
      omega
    revert hN
    rw [tk]
    intro hN
    generalize wkH n m (ss.take i) = pre at *
    generalize ss[i] = s at *
    unfold stepD
    walk_at "dl"
    refine h_mget (sign_get (stepK_word hk)) ?_
    try walk_at "dl"
    refine ⟨logT a1 a2, logT b1 b2, by rw [List.length_map]; omega, ?_⟩
    refine hN _ _ trivial ⟨_, _, _, rfl, ?_⟩
    rw [List.map_append]
    rfl
  · rintro σ μ1 ⟨x6, x7, x8, rfl, rfl⟩
    rw [List.take_length]
    have lk : (wkH n m ss).length ≤ 303 := by
      rw [wkH_len]
      omega
    walk_at "dl"
    have ol : (os.map D.int).length ≤ 6 := by rw [List.length_map]; exact o2
    have osb : ∀ x ∈ os, -BIG < x ∧ x < BIG := fun x hx => by
      have := hos x hx
      exact smallB this.1 (by omega)
    refine ⟨by rw [List.length_map]; omega, by omega, comp_map (fun d => match d with | .int n => .str (tS n) | d => d) trivial ?_ ?_⟩
    · intro d hd Q' B q'
      obtain ⟨x, hx, rfl⟩ := List.mem_map.mp hd
      walk_at "dl"
      exact ⟨logT (osb x hx).1 (osb x hx).2, q'⟩
    rw [show (os.map D.int).map (fun d => match d with | .int n => .str (tS n) | d => d) = (os.map tS).map D.str by rw [List.map_map, List.map_map]; rfl]
    refine ⟨by rw [List.length_append, List.length_map, List.length_map, List.length_map, List.length_singleton]; omega, ?_⟩
    have fe : (wkH n m ss).map D.str ++ [D.str (":" : Str)] ++ (os.map tS).map D.str = (wkW n m ss os).map D.str := by
      unfold wkW
      rw [List.map_append, List.map_cons, List.append_assoc]
      rfl
    rw [fe]
    refine joinB (k := 200) (fun w hw2 => ?_) ?_ (Out.less (Out.here q))
    · exact wkW_len hw w hw2
    · unfold wkW
      rw [List.length_append, List.length_cons, List.length_map]
      omega
theorem wp_law : ∀ ds μ Q E, ds.length = 1 → Gm 19 ds μ Q E → wpSs Gm gl c_law (dstart N_law ds) μ { nx := fun _ μ' => Out Q .non μ', rt := Out Q } (fun dx _ μ' => ∃ μ2, List.Sublist μ2 μ' ∧ E dx μ2) := by
  rintro ds μ Q E _ ⟨ns, rfl, rfl, hl, q⟩
  unfold c_law N_law
  walk_at "dl"
  refine h_call0 ⟨ns, rfl, rfl, by omega, fun o p ho => ?_⟩
  try walk_at "dl"
  rw [List.length_map]
  refine ⟨h_div (by decide) (by decide), by omega, for_rng (fun i σ μ1 => ∃ (o : MO) (x2 x3 x4 x5 : Option D), σ = [some (.klst (ns.map D.int)), some (.obj p), x2, x3, x4, x5] ∧ isWell o ∧ μ1 = (p, o) :: []) ⟨o, _, _, _, _, rfl, ho, rfl⟩ ?_ ?_⟩
  · rintro i σ μ1 N hi ⟨o, x2, x3, x4, x5, rfl, ho, rfl⟩ hN
    walk_at "dl"
    refine h_callA ⟨p, o, 40, rfl, rfl, ho, by decide, by decide, fun n m ss os o hw _ ho => ?_⟩
    try walk_at "dl"
    refine h_call0 ⟨n, m, ss, os, rfl, hw, ?_⟩
    try walk_at "dl"
    refine ⟨by decide, for_rng (fun _ σ μ1 => ∃ x5, σ = [some (.klst (ns.map D.int)), some (.obj p), some (.int (0 + (i : Int))), some (workD n m ss os), some (.str (JB (wkW n m ss os))), x5] ∧ μ1 = (p, o) :: []) ⟨_, rfl, rfl⟩ ?_ ?_⟩
    · rintro j σ μ1 M hj ⟨x5, rfl, rfl⟩ hM
      walk_at "dl"
      refine h_call0 ⟨n, m, ss, os, rfl, hw, ?_⟩
      try walk_at "dl"
      refine ⟨?_, fun z => absurd trivial z⟩
      refine h_call0 ⟨n, m, ss, os, rfl, hw, ?_⟩
      refine h_call0 ⟨3, by decide, workD n m ss os, rfl, wk_tr hw, ?_⟩
      try walk_at "dl"
      exact hM _ _ trivial ⟨_, rfl, rfl⟩
    · rintro σ μ1 ⟨x5, rfl, rfl⟩
      exact hN _ _ trivial ⟨o, _, _, _, _, rfl, ho, rfl⟩
  · rintro σ μ1 ⟨o, x2, x3, x4, x5, rfl, ho, rfl⟩
    walk_at "dl"
    have hw : wkOk 1 0 [] [0] := ⟨by decide, by decide, by decide, by decide, fun i h => absurd h (Nat.not_lt_zero _), by decide, by decide, by decide, fun x hx => by rw [List.mem_singleton.mp hx]; decide⟩
    refine h_call0 ⟨1, 0, [], [0], by rw [show ("work 1 0 : 0" : Str) = JB (wkW 1 0 [] [0]) by decide +kernel], hw, ?_⟩
    refine h_call0 ⟨3, by decide, workD 1 0 [] [0], rfl, wk_tr hw, ?_⟩
    try walk_at "dl"
    exact Out.here (q _)
end K83

namespace K83
open PySem PySem.Spec PyProof.Rows L2 DL
theorem all_mk {P : Program} {w : World} {K : PySem.W.Frag} {h : Heap} {mg : Str → Option Value} {fa : Addr} (X : K.In h) (G : h.Ns mainGlobals mg) (hfa : mg "law" = some (.ref fa))
    {f0 : Addr} {oc0 kV0 dc0 pm0 cd0 ct0 : Value} {od0 an0 : Option Addr} {sl0 : Array (Option Value)}
    (a0 : PySem.W.nsIn K mainGlobals "_law_well" = some (some (.ref f0)))
    (l0 : K.lookup f0 = some ⟨oc0, od0, .func (PySem.W.fnOf "_law_well" "_law_well" (defArgs s__law_well) (defBody s__law_well) (defScope s__law_well) .none kV0 dc0 pm0 an0 cd0 ct0), sl0⟩) (c0 : PySem.W.codeIn K cd0 "_law_well" = true) (k0 : PySem.W.keepIn K (.ref f0) = true)
    {f1 : Addr} {oc1 kV1 dc1 pm1 cd1 ct1 : Value} {od1 an1 : Option Addr} {sl1 : Array (Option Value)}
    (a1 : PySem.W.nsIn K mainGlobals "_law_alike" = some (some (.ref f1)))
    (l1 : K.lookup f1 = some ⟨oc1, od1, .func (PySem.W.fnOf "_law_alike" "_law_alike" (defArgs s__law_alike) (defBody s__law_alike) (defScope s__law_alike) .none kV1 dc1 pm1 an1 cd1 ct1), sl1⟩) (c1 : PySem.W.codeIn K cd1 "_law_alike" = true) (k1 : PySem.W.keepIn K (.ref f1) = true)
    {f2 : Addr} {oc2 kV2 dc2 pm2 cd2 ct2 : Value} {od2 an2 : Option Addr} {sl2 : Array (Option Value)}
    (a2 : PySem.W.nsIn K mainGlobals "_law_stirred" = some (some (.ref f2)))
    (l2 : K.lookup f2 = some ⟨oc2, od2, .func (PySem.W.fnOf "_law_stirred" "_law_stirred" (defArgs s__law_stirred) (defBody s__law_stirred) (defScope s__law_stirred) .none kV2 dc2 pm2 an2 cd2 ct2), sl2⟩) (c2 : PySem.W.codeIn K cd2 "_law_stirred" = true) (k2 : PySem.W.keepIn K (.ref f2) = true)
    {f3 : Addr} {oc3 kV3 dc3 pm3 cd3 ct3 : Value} {od3 an3 : Option Addr} {sl3 : Array (Option Value)}
    (a3 : PySem.W.nsIn K mainGlobals "_law_draw" = some (some (.ref f3)))
    (l3 : K.lookup f3 = some ⟨oc3, od3, .func (PySem.W.fnOf "_law_draw" "_law_draw" (defArgs s__law_draw) (defBody s__law_draw) (defScope s__law_draw) .none kV3 dc3 pm3 an3 cd3 ct3), sl3⟩) (c3 : PySem.W.codeIn K cd3 "_law_draw" = true) (k3 : PySem.W.keepIn K (.ref f3) = true)
    {f4 : Addr} {oc4 kV4 dc4 pm4 cd4 ct4 : Value} {od4 an4 : Option Addr} {sl4 : Array (Option Value)}
    (a4 : PySem.W.nsIn K mainGlobals "_law_any_work" = some (some (.ref f4)))
    (l4 : K.lookup f4 = some ⟨oc4, od4, .func (PySem.W.fnOf "_law_any_work" "_law_any_work" (defArgs s__law_any_work) (defBody s__law_any_work) (defScope s__law_any_work) .none kV4 dc4 pm4 an4 cd4 ct4), sl4⟩) (c4 : PySem.W.codeIn K cd4 "_law_any_work" = true) (k4 : PySem.W.keepIn K (.ref f4) = true)
    {f5 : Addr} {oc5 kV5 dc5 pm5 cd5 ct5 : Value} {od5 an5 : Option Addr} {sl5 : Array (Option Value)}
    (a5 : PySem.W.nsIn K mainGlobals "_law_work_text" = some (some (.ref f5)))
    (l5 : K.lookup f5 = some ⟨oc5, od5, .func (PySem.W.fnOf "_law_work_text" "_law_work_text" (defArgs s__law_work_text) (defBody s__law_work_text) (defScope s__law_work_text) .none kV5 dc5 pm5 an5 cd5 ct5), sl5⟩) (c5 : PySem.W.codeIn K cd5 "_law_work_text" = true) (k5 : PySem.W.keepIn K (.ref f5) = true)
    {f6 : Addr} {oc6 kV6 dc6 pm6 cd6 ct6 : Value} {od6 an6 : Option Addr} {sl6 : Array (Option Value)}
    (a6 : PySem.W.nsIn K mainGlobals "words_of" = some (some (.ref f6)))
    (l6 : K.lookup f6 = some ⟨oc6, od6, .func (PySem.W.fnOf "words_of" "words_of" (defArgs s_words_of) (defBody s_words_of) (defScope s_words_of) .none kV6 dc6 pm6 an6 cd6 ct6), sl6⟩) (c6 : PySem.W.codeIn K cd6 "words_of" = true) (k6 : PySem.W.keepIn K (.ref f6) = true)
    {f7 : Addr} {oc7 kV7 dc7 pm7 cd7 ct7 : Value} {od7 an7 : Option Addr} {sl7 : Array (Option Value)}
    (a7 : PySem.W.nsIn K mainGlobals "number_in" = some (some (.ref f7)))
    (l7 : K.lookup f7 = some ⟨oc7, od7, .func (PySem.W.fnOf "number_in" "number_in" (defArgs s_number_in) (defBody s_number_in) (defScope s_number_in) .none kV7 dc7 pm7 an7 cd7 ct7), sl7⟩) (c7 : PySem.W.codeIn K cd7 "number_in" = true) (k7 : PySem.W.keepIn K (.ref f7) = true)
    {f8 : Addr} {oc8 kV8 dc8 pm8 cd8 ct8 : Value} {od8 an8 : Option Addr} {sl8 : Array (Option Value)}
    (a8 : PySem.W.nsIn K mainGlobals "numbers_in" = some (some (.ref f8)))
    (l8 : K.lookup f8 = some ⟨oc8, od8, .func (PySem.W.fnOf "numbers_in" "numbers_in" (defArgs s_numbers_in) (defBody s_numbers_in) (defScope s_numbers_in) .none kV8 dc8 pm8 an8 cd8 ct8), sl8⟩) (c8 : PySem.W.codeIn K cd8 "numbers_in" = true) (k8 : PySem.W.keepIn K (.ref f8) = true)
    {f9 : Addr} {oc9 kV9 dc9 pm9 cd9 ct9 : Value} {od9 an9 : Option Addr} {sl9 : Array (Option Value)}
    (a9 : PySem.W.nsIn K mainGlobals "is_whole" = some (some (.ref f9)))
    (l9 : K.lookup f9 = some ⟨oc9, od9, .func (PySem.W.fnOf "is_whole" "is_whole" (defArgs s_is_whole) (defBody s_is_whole) (defScope s_is_whole) .none kV9 dc9 pm9 an9 cd9 ct9), sl9⟩) (c9 : PySem.W.codeIn K cd9 "is_whole" = true) (k9 : PySem.W.keepIn K (.ref f9) = true)
    {f10 : Addr} {oc10 kV10 dc10 pm10 cd10 ct10 : Value} {od10 an10 : Option Addr} {sl10 : Array (Option Value)}
    (a10 : PySem.W.nsIn K mainGlobals "is_cell" = some (some (.ref f10)))
    (l10 : K.lookup f10 = some ⟨oc10, od10, .func (PySem.W.fnOf "is_cell" "is_cell" (defArgs s_is_cell) (defBody s_is_cell) (defScope s_is_cell) .none kV10 dc10 pm10 an10 cd10 ct10), sl10⟩) (c10 : PySem.W.codeIn K cd10 "is_cell" = true) (k10 : PySem.W.keepIn K (.ref f10) = true)
    {f11 : Addr} {oc11 kV11 dc11 pm11 cd11 ct11 : Value} {od11 an11 : Option Addr} {sl11 : Array (Option Value)}
    (a11 : PySem.W.nsIn K mainGlobals "is_step" = some (some (.ref f11)))
    (l11 : K.lookup f11 = some ⟨oc11, od11, .func (PySem.W.fnOf "is_step" "is_step" (defArgs s_is_step) (defBody s_is_step) (defScope s_is_step) .none kV11 dc11 pm11 an11 cd11 ct11), sl11⟩) (c11 : PySem.W.codeIn K cd11 "is_step" = true) (k11 : PySem.W.keepIn K (.ref f11) = true)
    {f12 : Addr} {oc12 kV12 dc12 pm12 cd12 ct12 : Value} {od12 an12 : Option Addr} {sl12 : Array (Option Value)}
    (a12 : PySem.W.nsIn K mainGlobals "are_steps" = some (some (.ref f12)))
    (l12 : K.lookup f12 = some ⟨oc12, od12, .func (PySem.W.fnOf "are_steps" "are_steps" (defArgs s_are_steps) (defBody s_are_steps) (defScope s_are_steps) .none kV12 dc12 pm12 an12 cd12 ct12), sl12⟩) (c12 : PySem.W.codeIn K cd12 "are_steps" = true) (k12 : PySem.W.keepIn K (.ref f12) = true)
    {f13 : Addr} {oc13 kV13 dc13 pm13 cd13 ct13 : Value} {od13 an13 : Option Addr} {sl13 : Array (Option Value)}
    (a13 : PySem.W.nsIn K mainGlobals "are_outs" = some (some (.ref f13)))
    (l13 : K.lookup f13 = some ⟨oc13, od13, .func (PySem.W.fnOf "are_outs" "are_outs" (defArgs s_are_outs) (defBody s_are_outs) (defScope s_are_outs) .none kV13 dc13 pm13 an13 cd13 ct13), sl13⟩) (c13 : PySem.W.codeIn K cd13 "are_outs" = true) (k13 : PySem.W.keepIn K (.ref f13) = true)
    {f14 : Addr} {oc14 kV14 dc14 pm14 cd14 ct14 : Value} {od14 an14 : Option Addr} {sl14 : Array (Option Value)}
    (a14 : PySem.W.nsIn K mainGlobals "is_work" = some (some (.ref f14)))
    (l14 : K.lookup f14 = some ⟨oc14, od14, .func (PySem.W.fnOf "is_work" "is_work" (defArgs s_is_work) (defBody s_is_work) (defScope s_is_work) .none kV14 dc14 pm14 an14 cd14 ct14), sl14⟩) (c14 : PySem.W.codeIn K cd14 "is_work" = true) (k14 : PySem.W.keepIn K (.ref f14) = true)
    {f15 : Addr} {oc15 kV15 dc15 pm15 cd15 ct15 : Value} {od15 an15 : Option Addr} {sl15 : Array (Option Value)}
    (a15 : PySem.W.nsIn K mainGlobals "signed_in" = some (some (.ref f15)))
    (l15 : K.lookup f15 = some ⟨oc15, od15, .func (PySem.W.fnOf "signed_in" "signed_in" (defArgs s_signed_in) (defBody s_signed_in) (defScope s_signed_in) .none kV15 dc15 pm15 an15 cd15 ct15), sl15⟩) (c15 : PySem.W.codeIn K cd15 "signed_in" = true) (k15 : PySem.W.keepIn K (.ref f15) = true)
    {f16 : Addr} {oc16 kV16 dc16 pm16 cd16 ct16 : Value} {od16 an16 : Option Addr} {sl16 : Array (Option Value)}
    (a16 : PySem.W.nsIn K mainGlobals "step_in" = some (some (.ref f16)))
    (l16 : K.lookup f16 = some ⟨oc16, od16, .func (PySem.W.fnOf "step_in" "step_in" (defArgs s_step_in) (defBody s_step_in) (defScope s_step_in) .none kV16 dc16 pm16 an16 cd16 ct16), sl16⟩) (c16 : PySem.W.codeIn K cd16 "step_in" = true) (k16 : PySem.W.keepIn K (.ref f16) = true)
    {f17 : Addr} {oc17 kV17 dc17 pm17 cd17 ct17 : Value} {od17 an17 : Option Addr} {sl17 : Array (Option Value)}
    (a17 : PySem.W.nsIn K mainGlobals "read_work" = some (some (.ref f17)))
    (l17 : K.lookup f17 = some ⟨oc17, od17, .func (PySem.W.fnOf "read_work" "read_work" (defArgs s_read_work) (defBody s_read_work) (defScope s_read_work) .none kV17 dc17 pm17 an17 cd17 ct17), sl17⟩) (c17 : PySem.W.codeIn K cd17 "read_work" = true) (k17 : PySem.W.keepIn K (.ref f17) = true)
    {f18 : Addr} {oc18 kV18 dc18 pm18 cd18 ct18 : Value} {od18 an18 : Option Addr} {sl18 : Array (Option Value)}
    (a18 : PySem.W.nsIn K mainGlobals "show_work" = some (some (.ref f18)))
    (l18 : K.lookup f18 = some ⟨oc18, od18, .func (PySem.W.fnOf "show_work" "show_work" (defArgs s_show_work) (defBody s_show_work) (defScope s_show_work) .none kV18 dc18 pm18 an18 cd18 ct18), sl18⟩) (c18 : PySem.W.codeIn K cd18 "show_work" = true) (k18 : PySem.W.keepIn K (.ref f18) = true)
    {f19 : Addr} {oc19 kV19 dc19 pm19 cd19 ct19 : Value} {od19 an19 : Option Addr} {sl19 : Array (Option Value)}
    (a19 : PySem.W.nsIn K mainGlobals "law" = some (some (.ref f19)))
    (l19 : K.lookup f19 = some ⟨oc19, od19, .func (PySem.W.fnOf "law" "law" (defArgs s_law) (defBody s_law) (defScope s_law) .none kV19 dc19 pm19 an19 cd19 ct19), sl19⟩) (c19 : PySem.W.codeIn K cd19 "law" = true) (k19 : PySem.W.keepIn K (.ref f19) = true)
    {ga0 : Addr} {go0 : Obj} (y0 : PySem.W.nsIn K mainGlobals "STEP_WORDS" = some (some (.ref ga0))) (gl0 : K.lookup ga0 = some go0) (gc0 : constT go0 [(.str "times"), (.str "plus"), (.str "minus"), (.str "by"), (.str "part")] = true)
    {t1 : Tok} (y1 : PySem.W.nsIn K mainGlobals "FIGURES" = some (some (.str "0123456789" t1)))
    {t2 : Tok} (y2 : PySem.W.nsIn K mainGlobals "MOST_FIGURES" = some (some (.int 60 t2)))
    {gt3_0 : Tok}
    {gt3_1 : Tok}
    {gt3_2 : Tok}
    {gt3_3 : Tok}
    {gt3_4 : Tok}
    {ga3 : Addr} {ges3 : Array DictEntry} {gep3 : Nat} (y3 : PySem.W.nsIn K mainGlobals "SIGNS" = some (some (.ref ga3))) (gl3 : K.lookup ga3 = some ⟨.type "dict", none, .dict ges3 gep3, #[]⟩) (gw3 : (ga3 == sysModules) = false) (gh3 : DEK w ges3.toList ["plus", "minus", "times", "by", "part"] [.str "+" gt3_0, .str "-" gt3_1, .str "*" gt3_2, .str "x" gt3_3, .str "/" gt3_4])
    {gt4_0 : Tok}
    {gt4_1 : Tok}
    {gt4_2 : Tok}
    {gt4_3 : Tok}
    {gt4_4 : Tok}
    {ga4 : Addr} {ges4 : Array DictEntry} {gep4 : Nat} (y4 : PySem.W.nsIn K mainGlobals "WORDS" = some (some (.ref ga4))) (gl4 : K.lookup ga4 = some ⟨.type "dict", none, .dict ges4 gep4, #[]⟩) (gw4 : (ga4 == sysModules) = false) (gh4 : DEK w ges4.toList ["+", "-", "*", "x", "/"] [.str "plus" gt4_0, .str "minus" gt4_1, .str "times" gt4_2, .str "by" gt4_3, .str "part" gt4_4])
    (z0 : PySem.W.nsIn K mainGlobals "len" = some none)
    (z1 : PySem.W.nsIn K mainGlobals "abs" = some none)
    (z2 : PySem.W.nsIn K mainGlobals "min" = some none)
    (z3 : PySem.W.nsIn K mainGlobals "max" = some none)
    (z4 : PySem.W.nsIn K mainGlobals "int" = some none)
    (z5 : PySem.W.nsIn K mainGlobals "bool" = some none)
    (z6 : PySem.W.nsIn K mainGlobals "list" = some none)
    (z7 : PySem.W.nsIn K mainGlobals "tuple" = some none)
    (z8 : PySem.W.nsIn K mainGlobals "sum" = some none)
    (z9 : PySem.W.nsIn K mainGlobals "all" = some none)
    (z10 : PySem.W.nsIn K mainGlobals "any" = some none)
    (z11 : PySem.W.nsIn K mainGlobals "divmod" = some none)
    (z12 : PySem.W.nsIn K mainGlobals "isinstance" = some none)
    (z13 : PySem.W.nsIn K mainGlobals "range" = some none)
    (z14 : PySem.W.nsIn K mainGlobals "enumerate" = some none)
    (z15 : PySem.W.nsIn K mainGlobals "zip" = some none)
    (z16 : PySem.W.nsIn K mainGlobals "reversed" = some none)
    (z17 : PySem.W.nsIn K mainGlobals "str" = some none)
    (z18 : PySem.W.nsIn K mainGlobals "dict" = some none)
    (z19 : PySem.W.nsIn K mainGlobals "sorted" = some none)
    (z20 : PySem.W.nsIn K mainGlobals "ValueError" = some none)
    : ∃ fd : FuncData, (∀ (s : Shared) (v : Value), BindsTo s fd ⟨[v], []⟩ [("_law_script", v)]) ∧ ∀ base : Heap, K.In base → base.Ns mainGlobals mg → FnOk P w K mg base (L2.CX P w) (20+(M__law_alike+1)) fa fd ["_law_script"] (toSp K 1 spLaw) := by
  cases hfa.symm.trans (PySem.W.mg_of X G a19)
  have nm : ∀ x ∈ bNames, mg x = none := by
    intro x hx
    simp only [bNames, List.mem_cons, List.not_mem_nil, or_false] at hx
    rcases hx with rfl | rfl | rfl | rfl | rfl | rfl | rfl | rfl | rfl | rfl | rfl | rfl | rfl | rfl | rfl | rfl | rfl | rfl | rfl | rfl | rfl
    · exact PySem.W.mg_none_of X G z0
    · exact PySem.W.mg_none_of X G z1
    · exact PySem.W.mg_none_of X G z2
    · exact PySem.W.mg_none_of X G z3
    · exact PySem.W.mg_none_of X G z4
    · exact PySem.W.mg_none_of X G z5
    · exact PySem.W.mg_none_of X G z6
    · exact PySem.W.mg_none_of X G z7
    · exact PySem.W.mg_none_of X G z8
    · exact PySem.W.mg_none_of X G z9
    · exact PySem.W.mg_none_of X G z10
    · exact PySem.W.mg_none_of X G z11
    · exact PySem.W.mg_none_of X G z12
    · exact PySem.W.mg_none_of X G z13
    · exact PySem.W.mg_none_of X G z14
    · exact PySem.W.mg_none_of X G z15
    · exact PySem.W.mg_none_of X G z16
    · exact PySem.W.mg_none_of X G z17
    · exact PySem.W.mg_none_of X G z18
    · exact PySem.W.mg_none_of X G z19
    · exact PySem.W.mg_none_of X G z20
  have gb : ∀ (i : Nat) x, gls[i]? = some x → ∃ u v, mg x = some u ∧ RelV v u ∧ GlOk P w K (gl i) v := by
    intro i x hi
    match i, hi with
    | 0, hi => cases hi; exact gl_tup (const_ok (PySem.W.mg_of X G y0) gl0 gc0)
    | 1, hi => cases hi; exact ⟨_, .str "0123456789", PySem.W.mg_of X G y1, ⟨_, rfl⟩, fun F => .str _, trivial⟩
    | 2, hi => cases hi; exact ⟨_, .int 60, PySem.W.mg_of X G y2, ⟨_, rfl⟩, fun F => .int _, trivial⟩
    | 3, hi => cases hi; exact dict_ok (ks := ["plus", "minus", "times", "by", "part"]) (PySem.W.mg_of X G y3) gl3 gw3 (by decide +kernel) gh3 (.str (.str (.str (.str (.str (.nil))))))
    | 4, hi => cases hi; exact dict_ok (ks := ["+", "-", "*", "x", "/"]) (PySem.W.mg_of X G y4) gl4 gw4 (by decide +kernel) gh4 (.str (.str (.str (.str (.str (.nil))))))
    | _ + 5, hi => exact absurd hi (by simp [gls])
  have tc : ∀ (i : Nat) x t C, gl i = .cls x t → clsAt K x C → mg x = some (.ref C) ∧ (t = true → ClsF K x C) := by
    intro i x t C e h
    match i, e with
    | 0, e => cases e
    | 1, e => cases e
    | 2, e => cases e
    | 3, e => cases e
    | 4, e => cases e
    | _ + 5, e => cases e
  have tk : ∀ (i : Nat) x C (j : Nat) y t C', gl i = .cls x true → gl j = .cls y t → clsAt K x C → clsAt K y C' → PySem.W.kitOne K (.ref C) (.ref C') = some (exSub x y) ∧ PySem.W.exmOne K (.ref C) (.ref C') = some (exSub x y) := by
    intro i x C j y t C' e1 e2 h1 h2
    match i, e1 with
    | 0, e1 => cases e1
    | 1, e1 => cases e1
    | 2, e1 => cases e1
    | 3, e1 => cases e1
    | 4, e1 => cases e1
    | _ + 5, e1 => cases e1
  have ti : ∀ (base : Heap), K.In base → base.Ns mainGlobals mg → ∀ (i : Nat) x C, gl i = .cls x true → exPlain x = false → clsAt K x C → ∃ j, 0 = j + 1 ∧ IniOk P w K mg base j x C := by
    intro base hbase hns i x C e he h
    match i, e with
    | 0, e => cases e
    | 1, e => cases e
    | 2, e => cases e
    | 3, e => cases e
    | 4, e => cases e
    | _ + 5, e => cases e
  have F0 := fun_mk (st := s__law_well) l0 c0 k0
  have b0 := F0.binds (ps := ["_law_script"]) fun _ _ _ _ _ _ us hl => match us, hl with | [_], _ => rfl
  have F1 := fun_mk (st := s__law_alike) l1 c1 k1
  have b1 := F1.binds (ps := ["_law_found", "_law_due"]) fun _ _ _ _ _ _ us hl => match us, hl with | [_, _], _ => rfl
  have F2 := fun_mk (st := s__law_stirred) l2 c2 k2
  have b2 := F2.binds (ps := ["_law_number", "_law_turn"]) fun _ _ _ _ _ _ us hl => match us, hl with | [_, _], _ => rfl
  have F3 := fun_mk (st := s__law_draw) l3 c3 k3
  have b3 := F3.binds (ps := ["_law_well_here", "_law_many"]) fun _ _ _ _ _ _ us hl => match us, hl with | [_, _], _ => rfl
  have F4 := fun_mk (st := s__law_any_work) l4 c4 k4
  have b4 := F4.binds (ps := ["_law_well_here", "_law_most"]) fun _ _ _ _ _ _ us hl => match us, hl with | [_, _], _ => rfl
  have F5 := fun_mk (st := s__law_work_text) l5 c5 k5
  have b5 := F5.binds (ps := ["_law_work"]) fun _ _ _ _ _ _ us hl => match us, hl with | [_], _ => rfl
  have F6 := fun_mk (st := s_words_of) l6 c6 k6
  have b6 := F6.binds (ps := ["text", "sign"]) fun _ _ _ _ _ _ us hl => match us, hl with | [_, _], _ => rfl
  have F7 := fun_mk (st := s_number_in) l7 c7 k7
  have b7 := F7.binds (ps := ["word"]) fun _ _ _ _ _ _ us hl => match us, hl with | [_], _ => rfl
  have F8 := fun_mk (st := s_numbers_in) l8 c8 k8
  have b8 := F8.binds (ps := ["words"]) fun _ _ _ _ _ _ us hl => match us, hl with | [_], _ => rfl
  have F9 := fun_mk (st := s_is_whole) l9 c9 k9
  have b9 := F9.binds (ps := ["thing"]) fun _ _ _ _ _ _ us hl => match us, hl with | [_], _ => rfl
  have F10 := fun_mk (st := s_is_cell) l10 c10 k10
  have b10 := F10.binds (ps := ["thing", "many"]) fun _ _ _ _ _ _ us hl => match us, hl with | [_, _], _ => rfl
  have F11 := fun_mk (st := s_is_step) l11 c11 k11
  have b11 := F11.binds (ps := ["thing", "many"]) fun _ _ _ _ _ _ us hl => match us, hl with | [_, _], _ => rfl
  have F12 := fun_mk (st := s_are_steps) l12 c12 k12
  have b12 := F12.binds (ps := ["thing", "many"]) fun _ _ _ _ _ _ us hl => match us, hl with | [_, _], _ => rfl
  have F13 := fun_mk (st := s_are_outs) l13 c13 k13
  have b13 := F13.binds (ps := ["thing", "many"]) fun _ _ _ _ _ _ us hl => match us, hl with | [_, _], _ => rfl
  have F14 := fun_mk (st := s_is_work) l14 c14 k14
  have b14 := F14.binds (ps := ["thing"]) fun _ _ _ _ _ _ us hl => match us, hl with | [_], _ => rfl
  have F15 := fun_mk (st := s_signed_in) l15 c15 k15
  have b15 := F15.binds (ps := ["word"]) fun _ _ _ _ _ _ us hl => match us, hl with | [_], _ => rfl
  have F16 := fun_mk (st := s_step_in) l16 c16 k16
  have b16 := F16.binds (ps := ["words"]) fun _ _ _ _ _ _ us hl => match us, hl with | [_], _ => rfl
  have F17 := fun_mk (st := s_read_work) l17 c17 k17
  have b17 := F17.binds (ps := ["text"]) fun _ _ _ _ _ _ us hl => match us, hl with | [_], _ => rfl
  have F18 := fun_mk (st := s_show_work) l18 c18 k18
  have b18 := F18.binds (ps := ["work"]) fun _ _ _ _ _ _ us hl => match us, hl with | [_], _ => rfl
  have F19 := fun_mk (st := s_law) l19 c19 k19
  have b19 := F19.binds (ps := ["_law_script"]) fun _ _ _ _ _ _ us hl => match us, hl with | [_], _ => rfl
  have tz : ∀ c n C, attrOk gl c n → clsAt K c C → Cls K C ∧ NoAttr K C n := by
    rintro c n C ⟨hm, i, e⟩ h
    have hm := attrOf_mem hm
    match i, e with
    | 0, e => cases e
    | 1, e => cases e
    | 2, e => cases e
    | 3, e => cases e
    | 4, e => cases e
    | _ + 5, e => cases e
  refine ⟨PySem.W.fnOf "law" "law" (defArgs s_law) (defBody s_law) (defScope s_law) .none kV19 dc19 pm19 an19 cd19 ct19, fun s v => .of_eq rfl, fun base hbase hns => ?_⟩
  have T0 : Top P w K mg base Gm gl (tb 0 []) 0 := ⟨fun i x n hi => absurd hi (by simp [tb, fns]), gb, nm, tc, tk, ti base hbase hns, fun x C z => absurd z (by simp [tb]), fun c m n j z => absurd z (by simp [tb]), tz, fun x n j z => absurd z (by simp [tb]), fun c n j z => absurd z (by simp [tb])⟩
  have O0 := def_ok (ps := ["_law_script"]) (S := Gm 0) F0 sc__law_well (T0.at (tb' := tb 0 N__law_well) rfl rfl) ck__law_well wp__law_well
  have T1 : Top P w K mg base Gm gl (tb 1 []) 1 := T0.snoc (PySem.W.mg_of X G a0) k0 b0 O0 rfl
  have O1 := def_rec (N := N__law_alike) (ps := ["_law_found", "_law_due"]) (k := 1) rs__law_alike M__law_alike F1 sc__law_alike (T1.at (tb' := ⟨[], fns.take 1, gls, false, [], [], []⟩) rfl rfl) (PySem.W.mg_of X G a1) k1 b1 (by decide) ck__law_alike wp__law_alike
  have T2 : Top P w K mg base Gm gl (tb 2 []) (2+(M__law_alike+1)) := T1.snocM (by unfold M__law_alike; decide) (PySem.W.mg_of X G a1) k1 b1 O1 rfl
  have O2 := def_ok (ps := ["_law_number", "_law_turn"]) (S := Gm 2) F2 sc__law_stirred (T2.at (tb' := tb 2 N__law_stirred) rfl rfl) ck__law_stirred wp__law_stirred
  have T3 : Top P w K mg base Gm gl (tb 3 []) (3+(M__law_alike+1)) := T2.snoc (PySem.W.mg_of X G a2) k2 b2 O2 rfl
  have O3 := def_ok (ps := ["_law_well_here", "_law_many"]) (S := Gm 3) F3 sc__law_draw (T3.at (tb' := tb 3 N__law_draw) rfl rfl) ck__law_draw wp__law_draw
  have T4 : Top P w K mg base Gm gl (tb 4 []) (4+(M__law_alike+1)) := T3.snoc (PySem.W.mg_of X G a3) k3 b3 O3 rfl
  have O4 := def_ok (ps := ["_law_well_here", "_law_most"]) (S := Gm 4) F4 sc__law_any_work (T4.at (tb' := tb 4 N__law_any_work) rfl rfl) ck__law_any_work wp__law_any_work
  have T5 : Top P w K mg base Gm gl (tb 5 []) (5+(M__law_alike+1)) := T4.snoc (PySem.W.mg_of X G a4) k4 b4 O4 rfl
  have O5 := def_ok (ps := ["_law_work"]) (S := Gm 5) F5 sc__law_work_text (T5.at (tb' := tb 5 N__law_work_text) rfl rfl) ck__law_work_text wp__law_work_text
  have T6 : Top P w K mg base Gm gl (tb 6 []) (6+(M__law_alike+1)) := T5.snoc (PySem.W.mg_of X G a5) k5 b5 O5 rfl
  have O6 := def_ok (ps := ["text", "sign"]) (S := Gm 6) F6 sc_words_of (T6.at (tb' := tb 6 N_words_of) rfl rfl) ck_words_of wp_words_of
  have T7 : Top P w K mg base Gm gl (tb 7 []) (7+(M__law_alike+1)) := T6.snoc (PySem.W.mg_of X G a6) k6 b6 O6 rfl
  have O7 := def_ok (ps := ["word"]) (S := Gm 7) F7 sc_number_in (T7.at (tb' := tb 7 N_number_in) rfl rfl) ck_number_in wp_number_in
  have T8 : Top P w K mg base Gm gl (tb 8 []) (8+(M__law_alike+1)) := T7.snoc (PySem.W.mg_of X G a7) k7 b7 O7 rfl
  have O8 := def_ok (ps := ["words"]) (S := Gm 8) F8 sc_numbers_in (T8.at (tb' := tb 8 N_numbers_in) rfl rfl) ck_numbers_in wp_numbers_in
  have T9 : Top P w K mg base Gm gl (tb 9 []) (9+(M__law_alike+1)) := T8.snoc (PySem.W.mg_of X G a8) k8 b8 O8 rfl
  have O9 := def_ok (ps := ["thing"]) (S := Gm 9) F9 sc_is_whole (T9.at (tb' := tb 9 N_is_whole) rfl rfl) ck_is_whole wp_is_whole
  have T10 : Top P w K mg base Gm gl (tb 10 []) (10+(M__law_alike+1)) := T9.snoc (PySem.W.mg_of X G a9) k9 b9 O9 rfl
  have O10 := def_ok (ps := ["thing", "many"]) (S := Gm 10) F10 sc_is_cell (T10.at (tb' := tb 10 N_is_cell) rfl rfl) ck_is_cell wp_is_cell
  have T11 : Top P w K mg base Gm gl (tb 11 []) (11+(M__law_alike+1)) := T10.snoc (PySem.W.mg_of X G a10) k10 b10 O10 rfl
  have O11 := def_ok (ps := ["thing", "many"]) (S := Gm 11) F11 sc_is_step (T11.at (tb' := tb 11 N_is_step) rfl rfl) ck_is_step wp_is_step
  have T12 : Top P w K mg base Gm gl (tb 12 []) (12+(M__law_alike+1)) := T11.snoc (PySem.W.mg_of X G a11) k11 b11 O11 rfl
  have O12 := def_ok (ps := ["thing", "many"]) (S := Gm 12) F12 sc_are_steps (T12.at (tb' := tb 12 N_are_steps) rfl rfl) ck_are_steps wp_are_steps
  have T13 : Top P w K mg base Gm gl (tb 13 []) (13+(M__law_alike+1)) := T12.snoc (PySem.W.mg_of X G a12) k12 b12 O12 rfl
  have O13 := def_ok (ps := ["thing", "many"]) (S := Gm 13) F13 sc_are_outs (T13.at (tb' := tb 13 N_are_outs) rfl rfl) ck_are_outs wp_are_outs
  have T14 : Top P w K mg base Gm gl (tb 14 []) (14+(M__law_alike+1)) := T13.snoc (PySem.W.mg_of X G a13) k13 b13 O13 rfl
  have O14 := def_ok (ps := ["thing"]) (S := Gm 14) F14 sc_is_work (T14.at (tb' := tb 14 N_is_work) rfl rfl) ck_is_work wp_is_work
  have T15 : Top P w K mg base Gm gl (tb 15 []) (15+(M__law_alike+1)) := T14.snoc (PySem.W.mg_of X G a14) k14 b14 O14 rfl
  have O15 := def_ok (ps := ["word"]) (S := Gm 15) F15 sc_signed_in (T15.at (tb' := tb 15 N_signed_in) rfl rfl) ck_signed_in wp_signed_in
  have T16 : Top P w K mg base Gm gl (tb 16 []) (16+(M__law_alike+1)) := T15.snoc (PySem.W.mg_of X G a15) k15 b15 O15 rfl
  have O16 := def_ok (ps := ["words"]) (S := Gm 16) F16 sc_step_in (T16.at (tb' := tb 16 N_step_in) rfl rfl) ck_step_in wp_step_in
  have T17 : Top P w K mg base Gm gl (tb 17 []) (17+(M__law_alike+1)) := T16.snoc (PySem.W.mg_of X G a16) k16 b16 O16 rfl
  have O17 := def_ok (ps := ["text"]) (S := Gm 17) F17 sc_read_work (T17.at (tb' := tb 17 N_read_work) rfl rfl) ck_read_work wp_read_work
  have T18 : Top P w K mg base Gm gl (tb 18 []) (18+(M__law_alike+1)) := T17.snoc (PySem.W.mg_of X G a17) k17 b17 O17 rfl
  have O18 := def_ok (ps := ["work"]) (S := Gm 18) F18 sc_show_work (T18.at (tb' := tb 18 N_show_work) rfl rfl) ck_show_work wp_show_work
  have T19 : Top P w K mg base Gm gl (tb 19 []) (19+(M__law_alike+1)) := T18.snoc (PySem.W.mg_of X G a18) k18 b18 O18 rfl
  have O19 := def_ok (ps := ["_law_script"]) (S := Gm 19) F19 sc_law (T19.at (tb' := tb 19 N_law) rfl rfl) ck_law wp_law
  exact O19
end K83
open PySem PySem.W PyProof.Rows
set_option maxHeartbeats 0 in
theorem PySem.Challenge.cw_partmill_k83_works_written_holds : PySem.Challenge.rw_partmill_k83_works_written.Holds := by
  w_on; o_law; k_head; (case hw => w_witness2)
  k_fill
  refine L2.walk_of (l := PySem.Challenge.rw_partmill_k83_works_written) (n := 63) (k := (20+(K83.M__law_alike+1))) (x := "_law_script") (CX := fun w => L2.CX PySem.Challenge.rw_partmill_k83_works_written.prog w) (sp := fun w => DL.toSp _ 1 DL.spLaw) rfl (by decide) rfl ⟨rfl, by decide, by decide⟩ (fun w h Y => PySem.W.kIn_of Y) ?F (fun _ _ a ns hl _ hS => DL.law_sp hl hS) (fun _ _ _ _ _ h => DL.cx_false h)
  case F =>
    intro w mg fa h KX G hmg
    refine' K83.all_mk KX G hmg ?a0 ?l0 ?c0 ?k0 ?a1 ?l1 ?c1 ?k1 ?a2 ?l2 ?c2 ?k2 ?a3 ?l3 ?c3 ?k3 ?a4 ?l4 ?c4 ?k4 ?a5 ?l5 ?c5 ?k5 ?a6 ?l6 ?c6 ?k6 ?a7 ?l7 ?c7 ?k7 ?a8 ?l8 ?c8 ?k8 ?a9 ?l9 ?c9 ?k9 ?a10 ?l10 ?c10 ?k10 ?a11 ?l11 ?c11 ?k11 ?a12 ?l12 ?c12 ?k12 ?a13 ?l13 ?c13 ?k13 ?a14 ?l14 ?c14 ?k14 ?a15 ?l15 ?c15 ?k15 ?a16 ?l16 ?c16 ?k16 ?a17 ?l17 ?c17 ?k17 ?a18 ?l18 ?c18 ?k18 ?a19 ?l19 ?c19 ?k19 ?y0 ?gl0 ?gc0 ?y1 ?y2 ?y3 ?gl3 ?gw3 ?gh3 ?y4 ?gl4 ?gw4 ?gh4 ?z0 ?z1 ?z2 ?z3 ?z4 ?z5 ?z6 ?z7 ?z8 ?z9 ?z10 ?z11 ?z12 ?z13 ?z14 ?z15 ?z16 ?z17 ?z18 ?z19 ?z20
    (case a0 => k_is); (case l0 => k_is); (case c0 => k_is); (case k0 => k_is); (case a1 => k_is); (case l1 => k_is); (case c1 => k_is); (case k1 => k_is); (case a2 => k_is); (case l2 => k_is); (case c2 => k_is); (case k2 => k_is); (case a3 => k_is); (case l3 => k_is); (case c3 => k_is); (case k3 => k_is); (case a4 => k_is); (case l4 => k_is); (case c4 => k_is); (case k4 => k_is); (case a5 => k_is); (case l5 => k_is); (case c5 => k_is); (case k5 => k_is); (case a6 => k_is); (case l6 => k_is); (case c6 => k_is); (case k6 => k_is); (case a7 => k_is); (case l7 => k_is); (case c7 => k_is); (case k7 => k_is); (case a8 => k_is); (case l8 => k_is); (case c8 => k_is); (case k8 => k_is); (case a9 => k_is); (case l9 => k_is); (case c9 => k_is); (case k9 => k_is); (case a10 => k_is); (case l10 => k_is); (case c10 => k_is); (case k10 => k_is); (case a11 => k_is); (case l11 => k_is); (case c11 => k_is); (case k11 => k_is); (case a12 => k_is); (case l12 => k_is); (case c12 => k_is); (case k12 => k_is); (case a13 => k_is); (case l13 => k_is); (case c13 => k_is); (case k13 => k_is); (case a14 => k_is); (case l14 => k_is); (case c14 => k_is); (case k14 => k_is); (case a15 => k_is); (case l15 => k_is); (case c15 => k_is); (case k15 => k_is); (case a16 => k_is); (case l16 => k_is); (case c16 => k_is); (case k16 => k_is); (case a17 => k_is); (case l17 => k_is); (case c17 => k_is); (case k17 => k_is); (case a18 => k_is); (case l18 => k_is); (case c18 => k_is); (case k18 => k_is); (case a19 => k_is); (case l19 => k_is); (case c19 => k_is); (case k19 => k_is); (case y0 => k_is); (case gl0 => k_is); (case gc0 => decide +kernel); (case y1 => k_is); (case y2 => k_is); (case y3 => k_is); (case gl3 => k_is); (case gw3 => decide); (case gh3 => ((repeat first | exact DL.DEK.nil | refine DL.DEK.cons rfl ?_))); (case y4 => k_is); (case gl4 => k_is); (case gw4 => decide); (case gh4 => ((repeat first | exact DL.DEK.nil | refine DL.DEK.cons rfl ?_))); (case z0 => k_is); (case z1 => k_is); (case z2 => k_is); (case z3 => k_is); (case z4 => k_is); (case z5 => k_is); (case z6 => k_is); (case z7 => k_is); (case z8 => k_is); (case z9 => k_is); (case z10 => k_is); (case z11 => k_is); (case z12 => k_is); (case z13 => k_is); (case z14 => k_is); (case z15 => k_is); (case z16 => k_is); (case z17 => k_is); (case z18 => k_is); (case z19 => k_is); (case z20 => k_is)