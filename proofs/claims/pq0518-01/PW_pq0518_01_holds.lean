import PyProof.Rows.All
import Wide.All
import OpenK.AllK
import Wide.FinOn
import PySem.Challenge.RW_pq0518_01
open PySem PySem.W PyProof.Rows
set_option linter.all false
set_option Elab.async false
namespace Mine
-- plain
/-- a deeper proof serves a shallower call -/
theorem wp_room {α : Type} {M : Model} {dp un dp' un' : Nat} {gd : Option (List Code)} {cn : Str} {cs : Scope} {L a : Addr} {ccd : Value} {cl : List (Str × Addr)} {outer : List Env} {t : Sem α} {Q : α → Shared → Prop} {E : Value → Shared → Prop} {s : Shared}
    (h1 : dp' ≤ dp) (h2 : un' ≤ un) (h : wpAny M (ktrTop dp un gd cn cs L a ccd cl outer) t Q E s) : wpAny M (ktrTop dp' un' gd cn cs L a ccd cl outer) t Q E s :=
  fun Γ p hΓ => h Γ p ⟨hΓ.1, Nat.le_trans hΓ.2.1 h1, hΓ.2.2.1, hΓ.2.2.2.1, Nat.le_trans hΓ.2.2.2.2 h2⟩

noncomputable def PenOk (prog : Program) (w : World) (C : Addr) (k : Int) (oP oC : Obj) : Prop :=
  ∃ l tn u1 u2 vs ns n, oP.IsDictOf (PySem.strKind prog w) [(Str.ofString "cells", Value.ref C), (Str.ofString "left", Value.int l u1), (Str.ofString "turn", Value.int tn u2)] ∧ oC = listOf vs.toArray n ∧ IntsAre vs ns ∧ vs.length ≤ 24 ∧ 0 ≤ l ∧ 0 ≤ tn ∧ tn ≤ k
theorem PenOk.of {prog : Program} {w : World} {C : Addr} {k : Int} {oP : Obj} {l tn : Int} {u1 u2 : Tok} {vs : List Value} {ns : List Int} {n : Nat} {kvs : List (Str × Value)} (hD : oP.IsDictOf (PySem.strKind prog w) kvs) (he : kvs = [(Str.ofString "cells", Value.ref C), (Str.ofString "left", Value.int l u1), (Str.ofString "turn", Value.int tn u2)])
    (hi : IntsAre vs ns) (h1 : vs.length ≤ 24) (h2 : 0 ≤ l) (h3 : 0 ≤ tn) (h4 : tn ≤ k) : PenOk prog w C k oP (listOf vs.toArray n) := ⟨l, tn, u1, u2, vs, ns, n, he ▸ hD, rfl, hi, h1, h2, h3, h4⟩

/-- two objects of the ledger, turned -/
theorem upd2_in {P C : Addr} {oP oC : Obj} {news : List (Addr × Obj)} {g1 : Obj → List (Addr × Obj)} {g2 : Obj → Obj → List (Addr × Obj)} (U1 : UpdF P oP news g1) (U2 : ∀ o, UpdF C oC (g1 o) (g2 o)) :
    ∀ p ∈ (P, oP) :: (C, oC) :: news.filter (fun p => decide (@Ne Nat p.1 P ∧ @Ne Nat p.1 C)), p ∈ news := by
  obtain ⟨pre, post, rfl, hg, _, _⟩ := U1.split
  obtain ⟨pre2, post2, h2, _, _, _⟩ := (U2 oP).split
  rw [hg oP] at h2
  intro p hp
  rcases List.mem_cons.mp hp with rfl | hp
  · exact List.mem_append_right _ (.head _)
  rcases List.mem_cons.mp hp with rfl | hp
  · rw [h2]; exact List.mem_append_right _ (.head _)
  · exact (List.mem_filter.mp hp).1
theorem upd2_out {P C : Addr} {oP oC : Obj} {news : List (Addr × Obj)} {g1 : Obj → List (Addr × Obj)} {g2 : Obj → Obj → List (Addr × Obj)} (U1 : UpdF P oP news g1) (U2 : ∀ o, UpdF C oC (g1 o) (g2 o)) (oP' oC' : Obj) :
    ∀ p ∈ g2 oP' oC', p ∈ (P, oP') :: (C, oC') :: news.filter (fun p => decide (@Ne Nat p.1 P ∧ @Ne Nat p.1 C)) := by
  obtain ⟨pre, post, rfl, hg, a1, b1⟩ := U1.split
  obtain ⟨pre2, post2, h2, hg2, a2, b2⟩ := (U2 oP').split
  rw [hg oP'] at h2
  intro p hp
  rw [hg2] at hp
  have key : p ∈ pre ++ (P, oP') :: post → p.1 ≠ C → p ∈ (P, oP') :: (C, oC') :: (pre ++ (P, oP) :: post).filter (fun p => decide (@Ne Nat p.1 P ∧ @Ne Nat p.1 C)) := by
    intro hm hc
    have old : p ∈ pre ++ (P, oP) :: post → p.1 ≠ P → p ∈ (P, oP') :: (C, oC') :: (pre ++ (P, oP) :: post).filter (fun p => decide (@Ne Nat p.1 P ∧ @Ne Nat p.1 C)) := fun ho hp =>
      .tail _ (.tail _ (List.mem_filter.mpr ⟨ho, decide_eq_true ⟨hp, hc⟩⟩))
    rcases List.mem_append.mp hm with h | h
    · exact old (List.mem_append_left _ h) (a1 p h)
    · rcases List.mem_cons.mp h with rfl | h
      · exact .head _
      · exact old (List.mem_append_right _ (.tail _ h)) (b1 p h)
  rcases List.mem_append.mp hp with h | h
  · exact key (by rw [h2]; exact List.mem_append_left _ h) (a2 p h)
  · rcases List.mem_cons.mp h with rfl | h
    · exact .tail _ (.head _)
    · exact key (by rw [h2]; exact List.mem_append_right _ (.tail _ h)) (b2 p h)
theorem upd2_lt {P C R : Addr} {oP oC : Obj} {news : List (Addr × Obj)} {g1 : Obj → List (Addr × Obj)} {g2 : Obj → Obj → List (Addr × Obj)} (_ : UpdF P oP news g1) (_ : ∀ o, UpdF C oC (g1 o) (g2 o))
    (h : ∀ q ∈ (P, oP) :: (C, oC) :: news.filter (fun p => decide (@Ne Nat p.1 P ∧ @Ne Nat p.1 C)), q.1 < R) : ∀ q ∈ news, q.1 < R := by
  intro q hq
  by_cases h1 : @Eq Nat q.1 P
  · have := h _ (.head _); dsimp only at this; rw [← h1] at this; exact this
  · by_cases h2 : @Eq Nat q.1 C
    · have := h _ (.tail _ (.head _)); dsimp only at this; rw [← h2] at this; exact this
    · exact h q (.tail _ (.tail _ (List.mem_filter.mpr ⟨hq, decide_eq_true ⟨h1, h2⟩⟩)))
theorem filt1 {P C : Addr} {news : List (Addr × Obj)} : ∀ q ∈ news.filter (fun p => decide (@Ne Nat p.1 P ∧ @Ne Nat p.1 C)), q.1 ≠ P := fun _ hq => (of_decide_eq_true (List.mem_filter.mp hq).2).1
theorem filt2 {P C : Addr} {news : List (Addr × Obj)} : ∀ q ∈ news.filter (fun p => decide (@Ne Nat p.1 P ∧ @Ne Nat p.1 C)), q.1 ≠ C := fun _ hq => (of_decide_eq_true (List.mem_filter.mp hq).2).2

theorem PenOk.mono {prog : Program} {w : World} {C : Addr} {k k' : Int} {oP oC : Obj} (h : PenOk prog w C k oP oC) (hk : k ≤ k') : PenOk prog w C k' oP oC :=
  let ⟨l, tn, u1, u2, vs, ns, n, a, b, c, d, e, f, g⟩ := h; ⟨l, tn, u1, u2, vs, ns, n, a, b, c, d, e, f, Int.le_trans g hk⟩

section
variable {prog : Program} {w : World} {A : Around} {E : Value → Shared → Prop} {s : Shared} {h₀ h : Heap} {L D : Addr} {m : Str → Option Value} {news news' : List (Addr × Obj)}
theorem pop0 {v : Value} {vs : List Value} {n : Nat} {u : Tok} {Q : Value → Shared → Prop} (F : Fr h₀ L s.heap m) (N : News h₀ L s.heap news) (U : Upd D (listOf (v :: vs).toArray n) (listOf vs.toArray (n + 1)) news news')
    (hz : vs.length ≤ 1000) (h : ∀ h', Fr h₀ L h' m → News h₀ L h' news' → Q v { s with heap := h' }) : wpAny (model prog w) A (call (.builtin "list.pop") [.ref D, .int 0 u]) Q E s :=
  kl_popAt (k := 0) (p := []) (q := vs) F N (by decide) (by simp [seqIndex?]) rfl U (by rw [sizeLine_eq]; simp; omega) h

theorem listAt {a : Addr} {vs : List Value} {n : Nat} (N : News h₀ L h news) (ha : (a, listOf vs.toArray n) ∈ news) : h.IsList a vs.toArray := News.isList N ha
theorem cat_K {a b : Addr} {vs us : List Value} {n n' : Nat} {Q : Value → Shared → Prop} (F : Fr h₀ L s.heap m) (N : News h₀ L s.heap news) (ha : (a, listOf vs.toArray n) ∈ news) (hb : (b, listOf us.toArray n') ∈ news) (hz : vs.length + us.length ≤ 10000)
    (k : ∀ R h', Fr h₀ L h' m → News h₀ L h' ((R, listOf (vs ++ us).toArray 0) :: news) → (∀ p ∈ news, p.1 < R) → Q (.ref R) { s with heap := h' }) : wpAny (model prog w) A (binaryOp .Add (.ref a) (.ref b)) Q E s :=
  add_lists (hsz := by rw [sizeLine_eq]; omega) F N (listAt N ha) (listAt N hb) fun h' F' N' => k _ h' F' N' fun p hp => Heap.lt_size (N p hp).1
noncomputable def smallB : Value → Bool
  | .bytes b _ => decide (b.size ≤ 3)
  | _ => false
noncomputable def octetB : Value → Bool
  | .int i _ => decide (0 ≤ i ∧ i < 256)
  | _ => false
theorem menu_at {K : Frag} {a : Addr} {value slice : PySem.Expr} {l : List Value} {n : Nat} {dd : Option Addr} {sl : Array (Option Value)} {i : Int} {u : Tok} {Q : Value → Shared → Prop} (p : Value → Bool) (F : Fr h₀ L s.heap m) (X₀ : K.In h₀) (hl : K.lookup a = some ⟨.type "tuple", dd, .seq l.toArray n, sl⟩)
    (hp : l.all p = true) (hz : l.length ≤ 1000) (h0 : 0 ≤ i) (h1 : i < (l.length : Int)) (h : ∀ v, p v = true → Q v s)
    (hs : subscripted slice false (.ref a) (.int i u) = operate [.ref a, .int i u] (getItem (.ref a) (.int i u)) := by with_unfolding_all rfl) :
    wpAny (model prog w) A (subscriptTail value slice (.ref a) (.int i u)) Q E s := by
  have hi : i.toNat < l.length := by omega
  refine topTup_K (j := i.toNat) (v := l[i.toNat]) F X₀ hl (by omega) (by omega) ?_ (List.getElem?_eq_getElem hi) (h _ (List.all_eq_true.mp hp _ (List.getElem_mem hi))) hs
  have hn : ¬ i < 0 := by omega
  simp [seqIndex?, hn, h0, h1]
theorem menu_bytes {K : Frag} {a : Addr} {value slice : PySem.Expr} {l : List Value} {n : Nat} {dd : Option Addr} {sl : Array (Option Value)} {i : Int} {u : Tok} {Q : Value → Shared → Prop} (F : Fr h₀ L s.heap m) (X₀ : K.In h₀) (hl : K.lookup a = some ⟨.type "tuple", dd, .seq l.toArray n, sl⟩)
    (hp : l.all smallB = true) (hz : l.length ≤ 1000) (h0 : 0 ≤ i) (h1 : i < (l.length : Int)) (h : ∀ (b : List UInt8) (t : Tok), b.length ≤ 3 → Q (.bytes b.toArray t) s)
    (hs : subscripted slice false (.ref a) (.int i u) = operate [.ref a, .int i u] (getItem (.ref a) (.int i u)) := by with_unfolding_all rfl) :
    wpAny (model prog w) A (subscriptTail value slice (.ref a) (.int i u)) Q E s :=
  menu_at smallB F X₀ hl hp hz h0 h1 (fun v hv => by
    cases v <;> simp only [smallB, Bool.false_eq_true, decide_eq_true_eq] at hv
    rename_i b t
    exact h b.toList t (by simpa using hv)) hs
theorem menu_octet {K : Frag} {a : Addr} {value slice : PySem.Expr} {l : List Value} {n : Nat} {dd : Option Addr} {sl : Array (Option Value)} {i : Int} {u : Tok} {Q : Value → Shared → Prop} (F : Fr h₀ L s.heap m) (X₀ : K.In h₀) (hl : K.lookup a = some ⟨.type "tuple", dd, .seq l.toArray n, sl⟩)
    (hp : l.all octetB = true) (hz : l.length ≤ 1000) (h0 : 0 ≤ i) (h1 : i < (l.length : Int)) (h : ∀ j t, 0 ≤ j → j < 256 → Q (.int j t) s)
    (hs : subscripted slice false (.ref a) (.int i u) = operate [.ref a, .int i u] (getItem (.ref a) (.int i u)) := by with_unfolding_all rfl) :
    wpAny (model prog w) A (subscriptTail value slice (.ref a) (.int i u)) Q E s :=
  menu_at octetB F X₀ hl hp hz h0 h1 (fun v hv => by
    cases v <;> simp only [octetB, Bool.false_eq_true, decide_eq_true_eq] at hv
    exact h _ _ hv.1 hv.2) hs
end

/-- values that are bytes -/
inductive BytesAre : List Value → List (List UInt8) → Prop
  | nil : BytesAre [] []
  | cons (b : List UInt8) (t : Tok) {vs : List Value} {bs : List (List UInt8)} : BytesAre vs bs → BytesAre (.bytes b.toArray t :: vs) (b :: bs)
theorem BytesAre.length {vs : List Value} {bs : List (List UInt8)} (h : BytesAre vs bs) : vs.length = bs.length := by
  induction h with
  | nil => rfl
  | cons _ _ _ ih => simp [ih]
theorem BytesAre.append {vs us : List Value} {bs cs : List (List UInt8)} (h : BytesAre vs bs) (k : BytesAre us cs) : BytesAre (vs ++ us) (bs ++ cs) := by
  induction h with
  | nil => exact k
  | cons b t _ ih => exact .cons b t ih
theorem BytesAre.snoc {vs : List Value} {bs : List (List UInt8)} (h : BytesAre vs bs) (b : List UInt8) (t : Tok) : BytesAre (vs ++ [.bytes b.toArray t]) (bs ++ [b]) := h.append (.cons b t .nil)
theorem BytesAre.reverse {vs : List Value} {bs : List (List UInt8)} (h : BytesAre vs bs) : BytesAre vs.reverse bs.reverse := by
  induction h with
  | nil => exact .nil
  | cons b t _ ih => rw [List.reverse_cons, List.reverse_cons]; exact ih.snoc b t
theorem BytesAre.take {vs : List Value} {bs : List (List UInt8)} (h : BytesAre vs bs) : ∀ n, BytesAre (vs.take n) (bs.take n) := by
  induction h with
  | nil => intro n; rw [List.take_nil, List.take_nil]; exact .nil
  | cons b t _ ih => intro n; cases n with
    | zero => exact .nil
    | succ n => exact .cons b t (ih n)
theorem BytesAre.drop {vs : List Value} {bs : List (List UInt8)} (h : BytesAre vs bs) : ∀ n, BytesAre (vs.drop n) (bs.drop n) := by
  induction h with
  | nil => intro n; rw [List.drop_nil, List.drop_nil]; exact .nil
  | cons b t h ih => intro n; cases n with
    | zero => exact .cons b t h
    | succ n => exact ih n
noncomputable def Small3 (bs : List (List UInt8)) : Prop := ∀ b ∈ bs, b.length ≤ 3
theorem Small3.nil : Small3 [] := fun _ h => nomatch h
theorem Small3.append {bs cs : List (List UInt8)} (h : Small3 bs) (k : Small3 cs) : Small3 (bs ++ cs) := fun b hb => (List.mem_append.mp hb).elim (h b) (k b)
theorem Small3.one {b : List UInt8} (h : b.length ≤ 3) : Small3 [b] := fun c hc => by rw [List.mem_singleton.mp hc]; exact h
theorem Small3.reverse {bs : List (List UInt8)} (h : Small3 bs) : Small3 bs.reverse := fun b hb => h b (List.mem_reverse.mp hb)
theorem Small3.take {bs : List (List UInt8)} (h : Small3 bs) (n : Nat) : Small3 (bs.take n) := fun b hb => h b (List.mem_of_mem_take hb)
theorem Small3.drop {bs : List (List UInt8)} (h : Small3 bs) (n : Nat) : Small3 (bs.drop n) := fun b hb => h b (List.mem_of_mem_drop hb)
theorem app_ne {l l' : List (Addr × Obj)} {d : Addr} (h : ∀ q ∈ l, q.1 ≠ d) (h' : ∀ q ∈ l', q.1 ≠ d) : ∀ q ∈ l ++ l', q.1 ≠ d := fun q hq => (List.mem_append.mp hq).elim (h q) (h' q)
theorem rangeSize0 (d : Int) : Builtin.Range.rangeSize 0 d 1 = (d.toNat : Int) := by rw [rangeSize_nat]; simp
theorem walk_lt3 {a b d : Addr} {oa ob : Obj} {l : List (Addr × Obj)} (h1 : @LT.lt Nat _ a d) (h2 : @LT.lt Nat _ b d) (h3 : AllLt d l) : ∀ q ∈ (a, oa) :: (b, ob) :: l, q.1 < d := tb_ltOf (l := (a, oa) :: (b, ob) :: l) ⟨h1, h2, h3⟩

-- plain
section
variable {prog : Program} {w : World} {A : Around} {E : Value → Shared → Prop} {s : Shared} {h₀ h : Heap} {L l : Addr} {m : Str → Option Value} {news : List (Addr × Obj)} {value slice : PySem.Expr} {vs zs : List Value} {n : Nat} {vl vu vk : Value} {ops : List Value} {Q : Value → Shared → Prop}
theorem slice_any {lo hi st : Option Int} (F : Fr h₀ L s.heap m) (N : News h₀ L s.heap news) (hm : (l, listOf vs.toArray n) ∈ news) (pl : IsPart vl lo) (pu : IsPart vu hi) (pk : IsPart vk st) (h0 : st ≠ some 0) (e : slicePick vs.toArray lo hi st = zs.toArray) (hz : vs.length ≤ 10000)
    (k : ∀ D h', Fr h₀ L h' m → News h₀ L h' ((D, listOf zs.toArray 0) :: news) → (∀ p ∈ news, p.1 < D) → Q (.ref D) { s with heap := h' })
    (hs : subscripted slice false (.ref l) (.ref s.heap.objs.size) = operate ops (getItem (.ref l) (.ref s.heap.objs.size))) :
    wpAny (model prog w) A (subscriptTail value slice (.ref l) (.ref s.heap.objs.size)) Q E { s with heap := s.heap.push { cls := .type "slice", data := .fields #[vl, vu, vk] } } := by
  have hl := listAt N hm
  refine tail_any (Heap.IsList.typeIs (s := { s with heap := s.heap.push { cls := .type "slice", data := .fields #[vl, vu, vk] } }) (hl.push _)) list_getitem_lookup
    (wpAny_getItem_list_slice (hl.push _) (Heap.IsSliceOf.new ..) pl pu pk h0 ?_ (by rw [sizeLine_eq, List.size_toArray]; omega)) hs
  have N1 := News.push (F.push { cls := .type "slice", data := .fields #[vl, vu, vk] }) (N.grown fun _ _ e => Heap.get?_push_of_some _ e) { cls := .type "list", data := .seq (slicePick vs.toArray lo hi st) }
  rw [Heap.size_push] at N1
  show Q (.ref (s.heap.push _).objs.size) _
  rw [Heap.size_push]
  rw [e] at N1 ⊢
  exact k _ _ ((F.push _).push _) N1 fun p hp => Nat.lt_succ_of_lt (Heap.lt_size (N p hp).1)
theorem pick_but (vs : List Value) : slicePick vs.toArray none (some (-1)) none = (vs.take (vs.length - 1)).toArray := slicePick_butLast vs.toArray 1 (Nat.le_refl 1)
theorem pick_last (vs : List Value) : slicePick vs.toArray (some (-1)) none none = (vs.drop (vs.length - 1)).toArray := slicePick_last vs.toArray 1 (Nat.le_refl 1)
theorem pick_rev (vs : List Value) : slicePick vs.toArray none none (some (-1)) = vs.reverse.toArray := krv_pick vs.toArray
end
theorem walk_lt4 {a b c d : Addr} {oa ob oc : Obj} {l : List (Addr × Obj)} (h1 : @LT.lt Nat _ a d) (h2 : @LT.lt Nat _ b d) (h4 : @LT.lt Nat _ c d) (h3 : AllLt d l) : ∀ q ∈ (a, oa) :: (b, ob) :: (c, oc) :: l, q.1 < d := tb_ltOf (l := (a, oa) :: (b, ob) :: (c, oc) :: l) ⟨h1, h2, h4, h3⟩

-- plain
namespace FJ
set_option maxRecDepth 100000
open Builtin
theorem slot_bytes_join : Slot "bytes" "join" "bytes.join" :=
  .of (owner := "bytes") (n := "join") (by rw [typeLookup_type, builtinLookup_eq_fast]; kernel_rfl) (by decide +kernel) (by decide +kernel) (by decide +kernel)
    (by first | exact .inl (by decide +kernel) | exact .inr (by decide +kernel)) (by rw [isSubtype_type]; kernel_rfl)
theorem type_bytes_join : typeOf (.builtin "bytes.join") = pure (.type "method_descriptor") := by show builtinType _ = _; rw [builtinType_eq_fast]; kernel_rfl
theorem entry_bytes_join : entryFor table "bytes.join" = some Builtin.«bytes.join» := entryFor_of_tree (by kernel_rfl)
theorem args_bytes_join (a b : Value) : argsOk "bytes.join" ⟨[a, b], []⟩ := by unfold argsOk; kernel_rfl
theorem taken_eq {id : String} {b : Array UInt8} {t : Tok} : Bytes.takeBufferQuiet? id (.bytes b t) 0 = pure (some (b, none)) := by
  have e : Bytes.takeBuffer? id (.bytes b t) 0 = pure (some (b, none)) := by
    unfold Bytes.takeBuffer?
    rw [KBy.special_eq KBy.look_buffer, KBy.own_buffer]
    have e0 : ∀ f, Bytes.buffer? id (.bytes b t) f = pure (some b) := fun f => by
      unfold Bytes.buffer?
      rw [KBy.special_eq KBy.look_buffer, KBy.own_buffer, KBy.own_release]
      kernel_rfl
    rw [e0]
    kernel_rfl
  unfold Bytes.takeBufferQuiet?
  rw [e]
  rfl
section
variable {prog : Program} {w : World} {M : Model} {A : Around} {E : Value → Shared → Prop} {s : Shared}
theorem joinLetGo_any {Q : Unit → Shared → Prop} (h : Q () s) : ∀ (l : List Value) (keep : List Value), wpAny M A (Bytes.joinLetGo (l.map fun v => (v, none)) keep) Q E s
  | [], _ => wpAny_pure h
  | _ :: r, keep => wpAny_bind (wpAny_letGo (joinLetGo_any h r keep))
theorem joined_flat : ∀ (bs : List (List UInt8)) (k : Nat) (acc : List UInt8), ((bs.map List.toArray).zipIdx k).foldl (fun out (p : Array UInt8 × Nat) => (if p.2 > 0 then out ++ (#[] : Array UInt8) else out) ++ p.1) acc.toArray = (acc ++ bs.flatten).toArray
  | [], _, acc => by simp
  | b :: r, k, acc => by
    have e : (if k > 0 then acc.toArray ++ (#[] : Array UInt8) else acc.toArray) ++ b.toArray = (acc ++ b).toArray := by split <;> simp
    simp only [List.map_cons, List.zipIdx_cons, List.foldl_cons, e]
    rw [joined_flat r (k + 1) (acc ++ b)]
    simp
theorem foldSize : ∀ (bs : List (List UInt8)) (k : Nat), (bs.map List.toArray).foldl (fun x (y : Array UInt8) => x + y.size) k = k + bs.flatten.length
  | [], k => by simp
  | b :: r, k => by
    rw [List.map_cons, List.foldl_cons, foldSize r]
    simp [Nat.add_assoc]
theorem at_bytes : ∀ {vs : List Value} {bs : List (List UInt8)} (_ : BytesAre vs bs) {i : Nat}, i < bs.length → ∃ b t, vs[i]? = some (.bytes (List.toArray b) t) ∧ bs[i]? = some b
  | _, _, .cons b t _, 0, _ => ⟨b, t, rfl, rfl⟩
  | _, _, .cons _ _ h, i + 1, hi => at_bytes h (i := i) (by simpa using hi)
theorem none_onHeap : ∀ {vs : List Value} {bs : List (List UInt8)} (_ : BytesAre vs bs), (vs.map fun v => (v, (none : Option Value))).any (fun x => x.1.onHeap) = false
  | _, _, .nil => rfl
  | _, _, .cons _ _ h => by rw [List.map_cons, List.any_cons, none_onHeap h]; rfl
theorem match_one {α : Type} {Q : α → Shared → Prop} (f : Value → Sem α) (g : Sem α) : ∀ (l : List Value), (∀ x, l = [x] → wpAny M A (f x) Q E s) → wpAny M A g Q E s → wpAny M A (match l.toArray with | #[x] => f x | _ => g) Q E s
  | [], _, h2 => h2
  | [x], h1, _ => h1 x rfl
  | _ :: _ :: _, _, h2 => h2
theorem join_body {a : Addr} {vs : List Value} {bs : List (List UInt8)} {t : Tok} {R : Fin → Shared → Prop} (hl : s.heap.IsList a vs.toArray) (hb : BytesAre vs bs) (hz : bs.flatten.length ≤ 10000)
    (h : ∀ t' k, R (.done (.ret (.bytes bs.flatten.toArray t'))) { s with toks := k }) : wpAny (model prog w) A (Builtin.«bytes.join» ⟨[.bytes #[] t, .ref a], []⟩) R E s := by
  obtain ⟨o, ho, hc, n, hd⟩ := id hl
  unfold Builtin.«bytes.join» Bytes.joinM
  refine wpAny_bind (wpAny_of_eq (a := (Value.bytes #[] t, Value.ref a)) rfl ?_)
  refine wpAny_bind (m := Bytes.joinItems (.ref a)) ?_
  unfold Bytes.joinItems
  refine wpAny_bind (wpAny_typeOf hl.typeIs ?_)
  refine wpAny_ite ?_
  rw [if_pos (by decide)]
  refine wpAny_pure ?_
  refine wpAny_bind (wpAny_seqItems ho hd ?_)
  refine wpAny_ite ?_
  rw [if_pos (by decide)]
  refine match_one _ _ vs (fun x hx => ?_) ?_
  · subst hx
    cases hb with
    | cons b u hr =>
      cases hr
      refine wpAny_bind (wpAny_typeOf (typeIs_bytes s _ u) ?_)
      refine wpAny_ite ?_
      rw [if_pos (by decide)]
      refine wpAny_bind (wpAny_rule (wpAny_pure ?_))
      have := h u s.toks
      simpa using this
  · refine wpAny_bind ?_
    rw [Std.Legacy.Range.forIn_eq_forIn_range']
    refine wpAny_forIn_list _
      (fun rest (st : Array (Array UInt8) × List (Value × Option Value)) s' => s' = s ∧ ∃ i, rest = List.range' i (bs.length - i) ∧ i ≤ bs.length ∧ st.1 = ((bs.take i).map List.toArray).toArray ∧ st.2 = (vs.take i).map fun v => (v, none)) _ ?_ ?_ _ _
      ⟨rfl, 0, by simp [hb.length], Nat.zero_le _, rfl, rfl⟩
    · rintro x rest ⟨parts, taken⟩ s' ⟨rfl, i, hr, hi, h1, h2⟩
      dsimp only at h1 h2
      subst h1 h2
      have hlt : i < bs.length := by
        refine Nat.lt_of_not_le fun hge => ?_
        rw [show bs.length - i = 0 by omega] at hr
        simp at hr
      have hsz : bs.length - i = (bs.length - (i + 1)) + 1 := by omega
      rw [hsz, List.range'_succ] at hr
      obtain ⟨rfl, rfl⟩ := List.cons.inj hr
      obtain ⟨b, u, e1, e2⟩ := at_bytes hb hlt
      have eg : vs.toArray.getD x .none = .bytes b.toArray u := by simp [e1]
      refine wpAny_bind (wpAny_seqItems ho hd ?_)
      refine wpAny_ite ?_
      rw [if_neg (by dsimp only; rw [none_onHeap (hb.take x)]; decide)]
      refine wpAny_bind (wpAny_holding ?_)
      rw [eg]
      refine wpAny_of_eq taken_eq ?_
      refine wpAny_bind (wpAny_seqItems ho hd ?_)
      refine wpAny_ite ?_
      rw [if_neg (by simp)]
      refine wpAny_pure ⟨rfl, x + 1, rfl, hlt, ?_, ?_⟩
      · rw [List.take_add_one, e2]; simp
      · rw [List.take_add_one, e1]; simp
    · rintro ⟨parts, taken⟩ s' ⟨rfl, i, hr, hi, h1, h2⟩
      dsimp only at h1 h2
      subst h1 h2
      have hie : i = bs.length := by
        cases hq : bs.length - i with
        | zero => omega
        | succ q => rw [hq, List.range'_succ] at hr; cases hr
      subst hie
      have hlv := hb.length
      rw [List.take_length, List.take_of_length_le (by omega)]
      dsimp only
      refine wpAny_bind (wpAny_of_eq (a := #[]) rfl ?_)
      refine wpAny_ite ?_
      rw [if_neg (by
        rw [List.foldl_toArray, foldSize, KBy.tooLong_not (by simp only [Array.size_empty, Nat.zero_mul, Nat.zero_add]; omega)]
        exact Bool.false_ne_true)]
      have ej : Bytes.joined #[] (bs.map List.toArray) = bs.flatten.toArray := by
        have := joined_flat bs 0 []
        simpa [Bytes.joined] using this
      refine wpAny_bind ?_
      show wpAny _ _ (mkBytes (Bytes.joined #[] (bs.map List.toArray))) _ _ _
      rw [ej]
      refine wpAny_mkBytes ?_ (by rw [sizeLine_eq, List.size_toArray]; omega)
      refine wpAny_bind (wpAny_holding (wpAny_point ?_))
      exact wpAny_bind (joinLetGo_any (wpAny_pure (h _ _)) _ _)
theorem call_join {a : Addr} {vs : List Value} {bs : List (List UInt8)} {t : Tok} {Q : Value → Shared → Prop} (hl : s.heap.IsList a vs.toArray) (hb : BytesAre vs bs) (hz : bs.flatten.length ≤ 10000)
    (h : ∀ t' k, Q (.bytes bs.flatten.toArray t') { s with toks := k }) : wpAny (model prog w) A (call (.builtin "bytes.join") [.bytes #[] t, .ref a]) Q E s :=
  wpAny_call (codeAny_call_builtin slot_bytes_join.plain entry_bytes_join (slot_bytes_join.check _ _ _ _ _ _ _ _ (typeIs_bytes _ _ _) (args_bytes_join _ _) (join_body hl hb hz h)))
theorem join_method {b : Array UInt8} {t : Tok} {pl : Sem Bool} {Q : Value × List Value → Shared → Prop} (h : Q (.builtin "bytes.join", [.bytes b t]) s) : wpAny (model prog w) A (getMethod (.bytes b t) "join" pl) Q E s :=
  getMethod_builtin (typeIs_bytes _ _ _) FB.plainAttrs_bytes slot_bytes_join type_bytes_join (fun _ e => nomatch e) h
end
end FJ

-- plain
section
open Sem (wp)
/-- The names of the builtins that `bytearray`'s methods look for on the stack. -/
noncomputable def badIds : List String :=
  ["bytearray.__contains__", "bytearray.__mod__", "bytearray.__rmod__", "_struct.pack_into.held", "bytearray.find.held"] ++ Builtin.Bytes.decodersThatHold
noncomputable def okCode (c : Code) : Bool := match c with
  | .builtin id _ => !badIds.contains id
  | _ => true
noncomputable def Clean (Γ : Ctx) : Prop := okCode Γ.code = true ∧ ∀ x ∈ Γ.below, okCode x.1 = true
/-- `wpAny` for clean contexts alone, and with no error. -/
noncomputable def wpC {α : Type} (M : Model) (A : Around) (t : Sem α) (Q : α → Shared → Prop) (s : Shared) : Prop :=
  ∀ Γ p, Γ.In A → Clean Γ → wp M Γ t (fun a _ s' => Q a s') (fun _ _ _ => False) p s
noncomputable def backC (R : Flow → Shared → Prop) : Result → Shared → Prop
  | .ok f, s => R f s
  | .error _, _ => False
noncomputable def codeC (M : Model) (A : Around) (c : Code) (R : Flow → Shared → Prop) (s : Shared) : Prop :=
  ∀ Γ p, Γ.code = c → Γ.Below A → Clean Γ → wpCode M Γ (backC R) p s
/-- what a call gives back: a value. -/
noncomputable def vC (Q : Value → Shared → Prop) : Flow → Shared → Prop
  | .ret v, s => Q v s
  | _, _ => False
noncomputable abbrev noE : Value → Shared → Prop := fun _ _ => False

variable {α β : Type} {M : Model} {A : Around} {s : Shared}

theorem wpC_of_any {t : Sem α} {Q : α → Shared → Prop} (h : wpAny M A t Q noE s) : wpC M A t Q s := fun Γ p hΓ _ => h Γ p hΓ
theorem wpC_mono {t : Sem α} {Q Q' : α → Shared → Prop} (h : wpC M A t Q s) (hQ : ∀ a s, Q a s → Q' a s) : wpC M A t Q' s :=
  fun Γ p hΓ hc => Sem.wp_mono M Γ t (fun a _ s => hQ a s) (fun _ _ _ h' => h') p s (h Γ p hΓ hc)
theorem wpC_pure {a : α} {Q : α → Shared → Prop} (h : Q a s) : wpC M A (pure a) Q s := fun _ _ _ _ => h
theorem wpC_bind {m : Sem α} {f : α → Sem β} {Q : β → Shared → Prop} (h : wpC M A m (fun a s' => wpC M A (f a) Q s') s) :
    wpC M A (m >>= f) Q s := fun Γ p hΓ hc => by
  rw [Sem.wp_bind']
  exact Sem.wp_mono M Γ m (fun a p' s' h' => h' Γ p' hΓ hc) (fun _ _ _ h' => h') p s (h Γ p hΓ hc)
/-- a leaf in the library's logic, the rest in the clean one. -/
theorem wpC_then {m : Sem α} {f : α → Sem β} {Q : β → Shared → Prop} (h : wpAny M A m (fun a s' => wpC M A (f a) Q s') noE s) :
    wpC M A (m >>= f) Q s := wpC_bind (wpC_of_any h)
theorem wpC_onRaise {m : Sem α} {k : Value → Sem Unit} {Q : α → Shared → Prop} (h : wpC M A m Q s) : wpC M A (m.onRaise k) Q s := fun Γ p hΓ hc => by
  rw [Sem.wp_onRaise]
  exact Sem.wp_mono M Γ m (fun _ _ _ h' => h') (fun _ _ _ h' => h'.elim) p s (h Γ p hΓ hc)
theorem wpC_holding {vs : List Value} {m : Sem α} {Q : α → Shared → Prop} (h : wpC M A m Q s) : wpC M A (holding vs m) Q s :=
  fun Γ p hΓ hc => by rw [Sem.wp_holding]; exact h Γ p hΓ hc
theorem wpC_operate {vs : List Value} {m : Sem Value} {Q : Value → Shared → Prop} (h : wpC M A m Q s) : wpC M A (operate vs m) Q s :=
  fun Γ p hΓ hc => by rw [Sem.wp_operate]; exact h Γ p hΓ hc
theorem wpC_standAt {pos : Pos} {Q : Unit → Shared → Prop} (h : Q () s) : wpC M A (standAt pos) Q s := fun _ _ _ _ => h
theorem wpC_point {Q : Unit → Shared → Prop} (h : Q () s) : wpC M A point Q s := fun _ _ _ _ => h
theorem wpC_of_eq {t : Sem α} {a : α} {Q : α → Shared → Prop} (h : t = pure a) (hQ : Q a s) : wpC M A t Q s := h ▸ wpC_pure hQ
theorem wpC_of_eq' {t t' : Sem α} {Q : α → Shared → Prop} (e : t = t') (h : wpC M A t' Q s) : wpC M A t Q s := e ▸ h
theorem wpC_stack {Q : List (Code × Pos) → Shared → Prop} (h : ∀ st : List (Code × Pos), (∀ x ∈ st, okCode x.1 = true) → Q st s) : wpC M A stack Q s :=
  fun Γ p _ hc => by
    show Q ((Γ.code, p) :: Γ.below) s
    refine h _ fun x hx => ?_
    rcases List.mem_cons.mp hx with rfl | hx
    · exact hc.1
    · exact hc.2 x hx

theorem Clean.enter {Γ : Ctx} (hc : Clean Γ) {c : Code} (h : okCode c = true) (hd : Option Value) (p : Pos) : Clean (Γ.enter c hd p) := by
  refine ⟨h, fun x hx => ?_⟩
  rcases List.mem_cons.mp (hx : x ∈ (Γ.code, p) :: Γ.below) with rfl | hx
  · exact hc.1
  · exact hc.2 x hx

theorem codeC_mono {c : Code} {R R' : Flow → Shared → Prop} (h : codeC M A c R s) (hR : ∀ f s, R f s → R' f s) : codeC M A c R' s :=
  fun Γ p hc hΓ hk => wpCode_mono (fun r s hr => by cases r with | ok f => exact hR f s hr | error e => exact hr) (h Γ p hc hΓ hk)
theorem codeC_of_any {c : Code} {R : Flow → Shared → Prop} (h : codeAny M A c (backC R) s) : codeC M A c R s := fun Γ p hc hΓ _ => h Γ p hc hΓ

theorem wpC_run {c : Code} {Q : Flow → Shared → Prop} (hc : codeC M A c Q s) (hok : okCode c = true) : wpC M A (run c none) Q s :=
  fun Γ p hΓ hk => by
    rw [Sem.wp_run]
    refine wpCode_mono (fun r s hr => ?_) (hc _ p rfl (hΓ.enter c none p (by intro x; cases x)) (hk.enter hok none p))
    cases r with
    | ok f => exact hr
    | error e => exact hr
theorem wpC_runValue {c : Code} {Q : Value → Shared → Prop} (hc : codeC M A c (vC Q) s) (hok : okCode c = true) : wpC M A (runValue c) Q s :=
  fun Γ p hΓ hk => by
    rw [Sem.wp_runValue]
    refine wpCode_mono (fun r s hr => ?_) (hc _ p rfl (hΓ.enter c none p (by intro x; cases x)) (hk.enter hok none p))
    cases r with
    | ok f => cases f <;> exact hr
    | error e => exact hr
theorem wpC_call {f : Value} {pos : List Value} {kw : List (Str × Value)} {Q : Value → Shared → Prop} (hc : codeC M A (.call f ⟨pos, kw⟩) (vC Q) s) :
    wpC M A (call f pos kw) Q s := wpC_runValue hc rfl
theorem wpC_runOwn {c : Code} {env : Env} {Q : Flow → Shared → Prop} (hc : codeC M A c Q s) (hok : okCode c = true) : wpC M A (runOwn c env none) Q s := by
  unfold runOwn
  exact wpC_onRaise (wpC_run hc hok)

/-- how a turn of a code ends: done, or on as another code. -/
noncomputable def finC (M : Model) (A : Around) (R : Flow → Shared → Prop) : Fin → Shared → Prop
  | .done f, s => R f s
  | .again c, s => c.quiet = true ∧ okCode c = true ∧ codeC M A c R s

theorem codeC_of_tree {c : Code} {R : Flow → Shared → Prop} (h : wpC M (A.under c) (M.den c) (finC M A R) s) : codeC M A c R s := fun Γ p hc hΓ hk => by
  rw [wpCode_iff_wp, hc]
  refine Sem.wp_mono M Γ _ (fun fin p' s' h' => ?_) (fun _ _ _ h' => h') p s (h Γ p (hc ▸ hΓ.in) hk)
  cases fin with
  | done f => exact h'
  | again c' => exact ⟨h'.1, h'.2.2 (Γ.goto c') p' rfl (hΓ.goto c') ⟨h'.2.1, hk.2⟩⟩

/-- a library rule that gives `codeAny` of a call out of a leaf: its end in the clean logic. -/
theorem finC_of_done {R : Flow → Shared → Prop} {f : Flow} (h : R f s) : finC M A R (.done f) s := h

theorem wpC_noted {env : Env} {m : Sem α} {Q : α → Shared → Prop} (h : wpC M A m Q s) : wpC M A (m.onRaise fun x => do noteFrame x env; theTreesLotGoes x) Q s := wpC_onRaise h
end

section
variable {prog : Program} {w : World} {A : Around} {s : Shared} {env : Env}
open Sem (wp)

theorem wpC_execs_nil {Q : Flow → Shared → Prop} (h : Q .next s) : wpC (model prog w) A (execs [] env) Q s := fun _ _ _ _ => h
theorem wpC_execs_cons {st rest} {Q : Flow → Shared → Prop}
    (h : wpC (model prog w) A (exec st env) (fun f s' => match f with | .next => wpC (model prog w) A (execs rest env) Q s' | f => Q f s') s) :
    wpC (model prog w) A (execs (st :: rest) env) Q s := by
  rw [execs_cons]
  refine wpC_bind (wpC_mono h fun f s' h' => ?_)
  cases f <;> first | exact h' | exact wpC_pure h'
theorem wpC_If {test body orelse pos} {Q : Flow → Shared → Prop}
    (h : wpC (model prog w) A (isTrue test env (eval test env)) (fun b s₂ => if b then wpC (model prog w) A (execs body env) Q s₂ else wpC (model prog w) A (execs orelse env) Q s₂) s) :
    wpC (model prog w) A (exec (.If test body orelse pos) env) Q s := by
  rw [exec_If]
  refine wpC_bind (wpC_standAt (wpC_bind (wpC_mono h fun b s' h' => ?_)))
  cases b <;> exact h'
theorem wpC_Return_some {e pos} {Q : Flow → Shared → Prop} (h : wpC (model prog w) A (eval e env) (fun v => Q (.ret v)) s) :
    wpC (model prog w) A (exec (.Return (some e) pos) env) Q s := by
  rw [exec_Return_some]
  exact wpC_bind (wpC_standAt (wpC_bind (wpC_mono h fun v s' h' => wpC_pure h')))
theorem wpC_Assign_Name {x pos' value pos} {Q : Flow → Shared → Prop}
    (h : wpC (model prog w) A (eval value env) (fun v s₁ => wpAny (model prog w) A (storeName env x v) (fun _ => Q .next) noE s₁) s)
    (hs : swapsWith value (some (.Name x pos')) pos.line env = pure false := by rfl) :
    wpC (model prog w) A (exec (.Assign [.Name x pos'] value pos) env) Q s := by
  rw [exec_Assign_Name env x pos' value pos hs]
  refine wpC_bind (wpC_standAt (wpC_bind (wpC_mono h fun v s' h' => wpC_bind (wpC_standAt (wpC_bind (wpC_of_any (wpAny_bindName ?_)))))))
  exact wpAny_mono h' (fun _ _ q => wpC_pure q) fun _ _ q => q
theorem wpC_Expr {e pos} {Q : Flow → Shared → Prop} (h : wpC (model prog w) A (eval e env) (fun v s' => v = .none ∧ Q .next s') s)
    (hi : interactive env = false := by rfl) (hs : swapsWith e none pos.line env = pure false := by rfl) :
    wpC (model prog w) A (exec (.Expr e pos) env) Q s := by
  rw [exec_Expr env e pos hi hs]
  refine wpC_bind (wpC_standAt (wpC_bind (wpC_mono h fun v s' h' => ?_)))
  obtain ⟨rfl, h'⟩ := h'
  rw [dropValue_plain (by intro a q; cases q)]
  exact wpC_pure h'
theorem wpC_IfExp {test body orelse : Expr} {pos : Pos} {Q : Value → Shared → Prop}
    (h : wpC (model prog w) A (isTrue test env (eval test env)) (fun b s₁ => if b then wpC (model prog w) A (eval body env) Q s₁ else wpC (model prog w) A (eval orelse env) Q s₁) s) :
    wpC (model prog w) A (eval (.IfExp test body orelse pos) env) Q s := by
  rw [arm_eval_IfExp]
  refine wpC_bind (wpC_mono h fun b s₁ h₁ => ?_)
  cases b <;> exact h₁
theorem wpC_Or2 {x y : Expr} {pos : Pos} {Q : Value → Shared → Prop}
    (h : wpC (model prog w) A (eval x env) (fun v s₁ => wpC (model prog w) A (truthy v) (fun t s₂ => if t then Q v s₂ else wpC (model prog w) A (eval y env) Q s₂) s₁) s) :
    wpC (model prog w) A (eval (.BoolOp .Or [x, y] pos) env) Q s := by
  show wpC (model prog w) A (do
    let v ← eval x env
    standAt pos
    let t ← holding [v] (truthy v)
    match BoolOp.Or, t with
    | .And, false | .Or, true => pure v
    | _, _ => boolOp pos .Or [eval y env]) Q s
  refine wpC_bind (wpC_mono h fun v s₁ h₁ => wpC_bind (wpC_standAt (wpC_bind (wpC_holding (wpC_mono h₁ fun t s₂ h₂ => ?_)))))
  cases t with
  | true => exact wpC_pure h₂
  | false => exact h₂
theorem wpC_And2 {x y : Expr} {pos : Pos} {Q : Value → Shared → Prop}
    (h : wpC (model prog w) A (eval x env) (fun v s₁ => wpC (model prog w) A (truthy v) (fun t s₂ => if t then wpC (model prog w) A (eval y env) Q s₂ else Q v s₂) s₁) s) :
    wpC (model prog w) A (eval (.BoolOp .And [x, y] pos) env) Q s := by
  show wpC (model prog w) A (do
    let v ← eval x env
    standAt pos
    let t ← holding [v] (truthy v)
    match BoolOp.And, t with
    | .And, false | .Or, true => pure v
    | _, _ => boolOp pos .And [eval y env]) Q s
  refine wpC_bind (wpC_mono h fun v s₁ h₁ => wpC_bind (wpC_standAt (wpC_bind (wpC_holding (wpC_mono h₁ fun t s₂ h₂ => ?_)))))
  cases t with
  | false => exact wpC_pure h₂
  | true => exact h₂
theorem wpC_isTrue_BoolOp {op : BoolOp} {values : List Expr} {pos : Pos} {whole : Sem Value} {Q : Bool → Shared → Prop} (h : wpC (model prog w) A (allTrue op values env) Q s) :
    wpC (model prog w) A (isTrue (.BoolOp op values pos) env whole) Q s := by rw [arm_isTrue_BoolOp]; exact h
theorem wpC_allTrue_Or_nil {Q : Bool → Shared → Prop} (h : Q false s) : wpC (model prog w) A (allTrue .Or [] env) Q s := wpC_pure h
theorem wpC_allTrue_Or_cons {x : Expr} {rest : List Expr} {Q : Bool → Shared → Prop}
    (h : wpC (model prog w) A (isTrue x env (eval x env)) (fun b s₁ => if b then Q true s₁ else wpC (model prog w) A (allTrue .Or rest env) Q s₁) s) : wpC (model prog w) A (allTrue .Or (x :: rest) env) Q s := by
  show wpC (model prog w) A (do match BoolOp.Or, ← isTrue x env (eval x env) with | .And, false => pure false | .Or, true => pure true | _, _ => allTrue .Or rest env) Q s
  refine wpC_bind (wpC_mono h fun b s₁ h₁ => ?_)
  cases b
  · exact h₁
  · exact wpC_pure h₁
theorem wpC_Compare1 {l op r pos} {Q : Value → Shared → Prop}
    (h : wpC (model prog w) A (eval l env) (fun a s₁ => wpC (model prog w) A (eval r env) (fun b s₂ => wpAny (model prog w) A (compareOp op a b) Q noE s₂) s₁) s)
    (hm : behindInMarks op r = false := by with_unfolding_all rfl) :
    wpC (model prog w) A (eval (.Compare l [op] [r] pos) env) Q s := by
  rw [eval_Compare1, markedBehindIn_of_false hm]
  exact wpC_bind (wpC_mono h fun a s₁ h₁ => wpC_bind (wpC_holding (wpC_mono h₁ fun b s₂ h₂ => wpC_bind (wpC_standAt (wpC_operate (wpC_of_any h₂))))))
theorem wpC_isTrue_Compare1 {l op r pos whole} {Q : Bool → Shared → Prop}
    (h : wpC (model prog w) A (eval l env) (fun a s₁ => wpC (model prog w) A (eval r env) (fun b s₂ => wpAny (model prog w) A (compareOp op a b) (fun c s₃ => wpAny (model prog w) A (truthy c) Q noE s₃) noE s₂) s₁) s)
    (hm : behindInMarks op r = false := by with_unfolding_all rfl) : wpC (model prog w) A (isTrue (.Compare l [op] [r] pos) env whole) Q s := by
  rw [isTrue_Compare1, markedBehindIn_of_false hm]
  exact wpC_bind (wpC_mono h fun a s₁ h₁ => wpC_bind (wpC_holding (wpC_mono h₁ fun b s₂ h₂ => wpC_bind (wpC_standAt (wpC_bind (wpC_operate (wpC_mono (wpC_of_any h₂) fun c s₃ h₃ => wpC_holding (wpC_of_any h₃))))))))
theorem wpC_For {target iter body orelse pos} {Q : Flow → Shared → Prop}
    (h : wpAny (model prog w) A (eval iter env) (fun x s₁ => wpAny (model prog w) A (pyIter x) (fun it s₂ => codeC (model prog w) A (.forLoop target it body orelse env) Q s₂) noE s₁) noE s)
    (hs : ∀ x, foldedSetIterable iter env x = pure x := by intro _; rfl) :
    wpC (model prog w) A (exec (.For target iter body orelse pos) env) Q s := by
  rw [exec_For]
  exact wpC_bind (wpC_standAt (wpC_bind (wpC_of_any (wpAny_mono h (fun x s₁ h₁ => wpC_bind (wpC_of_eq (hs x) (wpC_bind (wpC_standAt (wpC_bind (wpC_holding
    (wpC_of_any (wpAny_mono h₁ (fun it s₂ h₂ => wpC_runOwn h₂ rfl) fun _ _ h' => h')))))))) fun _ _ h' => h'))))
end
section
variable {α β : Type} {M : Model} {prog : Program} {w : World} {A : Around} {s : Shared} {env : Env}
theorem wpC_look {t : Sem α} {r : α} {f : α → Sem β} {Q : β → Shared → Prop} (x : Looks M s.heap t r) (q : wpC M A (f r) Q s) : wpC M A (t >>= f) Q s :=
  wpC_then (x.here q)
theorem codeC_builtin {id : String} {args : Args} {b : Builtin} {R : Flow → Shared → Prop} (hb : entryFor table id = some b)
    (h : wpC (model prog w) (A.under (.builtin id args)) (b args) (finC (model prog w) A R) s) : codeC (model prog w) A (.builtin id args) R s := by
  refine codeC_of_tree ?_
  show wpC _ _ (match entryFor table id with | some b => b args | none => unsupported ((withoutEnding? id "#data").getD id)) _ s
  rw [hb]; exact h
theorem codeC_call_builtin {id : String} {args : Args} {b : Builtin} {R : Flow → Shared → Prop} (hq : plainId id = true) (hok : okCode (.builtin id args) = true) (hb : entryFor table id = some b)
    (h : wpAny (model prog w) A.in1 (checkBuiltinCall id args) (fun _ s₁ => wpC (model prog w) A.in1 (b args) (finC (model prog w) A R) s₁) noE s) : codeC (model prog w) A (.call (.builtin id) args) R s := by
  refine codeC_of_tree ?_
  show wpC _ A.in1 (do checkBuiltinCall id args; again (.builtin id args)) _ s
  refine wpC_then (wpAny_mono h (fun _ s₁ h₁ => wpC_pure ⟨plainId_quiet hq args, hok, codeC_builtin hb ?_⟩) fun _ _ x => x)
  rw [Around.under_plainId hq args]; exact h₁

/-- the call of `__init__` on an object just made. -/
theorem wpC_init {obj init : Value} {rest : List Value} {kw : List (Str × Value)} {Q : Shared → Prop} (hl : Looks M s.heap (specialOf obj "__init__") (some init)) (hb : Looks M s.heap (bindSpecial init obj) (init, [obj]))
    (hq : codeC M A (.call init ⟨obj :: rest, kw⟩) (vC fun v s' => v = .none ∧ Q s') s) : wpC M A (callSpecial? obj "__init__" rest kw) (fun r s' => r = some .none ∧ Q s') s := by
  unfold callSpecial?
  exact wpC_look hl (wpC_holding (wpC_look hb (wpC_bind (wpC_call (codeC_mono hq fun f s' h => by cases f <;> first | exact wpC_pure ⟨congrArg some h.1, h.2⟩ | exact h)))))
end

-- plain
namespace FA
set_option maxRecDepth 100000
open Builtin
theorem mro_ba : mroOf (.type "bytearray") = pure [.type "bytearray", .type "object"] := by rw [mroOf_type]; kernel_rfl
theorem look_new : typeLookup (.type "bytearray") "__new__" = pure (some (.builtin "bytearray.__new__")) := by rw [typeLookup_type, builtinLookup_eq_fast]; kernel_rfl
theorem slot_init : Slot "bytearray" "__init__" "bytearray.__init__" :=
  .of (owner := "bytearray") (n := "__init__") (by rw [typeLookup_type, builtinLookup_eq_fast]; kernel_rfl) (by decide +kernel) (by decide +kernel) (by decide +kernel)
    (by first | exact .inl (by decide +kernel) | exact .inr (by decide +kernel)) (by rw [isSubtype_type]; kernel_rfl)
theorem called_ba : TypeCalled "bytearray" "bytearray.__new__" "bytearray.__init__" :=
  ⟨by decide +kernel, by decide +kernel, ⟨_, _, mro_ba⟩, madeBy_type mro_ba look_new (by decide +kernel), by decide +kernel, by rw [isSubtype_type]; kernel_rfl, slot_init⟩
theorem typeCall_ba : checkTypeCall "bytearray" ⟨[], []⟩ = pure () := by kernel_rfl
theorem newCall_ba : checkBuiltinCall "bytearray.__new__" ⟨[.type "bytearray"], []⟩ = pure () := by kernel_rfl
theorem en0 : fastTable "bytearray.__new__" = none := by rw [fastTable_eq_tree]; kernel_rfl
theorem en1 : fastTable "list.__new__" = some Builtin.«list.__new__» := by rw [fastTable_eq_tree]; kernel_rfl
theorem en2 : ("bytearray.__new__" : String).cutAt '#' = ["bytearray.__new__"] := by kernel_rfl
theorem en3 : (("bytearray.__new__" : String).map fun c => if c.isAlphanum || c == '_' || c == '.' then c else '_') = "bytearray.__new__" := by kernel_rfl
theorem en4 : Manifest.canonical "bytearray.__new__" = "list.__new__" := by rw [PySem.W.Fast.canonicalQ_eq]; kernel_rfl
theorem en5 : fastTable (Manifest.canonical "bytearray.__new__" ++ "") = some Builtin.«list.__new__» := by rw [en4]; exact en1
theorem look_gen {id : String} {b : Builtin} (h0 : fastTable id = none) (h2 : id.cutAt '#' = [id]) (h3 : (id.map fun c => if c.isAlphanum || c == '_' || c == '.' then c else '_') = id) (h1 : fastTable (Manifest.canonical id ++ "") = some b) : entryFor table id = some b := by
  unfold entryFor
  rw [table_eq_fast, h0, h2]
  dsimp only
  rw [h3, h1]
theorem entry_new : entryFor table "bytearray.__new__" = some Builtin.«list.__new__» := look_gen en0 en2 en3 en5
theorem entry_init : entryFor table "bytearray.__init__" = some Builtin.«bytearray.__init__» := by first | exact entryFor_of_tree (by kernel_rfl) | exact entryFor_of_fast (by kernel_rfl)
theorem plain_new : plainId "bytearray.__new__" = true := by decide +kernel
theorem args_init (a : Value) : argsOk "bytearray.__init__" ⟨[a], []⟩ := by unfold argsOk; kernel_rfl
theorem slot_append : Slot "bytearray" "append" "bytearray.append" :=
  .of (owner := "bytearray") (n := "append") (by rw [typeLookup_type, builtinLookup_eq_fast]; kernel_rfl) (by decide +kernel) (by decide +kernel) (by decide +kernel)
    (by first | exact .inl (by decide +kernel) | exact .inr (by decide +kernel)) (by rw [isSubtype_type]; kernel_rfl)
theorem entry_append : entryFor table "bytearray.append" = some Builtin.«bytearray.append» := by first | exact entryFor_of_tree (by kernel_rfl) | exact entryFor_of_fast (by kernel_rfl)
theorem type_append : typeOf (.builtin "bytearray.append") = pure (.type "method_descriptor") := by show builtinType _ = _; rw [builtinType_eq_fast]; kernel_rfl
theorem args_append (a b : Value) : argsOk "bytearray.append" ⟨[a, b], []⟩ := by unfold argsOk; kernel_rfl
theorem look_release : typeLookup (.type "bytearray") "__release_buffer__" = pure (some (.builtin "bytearray.__release_buffer__")) := by rw [typeLookup_type, builtinLookup_eq_fast]; kernel_rfl
theorem bind_ba : Builtin.Bytes.bindOptional "bytearray.__init__" "bytearray" ["source", "encoding", "errors"] [] [] = pure [none, none, none] := by kernel_rfl
theorem drop_release : "bytearray.__release_buffer__".dropRight ("__release_buffer__".length + 1) = "bytearray" := by decide +kernel
theorem ends_release : ("bytearray.__release_buffer__".endsWith ("." ++ "__release_buffer__")) = true := by decide +kernel
theorem plain_ba : PlainAttrs "bytearray" :=
  ⟨⟨"bytearray.__getattribute__", by rw [typeLookup_type, builtinLookup_eq_fast]; kernel_rfl, by rw [PySem.W.Fast.canonicalQ_eq]; kernel_rfl⟩, by rw [typeLookup_type, builtinLookup_eq_fast]; kernel_rfl⟩
set_option maxRecDepth 1000000 in
set_option maxHeartbeats 4000000 in
theorem owner_new : ("bytearray.__new__".splitOn ".__new__").headD "" = "bytearray" := by simp +decide [String.splitOn, String.splitOnAux]

end FA

-- plain
namespace FA
set_option maxRecDepth 100000
open Builtin
noncomputable abbrev baObj (b : List UInt8) : Obj := { cls := .type "bytearray", data := .bytearray b.toArray }
section
variable {prog : Program} {w : World} {A : Around} {s : Shared}
theorem code_new {Q : Value → Shared → Prop} (h : Q (.ref s.heap.objs.size) { s with heap := s.heap.push (baObj []) }) :
    codeAny (model prog w) A (.call (.builtin "bytearray.__new__") ⟨[.type "bytearray"], []⟩) (backC (vC Q)) s := by
  refine codeAny_of_tree ?_
  show wpAny _ A.in1 (do checkBuiltinCall "bytearray.__new__" ⟨[.type "bytearray"], []⟩; again (.builtin "bytearray.__new__" ⟨[.type "bytearray"], []⟩)) _ _ s
  refine wpAny_bind (wpAny_of_eq newCall_ba (wpAny_pure ⟨plainId_quiet plain_new _, codeAny_builtin_stack entry_new rfl fun p st => ?_⟩))
  rw [Around.under_plainId plain_new _]
  have hsub := PySem.F.sub_bytearray_bytearray
  have hown := owner_new
  obtain ⟨hp, g, d, tk, os⟩ := s
  simp only [hown]
  wp_walk
  exact h
theorem call_ba {Q : Value → Shared → Prop}
    (h : codeC (model prog w) A.in1 (.call (.builtin "bytearray.__init__") ⟨[.ref s.heap.objs.size], []⟩) (vC fun v s' => v = .none ∧ Q (.ref s.heap.objs.size) s') { s with heap := s.heap.push (baObj []) }) :
    wpC (model prog w) A (call (.type "bytearray") []) Q s := by
  refine wpC_call (codeC_of_tree ?_)
  show wpC _ _ (callAny (.type "bytearray") _) _ _
  refine wpC_pure ⟨Code.quiet_builtin _ (by decide +kernel), rfl, codeC_builtin F.entry_type_call ?_⟩
  rw [Around.under_plain (weight_type_call_type "bytearray" [] []) rfl]
  unfold Builtin.«type.__call__»
  have h1 := called_ba.notType
  have h2 := called_ba.canCreate
  dsimp only
  rw [if_neg (by rw [h1]; exact Bool.false_ne_true)]
  refine wpC_of_eq' (if_neg (by rw [h2]; exact Bool.false_ne_true)) ?_
  refine wpC_bind (wpC_of_eq typeCall_ba ?_)
  refine wpC_bind (wpC_of_eq mro_ba ?_)
  refine wpC_of_eq' (if_neg (by exact Bool.false_ne_true)) ?_
  refine wpC_bind (wpC_of_eq called_ba.made ?_)
  dsimp only
  refine wpC_bind (wpC_of_eq (a := Value.builtin "bytearray.__new__") rfl ?_)
  refine wpC_bind (wpC_holding (wpC_call (codeC_of_any (code_new ?_))))
  have hx : (s.heap.push (baObj [])).get? s.heap.objs.size = some (baObj []) := Heap.get?_push_size _ rfl
  have hT : Looks (model prog w) (s.heap.push (baObj [])) (typeOf (.ref s.heap.objs.size)) (.type "bytearray") := (Looks.ld hx).andThen .now
  refine wpC_look (hT.andThen (Looks.of_pure PySem.F.sub_bytearray_bytearray)) (wpC_bind (wpC_holding (wpC_mono (wpC_init (hT.andThen (Looks.of_pure slot_init.lookup)) (Looks.of_pure (slot_init.bind _)) h) fun r s' h' => ?_)))
  obtain ⟨rfl, h'⟩ := h'
  exact wpC_pure h'
theorem okc {nm : String} {args : Args} (h : okCode (.builtin nm args) = true) : badIds.contains nm = false := by simpa [okCode] using h
theorem exported_c {M : Model} {self : Value} {Q : Bool → Shared → Prop} (h : Q false s) : wpC M A (Bytes.exported self) Q s := by
  unfold Bytes.exported
  refine wpC_bind (wpC_stack fun st hst => wpC_pure ?_)
  rw [List.any_eq_false.mpr fun x hx => ?_]
  · exact h
  · have hk := hst x hx
    obtain ⟨c, p⟩ := x
    delta PySem.Builtin.Bytes.exported.match_1
    cases c with
    | builtin nm args =>
      have hb := okc hk
      have ne : ∀ y, badIds.contains y = true → ¬ nm = y := fun y hy e => by rw [e, hy] at hb; cases hb
      have h2 : Bytes.decodersThatHold.contains nm = false := by
        unfold badIds at hb
        rw [List.contains_append] at hb
        exact (Bool.or_eq_false_iff.mp hb).2
      show ¬ (dite _ _ _) = true
      rw [dif_neg (ne _ (by decide)), dif_neg (ne _ (by decide)), dif_neg (ne _ (by decide)), dif_neg (ne _ (by decide)), dif_neg (ne _ (by decide))]
      obtain ⟨_ | ⟨v, r⟩, kw⟩ := args
      · exact Bool.false_ne_true
      · show ¬ (_ && Bytes.decodersThatHold.contains nm) = true
        rw [h2, Bool.and_false]
        exact Bool.false_ne_true
    | _ => exact Bool.false_ne_true
theorem init_ba {X : Addr} {l : List UInt8} {Q : Value → Shared → Prop} (hx : s.heap.get? X = some (baObj l))
    (h : ∀ h', h'.get? X = some (baObj []) → Heap.SameBut X s.heap h' → Q .none { s with heap := h' }) :
    codeC (model prog w) A (.call (.builtin "bytearray.__init__") ⟨[.ref X], []⟩) (vC Q) s := by
  have hT : Looks (model prog w) s.heap (typeOf (.ref X)) (.type "bytearray") := (Looks.ld hx).andThen .now
  have hTI : s.TypeIs (.ref X) "bytearray" := ⟨_, hx, rfl⟩
  refine codeC_call_builtin slot_init.plain rfl entry_init (slot_init.check _ _ _ _ _ _ _ _ hTI (args_init _) ?_)
  unfold Builtin.«bytearray.__init__»
  have hrel : Looks (model prog w) s.heap (Bytes.ownRelease (.ref X)) false := by
    unfold Bytes.ownRelease Bytes.slotIsOwn
    have hs : Looks (model prog w) s.heap (specialOf (.ref X) "__release_buffer__") (some (.builtin "bytearray.__release_buffer__")) := hT.andThen (Looks.of_pure look_release)
    refine Looks.andThen (a := true) (Looks.andThen (a := some (.builtin "bytearray.__release_buffer__")) hs ?_) .now
    dsimp only
    rw [ends_release, drop_release]
    exact hT.andThen (Looks.of_pure PySem.F.sub_bytearray_bytearray)
  refine wpC_look hrel ?_
  refine wpC_of_eq' (if_neg Bool.false_ne_true) ?_
  refine wpC_bind (wpC_of_eq bind_ba ?_)
  dsimp only
  refine wpC_bind (wpC_of_eq (a := ()) rfl ?_)
  refine wpC_bind (wpC_of_eq (a := ()) rfl ?_)
  refine wpC_bind ?_
  show wpC _ _ (Bytes.exported (.ref X) >>= _) _ _
  refine wpC_bind (exported_c ?_)
  show wpC _ _ (Bytes.exportsOf (.ref X) >>= fun n => pure (decide (n > 0))) _ _
  have hex : Looks (model prog w) s.heap (Bytes.exportsOf (.ref X)) 0 := (Looks.ld (part := none) hx).andThen .now
  refine wpC_look hex (wpC_pure ?_)
  refine wpC_of_eq' (if_neg (by decide)) ?_
  have hw : wpAny (model prog w) A.in1 (updateBytearray X fun _ => #[]) (fun _ s' => Q .none s') noE s := by
    unfold updateBytearray
    refine wpAny_bind (wpAny_load hx ?_)
    refine wpAny_bind (m := update X (Obj.mapBytearray fun _ => #[])) (wpAny_update hx ?_)
    have hx' : (s.heap.update X (Obj.mapBytearray fun _ => #[])).get? X = some (baObj []) := Heap.get?_update_self _ hx rfl
    exact wpAny_lookBehind hx' rfl (h _ hx' (Heap.SameBut.update ..))
  refine wpC_then (wpAny_mono hw (fun _ s' h' => ?_) fun _ _ x => x)
  exact wpC_pure h'
end
end FA

-- plain
namespace FA
set_option maxRecDepth 100000
open Builtin
section
variable {prog : Program} {w : World} {A : Around} {s : Shared}
theorem resize_c {M : Model} {X : Addr} {l : List UInt8} {Q : Unit → Shared → Prop} (hx : s.heap.get? X = some (baObj l)) (h : Q () s) : wpC M A (Bytes.checkResize (.ref X)) Q s := by
  unfold Bytes.checkResize
  refine wpC_bind ?_
  show wpC _ _ (Bytes.exported (.ref X) >>= _) _ _
  refine wpC_bind (exported_c ?_)
  show wpC _ _ (Bytes.exportsOf (.ref X) >>= fun n => pure (decide (n > 0))) _ _
  have hex : Looks M s.heap (Bytes.exportsOf (.ref X)) 0 := (Looks.ld (part := none) hx).andThen .now
  refine wpC_look hex (wpC_pure ?_)
  exact wpC_of_eq' (if_neg (by decide)) (wpC_pure h)
theorem append_c {X : Addr} {l : List UInt8} {n : Int} {t : Tok} {Q : Value → Shared → Prop} (hx : s.heap.get? X = some (baObj l)) (h0 : 0 ≤ n) (h1 : n < 256) (hz : l.length ≤ 1000)
    (h : ∀ h', h'.get? X = some (baObj (l ++ [n.toNat.toUInt8])) → Heap.SameBut X s.heap h' → Q .none { s with heap := h' }) :
    codeC (model prog w) A (.call (.builtin "bytearray.append") ⟨[.ref X, .int n t], []⟩) (vC Q) s := by
  have hTI : s.TypeIs (.ref X) "bytearray" := ⟨_, hx, rfl⟩
  refine codeC_call_builtin slot_append.plain rfl entry_append (slot_append.check _ _ _ _ _ _ _ _ hTI (args_append _ _) ?_)
  unfold Builtin.«bytearray.append»
  refine wpC_bind (wpC_of_eq (a := (Value.ref X, Value.int n t)) rfl ?_)
  dsimp only
  have hb : wpAny (model prog w) A.in1 (Bytes.byteValue (.int n t)) (fun c s' => c = n.toNat.toUInt8 ∧ s' = s) noE s := by
    unfold Bytes.byteValue
    refine wpAny_bind (wpAny_of_eq (rfl : asIndex (.int n t) = pure n) ?_)
    refine bm_if_false (by simp only [Bool.or_eq_false_iff, decide_eq_false_iff_not]; omega) ?_
    exact wpAny_pure ⟨rfl, rfl⟩
  refine wpC_then (wpAny_mono hb (fun c s' hc => ?_) fun _ _ x => x)
  obtain ⟨rfl, rfl⟩ := hc
  refine wpC_bind (resize_c hx ?_)
  have hw : wpAny (model prog w) A.in1 (updateBytearray X (·.push n.toNat.toUInt8)) (fun _ s'' => Q .none s'') noE s' := by
    unfold updateBytearray
    refine wpAny_bind (wpAny_load hx ?_)
    refine wpAny_bind (m := update X (Obj.mapBytearray (·.push n.toNat.toUInt8))) (wpAny_update hx ?_)
    have hx' : (s'.heap.update X (Obj.mapBytearray (·.push n.toNat.toUInt8))).get? X = some (baObj (l ++ [n.toNat.toUInt8])) := by
      rw [Heap.get?_update_self _ hx rfl]
      simp [Obj.mapBytearray, baObj]
    refine wpAny_lookBehind hx' ?_ (h _ hx' (Heap.SameBut.update ..))
    show (if (l ++ [n.toNat.toUInt8]).toArray.size > sizeLine then some "bytearray:memory" else none) = none
    rw [if_neg]
    rw [sizeLine_eq]
    simp
    omega
  refine wpC_then (wpAny_mono hw (fun _ s' h' => ?_) fun _ _ x => x)
  exact wpC_pure h'
end
end FA

-- plain
section
/-- a look at the stack ahead of `t`: where it bears no code of `badIds`, `t` goes on; elsewhere `u`. -/
noncomputable def looked {α : Type} (t u : Sem α) : Sem α := .stack fun st => if st.all (fun x => okCode x.1) then t else u
theorem all_iff {Γ : Ctx} {p : Pos} : (((Γ.code, p) :: Γ.below).all fun x => okCode x.1) = true ↔ Clean Γ := by
  simp [Clean]
theorem looked_in {α : Type} {M : Model} {Γ : Ctx} {t u : Sem α} {Q E p s} (hc : Clean Γ) : Sem.wp M Γ (looked t u) Q E p s ↔ Sem.wp M Γ t Q E p s := by
  show Sem.wp M Γ (if (((Γ.code, p) :: Γ.below).all fun x => okCode x.1) = true then t else u) Q E p s ↔ _
  rw [if_pos (all_iff.mpr hc)]
theorem looked_out {α : Type} {M : Model} {Γ : Ctx} {t u : Sem α} {Q E p s} (hc : ¬ Clean Γ) : Sem.wp M Γ (looked t u) Q E p s ↔ Sem.wp M Γ u Q E p s := by
  show Sem.wp M Γ (if (((Γ.code, p) :: Γ.below).all fun x => okCode x.1) = true then t else u) Q E p s ↔ _
  rw [if_neg (fun e => hc (all_iff.mp e))]
/-- the library's logic of the call behind the look, from the clean logic of the call. -/
theorem any_looked {M : Model} {A : Around} {s : Shared} {t : Sem Value} {v : Value} {Q E : Value → Shared → Prop} (h : wpC M A t Q s) (hv : Q v s) :
    wpAny M A (looked t (pure v)) Q E s := fun Γ p hΓ => by
  by_cases hc : Clean Γ
  · exact (looked_in hc).mpr (Sem.wp_mono M Γ t (fun _ _ _ x => x) (fun _ _ _ x => x.elim) p s (h Γ p hΓ hc))
  · exact (looked_out hc).mpr hv
/-- the stub with a look of its own ahead. -/
noncomputable def stubL (name : Str) (v : Value) (vs : List Value) : Thread := { callStub name vs with cur := looked (callStub name vs).cur (pure (.done (.ret v))) }
theorem stub_any {M : Model} {name : Str} {v f : Value} {vs : List Value} {s : Shared} {mg : Str → Option Value} {Q : Fin → Shared → Prop} {E : Value → Shared → Prop}
    (hg : s.heap.Ns mainGlobals mg) (hf : mg name = some f) (h : wpAny M callerA (looked (PySem.call f vs) (pure v)) (fun x s' => Q (.done (.ret x)) s') E s) :
    wpAny M callerA (stubL name v vs).cur Q E s := fun Γ p hΓ => by
  by_cases hc : Clean Γ
  · refine (looked_in hc).mpr ?_
    show Sem.wp M Γ (nsGet mainNs name >>= _) _ _ p s
    rw [Sem.wp_bind']
    refine Sem.wp_mono M Γ _ (fun r p' s' e => ?_) (fun _ _ _ x => x) p s (wpAny_nsGet (Q := fun r s' => r = some f ∧ s' = s) hg ⟨hf, rfl⟩ Γ p hΓ)
    obtain ⟨rfl, rfl⟩ := e
    show Sem.wp M Γ (PySem.call f vs >>= _) _ _ p' s'
    rw [Sem.wp_bind']
    exact (looked_in hc).mp (h Γ p' hΓ)
  · exact (looked_out hc).mpr ((looked_out (t := PySem.call f vs) hc).mp (h Γ p hΓ))
/-- one move of the scheduler takes the look away: the caller's own stack is clean. -/
theorem look_gone {prog : Program} {w : World} {name : Str} {v : Value} {vs : List Value} {s s' : Shared} {o : Outcome} (hz : s.asleep) :
    ∀ {n : Nat}, schedN (denote table) prog w n (.single s (stubL name v vs)) = .halted o s' → ∃ m, schedN (denote table) prog w m (.single s (callStub name vs)) = .halted o s'
  | 0, h => nomatch h
  | n + 1, h => by
    have c : ([(Code.builtin "claim.caller" {}, (default : Pos))].all fun x => okCode x.1) = true := by decide
    have e : step (denote table) prog w s (stubL name v vs) = .go s (callStub name vs) := by
      refine congrArg (fun t => Step.go s { callStub name vs with cur := t }) ?_
      exact if_pos c
    rcases sstep_single (denote table) prog w s (stubL name v vs) rfl hz with x | x
    · refine ⟨n, ?_⟩
      rw [schedN, x, e] at h
      exact h
    · rw [e] at x; cases x
/-- a row from the library's word on the stub with the look. -/
theorem holds_of {r : OpenRow} {v : Value} (k1 : r.wellSaid = true) (hw : r.toRowW.promised) (H : r.toRowW.claim.HoldsOpenBy (stubL r.name v) (if r.pinned then [r.name] else []) r.keeps r.writes) : r.Holds := by
  refine ⟨k1, hw, H.1, H.2.1, fun w => ⟨(H.2.2 w).1, fun s hs => ?_⟩⟩
  obtain ⟨s₀, f, g, s₁, T, a, b, d, call⟩ := (H.2.2 w).2 s hs
  refine ⟨s₀, f, g, s₁, T, a, b, d, fun args p l ord ho => ?_⟩
  obtain ⟨vs, s₂, hl, n, o, s', run, rest⟩ := call args p l ord ho
  have hz : s₂.asleep := Shared.asleep_of_life ((layAllW_rest _ _ _ hl).2.2.2.trans (T.2.1.trans (fence_lifeW f))) (AfterImport.life hs)
  obtain ⟨m, hm⟩ := look_gone hz run
  exact ⟨vs, s₂, hl, m, o, s', hm, rest⟩
theorem one_pinned {b : Bool} {x n : Str} {P : Str → Prop} (hn : n ∈ if b then [x] else []) (h : P x) : P n := by
  cases b
  · exact nomatch hn
  · exact List.mem_singleton.mp hn ▸ h
theorem split3 {D V L W P : Prop} (f : D → V → L → W → P) (d : D) (v : V) (h : L ∧ W) : P := f d v h.1 h.2
theorem at7 {α β γ δ ε ζ η : Type} {P : α → β → γ → δ → ε → ζ → η → Prop} {R : Prop} (h : ∃ a b c d e f g, P a b c d e f g) (k : ∀ a b c d e f g, P a b c d e f g → R) : R :=
  let ⟨a, b, c, d, e, f, g, x⟩ := h; k a b c d e f g x
/-- a law's answer where the look goes astray. -/
theorem says_true {c : ClaimW} {cl : Str → Option Addr} {mean : ExcName → Option Value} {args : List WData} {s : Shared} (hg : s.gens = #[]) (hn : ∀ cls, c.raises args cls = false)
    (hp : c.post args (.bool true) args = true) : GoodWG c cl mean args s (.ok (.ret (.bool true))) s :=
  ⟨.inl ⟨_, _, [], rfl, hn, .bool true, hp, unshared_nil⟩, .refl _, rfl, .of_eq hg⟩
end

-- plain
section
variable {prog : Program} {w : World} {A : Around} {s : Shared}
theorem codeC_func {body : List Stmt} {env : Env} {R : Flow → Shared → Prop}
    (h : wpC (model prog w) (A.deeper env) (execs body env) (fun f s' => R (.ret (match f with | .ret v => v | _ => .none)) s') s) : codeC (model prog w) A (.func body env) R s := by
  refine codeC_of_tree ?_
  show wpC _ (A.deeper env) (do point; match ← (execs body env).onRaise (leaving env) with | .ret v => ret v | _ => ret .none) _ s
  refine wpC_bind (wpC_point (wpC_bind (wpC_onRaise (wpC_mono h fun f s' h' => ?_))))
  cases f <;> exact wpC_pure h'
theorem codeC_call_fn {R : Flow → Shared → Prop} {a : Addr} {o : Obj} {fd : FuncData} {body : List Stmt} {args : Args} {binds : List (Str × Value)}
    (hroom : A.depth < recursionLimit) (ho : s.heap.get? a = some o) (hdata : o.data = .func fd) (hlim : s.heap.NoLimit) (hcd : s.heap.CodeRec fd.code fd.qualname)
    (hbody : fd.body = .stmts body) (hbind : BindsTo s fd args binds) (hcell : ∀ x ∈ fd.scope.names, x.2 ≠ .cell) (hloc : ∀ x ∈ binds, fd.scope.names.lookup x.1 = some .local)
    (h : ∀ h₀, h₀.Ns s.heap.objs.size (fun x => binds.reverse.lookup x) → (∀ b o, s.heap.get? b = some o → h₀.get? b = some o) →
      wpC (model prog w) (A.deeper (callEnv fd s.heap.objs.size a)) (execs body (callEnv fd s.heap.objs.size a)) (fun f s' => R (.ret (match f with | .ret v => v | _ => .none)) s') { s with heap := h₀, toks := s.toks + binds.length })
    (hco : fd.scope.isCoroutine = false) (hgen : fd.scope.isGenerator = false) (hk : fd.scope.kind = .function) : codeC (model prog w) A (.call (.ref a) args) R s := by
  refine codeC_of_tree ?_
  show wpC _ A.in1 (callAny (.ref a) args) _ s
  simp only [callAny]
  refine wpC_then (wpAny_load ho ?_)
  obtain ⟨c, oc, vs, tq, hc, hoc, hdc, hq⟩ := hcd
  simp only [hdata, callFunction, hco, hgen, hbody, hc]
  refine wpC_then (m := field (.ref c) 1) (wpAny_field hoc hdc hq (wpC_bind (wpC_pure ?_)))
  refine wpC_then (hbind _ _ _ _ (wpC_then (wpAny_newFunctionEnv hcell hloc (fun h₁ hns hsb => ?_) hk)))
  refine wpC_then (wpAny_enterFrame (hlim.fresh _ hsb) hroom (wpC_pure ⟨rfl, rfl, ?_⟩))
  rw [← hc]
  exact codeC_func (h h₁ hns fun b o e => hsb.extBut b o (Nat.ne_of_lt (Heap.lt_size e)) (Heap.get?_push_of_some _ e))

variable {A₀ : Around} {base h₀ : Heap} {outer : List Env} {L : Addr} {m mg mb : Str → Option Value} {env : Env} {news : List (Addr × Obj)} {K : Frag} {p : Program} {loose : List Str} {mean : ExcName → Option Value}
  {R : Flow → Shared → Prop} {name qual : Str} {params : Arguments} {body : List Stmt} {scope : Scope} {dV kV doc pm cdv ct oc : Value} {an od : Option Addr} {osl : Array (Option Value)} {f : Addr} {args : Args} {binds : List (Str × Value)}
theorem fn_c (B : Below A₀ base outer h₀) (F : Fr h₀ L s.heap m) (X₀ : K.In h₀) (N : News h₀ L s.heap news) (T : Top p loose mean mg mb h₀) (hA : A.frames = some (env :: outer)) (hf : env.frame = some L) (hke : env.scope.kind = .function)
    (ho : K.lookup f = some ⟨oc, od, .func (fnOf name qual params body scope dV kV doc pm an cdv ct), osl⟩) (hcd : codeIn K cdv qual = true) (hroom : A.depth < recursionLimit)
    (hbind : BindsTo s (fnOf name qual params body scope dV kV doc pm an cdv ct) args binds) (hloc : ∀ y ∈ binds, scope.names.lookup y.1 = some .local)
    (h : ∀ g L' h₁, Fr h₀ L g m → Fr g L' h₁ (fun y => binds.reverse.lookup y) → News g L' h₁ news → Below A base (env :: outer) g → K.In g → Top p loose mean mg mb g →
      wpC (model prog w) (A.deeper (envOf qual scope L' f cdv)) (execs body (envOf qual scope L' f cdv))
        (fun fl s' => LeaveK h₀ L m g (backC R) (match fl with | .ret v => v | _ => .none) s') { s with heap := h₁, toks := s.toks + binds.length })
    (hco : scope.isCoroutine = false) (hgen : scope.isGenerator = false) (hk : scope.kind = .function)
    (hcell : ∀ x ∈ scope.names, x.2 ≠ .cell) : codeC (model prog w) A (.call (.ref f) args) R s := by
  obtain ⟨FG, BG, st, lv⟩ := groundX (R := backC R) B F N hA hf hke
  refine codeC_call_fn (fd := fnX name qual params body scope [] dV kV doc pm an cdv ct) (body := body) (binds := binds) hroom ((X₀.keeps F.keep) _ _ ho) rfl (T.nolimit.keeps F.keep) (codeRec_of (X₀.keeps F.keep) hcd) rfl hbind hcell hloc (fun h₁ hns hk₁ => ?_) hco hgen hk
  exact wpC_mono (h _ s.heap.objs.size h₁ FG ⟨hns, fun b o e => hk₁ b o (of_hideAll _ e), Nat.le_of_eq (hideAll_size _ _)⟩
    (fun p hp => ⟨hk₁ _ _ (N p hp).1, Nat.ne_of_lt (Heap.lt_size (N p hp).1), hideAll_none _ (List.mem_map_of_mem hp)⟩) BG (X₀.keeps st) (T.keeps st)) fun fl s' hl => lv _ _ hl
end

section
variable {M : Model} {A : Around} {s : Shared} {pos : Pos} {f : Value} {first : List Value}
theorem wpC_keep {α : Type} {vs : List Value} {m : Sem α} {Q : α → Shared → Prop} (h : wpC M A m Q s) : wpC M A (m.keep vs) Q s :=
  fun Γ p hΓ hc => by rw [Sem.wp_keep]; exact h Γ p hΓ hc
theorem spliced_nil_c {Q : List Value → Shared → Prop} (h : Q [] s) : wpC M A (spliced []) Q s := wpC_pure h
theorem spliced_cons_c {x : Sem Value} {rest : List (Bool × Sem Value)} {Q : List Value → Shared → Prop}
    (h : wpC M A x (fun v s₁ => wpC M A (spliced rest) (fun vs s₂ => Q (v :: vs) s₂) s₁) s) : wpC M A (spliced ((false, x) :: rest)) Q s := by
  rw [spliced]
  refine wpC_bind (wpC_mono h fun v s₁ h₁ => ?_)
  refine wpC_bind (wpC_of_eq (a := [v]) rfl ?_)
  exact wpC_bind (wpC_holding (wpC_mono h₁ fun vs s₂ h₂ => wpC_pure h₂))
theorem evalArgs_c {args : List (Bool × Sem Value)} {Q : Args → Shared → Prop} (hp : args.any (·.1) = false) (h : wpC M A (spliced args) (fun vs s' => Q ⟨vs, []⟩ s') s) : wpC M A (evalArgs f true args []) Q s := by
  unfold evalArgs
  match args, hp with
  | [], _ =>
    show wpC M A (spliced [] >>= _) Q s
    refine wpC_bind (wpC_mono h fun vs s' h' => ?_)
    refine wpC_bind (wpC_pure (wpC_holding ?_))
    exact wpC_bind (wpC_pure (wpC_bind (wpC_pure (wpC_pure h'))))
  | (false, x) :: rest, _ =>
    show wpC M A (spliced ((false, x) :: rest) >>= _) Q s
    refine wpC_bind (wpC_mono h fun vs s' h' => ?_)
    refine wpC_holding ?_
    exact wpC_bind (wpC_pure (wpC_bind (wpC_pure (wpC_pure h'))))
noncomputable def KeepOk (M : Model) (h : Heap) (f : Value) : Prop := ∃ k, (k = Keeper.frame ∨ k = Keeper.machine ∨ k = Keeper.boundFrame) ∧ Looks M h (keeperOf f) k
theorem keep_type {h : Heap} {T : String} : KeepOk M h (.type T) := ⟨_, .inr (.inl rfl), .now⟩
theorem keep_builtin {h : Heap} {i : String} : KeepOk M h (.builtin i) := ⟨_, .inr (.inl rfl), .now⟩
theorem keep_K {K : Frag} {h : Heap} {f : Value} (hk : keepIn K f = true) (X : K.In h) : KeepOk M h f := keeps_K hk h X
theorem keep_M {K : Frag} {q f : Addr} {self : Value} {h : Heap} (hf : fnIn K f = true) (hq : h.get? q = some (methodObj (.ref f) self)) (X : K.In h) : KeepOk M h (.ref q) := keeps_M (self := self) hf h ⟨hq, X⟩
theorem callWith_c {args : List (Bool × Sem Value)} {Q : Value → Shared → Prop} (hplain : args.any (·.1) = false)
    (h : wpC M A (spliced args) (fun vs s₁ => KeepOk M s₁.heap f ∧ wpC M A (call f (first ++ vs)) Q s₁) s) : wpC M A (callWith pos f first args []) Q s := by
  unfold callWith
  refine wpC_bind (wpC_holding (evalArgs_c hplain (wpC_mono h fun vs s₁ h₁ => wpC_bind (wpC_standAt ?_))))
  obtain ⟨k, hk', L⟩ := h₁.1
  simp only [hplain, List.any_nil, Bool.or_false]
  refine wpC_look L ?_
  have tail : ∀ {t : Sem Value}, wpC M A t Q s₁ → wpC M A (t >>= fun r => holding [r] point >>= fun _ => pure r) Q s₁ :=
    fun ht => wpC_bind (wpC_mono ht fun r s₂ hr => wpC_bind (wpC_holding (wpC_point (wpC_pure hr))))
  have marked (mk : Value) : wpC M A (callMarked mk f (first ++ vs) []) Q s₁ := by unfold callMarked; exact wpC_keep h₁.2
  rcases hk' with rfl | rfl | rfl <;> dsimp only <;> first | exact tail h₁.2 | (split <;> first | exact tail h₁.2 | exact tail (marked _))
end
section
variable {M : Model} {A : Around} {s : Shared} {env : Env}
theorem callName_c {id : Str} {p pos : Pos} {args : List Expr} {Q : Value → Shared → Prop}
    (h : wpAny M A (eval (.Name id p) env) (fun f s₁ => wpC M A (spliced (backTo pos (starEach args env))) (fun vs s₂ => KeepOk M s₂.heap f ∧ wpC M A (call f vs) Q s₂) s₁) noE s)
    (hplain : (backTo pos (starEach args env)).any (·.1) = false := by rfl) : wpC M A (eval (.Call (.Name id p) args [] pos) env) Q s := by
  show wpC M A (do callWith pos (← eval (.Name id p) env) [] (backTo pos (starEach args env)) (backToKw pos (keywordEach [] env))) Q s
  exact wpC_then (wpAny_mono h (fun f s₁ h₁ => callWith_c (first := []) hplain (by simpa using h₁)) fun _ _ x => x)
theorem callMeth_c {o : Expr} {name : Str} {apos pos : Pos} {args : List Expr} {pl : Sem Bool} {Q : Value → Shared → Prop}
    (h : wpC M A (eval o env) (fun ov s₁ => wpAny M A (getMethod ov name pl) (fun fx s₂ => wpC M A (spliced (backTo pos (starEach args env))) (fun vs s₃ => KeepOk M s₃.heap fx.1 ∧ wpC M A (call fx.1 (fx.2 ++ vs)) Q s₃) s₂) noE s₁) s)
    (he : eval (.Call (.Attribute o name apos) args [] pos) env = (do
      let ov ← eval o env
      standAt apos.atName
      let (f, first) ← holding [ov] (getMethod ov name pl)
      callWith pos f first (backTo pos (starEach args env)) []) := by rfl)
    (hplain : (backTo pos (starEach args env)).any (·.1) = false := by rfl) : wpC M A (eval (.Call (.Attribute o name apos) args [] pos) env) Q s := by
  rw [he]
  refine wpC_bind (wpC_mono h fun ov s₁ h₁ => wpC_bind (wpC_standAt (wpC_bind (wpC_holding (wpC_of_any (wpAny_mono h₁ (fun fx s₂ h₂ => ?_) fun _ _ x => x))))))
  exact callWith_c hplain h₂
theorem kB_fr {h₀ h : Heap} {L : Addr} {m : Str → Option Value} {ps : List (Str × Value)} (F : Fr h₀ L h m) (hk : ∀ p ∈ ps, m p.1 = some p.2) : Fr h₀ L h (kstB m ps) := by
  have e : kstB m ps = m := funext fun z => kstB_eq hk fun _ => rfl
  rw [e]; exact F
theorem kB_fr1 {h₀ h : Heap} {L : Addr} {m : Str → Option Value} {x : Str} {v : Value} {ps : List (Str × Value)} (F : Fr h₀ L h (fun y => if y = x then some v else m y)) (hk : ∀ p ∈ ps, m p.1 = some p.2) : Fr h₀ L h (fun y => if y = x then some v else kstB m ps y) := by
  have e : kstB m ps = m := funext fun z => kstB_eq hk fun _ => rfl
  rw [e]; exact F
theorem wpC_room {α : Type} {dp un dp' un' : Nat} {gd : Option (List Code)} {cn : Str} {cs : Scope} {L a : Addr} {ccd : Value} {cl : List (Str × Addr)} {outer : List Env} {t : Sem α} {Q : α → Shared → Prop} {s : Shared}
    (h1 : dp' ≤ dp) (h2 : un' ≤ un) (h : wpC M (ktrTop dp un gd cn cs L a ccd cl outer) t Q s) : wpC M (ktrTop dp' un' gd cn cs L a ccd cl outer) t Q s :=
  fun Γ p hΓ => h Γ p ⟨hΓ.1, Nat.le_trans hΓ.2.1 h1, hΓ.2.2.1, hΓ.2.2.2.1, Nat.le_trans hΓ.2.2.2.2 h2⟩
theorem codeC_room {dp un : Nat} {A : Around} {cn : Str} {cs : Scope} {L a : Addr} {ccd : Value} {cl : List (Str × Addr)} {outer : List Env} {c : Code} {R : Flow → Shared → Prop} {s : Shared}
    (hA : A.frames = some (envX cn cs L a ccd cl :: outer)) (hh : A.handled = none) (h1 : A.depth ≤ dp) (h2 : A.units ≤ un) (h : codeC M (ktrTop dp un A.guards cn cs L a ccd cl outer) c R s) : codeC M A c R s :=
  fun Γ p hc hΓ => h Γ p hc ⟨hΓ.1.trans hh, Nat.le_trans hΓ.2.1 h1, fun l hl => hΓ.2.2.1 l (hA.trans hl), hΓ.2.2.2.1, Nat.le_trans hΓ.2.2.2.2 h2⟩
theorem nil_kind {K K' : Type} [DecidableEq K] [DecidableEq K'] {prog : Program} {w : World} {knd : KeyKind prog w K} (knd' : KeyKind prog w K') {o : Obj} (h : o.IsDictOf knd []) : o.IsDictOf knd' [] := by
  obtain ⟨es, ep, h1, h2, h3, h4, h5⟩ := h
  have he : es.toList = [] := List.eq_nil_of_length_eq_zero (by rw [h4.length]; rfl)
  have he' : es = #[] := by simpa using he
  subst he'
  exact ⟨#[], ep, h1, h2, fun e he => by simp at he, .nil, List.nodup_nil⟩
end

-- plain
section
variable {prog : Program} {w : World} {A : Around} {K : Frag} {C : Addr} {R : Flow → Shared → Prop} {h : Heap} {g : Array GenState} {d : Drawn} {t : Nat} {os : OsState}
theorem make_c0 {rest : List Value} {fI : Addr} (Y : Makes (model prog w) h C) (hi : Looks (model prog w) h (typeLookup (.ref C) "__init__") (some (.ref fI)))
    (hb : ∀ self, Looks (model prog w) h (bindSpecial (.ref fI) self) (.ref fI, [self]))
    (hq : codeC (model prog w) (A.under (.builtin "type.__call__" ⟨.ref C :: rest, []⟩)) (.call (.ref fI) ⟨.ref (h.objs.size + 1) :: rest, []⟩) (vC fun v s' => v = .none ∧ R (.ret (.ref (h.objs.size + 1))) s') ⟨(h.push emptyDict).push (instObj C h.objs.size), g, d, t, os⟩) :
    codeC (model prog w) A (.call (.ref C) ⟨rest, []⟩) R ⟨h, g, d, t, os⟩ := by
  have Y' := Y
  obtain ⟨⟨oc, od, cd, sl, hC, e1, e2, e4⟩, made, base, self, top, call, typ⟩ := Y
  refine codeC_of_tree ?_
  show wpC _ _ (callAny (.ref C) _) _ _
  unfold callAny
  refine wpC_then (wpAny_load hC ?_)
  show wpC _ _ (callAny.viaDunder (.ref C) _) _ _
  unfold callAny.viaDunder
  refine wpC_look (s := ⟨h, g, d, t, os⟩) call ?_
  dsimp only
  rw [tc_bind]
  refine wpC_bind (wpC_pure (wpC_bind (wpC_pure ?_)))
  refine wpC_pure (a := Fin.again (.call (.builtin "type.__call__") ⟨.ref C :: rest, []⟩)) ⟨rfl, rfl, codeC_of_tree ?_⟩
  show wpC _ A.in1 (do checkBuiltinCall "type.__call__" ⟨.ref C :: rest, []⟩; again (.builtin "type.__call__" ⟨.ref C :: rest, []⟩)) _ _
  refine wpC_then (check_slot tc_kind tc_split typ (tc_args _ _ _) (wpC_pure ⟨Code.quiet_builtin _ (by decide +kernel), rfl, codeC_builtin entry_typeCall ?_⟩))
  unfold Builtin.«type.__call__»
  dsimp only
  rw [if_neg (show ¬ ((Value.ref C == Value.type "type") = true) from Bool.false_ne_true)]
  have hm : Looks (model prog w) h (mroOf (.ref C)) cd.mro := ((Looks.ld (part := none) hC).andThen .now).andThen .now
  refine wpC_look (s := ⟨h, g, d, t, os⟩) hm ?_
  refine wpC_of_eq' (if_neg (by rw [e4]; exact Bool.false_ne_true)) ?_
  refine wpC_look (s := ⟨h, g, d, t, os⟩) made ?_
  dsimp only
  refine wpC_bind (wpC_of_eq (a := Value.builtin "object.__new__") rfl ?_)
  refine wpC_bind (wpC_holding (wpC_call (codeC_of_any (new_K Y' hi (.inl rfl) ?_))))
  have k : ∀ b o, h.get? b = some o → ((h.push emptyDict).push (instObj C h.objs.size)).get? b = some o := fun b o e => Heap.get?_push_of_some _ (Heap.get?_push_of_some _ e)
  have hx : ((h.push emptyDict).push (instObj C h.objs.size)).get? (h.objs.size + 1) = some (instObj C h.objs.size) := by heap_get
  have t1 : Looks (model prog w) ((h.push emptyDict).push (instObj C h.objs.size)) (typeOf (.ref (h.objs.size + 1))) (.ref C) := (Looks.ld hx).andThen .now
  refine wpC_look (s := ⟨(h.push emptyDict).push (instObj C h.objs.size), g, d, t, os⟩) (t1.andThen (self.keeps k)) (wpC_bind (wpC_holding (wpC_mono (wpC_init (t1.andThen (hi.keeps k)) ((hb (.ref (h.objs.size + 1))).keeps k) hq) fun r s' h' => ?_)))
  obtain ⟨rfl, h'⟩ := h'
  exact wpC_pure h'
end
section
variable {prog : Program} {w : World} {A : Around} {K : Frag} {C : Addr} {s : Shared} {h₀ : Heap} {L : Addr} {m : Str → Option Value} {news : List (Addr × Obj)} {R : Flow → Shared → Prop}
theorem make_c {rest : List Value} {fI : Addr} (F : Fr h₀ L s.heap m) (N : News h₀ L s.heap news) (X : K.In h₀) (hm : makesIn K C = true)
    (hi : findIn K (.ref C) "__init__" = some (some (.ref fI))) (hf : typeIn K (.ref fI) = some (.type "function"))
    (h : ∀ x dx h', Fr h₀ L h' m → News h₀ L h' ((x, instObj C dx) :: (dx, emptyDict) :: news) → (∀ p ∈ news, p.1 < dx) → dx < x →
      codeC (model prog w) (A.under (.builtin "type.__call__" ⟨.ref C :: rest, []⟩)) (.call (.ref fI) ⟨.ref x :: rest, []⟩) (vC fun v s' => v = .none ∧ R (.ret (.ref x)) s') { s with heap := h' }) :
    codeC (model prog w) A (.call (.ref C) ⟨rest, []⟩) R s := by
  have X' := X.keeps F.keep
  obtain ⟨hh, g, d, t, os⟩ := s
  refine make_c0 (makes_of X' hm) (looks_findIn X' hi) (fun self => bind_fn X' self hf) (h _ hh.objs.size _ ((F.push _).push _) ?_ (fun p hp => Heap.lt_size (N p hp).1) (Nat.lt_succ_self _))
  have := (N.push F emptyDict).push (F.push _) (instObj C hh.objs.size)
  rwa [Heap.size_push] at this
end

-- plain
section
variable {prog : Program} {w : World} {A : Around} {s : Shared} {h₀ : Heap} {L : Addr} {m : Str → Option Value} {news : List (Addr × Obj)}
theorem bytearray_c {Q : Value → Shared → Prop} (F : Fr h₀ L s.heap m) (N : News h₀ L s.heap news)
    (h : ∀ X h', Fr h₀ L h' m → News h₀ L h' ((X, FA.baObj []) :: news) → (∀ p ∈ news, p.1 < X) → Q (.ref X) { s with heap := h' }) :
    wpC (model prog w) A (call (.type "bytearray") []) Q s := by
  refine FA.call_ba (FA.init_ba (s := { s with heap := s.heap.push (FA.baObj []) }) (l := []) (Heap.get?_push_size _ rfl) fun h' hx hs => ⟨rfl, ?_⟩)
  have N1 := N.push F (FA.baObj [])
  have hm := N1 _ (.head _)
  refine h _ _ ((F.push _).change hs hm.2.1 hm.2.2) ?_ fun p hp => Heap.lt_size (N p hp).1
  exact N1.setHead (fun p hp => Nat.ne_of_lt (Heap.lt_size (N p hp).1)) hs hx
theorem append_K {X : Addr} {l : List UInt8} {n : Int} {t : Tok} {g : Obj → List (Addr × Obj)} {Q : Value → Shared → Prop} (F : Fr h₀ L s.heap m) (N : News h₀ L s.heap news) (U : UpdF X (FA.baObj l) news g)
    (h0 : 0 ≤ n) (h1 : n < 256) (hz : l.length ≤ 1000)
    (h : ∀ h', Fr h₀ L h' m → News h₀ L h' (g (FA.baObj (l ++ [n.toNat.toUInt8]))) → Q .none { s with heap := h' }) :
    wpC (model prog w) A (call (.builtin "bytearray.append") [.ref X, .int n t]) Q s := by
  obtain ⟨pre, post, rfl, hg, a, b⟩ := U.split
  have hm := N (X, _) (List.mem_append_right _ (.head _))
  refine wpC_call (FA.append_c hm.1 h0 h1 hz fun h' ho hs => ?_)
  exact h h' (F.change hs hm.2.1 hm.2.2) (hg _ ▸ N.setIn a b hs ho)

theorem codeC_block0 {env : Env} {R : Flow → Shared → Prop} (h : R .next s) : codeC (model prog w) A (.block [] env) R s := by
  refine codeC_of_tree ?_
  show wpC _ _ (do return Fin.done (← (execs [] env).onRaise (fun x => do noteFrame x env; theTreesLotGoes x))) _ s
  exact wpC_bind (wpC_onRaise (wpC_execs_nil (wpC_pure h)))

noncomputable abbrev ritObj (i n : Nat) : Obj := { cls := .type "range_iterator", dict := none, data := .fields #[rawInt (i : Int), rawInt ((n : Int) - (i : Nat)), rawInt 1], slots := #[] }
/-- a loop over a range, in the clean logic: the ledger may change from turn to turn. -/
theorem for_c {x : Str} {px : Pos} {body : List Stmt} {env : Env} {it : Addr} {n : Nat} {R : Flow → Shared → Prop} (J : Nat → (Str → Option Value) → List (Addr × Obj) → Prop)
    (hh : A.handled = none) (hx : env.kindOf x = some .local) (hE : env.locals = L) (hke : (env.scope.kind == .class || (env.scope.kind == .module && env.locals != env.globals)) = false)
    (turn : ∀ i t m nx h tk (Qt : Flow → Shared → Prop), (∀ f h' tk' m' nx', f = .next ∨ f = .cont → Fr h₀ L h' m' → News h₀ L h' ((it, ritObj (i + 1) n) :: nx') → (∀ p ∈ nx', p.1 ≠ it) → J (i + 1) m' nx' → Qt f { s with heap := h', toks := tk' }) →
      i < n → J i m nx → (∀ p ∈ nx, p.1 ≠ it) → Fr h₀ L h (fun y => if y = x then some (.int (i : Nat) t) else m y) → News h₀ L h ((it, ritObj (i + 1) n) :: nx) →
      wpC (model prog w) A (execs body env) Qt { s with heap := h, toks := tk })
    (done : ∀ m nx h tk, J n m nx → Fr h₀ L h m → News h₀ L h nx → R .next { s with heap := h, toks := tk }) :
    ∀ (k i : Nat) (m : Str → Option Value) (nx : List (Addr × Obj)) (h : Heap) (tk : Nat), k + i = n → J i m nx → (∀ p ∈ nx, p.1 ≠ it) → Fr h₀ L h m → News h₀ L h ((it, ritObj i n) :: nx) →
      codeC (model prog w) A (.forLoop (.Name x px) (.ref it) body [] env) R { s with heap := h, toks := tk } := by
  subst hE
  intro k
  induction k with
  | zero =>
    intro i m nx h tk hk hJ hne F N
    obtain rfl : i = n := by omega
    refine codeC_of_tree ?_
    rw [Around.under_of_weight rfl rfl]
    show wpC _ _ ((forTurn _ _ body [] env).onRaise (fun x => do noteFrame x env; theTreesLotGoes x)) _ _
    refine wpC_onRaise ?_
    unfold forTurn
    refine wpC_bind (wpC_standAt (wpC_bind (wpC_onRaise (wpC_of_any ?_))))
    have hit := (N _ (.head _))
    refine wpAny_pyNext_range_end hh hit.1 (by omega) fun h' he => ?_
    refine wpC_pure ⟨rfl, rfl, codeC_block0 (done m nx h' tk hJ ?_ ?_)⟩
    · obtain ⟨oL, a1, a2, hoL, a3⟩ := F.ns
      refine ⟨⟨oL, a1, a2, he _ _ hit.2.1.symm hoL, a3⟩, fun b o e => he b o ?_ (F.keep b o e), F.above⟩
      rintro rfl
      rw [hit.2.2] at e
      cases e
    · exact fun p hp => ⟨he _ _ (hne p hp) (N p (.tail _ hp)).1, (N p (.tail _ hp)).2⟩
  | succ k ih =>
    intro i m nx h tk hk hJ hne F N
    refine codeC_of_tree ?_
    rw [Around.under_of_weight rfl rfl]
    show wpC _ _ ((forTurn _ _ body [] env).onRaise (fun x => do noteFrame x env; theTreesLotGoes x)) _ _
    refine wpC_onRaise ?_
    unfold forTurn
    refine wpC_bind (wpC_standAt (wpC_bind (wpC_onRaise (wpC_of_any ?_))))
    have hit := (N _ (.head _))
    refine wpAny_pyNext_range_item hit.1 (by omega) fun h1 hit1 hs1 => ?_
    have F1 := F.change hs1 hit.2.1 hit.2.2
    have e1 : ({ cls := .type "range_iterator", dict := none, data := .fields #[rawInt ((i : Nat) + 1 : Int), rawInt ((n : Int) - (i : Nat) - 1), rawInt 1], slots := #[] } : Obj) = ritObj (i + 1) n := by
      unfold ritObj
      rw [show (n : Int) - ((i + 1 : Nat) : Int) = (n : Int) - (i : Nat) - 1 by omega, show ((i + 1 : Nat) : Int) = (i : Int) + 1 by omega]
    have hit1 : h1.get? it = some (ritObj (i + 1) n) := e1 ▸ hit1
    have N1 : News h₀ env.locals h1 ((it, ritObj (i + 1) n) :: nx) := N.setHead hne hs1 hit1
    refine wpC_bind (wpC_of_eq (a := ()) rfl ?_)
    refine wpC_then (wpAny_assign_Name (wpAny_storeName_local hx F1.ns (fun h2 hn2 hs2 => ?_) hke))
    have F2 : Fr h₀ env.locals h2 (fun y => if y = x then some (.int (i : Nat) tk) else m y) := ⟨hn2, fun b o e => (hs2.2 b (fun q => by
      subst q
      exact absurd (Nat.lt_of_lt_of_le (Heap.lt_size e) F1.above) (Nat.lt_irrefl _))).trans (F1.keep b o e), F1.above⟩
    have N2 := N1.set hs2
    refine wpC_bind (wpC_mono (turn i tk m nx h2 _ (fun f s' => (f = .next ∨ f = .cont) ∧ ∃ h' tk' m' nx', s' = { s with heap := h', toks := tk' } ∧ Fr h₀ env.locals h' m' ∧ News h₀ env.locals h' ((it, ritObj (i + 1) n) :: nx') ∧ (∀ p ∈ nx', p.1 ≠ it) ∧ J (i + 1) m' nx')
      (fun f h' tk' m' nx' a b c d e => ⟨a, h', tk', m', nx', rfl, b, c, d, e⟩) (by omega) hJ hne F2 N2) fun f s' hf => ?_)
    obtain ⟨hf, h', tk', m', nx', rfl, F3, N3, hne3, hJ3⟩ := hf
    have fin := ih (i + 1) m' nx' h' tk' (by omega) hJ3 hne3 F3 N3
    rcases hf with rfl | rfl <;> exact wpC_pure ⟨rfl, rfl, fin⟩
end
section
variable {prog : Program} {w : World} {A : Around} {s : Shared} {h₀ : Heap} {L : Addr} {mm : Str → Option Value} {nn : List (Addr × Obj)} {env : Env}
/-- a leaf statement whose ways meet again: what stands behind it is walked once. -/
theorem leaf_mid {st : Stmt} {rest : List Stmt} {Q : Flow → Shared → Prop} (F : Fr h₀ L s.heap mm) (N : News h₀ L s.heap nn) (P : Flow → Prop)
    (leaf : ∀ Qm : Flow → Shared → Prop, (∀ f h' tk', P f → Fr h₀ L h' mm → News h₀ L h' nn → Qm f { s with heap := h', toks := tk' }) → wpAny (model prog w) A (exec st env) Qm noE s)
    (next : ∀ h' tk', P .next → Fr h₀ L h' mm → News h₀ L h' nn → wpC (model prog w) A (execs rest env) Q { s with heap := h', toks := tk' })
    (other : ∀ f h' tk', f ≠ .next → P f → Fr h₀ L h' mm → News h₀ L h' nn → Q f { s with heap := h', toks := tk' }) : wpC (model prog w) A (execs (st :: rest) env) Q s := by
  refine wpC_execs_cons (wpC_of_any (wpAny_mono (leaf (fun f s' => ∃ h' tk', s' = { s with heap := h', toks := tk' } ∧ P f ∧ Fr h₀ L h' mm ∧ News h₀ L h' nn) fun f h' tk' a b c => ⟨h', tk', rfl, a, b, c⟩) (fun f s' h => ?_) fun _ _ x => x))
  obtain ⟨h', tk', rfl, a, b, c⟩ := h
  cases f with
  | next => exact next h' tk' a b c
  | cont => exact other _ h' tk' (by intro q; cases q) a b c
  | brk => exact other _ h' tk' (by intro q; cases q) a b c
  | ret v => exact other _ h' tk' (by intro q; cases q) a b c
theorem test_mid {test : Expr} {body orelse : List Stmt} {pos : Pos} {Q : Flow → Shared → Prop} (F : Fr h₀ L s.heap mm) (N : News h₀ L s.heap nn) (b0 : Bool)
    (leaf : ∀ Qm : Bool → Shared → Prop, (∀ h' tk', Fr h₀ L h' mm → News h₀ L h' nn → Qm b0 { s with heap := h', toks := tk' }) → wpAny (model prog w) A (isTrue test env (eval test env)) Qm noE s)
    (yes : ∀ h' tk', b0 = true → Fr h₀ L h' mm → News h₀ L h' nn → wpC (model prog w) A (execs body env) Q { s with heap := h', toks := tk' })
    (no : ∀ h' tk', b0 = false → Fr h₀ L h' mm → News h₀ L h' nn → wpC (model prog w) A (execs orelse env) Q { s with heap := h', toks := tk' }) : wpC (model prog w) A (exec (.If test body orelse pos) env) Q s := by
  refine wpC_If (wpC_of_any (wpAny_mono (leaf (fun b s' => ∃ h' tk', s' = { s with heap := h', toks := tk' } ∧ b = b0 ∧ Fr h₀ L h' mm ∧ News h₀ L h' nn) fun h' tk' b c => ⟨h', tk', rfl, rfl, b, c⟩) (fun b s' h => ?_) fun _ _ x => x))
  obtain ⟨h', tk', rfl, rfl, a, c⟩ := h
  cases b with
  | true => exact yes h' tk' rfl a c
  | false => exact no h' tk' rfl a c
end
section
variable {prog : Program} {w : World} {A : Around} {s : Shared} {h₀ : Heap} {L : Addr} {env : Env} {E : Value → Shared → Prop}
/-- stops the walker behind one statement. -/
theorem seqA {st : Stmt} {rest : List Stmt} {Q : Flow → Shared → Prop} (leaf : ∀ Qm : Flow → Shared → Prop, (∀ s', wpAny (model prog w) A (execs rest env) Q E s' → Qm .next s') → wpAny (model prog w) A (exec st env) Qm E s) : wpAny (model prog w) A (execs (st :: rest) env) Q E s := by
  refine wpAny_execs_cons (wpAny_mono (leaf (fun f s' => f = .next ∧ wpAny (model prog w) A (execs rest env) Q E s') fun s' h => ⟨rfl, h⟩) (fun f s' h => ?_) fun _ _ x => x)
  obtain ⟨rfl, h⟩ := h
  exact h
/-- `leaf_mid` in the library's logic. -/
theorem leaf_midA {st : Stmt} {rest : List Stmt} {Q : Flow → Shared → Prop} {mm : Str → Option Value} {nn : List (Addr × Obj)} (_ : Fr h₀ L s.heap mm) (_ : News h₀ L s.heap nn) (P : Flow → Prop)
    (leaf : ∀ Qm : Flow → Shared → Prop, (∀ f h' tk', P f → Fr h₀ L h' mm → News h₀ L h' nn → Qm f { s with heap := h', toks := tk' }) → wpAny (model prog w) A (exec st env) Qm E s)
    (next : ∀ h' tk', P .next → Fr h₀ L h' mm → News h₀ L h' nn → wpAny (model prog w) A (execs rest env) Q E { s with heap := h', toks := tk' })
    (other : ∀ f h' tk', f ≠ .next → P f → Fr h₀ L h' mm → News h₀ L h' nn → Q f { s with heap := h', toks := tk' }) : wpAny (model prog w) A (execs (st :: rest) env) Q E s := by
  refine wpAny_execs_cons (wpAny_mono (leaf (fun f s' => ∃ h' tk', s' = { s with heap := h', toks := tk' } ∧ P f ∧ Fr h₀ L h' mm ∧ News h₀ L h' nn) fun f h' tk' a b c => ⟨h', tk', rfl, a, b, c⟩) (fun f s' h => ?_) fun _ _ x => x)
  obtain ⟨h', tk', rfl, a, b, c⟩ := h
  cases f with
  | next => exact next h' tk' a b c
  | cont => exact other _ h' tk' (by intro q; cases q) a b c
  | brk => exact other _ h' tk' (by intro q; cases q) a b c
  | ret v => exact other _ h' tk' (by intro q; cases q) a b c
theorem test_midA {test : Expr} {body orelse : List Stmt} {pos : Pos} {Q : Flow → Shared → Prop} {mm : Str → Option Value} {nn : List (Addr × Obj)} (_ : Fr h₀ L s.heap mm) (_ : News h₀ L s.heap nn) (b0 : Bool)
    (leaf : ∀ Qm : Bool → Shared → Prop, (∀ h' tk', Fr h₀ L h' mm → News h₀ L h' nn → Qm b0 { s with heap := h', toks := tk' }) → wpAny (model prog w) A (isTrue test env (eval test env)) Qm E s)
    (yes : ∀ h' tk', b0 = true → Fr h₀ L h' mm → News h₀ L h' nn → wpAny (model prog w) A (execs body env) Q E { s with heap := h', toks := tk' })
    (no : ∀ h' tk', b0 = false → Fr h₀ L h' mm → News h₀ L h' nn → wpAny (model prog w) A (execs orelse env) Q E { s with heap := h', toks := tk' }) : wpAny (model prog w) A (exec (.If test body orelse pos) env) Q E s := by
  refine wpAny_If (wpAny_mono (leaf (fun b s' => ∃ h' tk', s' = { s with heap := h', toks := tk' } ∧ b = b0 ∧ Fr h₀ L h' mm ∧ News h₀ L h' nn) fun h' tk' b c => ⟨h', tk', rfl, rfl, b, c⟩) (fun b s' h => ?_) fun _ _ x => x)
  obtain ⟨h', tk', rfl, rfl, a, c⟩ := h
  cases b with
  | true => exact yes h' tk' rfl a c
  | false => exact no h' tk' rfl a c
end

-- plain
namespace FX
set_option maxRecDepth 100000
open Builtin
theorem look_index : typeLookup (.type "bytes") "__index__" = pure none := by rw [typeLookup_type, builtinLookup_eq_fast]; kernel_rfl
theorem find_zero (l : List UInt8) : (Bytes.find? l.toArray #[0] 0 l.toArray.size).isSome = l.contains 0 := by
  unfold Bytes.find?
  rw [List.isSome_find?, Bool.eq_iff_iff]
  simp only [List.any_eq_true, List.contains_iff_mem, List.mem_map, List.mem_range]
  constructor
  · rintro ⟨i, ⟨j, hj, rfl⟩, he⟩
    have hlt : j < l.length := by simpa using hj
    have e2 := congrArg (·[0]?) (eq_of_beq he)
    simp [hlt] at e2
    exact e2 ▸ List.getElem_mem _
  · intro hm
    obtain ⟨i, hi, e⟩ := List.getElem_of_mem hm
    refine ⟨i, ⟨i, by simpa using hi, rfl⟩, ?_⟩
    simp only [List.size_toArray, beq_iff_eq]
    apply Array.ext
    · simp; omega
    · intro j h1 h2
      simp at h2
      subst h2
      simp [e]
section
variable {prog : Program} {w : World} {A : Around} {E : Value → Shared → Prop} {s : Shared}
theorem cut_bytes {b : Array UInt8} {t : Tok} {n : Nat} {Q : String → Shared → Prop} (h : Q "bytes" s) : wpAny (model prog w) A (typeNameOfCut n (.bytes b t)) Q E s := by
  unfold typeNameOfCut shownTypeOf
  refine wpAny_bind (wpAny_bind (wpAny_typeOf (typeIs_bytes _ b t) ?_))
  simp only [show (Value.type "bytes" == Value.type "builtin_function_or_method") = false by decide, Bool.false_eq_true, if_false]
  refine wpAny_pure ?_
  rw [show typeNameCut n (.type "bytes") = typeName (.type "bytes") from rfl]
  exact wpAny_of_eq (a := "bytes") (by unfold typeName; rw [find?_eq_fast]; kernel_rfl) h
theorem body_in {l : List UInt8} {t t2 : Tok} {R : Fin → Shared → Prop} (hh : A.handled = none)
    (h : ∀ h' tk, (∀ b o, s.heap.get? b = some o → h'.get? b = some o) → R (.done (.ret (.bool (l.contains 0)))) { s with heap := h', toks := tk }) :
    wpAny (model prog w) A (Builtin.«bytes.__contains__» ⟨[.bytes l.toArray t2, .bytes #[0] t], []⟩) R E s := by
  unfold Builtin.«bytes.__contains__»
  refine wpAny_bind (wpAny_of_eq (a := (Value.bytes l.toArray t2, [Value.bytes #[0] t])) rfl ?_)
  dsimp only
  refine wpAny_bind ?_
  unfold Bytes.containsIn
  refine wpAny_bind (wpAny_attempt ?_)
  have after : ∀ h' tk e, (∀ b o, s.heap.get? b = some o → h'.get? b = some o) → wpAny (model prog w) A (do
      let some b ← Bytes.buffer? "bytes.__contains__" (.bytes l.toArray t2) | unsupported "internal:bytes-without-payload"
      match (Except.error e : Except Value Int) with
      | .ok i =>
        if i < 0 || i ≥ 256 then rule s!"{"bytes.__contains__"}.byte-out-of-range"; raiseError "ValueError" "byte must be in range(0, 256)"
        return b.contains i.toNat.toUInt8
      | .error _ =>
        match ← Bytes.buffer? "bytes.__contains__" (.bytes #[0] t) with
        | some sub => rule s!"{"bytes.__contains__"}.run-of-bytes"; return (Bytes.find? b sub 0 b.size).isSome
        | none => rule s!"{"bytes.__contains__"}.not-bytes-like"; raiseError "TypeError" s!"a bytes-like object is required, not '{← typeNameOf (.bytes #[0] t)}'") (fun b s' => wpAny (model prog w) A (ret (.bool b)) R E s') E { s with heap := h', toks := tk } := by
    intro h' tk e hk
    refine wpAny_bind (wpAny_of_eq KBy.buffer_eq ?_)
    refine wpAny_bind (wpAny_of_eq KBy.buffer_eq ?_)
    refine wpAny_bind (wpAny_rule (wpAny_pure ?_))
    rw [find_zero]
    exact wpAny_pure (h h' tk hk)
  unfold asIndex
  refine wpAny_bind (wpAny_of_eq (a := (none : Option Int)) rfl ?_)
  refine wpAny_bind ?_
  unfold callSpecial?
  refine wpAny_bind (wpAny_of_eq (KBy.special_eq look_index) (wpAny_pure ?_))
  dsimp only
  refine wpAny_bind (cut_bytes ?_)
  refine wpAny_raiseErrorMade plainExc_TypeError hh fun h' tk e hn => ?_
  exact after h' tk (.ref e) hn.keeps
variable {h₀ : Heap} {L : Addr} {m : Str → Option Value} {news : List (Addr × Obj)}
theorem grow_in {l : List UInt8} {t t2 : Tok} {Q : Value → Shared → Prop} (hh : A.handled = none)
    (h : ∀ h' tk, (∀ b o, s.heap.get? b = some o → h'.get? b = some o) → Q (.bool (l.contains 0)) { s with heap := h', toks := tk }) :
    wpAny (model prog w) A (call (.builtin "bytes.__contains__") [.bytes l.toArray t2, .bytes #[0] t]) Q E s :=
  wpAny_call (codeAny_call_builtin FB.slot_bytes_contains.plain FB.entry_bytes_contains (FB.slot_bytes_contains.check _ _ _ _ _ _ _ _ (typeIs_bytes _ _ _) (FB.args_bytes_contains_2 _ _) (body_in hh h)))
theorem in_b {l : List UInt8} {t t2 : Tok} {Q : Value → Shared → Prop} (hh : A.handled = none) (F : Fr h₀ L s.heap m) (N : News h₀ L s.heap news)
    (h : ∀ h' tk, Fr h₀ L h' m → News h₀ L h' news → Q (.bool (l.contains 0)) { s with heap := h', toks := tk }) : wpAny (model prog w) A (compareOp .In (.bytes #[0] t) (.bytes l.toArray t2)) Q E s := by
  show wpAny _ _ (do return .bool (← contains _ _)) Q E s
  refine wpAny_bind (wpAny_contains_slot (typeIs_bytes _ _ _) FB.slot_bytes_contains (grow_in hh fun h' tk k => wpAny_pure (wpAny_pure ?_)))
  exact h h' tk (F.keptAll k) (N.grown k)
theorem notin_b {l : List UInt8} {t t2 : Tok} {Q : Value → Shared → Prop} (hh : A.handled = none) (F : Fr h₀ L s.heap m) (N : News h₀ L s.heap news)
    (h : ∀ h' tk, Fr h₀ L h' m → News h₀ L h' news → Q (.bool (!l.contains 0)) { s with heap := h', toks := tk }) : wpAny (model prog w) A (compareOp .NotIn (.bytes #[0] t) (.bytes l.toArray t2)) Q E s := by
  show wpAny _ _ (do return .bool (!(← contains _ _))) Q E s
  refine wpAny_bind (wpAny_contains_slot (typeIs_bytes _ _ _) FB.slot_bytes_contains (grow_in hh fun h' tk k => wpAny_pure (wpAny_pure ?_)))
  exact h h' tk (F.keptAll k) (N.grown k)
theorem bslice {value slice : PySem.Expr} {l z : List UInt8} {t : Tok} {vl vu : Value} {lo hi : Option Int} {Q : Value → Shared → Prop} (F : Fr h₀ L s.heap m) (N : News h₀ L s.heap news) (hl : IsPart vl lo) (hu : IsPart vu hi)
    (e : KBy.picked l.toArray lo hi = z.toArray) (hz : z.length ≤ 16777216)
    (h : ∀ h' t' k, Fr h₀ L h' m → News h₀ L h' news → Q (.bytes z.toArray t') { s with heap := h', toks := k })
    (hs : subscripted slice false (.bytes l.toArray t) (.ref s.heap.objs.size) = operate [.ref s.heap.objs.size, .bytes l.toArray t] (getItem (.bytes l.toArray t) (.ref s.heap.objs.size)))
    (ht : ∀ r, letTemporaryGo value (.bytes l.toArray t) r = pure ()) :
    wpAny (model prog w) A (subscriptTail value slice (.bytes l.toArray t) (.ref s.heap.objs.size)) Q E { s with heap := s.heap.push { cls := .type "slice", data := .fields #[vl, vu, .none] } } :=
  tail_of_ItemOn ⟨"bytes", _, FB.slot_bytes_getitem.lookup, typeIs_bytes _ _ _, getItem_meets (typeIs_bytes _ _ _) (by decide) FB.slot_bytes_getitem FB.entry_bytes_getitem (FB.args_bytes_getitem_2 _ _) (KBc.meets_slice2 l.toArray t _ hl hu)
    ⟨Heap.IsSliceOf.new _ _ _ _, by rw [e, sizeLine_eq, List.size_toArray]; exact hz, fun t' k => by rw [e]; exact h _ _ _ (F.push _) (News.pushKeep N _)⟩⟩ hs ht
theorem pick_all {l : List UInt8} {k : Int} (h : (l.length : Int) ≤ k) : KBy.picked l.toArray none (some k) = l.toArray := by
  rw [KBc.picked_eq]
  have e : clipAt l.length k = l.length := by
    have := clipAt_cast l.length k
    rw [if_neg (by omega)] at this
    omega
  simp [e]
theorem pick_one {l : List UInt8} {i j : Int} (h0 : 0 ≤ i) (hj : j = i + 1) : KBy.picked l.toArray (some i) (some j) = ((l.drop i.toNat).take 1).toArray := by
  subst hj
  rw [KBc.picked_eq]
  have e1 := clipAt_cast l.length i
  have e2 := clipAt_cast l.length (i + 1)
  rw [if_neg (by omega)] at e1 e2
  simp only [Option.elim, List.size_toArray]
  by_cases hlt : i < l.length
  · rw [show clipAt l.length i = i.toNat by omega, show clipAt l.length (i + 1) - i.toNat = 1 by omega]
  · rw [List.drop_eq_nil_of_le (by omega), List.drop_eq_nil_of_le (by omega)]
    simp
theorem bitem {value slice : PySem.Expr} {l : List UInt8} {t ui : Tok} {i : Int} {Q : Value → Shared → Prop} (hfit : l.length ≤ 1000000) (h0 : 0 ≤ i) (h1 : i < l.length)
    (h : Q (.int (l.getD i.toNat 0).toNat s.toks) { s with toks := s.toks + 1 })
    (hs : subscripted slice false (.bytes l.toArray t) (.int i ui) = operate [.bytes l.toArray t, .int i ui] (getItem (.bytes l.toArray t) (.int i ui)))
    (ht : ∀ r, letTemporaryGo value (.bytes l.toArray t) r = pure ()) : wpAny (model prog w) A (subscriptTail value slice (.bytes l.toArray t) (.int i ui)) Q E s :=
  tail_of_ItemOn ⟨"bytes", _, FB.slot_bytes_getitem.lookup, typeIs_bytes _ _ _, getItem_bytes (by omega) h0 h1 h⟩ hs ht
theorem badd {a b : List UInt8} {t u : Tok} {Q : Value → Shared → Prop} (hz : a.length + b.length ≤ 16777216) (h : ∀ t' k, Q (.bytes (a ++ b).toArray t') { s with toks := k }) :
    wpAny (model prog w) A (binaryOp .Add (.bytes a.toArray t) (.bytes b.toArray u)) Q E s :=
  KBy.add_bytes (by simpa using hz) fun t' k => by
    have := h t' k
    rwa [show (a ++ b).toArray = a.toArray ++ b.toArray by simp] at this
theorem blen {a : List UInt8} {t : Tok} {Q : Value → Shared → Prop} (hz : a.length ≤ 1000000) (h : Q (.int a.length (s.toks + 1)) { s with toks := s.toks + 1 + 1 }) :
    wpAny (model prog w) A (call (.builtin "len") [.bytes a.toArray t]) Q E s :=
  len_bytes (by rw [List.size_toArray]; omega) (by rw [List.size_toArray]; exact h)
end
end FX

-- plain
noncomputable abbrev Ps := List (List UInt8 × Int)
noncomputable def cget (ps : Ps) (k : List UInt8) : Int := ((ps.find? fun p => p.1 = k).map (·.2)).getD 0
noncomputable def cput (ps : Ps) (k : List UInt8) (n : Int) : Ps := if ps.any (fun p => p.1 = k) then ps.map (fun p => if p.1 = k then (p.1, n) else p) else ps ++ [(k, n)]
noncomputable def bump (ps : Ps) (k : List UInt8) : Ps := cput ps k (cget ps k + k.length)
inductive Vals : List (List UInt8 × Value) → Ps → Prop
  | nil : Vals [] []
  | cons (k : List UInt8) (n : Int) (t : Tok) {kvs : List (List UInt8 × Value)} {ps : Ps} (h : Vals kvs ps) : Vals ((k, .int n t) :: kvs) ((k, n) :: ps)
theorem Vals.length {kvs : List (List UInt8 × Value)} {ps : Ps} (h : Vals kvs ps) : kvs.length = ps.length := by
  induction h with
  | nil => rfl
  | cons k n t h ih => simp [ih]
theorem Vals.keys {kvs : List (List UInt8 × Value)} {ps : Ps} (h : Vals kvs ps) : kvs.map (·.1) = ps.map (·.1) := by
  induction h with
  | nil => rfl
  | cons k n t h ih => simp [ih]
theorem Vals.any {kvs : List (List UInt8 × Value)} {ps : Ps} (h : Vals kvs ps) (k : List UInt8) : kvs.any (fun kv => kv.1 = k) = ps.any (fun p => p.1 = k) := by
  induction h with
  | nil => rfl
  | cons k n t h ih => simp [ih]
theorem Vals.map {kvs : List (List UInt8 × Value)} {ps : Ps} (h : Vals kvs ps) (k : List UInt8) (n : Int) (t : Tok) : Vals (kvs.map fun kv => if kv.1 = k then (kv.1, .int n t) else kv) (ps.map fun p => if p.1 = k then (p.1, n) else p) := by
  induction h with
  | nil => exact .nil
  | cons k' n' t' h ih =>
    simp only [List.map_cons]
    split
    · exact .cons _ _ _ ih
    · exact .cons _ _ _ ih
theorem Vals.snoc {kvs : List (List UInt8 × Value)} {ps : Ps} (h : Vals kvs ps) (k : List UInt8) (n : Int) (t : Tok) : Vals (kvs ++ [(k, .int n t)]) (ps ++ [(k, n)]) := by
  induction h with
  | nil => exact .cons _ _ _ .nil
  | cons k' n' t' h ih => exact .cons _ _ _ ih
theorem Vals.put {kvs : List (List UInt8 × Value)} {ps : Ps} (h : Vals kvs ps) (k : List UInt8) (n : Int) (t : Tok) : Vals (stored kvs k (.int n t)) (cput ps k n) := by
  unfold stored cput
  rw [h.any k]
  split
  · exact h.map k n t
  · exact h.snoc k n t
theorem Vals.find {kvs : List (List UInt8 × Value)} {ps : Ps} (h : Vals kvs ps) (k : List UInt8) : (valueAt kvs k = none ∧ ps.find? (fun p => p.1 = k) = none) ∨ ∃ n t, valueAt kvs k = some (.int n t) ∧ ps.find? (fun p => p.1 = k) = some (k, n) := by
  induction h with
  | nil => exact .inl ⟨rfl, rfl⟩
  | cons k' n' t' h ih =>
    by_cases e : k' = k
    · subst e
      exact .inr ⟨n', t', by simp [valueAt], by simp⟩
    · simpa [valueAt, e] using ih
theorem Vals.get0 {kvs : List (List UInt8 × Value)} {ps : Ps} (h : Vals kvs ps) (k : List UInt8) (u : Tok) : ∃ t, (valueAt kvs k).getD (.int 0 u) = .int (cget ps k) t := by
  rcases h.find k with ⟨e1, e2⟩ | ⟨n, t, e1, e2⟩
  · exact ⟨u, by rw [e1]; simp [cget, e2]⟩
  · exact ⟨t, by rw [e1]; simp [cget, e2]⟩
theorem Vals.item {kvs : List (List UInt8 × Value)} {ps : Ps} (h : Vals kvs ps) {k : List UInt8} (hm : k ∈ ps.map (·.1)) : ∃ t, valueAt kvs k = some (.int (cget ps k) t) := by
  rcases h.find k with ⟨e1, e2⟩ | ⟨n, t, e1, e2⟩
  · obtain ⟨p, hp, rfl⟩ := List.mem_map.mp hm
    exact absurd (List.find?_eq_none.mp e2 p hp) (by simp)
  · exact ⟨t, by rw [e1]; simp [cget, e2]⟩
noncomputable def Cnt (prog : Program) (w : World) (o : Obj) (ps : Ps) : Prop := ∃ kvs, o.IsDictOf (bytesKind prog w) kvs ∧ Vals kvs ps
section
variable {prog : Program} {w : World} {A : Around} {E : Value → Shared → Prop} {s : Shared} {h₀ : Heap} {L d : Addr} {m : Str → Option Value} {news : List (Addr × Obj)} {g : Obj → List (Addr × Obj)} {o : Obj} {ps : Ps} {k : List UInt8} {t u : Tok} {n : Int}
theorem Cnt.nodup (h : Cnt prog w o ps) : (ps.map (·.1)).Nodup := by
  obtain ⟨kvs, ⟨es, ep, h1, h2, h3, h4, h5⟩, hv⟩ := h
  rw [← hv.keys]
  exact h5
theorem Cnt.nil (h : o.IsDictOf (bytesKind prog w) []) : Cnt prog w o [] := ⟨[], h, .nil⟩
theorem get_cnt {Q : Value → Shared → Prop} (N : News h₀ L s.heap news) (hp : (d, o) ∈ news) (hc : Cnt prog w o ps) (lo : (d == sysModules) = false) (h : ∀ t', Q (.int (cget ps k) t') { s with toks := s.toks + 1 }) :
    wpAny (model prog w) A (call (.builtin "dict.get") [.ref d, .bytes k.toArray t, .int 0 u]) Q E s := by
  obtain ⟨kvs, hd, hv⟩ := hc
  obtain ⟨t', e⟩ := hv.get0 k u
  refine kdg_get2 N hp hd lo (bytesKind_is prog w k t) _ rfl ?_
  rw [e]
  exact h t'
theorem getm_cnt {pl : Sem Bool} {Q : Value × List Value → Shared → Prop} (N : News h₀ L s.heap news) (hp : (d, o) ∈ news) (hc : Cnt prog w o ps) (h : Q (.builtin "dict.get", [.ref d]) s) : wpAny (model prog w) A (getMethod (.ref d) "get" pl) Q E s := by
  obtain ⟨kvs, hd, hv⟩ := hc
  exact kdg_method N hp hd h
theorem set_cnt {Q : Unit → Shared → Prop} (F : Fr h₀ L s.heap m) (N : News h₀ L s.heap news) (U : UpdF d o news g) (hc : Cnt prog w o ps) (hsz : ps.length ≤ 1000)
    (h : ∀ h' o', Fr h₀ L h' m → News h₀ L h' (g o') → Cnt prog w o' (cput ps k n) → Q () { s with heap := h', toks := s.toks + 1 }) : wpAny (model prog w) A (setItem (.ref d) (.bytes k.toArray t) (.int n u)) Q E s := by
  obtain ⟨kvs, hd, hv⟩ := hc
  refine kda_set F N U hd (bytesKind_is prog w k t) (by rw [hv.length, sizeLine_eq]; omega) fun h' o' F' N' hd' => ?_
  exact h h' o' F' N' ⟨_, hd', hv.put k n u⟩
theorem item_cnt {value slice : PySem.Expr} {Q : Value → Shared → Prop} (N : News h₀ L s.heap news) (hp : (d, o) ∈ news) (hc : Cnt prog w o ps) (hm : k ∈ ps.map (·.1)) (h : ∀ t', Q (.int (cget ps k) t') { s with toks := s.toks + 1 })
    (hs : subscripted slice false (.ref d) (.bytes k.toArray t) = operate [.ref d, .bytes k.toArray t] (getItem (.ref d) (.bytes k.toArray t))) (hg : ∀ r, letTemporaryGo value (.ref d) r = pure ()) :
    wpAny (model prog w) A (subscriptTail value slice (.ref d) (.bytes k.toArray t)) Q E s := by
  obtain ⟨kvs, hd, hv⟩ := hc
  obtain ⟨t', e⟩ := hv.item hm
  exact kda_item N hp hd (bytesKind_is prog w k t) e (h t') hs hg
end

-- plain
noncomputable def skips (l : List UInt8) (i : Nat) : Bool := !l.contains 0 && (l[i]? == some 13 && l[i + 1]? == some 10)
noncomputable def cutStep (l : List UInt8) (longest : Int) (i : Nat) (st : List UInt8 × Ps) : List UInt8 × Ps :=
  if skips l i then st else
    if l.getD i 0 = 10 ∨ ((st.1 ++ [l.getD i 0]).length : Int) = longest then ([], bump st.2 (st.1 ++ [l.getD i 0])) else (st.1 ++ [l.getD i 0], st.2)
noncomputable def cutN (l : List UInt8) (longest : Int) : Nat → List UInt8 × Ps
  | 0 => ([], [])
  | n + 1 => cutStep l longest n (cutN l longest n)
noncomputable def cutEnd (st : List UInt8 × Ps) : Ps := if st.1 = [] then st.2 else bump st.2 st.1
noncomputable def cutAll (l : List UInt8) (longest : Int) : Ps := cutEnd (cutN l longest l.length)
noncomputable def total (ps : Ps) : Int := (ps.map (·.2)).sum
theorem cput_length (ps : Ps) (k : List UInt8) (n : Int) : (cput ps k n).length ≤ ps.length + 1 := by
  unfold cput
  split <;> simp
theorem cutN_le (l : List UInt8) (z : Int) : ∀ n, (cutN l z n).1.length ≤ n ∧ (cutN l z n).2.length ≤ n
  | 0 => ⟨Nat.le_refl _, Nat.le_refl _⟩
  | n + 1 => by
    have ih := cutN_le l z n
    unfold cutN cutStep
    split
    · exact ⟨by omega, by omega⟩
    · split
      · refine ⟨by simp, ?_⟩
        have := cput_length (cutN l z n).2 ((cutN l z n).1 ++ [l.getD n 0]) (cget (cutN l z n).2 ((cutN l z n).1 ++ [l.getD n 0]) + ((cutN l z n).1 ++ [l.getD n 0]).length)
        unfold bump
        dsimp only
        omega
      · refine ⟨?_, ?_⟩
        · simp only [List.length_append, List.length_cons, List.length_nil]; omega
        · dsimp only; omega
theorem cutAll_le (l : List UInt8) (z : Int) : (cutAll l z).length ≤ l.length + 1 := by
  unfold cutAll cutEnd
  have := cutN_le l z l.length
  split
  · omega
  · have := cput_length (cutN l z l.length).2 (cutN l z l.length).1 (cget (cutN l z l.length).2 (cutN l z l.length).1 + (cutN l z l.length).1.length)
    unfold bump
    omega
theorem sum_upd : ∀ (ps : Ps) (k : List UInt8) (n : Int), (ps.map (·.1)).Nodup → ps.any (fun p => p.1 = k) = true → total (ps.map fun p => if p.1 = k then (p.1, n) else p) = total ps - cget ps k + n
  | [], k, n, _, h => by simp at h
  | (a, v) :: r, k, n, hd, h => by
    simp only [List.map_cons, List.nodup_cons] at hd
    by_cases e : a = k
    · subst e
      have hr : r.map (fun p => if p.1 = a then (p.1, n) else p) = r := by
        conv => rhs; rw [← List.map_id r]
        refine List.map_congr_left fun p hp => ?_
        have : p.1 ≠ a := fun q => hd.1 (q ▸ List.mem_map_of_mem hp)
        simp [this]
      simp only [total, List.map_cons, if_true, hr, List.sum_cons, cget, List.find?_cons, decide_true, Option.map_some, Option.getD_some]
      omega
    · have ha : r.any (fun p => p.1 = k) = true := by simpa [e] using h
      have ih := sum_upd r k n hd.2 ha
      have ec : cget ((a, v) :: r) k = cget r k := by simp [cget, e]
      simp only [total, List.map_cons, e, if_false, List.sum_cons] at ih ⊢
      rw [ec]
      omega
theorem total_cput (ps : Ps) (k : List UInt8) (n : Int) (hd : (ps.map (·.1)).Nodup) : total (cput ps k n) = total ps - cget ps k + n := by
  unfold cput
  split
  · rename_i h
    exact sum_upd ps k n hd h
  · rename_i h
    have e : cget ps k = 0 := by
      unfold cget
      rw [List.find?_eq_none.mpr fun p hp => ?_]
      · rfl
      · intro q
        exact h (List.any_eq_true.mpr ⟨p, hp, q⟩)
    simp [total, e]
theorem total_bump (ps : Ps) (k : List UInt8) (hd : (ps.map (·.1)).Nodup) : total (bump ps k) = total ps + k.length := by
  unfold bump
  rw [total_cput ps k _ hd]
  omega
theorem cput_nodup (ps : Ps) (k : List UInt8) (n : Int) (hd : (ps.map (·.1)).Nodup) : ((cput ps k n).map (·.1)).Nodup := by
  unfold cput
  split
  · have e : (ps.map fun p => if p.1 = k then (p.1, n) else p).map (·.1) = ps.map (·.1) := by
      rw [List.map_map]
      refine List.map_congr_left fun p _ => ?_
      simp only [Function.comp]
      split <;> rfl
    rw [e]; exact hd
  · rename_i h
    rw [List.map_append, List.nodup_append]
    refine ⟨hd, by simp, ?_⟩
    intro a ha b hb q
    subst q
    simp at hb
    subst hb
    obtain ⟨p, hp, e⟩ := List.mem_map.mp ha
    exact h (List.any_eq_true.mpr ⟨p, hp, by simpa using e⟩)
theorem cutN_nodup (l : List UInt8) (z : Int) : ∀ n, ((cutN l z n).2.map (·.1)).Nodup
  | 0 => List.nodup_nil
  | n + 1 => by
    unfold cutN cutStep
    split
    · exact cutN_nodup l z n
    · split
      · exact cput_nodup _ _ _ (cutN_nodup l z n)
      · exact cutN_nodup l z n
theorem cutAll_nodup (l : List UInt8) (z : Int) : ((cutAll l z).map (·.1)).Nodup := by
  unfold cutAll cutEnd
  split
  · exact cutN_nodup l z _
  · exact cput_nodup _ _ _ (cutN_nodup l z _)
/-- Python's `min` of two ints. -/
noncomputable def mn (a b : Int) : Int := if b < a then b else a
/-- what two cuttings share. -/
noncomputable def shr (ps qs : Ps) : Int := (ps.map fun p => mn (cget ps p.1) (cget qs p.1)).sum
theorem mn_comm (a b : Int) : mn a b = mn b a := by unfold mn; split <;> split <;> omega
theorem mn_le (a b : Int) : mn a b ≤ a := by unfold mn; split <;> omega
noncomputable def tot (ps : Ps) : Int := (ps.map fun p => cget ps p.1).sum
theorem cget_self : ∀ (ps : Ps), (ps.map (·.1)).Nodup → (ps.map fun p => cget ps p.1) = ps.map (·.2)
  | [], _ => rfl
  | (k, n) :: r, hd => by
    simp only [List.map_cons, List.nodup_cons] at hd
    have ih := cget_self r hd.2
    rw [List.map_cons, List.map_cons]
    have e1 : cget ((k, n) :: r) k = n := by simp [cget]
    have e2 : (r.map fun p => cget ((k, n) :: r) p.1) = r.map fun p => cget r p.1 := by
      refine List.map_congr_left fun p hp => ?_
      have : k ≠ p.1 := fun q => hd.1 (q ▸ List.mem_map_of_mem hp)
      simp [cget, this]
    rw [e1, e2, ih]
theorem tot_total (ps : Ps) (hd : (ps.map (·.1)).Nodup) : tot ps = total ps := by
  unfold tot total
  rw [cget_self ps hd]
/-- Python's `max` of two ints. -/
noncomputable def mx (a b : Int) : Int := if a < b then b else a
noncomputable def pct (ps qs : Ps) : Int := if mx (tot ps) (tot qs) = 0 then 100 else (100 * shr ps qs).fdiv (mx (tot ps) (tot qs))
noncomputable def shrN (ps qs : Ps) (i : Nat) : Int := ((ps.take i).map fun p => mn (cget ps p.1) (cget qs p.1)).sum
theorem shrN_succ {ps qs : Ps} {i : Nat} {k : List UInt8} {v : Int} (h : ps[i]? = some (k, v)) : shrN ps qs (i + 1) = shrN ps qs i + mn (cget ps k) (cget qs k) := by
  unfold shrN
  rw [List.take_add_one, h]
  simp
theorem shrN_all (ps qs : Ps) : shrN ps qs ps.length = shr ps qs := by unfold shrN shr; rw [List.take_length]
theorem shrN_zero (ps qs : Ps) : shrN ps qs 0 = 0 := rfl
theorem key_mem {ps : Ps} {i : Nat} {k : List UInt8} {v : Int} (h : ps[i]? = some (k, v)) : k ∈ ps.map (·.1) := List.mem_map_of_mem (f := (·.1)) (List.mem_of_getElem? h)
noncomputable def gone (ps qs : Ps) : Int := if tot ps = 0 then 0 else ((tot ps - mn (tot ps) (shr ps qs)) * 100).fdiv (tot ps)
theorem sum_le {α : Type} (f g : α → Int) : ∀ (l : List α), (∀ a, f a ≤ g a) → (l.map f).sum ≤ (l.map g).sum
  | [], _ => by simp
  | a :: r, h => by
    have := sum_le f g r h
    have := h a
    simp only [List.map_cons, List.sum_cons]
    omega
theorem shr_le (ps qs : Ps) : shr ps qs ≤ tot ps := sum_le _ _ ps fun _ => mn_le _ _
theorem gone_eq (ps qs : Ps) (h : tot ps ≠ 0) : (100 * (tot ps - shr ps qs)).fdiv (tot ps) = gone ps qs := by
  unfold gone
  rw [if_neg h]
  have : mn (tot ps) (shr ps qs) = shr ps qs := by
    have := shr_le ps qs
    unfold mn
    split <;> omega
  rw [this, Int.mul_comm]
theorem gone_nil (ps qs : Ps) (h : tot ps = 0) : gone ps qs = 0 := by
  unfold gone
  rw [if_pos h]
theorem cutN_total (l : List UInt8) (z : Int) : ∀ n, total (cutN l z n).2 + (cutN l z n).1.length ≤ n ∧ 0 ≤ total (cutN l z n).2
  | 0 => by simp [cutN, total]
  | n + 1 => by
    have ih := cutN_total l z n
    have hd := cutN_nodup l z n
    unfold cutN cutStep
    split
    · exact ⟨by omega, ih.2⟩
    · split
      · have := total_bump (cutN l z n).2 ((cutN l z n).1 ++ [l.getD n 0]) hd
        simp only [List.length_append, List.length_cons, List.length_nil] at this
        dsimp only
        rw [this]
        simp only [List.length_nil]
        omega
      · simp only [List.length_append, List.length_cons, List.length_nil]
        omega
theorem cutAll_total (l : List UInt8) (z : Int) : 0 ≤ tot (cutAll l z) ∧ tot (cutAll l z) ≤ l.length := by
  rw [tot_total _ (cutAll_nodup l z)]
  have h := cutN_total l z l.length
  unfold cutAll cutEnd
  split
  · omega
  · rw [total_bump _ _ (cutN_nodup l z _)]
    omega
/-- what likeness answers. -/
noncomputable def like (l k : List UInt8) : Int := if l = k then 100 else mn 99 (pct (cutAll l 64) (cutAll k 64))

-- plain
namespace FA
set_option maxRecDepth 100000
open Builtin
theorem slot_len : Slot "bytearray" "__len__" "bytearray.__len__" :=
  .of (owner := "bytearray") (n := "__len__") (by rw [typeLookup_type, builtinLookup_eq_fast]; kernel_rfl) (by decide +kernel) (by decide +kernel) (by decide +kernel)
    (by first | exact .inl (by decide +kernel) | exact .inr (by decide +kernel)) (by rw [isSubtype_type]; kernel_rfl)
theorem entry_balen : entryFor table "bytearray.__len__" = some Builtin.«bytearray.__len__» := by first | exact entryFor_of_tree (by kernel_rfl) | exact entryFor_of_fast (by kernel_rfl)
theorem args_balen (a : Value) : argsOk "bytearray.__len__" ⟨[a], []⟩ := by unfold argsOk; kernel_rfl
theorem no_bytes : typeLookup (.type "bytearray") "__bytes__" = pure none := by rw [typeLookup_type, builtinLookup_eq_fast]; kernel_rfl
theorem no_idx : typeLookup (.type "bytearray") "__index__" = pure none := by rw [typeLookup_type, builtinLookup_eq_fast]; kernel_rfl
theorem look_buffer : typeLookup (.type "bytearray") "__buffer__" = pure (some (.builtin "bytearray.__buffer__")) := by rw [typeLookup_type, builtinLookup_eq_fast]; kernel_rfl
theorem drop_buffer : "bytearray.__buffer__".dropRight ("__buffer__".length + 1) = "bytearray" := by decide +kernel
theorem ends_buffer : ("bytearray.__buffer__".endsWith ("." ++ "__buffer__")) = true := by decide +kernel
section
variable {prog : Program} {w : World} {M : Model} {A : Around} {E : Value → Shared → Prop} {s : Shared} {h : Heap} {X : Addr} {l : List UInt8}
theorem payload_ba (hx : h.get? X = some (baObj l)) : Looks M h (Bytes.payload (.ref X)) l.toArray :=
  Looks.andThen (a := some l.toArray) ((Looks.ld (part := none) hx).andThen .now) .now
theorem type_ba (hx : h.get? X = some (baObj l)) : Looks M h (typeOf (.ref X)) (.type "bytearray") := (Looks.ld hx).andThen .now
theorem release_ba (hx : h.get? X = some (baObj l)) : Looks M h (Bytes.ownRelease (.ref X)) false := by
  unfold Bytes.ownRelease Bytes.slotIsOwn
  have hs : Looks M h (specialOf (.ref X) "__release_buffer__") (some (.builtin "bytearray.__release_buffer__")) := (type_ba hx).andThen (Looks.of_pure look_release)
  refine Looks.andThen (a := true) (Looks.andThen (a := some (.builtin "bytearray.__release_buffer__")) hs ?_) .now
  dsimp only
  rw [ends_release, drop_release]
  exact (type_ba hx).andThen (Looks.of_pure PySem.F.sub_bytearray_bytearray)
theorem buffer_ba {i : String} {full : Bool} (hx : h.get? X = some (baObj l)) : Looks M h (Bytes.buffer? i (.ref X) full) (some l.toArray) := by
  have hs : Looks M h (specialOf (.ref X) "__buffer__") (some (.builtin "bytearray.__buffer__")) := (type_ba hx).andThen (Looks.of_pure look_buffer)
  have ho : Looks M h (Bytes.slotIsOwn (.ref X) "__buffer__") true := by
    unfold Bytes.slotIsOwn
    refine Looks.andThen (a := some (.builtin "bytearray.__buffer__")) hs ?_
    dsimp only
    rw [ends_buffer, drop_buffer]
    exact (type_ba hx).andThen (Looks.of_pure PySem.F.sub_bytearray_bytearray)
  unfold Bytes.buffer?
  refine Looks.andThen (a := some (.builtin "bytearray.__buffer__")) hs ?_
  refine Looks.andThen (a := true) ho ?_
  refine Looks.andThen (a := some (.builtin "bytearray.__buffer__")) hs ?_
  dsimp only
  refine Looks.andThen (a := false) (release_ba hx) ?_
  exact Looks.andThen (a := l.toArray) (payload_ba hx) .now
theorem getm_append {pl : Sem Bool} {Q : Value × List Value → Shared → Prop} (hx : s.heap.get? X = some (baObj l)) (h : Q (.builtin "bytearray.append", [.ref X]) s) : wpAny M A (getMethod (.ref X) "append" pl) Q E s :=
  getMethod_builtin (⟨_, hx, rfl⟩ : s.TypeIs (.ref X) "bytearray") plain_ba slot_append type_append (fun a e => ⟨_, by cases e; exact hx, rfl⟩) h
theorem len_ba {Q : Value → Shared → Prop} (hx : s.heap.get? X = some (baObj l)) (hz : l.length ≤ 10000) (h : Q (.int l.length (s.toks + 1)) { s with toks := s.toks + 1 + 1 }) :
    wpAny (model prog w) A (call (.builtin "len") [.ref X]) Q E s := by
  have hTI : s.TypeIs (.ref X) "bytearray" := ⟨_, hx, rfl⟩
  refine Calls.call_function_entry kind_len plain_len entry_len (args_len1 _) ?_
  unfold Builtin.«len»
  refine wpAny_bind (m := oneArg "len" _) (wpAny_pure ?_)
  refine wpAny_bind (m := callSpecial? (.ref X) (Str.ofString "__len__")) (wpAny_callSpecial?_slot (name := Str.ofString "__len__") hTI slot_len
    (wpAny_call_entry slot_len hTI entry_balen ?_ (args_balen _)))
  unfold Builtin.«bytearray.__len__»
  refine wpAny_bind (wpAny_of_eq (a := (Value.ref X, ([] : List Value))) rfl ?_)
  dsimp only
  refine wpAny_bind ((payload_ba hx).here ?_)
  refine wpAny_bind (wpAny_mkInt (wpAny_pure ⟨_, rfl, ?_⟩))
  refine wpAny_bind (wpAny_holding (wpAny_pure ?_))
  refine wpAny_bind (wpAny_letGo ?_)
  show wpAny _ _ (if ((l.length : Nat) : Int) < 0 then _ else _) _ _ _
  rw [if_neg (by omega)]
  show wpAny _ _ (if ((l.length : Nat) : Int) ≥ 2 ^ 63 then _ else _) _ _ _
  rw [if_neg (by omega)]
  exact wpAny_bind (wpAny_mkInt (wpAny_pure ⟨_, rfl, h⟩))
theorem new_bytes {Q : Value → Shared → Prop} (hx : s.heap.get? X = some (baObj l)) (hz : l.length ≤ 10000) (h : ∀ t k, Q (.bytes l.toArray t) { s with toks := k }) :
    codeAny (model prog w) A (.call (.builtin "bytes.__new__") ⟨[.type "bytes", .ref X], []⟩) (wants Q E) s := by
  refine codeAny_of_tree ?_
  show wpAny _ A.in1 (do checkBuiltinCall "bytes.__new__" ⟨[.type "bytes", .ref X], []⟩; again (.builtin "bytes.__new__" ⟨[.type "bytes", .ref X], []⟩)) _ _ s
  refine wpAny_bind (wpAny_of_eq (F.bm_newCall _) (wpAny_pure ⟨plainId_quiet F.bm_plain _, codeAny_builtin F.bm_entry ?_⟩))
  rw [Around.under_plainId F.bm_plain _]
  have hT : s.TypeIs (.ref X) "bytearray" := ⟨_, hx, rfl⟩
  unfold Builtin.«bytes.__new__»
  refine wpAny_bind (wpAny_of_eq (a := true) rfl ?_)
  refine bm_if_false rfl ?_
  refine wpAny_bind (wpAny_of_eq F.bm_sub ?_)
  refine bm_if_false rfl ?_
  refine wpAny_bind (wpAny_of_eq (F.bm_bind _) ?_)
  refine wpAny_bind (wpAny_of_eq (a := ()) rfl ?_)
  refine wpAny_bind (wpAny_of_eq (a := ()) rfl ?_)
  refine bm_if_false rfl ?_
  refine wpAny_bind (wpAny_specialOf hT no_bytes ?_)
  refine wpAny_bind (wpAny_bind ?_)
  show wpAny _ _ (load X >>= _) _ _ _
  refine wpAny_bind (wpAny_load hx ?_)
  refine wpAny_pure (wpAny_pure ?_)
  refine bm_if_false rfl ?_
  refine wpAny_bind (wpAny_specialOf hT no_idx ?_)
  refine bm_if_true rfl ?_
  first
    | show wpAny _ _ (Builtin.Bytes.buffer? "bytes.__new__" (.ref X) true >>= _) _ _ _
    | (refine wpAny_bind ?_; show wpAny _ _ (Builtin.Bytes.buffer? "bytes.__new__" (.ref X) true >>= _) _ _ _)
  refine wpAny_bind ((buffer_ba hx).here ?_)
  refine wpAny_bind (wpAny_rule ?_)
  refine wpAny_bind (wpAny_mkBytes ?_ (by rw [sizeLine_eq, List.size_toArray]; omega))
  show wpAny _ _ (if (Value.type "bytes" == Value.type "bytes") = true then _ else _) _ _ _
  refine bm_if_true (by decide) ?_
  first
    | exact wpAny_pure (h _ _)
    | exact wpAny_bind (wpAny_pure (wpAny_pure (h _ _)))
theorem bytes_ba {Q : Value → Shared → Prop} (hx : s.heap.get? X = some (baObj l)) (hz : l.length ≤ 10000) (h : ∀ t k, Q (.bytes l.toArray t) { s with toks := k }) :
    wpAny (model prog w) A (call (.type "bytes") [.ref X]) Q E s := by
  refine callType_codes (Q₁ := fun obj s₁ => s₁.TypeIs obj "bytes" ∧ Q obj s₁) F.bm_called (F.bm_typeCall _) F.entry_object_init
    (new_bytes hx hz fun t k => ⟨PySem.W.typeIs_bytes _ _ _, h t k⟩) fun obj s₁ h₁ => ?_
  exact ⟨h₁.1, F.args_object_init_2 obj _, object_init_meets F.bm_called.init.lookup F.bm_called.made (by decide) prog w A.in1 _ s₁ ⟨h₁.1, rfl, h₁.2⟩⟩
end
end FA

-- plain
section
variable {l : List UInt8} {i : Nat} {z : Int}
theorem skips_a (h : l.contains 0 = true) : skips l i = false := by unfold skips; rw [h]; rfl
theorem get_of_getD {n : Nat} {v : UInt8} (hv : v ≠ 0) (h : l.getD n 0 = v) : l[n]? = some v := by
  rw [List.getD_eq_getElem?_getD] at h
  cases e : l[n]? with
  | none => rw [e] at h; exact absurd h.symm hv
  | some x => rw [e] at h; exact congrArg some h
theorem toNat_13 {a : UInt8} {v : UInt8} (h : (a.toNat : Int) = (v.toNat : Int)) : a = v := UInt8.toNat_inj.mp (by omega)
theorem take1 {n : Nat} {v : UInt8} : (((l.drop n).take 1).toArray.toList == (#[v] : Array UInt8).toList) = (l[n]? == some v) := by
  have e : (l.drop n).take 1 = l[n]?.toList := by
    rw [List.take_one, List.head?_drop]
  show (((l.drop n).take 1) == [v]) = _
  rw [e]
  cases l[n]? with
  | none => rfl
  | some x => simp
theorem take1_eq {k : Int} (hk : k = (i : Int)) (hi : i < l.length) : (l.drop k.toNat).take 1 = [l.getD i 0] := by
  subst hk
  rw [List.take_one, List.head?_drop]
  simp [List.getD_eq_getElem?_getD, hi]
theorem skips_b (h : l.contains 0 = false) (h13 : ((l.getD (i : Int).toNat 0).toNat : Int) = 13) (hs : (((l.drop ((i : Int) + 1).toNat).take 1).toArray.toList == (#[10] : Array UInt8).toList) = true) : skips l i = true := by
  rw [take1] at hs
  have e1 : l[i]? = some 13 := get_of_getD (by decide) (toNat_13 (v := 13) (by simpa using h13))
  have e2 : ((i : Int) + 1).toNat = i + 1 := by omega
  rw [e2] at hs
  unfold skips
  rw [h, e1, hs]
  rfl
theorem skips_c (h13 : ((l.getD (i : Int).toNat 0).toNat : Int) ≠ 13) : skips l i = false := by
  unfold skips
  have : (l[i]? == some 13) = false := by
    rw [beq_eq_false_iff_ne]
    intro e
    apply h13
    have : l.getD i 0 = 13 := by rw [List.getD_eq_getElem?_getD, e]; rfl
    simp [List.getD_eq_getElem?_getD, e]
  rw [this, Bool.false_and, Bool.and_false]
theorem skips_d (hs : (((l.drop ((i : Int) + 1).toNat).take 1).toArray.toList == (#[10] : Array UInt8).toList) = false) : skips l i = false := by
  rw [take1] at hs
  have e2 : ((i : Int) + 1).toNat = i + 1 := by omega
  rw [e2] at hs
  unfold skips
  rw [hs, Bool.and_false, Bool.and_false]
theorem at_i {k : Int} (hk : k = (i : Int)) : k.toNat = i := by omega
/-- the law's own test of a return ahead of a line feed. -/
theorem law_a {k : Int} (hk : k = (i : Int)) (h1 : (((l.drop k.toNat).take 1).toArray.toList == (#[13] : Array UInt8).toList) = false) : skips l i = false := by
  rw [take1, at_i hk] at h1
  unfold skips
  rw [h1, Bool.false_and, Bool.and_false]
theorem law_b {k : Int} (hk : k = (i : Int)) (h2 : (((l.drop (k + 1).toNat).take 1).toArray.toList == (#[10] : Array UInt8).toList) = false) : skips l i = false := by
  rw [take1, show (k + 1).toNat = i + 1 by omega] at h2
  unfold skips
  rw [h2, Bool.and_false, Bool.and_false]
theorem law_c {k : Int} (hk : k = (i : Int)) (h1 : (((l.drop k.toNat).take 1).toArray.toList == (#[13] : Array UInt8).toList) = true) (h2 : (((l.drop (k + 1).toNat).take 1).toArray.toList == (#[10] : Array UInt8).toList) = true)
    (h3 : l.contains 0 = false) : skips l i = true := by
  rw [take1, at_i hk] at h1
  rw [take1, show (k + 1).toNat = i + 1 by omega] at h2
  unfold skips
  rw [h1, h2, h3]
  rfl
theorem lend_10 {k : Int} {n : Nat} (hk : k = (i : Int)) (h1 : (((l.drop k.toNat).take 1).toArray.toList == (#[10] : Array UInt8).toList) = true) : decide (l.getD i 0 = 10 ∨ (n : Int) = z) = true := by
  rw [take1, at_i hk] at h1
  refine decide_eq_true (.inl ?_)
  rw [List.getD_eq_getElem?_getD, eq_of_beq h1]; rfl
theorem lend_no {k : Int} {n : Nat} (hk : k = (i : Int)) (hi : i < l.length) (h1 : (((l.drop k.toNat).take 1).toArray.toList == (#[10] : Array UInt8).toList) = false) (h2 : (n : Int) ≠ z) : decide (l.getD i 0 = 10 ∨ (n : Int) = z) = false := by
  rw [take1, at_i hk] at h1
  refine decide_eq_false fun h => ?_
  rcases h with h | h
  · rw [get_of_getD (by decide) h] at h1
    exact absurd h1 (by decide)
  · exact h2 h
theorem cutN_skip (h : skips l i = true) : cutN l z (i + 1) = cutN l z i := by
  show cutStep l z i (cutN l z i) = _
  unfold cutStep
  rw [if_pos h]
theorem cutN_end (h : skips l i = false) (he : l.getD i 0 = 10 ∨ (((cutN l z i).1 ++ [l.getD i 0]).length : Int) = z) : cutN l z (i + 1) = ([], bump (cutN l z i).2 ((cutN l z i).1 ++ [l.getD i 0])) := by
  show cutStep l z i (cutN l z i) = _
  unfold cutStep
  rw [if_neg (by rw [h]; exact Bool.false_ne_true), if_pos he]
theorem cutN_on (h : skips l i = false) (he : ¬ (l.getD i 0 = 10 ∨ (((cutN l z i).1 ++ [l.getD i 0]).length : Int) = z)) : cutN l z (i + 1) = ((cutN l z i).1 ++ [l.getD i 0], (cutN l z i).2) := by
  show cutStep l z i (cutN l z i) = _
  unfold cutStep
  rw [if_neg (by rw [h]; exact Bool.false_ne_true), if_neg he]
theorem ends_10 {n : Nat} (h : ((l.getD (i : Int).toNat 0).toNat : Int) = 10) : decide (l.getD i 0 = 10 ∨ (n : Int) = z) = true := decide_eq_true (.inl (toNat_13 (v := 10) (by simpa using h)))
theorem ends_z {n : Nat} (h : (n : Int) = z) : decide (l.getD i 0 = 10 ∨ (n : Int) = z) = true := decide_eq_true (.inr h)
theorem ends_no {n : Nat} (h1 : ((l.getD (i : Int).toNat 0).toNat : Int) ≠ 10) (h2 : (n : Int) ≠ z) : decide (l.getD i 0 = 10 ∨ (n : Int) = z) = false := by
  refine decide_eq_false fun h => ?_
  rcases h with h | h
  · apply h1
    have : l.getD (i : Int).toNat 0 = 10 := by simpa using h
    rw [this]; rfl
  · exact h2 h
theorem cutAll_more (h : 0 < ((cutN l z l.length).1.length : Int)) : cutAll l z = bump (cutN l z l.length).2 (cutN l z l.length).1 := by
  unfold cutAll cutEnd
  rw [if_neg]
  intro e
  rw [e] at h
  exact absurd h (by decide)
theorem cutAll_none (h : ¬ 0 < ((cutN l z l.length).1.length : Int)) : cutAll l z = (cutN l z l.length).2 := by
  unfold cutAll cutEnd
  rw [if_pos]
  exact List.eq_nil_of_length_eq_zero (by omega)
end
section
variable {M : Model} {A : Around} {s : Shared} {env : Env} {pos : Pos} {Q : List Value → Shared → Prop}
theorem spl0_c (h : Q [] s) : wpC M A (spliced (backTo pos (starEach [] env))) Q s := spliced_nil_c h
theorem spl1_c {a : Expr} (h : wpC M A (eval a env) (fun v s₁ => Q [v] s₁) s) (he : backTo pos (starEach [a] env) = [(false, eval a env)] := by rfl) : wpC M A (spliced (backTo pos (starEach [a] env))) Q s := by
  rw [he]; exact spliced_cons_c (wpC_mono h fun v s₁ h₁ => spliced_nil_c h₁)
theorem spl2_c {a b : Expr} (h : wpC M A (eval a env) (fun v s₁ => wpC M A (eval b env) (fun u s₂ => Q [v, u] s₂) s₁) s) (he : backTo pos (starEach [a, b] env) = [(false, eval a env), (false, eval b env)] := by rfl) :
    wpC M A (spliced (backTo pos (starEach [a, b] env))) Q s := by
  rw [he]; exact spliced_cons_c (wpC_mono h fun v s₁ h₁ => spliced_cons_c (wpC_mono h₁ fun u s₂ h₂ => spliced_nil_c h₂))
end

-- plain
section
variable {prog : Program} {w : World} {A : Around} {s : Shared} {h₀ : Heap} {L : Addr}
theorem it_keep {h h' : Heap} {it : Addr} {m : Str → Option Value} {nx : List (Addr × Obj)} (F : Fr h₀ L h m) (N : News h₀ L h nx) (hL : L ≠ it) (h0 : h₀.get? it = none) (hne : ∀ p ∈ nx, p.1 ≠ it)
    (hk : ∀ b o, b ≠ it → h.get? b = some o → h'.get? b = some o) : Fr h₀ L h' m ∧ News h₀ L h' nx :=
  ⟨⟨F.ns.at' fun o e => hk L o hL e, fun b o e => hk b o (fun q => by rw [q, h0] at e; cases e) (F.keep b o e), F.above⟩, fun p hp => ⟨hk _ _ (hne p hp) (N p hp).1, (N p hp).2⟩⟩
/-- `for_c` in the library's logic. -/
theorem for_a {x : Str} {px : Pos} {body : List Stmt} {env : Env} {it : Addr} {n : Nat} {R : Result → Shared → Prop} (J : Nat → (Str → Option Value) → List (Addr × Obj) → Prop)
    (hh : A.handled = none) (hx : env.kindOf x = some .local) (hE : env.locals = L) (hke : (env.scope.kind == .class || (env.scope.kind == .module && env.locals != env.globals)) = false)
    (turn : ∀ i t m nx h tk (Qt : Flow → Shared → Prop) (E' : Value → Shared → Prop), (∀ f h' tk' m' nx', f = .next ∨ f = .cont → Fr h₀ L h' m' → News h₀ L h' ((it, ritObj (i + 1) n) :: nx') → (∀ p ∈ nx', p.1 ≠ it) → J (i + 1) m' nx' → Qt f { s with heap := h', toks := tk' }) →
      i < n → J i m nx → (∀ p ∈ nx, p.1 ≠ it) → Fr h₀ L h (fun y => if y = x then some (.int (i : Nat) t) else m y) → News h₀ L h ((it, ritObj (i + 1) n) :: nx) →
      wpAny (model prog w) A (execs body env) Qt E' { s with heap := h, toks := tk })
    (done : ∀ m nx h tk, J n m nx → Fr h₀ L h m → News h₀ L h nx → R (.ok .next) { s with heap := h, toks := tk })
    {m : Str → Option Value} {nx : List (Addr × Obj)} {h : Heap} {tk : Nat} (hJ : J 0 m nx) (hne : ∀ p ∈ nx, p.1 ≠ it) (F : Fr h₀ L h m) (N : News h₀ L h ((it, ritObj 0 n) :: nx)) :
      codeAny (model prog w) A (.forLoop (.Name x px) (.ref it) body [] env) R { s with heap := h, toks := tk } := by
  subst hE
  refine codeAny_forLoop (fun k s' => ∃ i m nx h tk, s' = { s with heap := h, toks := tk } ∧ k = n - i ∧ i ≤ n ∧ J i m nx ∧ (∀ p ∈ nx, p.1 ≠ it) ∧ Fr h₀ env.locals h m ∧ News h₀ env.locals h ((it, ritObj i n) :: nx)) ?_ n
    ⟨0, m, nx, h, tk, rfl, rfl, Nat.zero_le _, hJ, hne, F, N⟩
  rintro k s' ⟨i, m, nx, h, tk, rfl, rfl, hi, hJ, hne, F, N⟩
  have hit := (N _ (.head _))
  by_cases hlt : i < n
  · refine wpAny_pyNext_range_item hit.1 (by omega) fun h1 hit1 hs1 => ?_
    have F1 := F.change hs1 hit.2.1 hit.2.2
    have e1 : ({ cls := .type "range_iterator", dict := none, data := .fields #[rawInt ((i : Nat) + 1 : Int), rawInt ((n : Int) - (i : Nat) - 1), rawInt 1], slots := #[] } : Obj) = ritObj (i + 1) n := by
      unfold ritObj
      rw [show (n : Int) - ((i + 1 : Nat) : Int) = (n : Int) - (i : Nat) - 1 by omega, show ((i + 1 : Nat) : Int) = (i : Int) + 1 by omega]
    have hit1 : h1.get? it = some (ritObj (i + 1) n) := e1 ▸ hit1
    have N1 : News h₀ env.locals h1 ((it, ritObj (i + 1) n) :: nx) := N.setHead hne hs1 hit1
    refine wpAny_assign_Name (wpAny_storeName_local hx F1.ns (fun h2 hn2 hs2 => ?_) hke)
    have F2 : Fr h₀ env.locals h2 (fun y => if y = x then some (.int (i : Nat) tk) else m y) := ⟨hn2, fun b o e => (hs2.2 b (fun q => by
      subst q
      exact absurd (Nat.lt_of_lt_of_le (Heap.lt_size e) F1.above) (Nat.lt_irrefl _))).trans (F1.keep b o e), F1.above⟩
    have N2 := N1.set hs2
    refine wpAny_mono (turn i tk m nx h2 _ (fun f s' => (f = .next ∨ f = .cont) ∧ ∃ h' tk' m' nx', s' = { s with heap := h', toks := tk' } ∧ Fr h₀ env.locals h' m' ∧ News h₀ env.locals h' ((it, ritObj (i + 1) n) :: nx') ∧ (∀ p ∈ nx', p.1 ≠ it) ∧ J (i + 1) m' nx') _
      (fun f h' tk' m' nx' a b c d e => ⟨a, h', tk', m', nx', rfl, b, c, d, e⟩) hlt hJ hne F2 N2) (fun f s' hf => ?_) fun _ _ e => e
    obtain ⟨hf, h', tk', m', nx', rfl, F3, N3, hne3, hJ3⟩ := hf
    have fin : ∃ j, j < n - i ∧ ∃ i m nx h tk, ({ s with heap := h', toks := tk' } : Shared) = { s with heap := h, toks := tk } ∧ j = n - i ∧ i ≤ n ∧ J i m nx ∧ (∀ p ∈ nx, p.1 ≠ it) ∧ Fr h₀ env.locals h m ∧ News h₀ env.locals h ((it, ritObj i n) :: nx) :=
      ⟨n - (i + 1), by omega, i + 1, m', nx', h', tk', rfl, rfl, hlt, hJ3, hne3, F3, N3⟩
    rcases hf with rfl | rfl <;> exact fin
  · obtain rfl : i = n := by omega
    refine wpAny_pyNext_range_end hh hit.1 (by omega) fun h' he => wpAny_execs_nil ?_
    have z := it_keep F (fun p hp => N p (.tail _ hp)) hit.2.1.symm hit.2.2 hne fun b o hb e => he b o hb e
    exact done m nx h' tk hJ z.1 z.2
theorem range_a {x : Str} {px : Pos} {body : List Stmt} {env : Env} {r : Addr} {n : Nat} {k : Int} {t u v : Tok} {R : Result → Shared → Prop} {E : Value → Shared → Prop} {m : Str → Option Value} {nx : List (Addr × Obj)} (J : Nat → (Str → Option Value) → List (Addr × Obj) → Prop)
    (hR : IsRange s.heap r 0 k 1 t u v) (hn : k = (n : Int)) (hz : n ≤ 100000) (F : Fr h₀ L s.heap m) (N : News h₀ L s.heap nx) (hJ : J 0 m nx)
    (hh : A.handled = none) (hx : env.kindOf x = some .local) (hE : env.locals = L) (hke : (env.scope.kind == .class || (env.scope.kind == .module && env.locals != env.globals)) = false)
    (turn : ∀ i t m nx h tk (it : Addr) (s0 : Shared) (Qt : Flow → Shared → Prop) (E' : Value → Shared → Prop), (∀ f h' tk' m' nx', f = .next ∨ f = .cont → Fr h₀ L h' m' → News h₀ L h' ((it, ritObj (i + 1) n) :: nx') → (∀ p ∈ nx', p.1 ≠ it) → J (i + 1) m' nx' → Qt f { s0 with heap := h', toks := tk' }) →
      i < n → J i m nx → (∀ p ∈ nx, p.1 ≠ it) → Fr h₀ L h (fun y => if y = x then some (.int (i : Nat) t) else m y) → News h₀ L h ((it, ritObj (i + 1) n) :: nx) →
      wpAny (model prog w) A (execs body env) Qt E' { s0 with heap := h, toks := tk })
    (done : ∀ m nx h tk, J n m nx → Fr h₀ L h m → News h₀ L h nx → R (.ok .next) { s with heap := h, toks := tk }) :
    wpAny (model prog w) A (pyIter (.ref r)) (fun it s₂ => codeAny (model prog w) A (.forLoop (.Name x px) it body [] env) R s₂) E s := by
  subst hn
  refine wpAny_pyIter_range hR (small_one (by omega) (by omega) (by omega) (by omega)) ?_
  have er : Builtin.Range.rangeSize 0 (n : Int) 1 = (n : Int) := by rw [rangeSize0]; simp
  have eit : ({ cls := .type "range_iterator", data := .fields #[rawInt 0, rawInt (n : Int), rawInt 1] } : Obj) = ritObj 0 n := by simp [ritObj]
  rw [er, eit]
  exact for_a J hh hx hE hke (fun i t m nx h tk Qt E' => turn i t m nx h tk _ s Qt E') done hJ (fun p hp => Nat.ne_of_lt (Heap.lt_size (N p hp).1)) (F.push _) (N.push F _)
theorem key_bytes {k : List UInt8} {v : Value} (h : (bytesKind prog w).is k v = true) : ∃ t, v = .bytes k.toArray t := isBytes_shape h
/-- a loop over the keys of a dict of counts; the ledger stays. -/
theorem for_d {x : Str} {px : Pos} {body : List Stmt} {env : Env} {d : Addr} {o : Obj} {ps : Ps} {R : Result → Shared → Prop} {E : Value → Shared → Prop} {m : Str → Option Value} {news : List (Addr × Obj)} (J : Nat → (Str → Option Value) → Prop)
    (hh : A.handled = none) (hx : env.kindOf x = some .local) (hE : env.locals = L) (hke : (env.scope.kind == .class || (env.scope.kind == .module && env.locals != env.globals)) = false)
    (hm : (d, o) ∈ news) (hc : Cnt prog w o ps) (lo : (d == sysModules) = false) (F : Fr h₀ L s.heap m) (N : News h₀ L s.heap news) (h0 : J 0 m)
    (turn : ∀ i k v t m h tk I oI (s0 : Shared) (Qt : Flow → Shared → Prop) (E' : Value → Shared → Prop), (∀ f h' tk' m', f = .next ∨ f = .cont → Fr h₀ L h' m' → News h₀ L h' ((I, oI) :: news) → J (i + 1) m' → Qt f { s0 with heap := h', toks := tk' }) →
      ps[i]? = some (k, v) → J i m → (∀ p ∈ news, p.1 < I) → Fr h₀ L h (fun y => if y = x then some (.bytes k.toArray t) else m y) → News h₀ L h ((I, oI) :: news) →
      wpAny (model prog w) A (execs body env) Qt E' { s0 with heap := h, toks := tk })
    (done : ∀ m h tk, J ps.length m → Fr h₀ L h m → News h₀ L h news → R (.ok .next) { s with heap := h, toks := tk }) :
    wpAny (model prog w) A (pyIter (.ref d)) (fun it s₂ => codeAny (model prog w) A (.forLoop (.Name x px) it body [] env) R s₂) E s := by
  subst hE
  obtain ⟨kvs, hd, hv⟩ := hc
  obtain ⟨ep, hat⟩ := (kda_dict N hm hd).dictAt
  have hlt := hat.lt_size
  have hdI : d ≠ s.heap.objs.size := Nat.ne_of_lt hlt
  have hlI : ∀ p ∈ news, p.1 < s.heap.objs.size := fun p hp => Heap.lt_size (N p hp).1
  have hLI : env.locals ≠ s.heap.objs.size := Nat.ne_of_lt F.ns.lt
  have hI0 : h₀.get? s.heap.objs.size = none := next_is_new F
  have hod := (N _ hm).1
  refine wpAny_pyIter_dict lo hat ?_
  generalize hI : s.heap.objs.size = I at *
  have W := Walks.dictKeys (prog := prog) (w := w) (A := A) (knd := bytesKind prog w) hh I d hdI kvs ep
  refine codeAny_forLoop (fun k s' => ∃ i m h tk, s' = { s with heap := h, toks := tk } ∧ k = kvs.length - i ∧ i ≤ kvs.length ∧ J i m ∧ Fr h₀ env.locals h m ∧ News h₀ env.locals h news ∧ h.IsKeyIter I d i kvs.length ep ∧ h.DictAt (bytesKind prog w) d kvs ep) ?_ kvs.length
    ⟨0, m, _, s.toks, rfl, rfl, Nat.zero_le _, h0, F.push _, N.grown fun _ _ e => Heap.get?_push_of_some _ e, ⟨_, by rw [← hI]; exact Heap.get?_push_size _ rfl, rfl, rfl⟩, hat.push _⟩
  rintro k s' ⟨i, m, h, tk, rfl, rfl, hi, hJ, F, N, hit, hat'⟩
  have hne : ∀ p ∈ news, p.1 ≠ I := fun p hp => Nat.ne_of_lt (hlI p hp)
  by_cases hlt : i < kvs.length
  · refine W.item i _ _ _ hlt ⟨hit, hat'⟩ fun v h1 tk1 hP hst hk => ?_
    obtain ⟨key, val, hkv, hkey⟩ := hP
    obtain ⟨t, rfl⟩ := key_bytes hkey
    have z := it_keep F N hLI hI0 hne fun b o hb e => hk b o (by simpa using hb) e
    obtain ⟨oI, hoI, r1, r2⟩ := hst.1
    have N1 : News h₀ env.locals h1 ((I, oI) :: news) := fun p hp => by
      rcases List.mem_cons.mp hp with rfl | hp
      · exact ⟨hoI, hLI.symm, hI0⟩
      · exact z.2 p hp
    refine wpAny_assign_Name (wpAny_storeName_local hx z.1.ns (fun h2 hn2 hs2 => ?_) hke)
    have F2 : Fr h₀ env.locals h2 (fun y => if y = x then some (.bytes key.toArray t) else m y) := ⟨hn2, fun b o e => (hs2.2 b (fun q => by
      subst q
      exact absurd (Nat.lt_of_lt_of_le (Heap.lt_size e) z.1.above) (Nat.lt_irrefl _))).trans (z.1.keep b o e), z.1.above⟩
    have N2 := N1.set hs2
    obtain ⟨n, hps⟩ : ∃ n, ps[i]? = some (key, n) := by
      have e := congrArg (·[i]?) hv.keys
      simp only [List.getElem?_map, hkv, Option.map_some] at e
      cases hq : ps[i]? with
      | none => rw [hq] at e; simp at e
      | some q =>
        rw [hq] at e
        simp at e
        exact ⟨q.2, by rw [e]⟩
    refine wpAny_mono (turn i key n t m h2 _ I oI s (fun f s' => (f = .next ∨ f = .cont) ∧ ∃ h' tk' m', s' = { s with heap := h', toks := tk' } ∧ Fr h₀ env.locals h' m' ∧ News h₀ env.locals h' ((I, oI) :: news) ∧ J (i + 1) m') _
      (fun f h' tk' m' a b c e => ⟨a, h', tk', m', rfl, b, c, e⟩) hps hJ hlI F2 N2) (fun f s' hf => ?_) fun _ _ e => e
    obtain ⟨hf, h', tk', m', rfl, F3, N3, hJ3⟩ := hf
    have hat2 : h'.DictAt (bytesKind prog w) d kvs ep := hat'.at' fun o e => by
      have e2 := (N _ hm).1
      rw [e2] at e
      cases e
      exact (N3 _ (.tail _ hm)).1
    have fin : ∃ j, j < kvs.length - i ∧ ∃ i m h tk, ({ s with heap := h', toks := tk' } : Shared) = { s with heap := h, toks := tk } ∧ j = kvs.length - i ∧ i ≤ kvs.length ∧ J i m ∧ Fr h₀ env.locals h m ∧ News h₀ env.locals h news ∧ h.IsKeyIter I d i kvs.length ep ∧ h.DictAt (bytesKind prog w) d kvs ep :=
      ⟨kvs.length - (i + 1), by omega, i + 1, m', h', tk', rfl, rfl, hlt, hJ3, F3, fun p hp => N3 p (.tail _ hp), ⟨oI, (N3 _ (.head _)).1, r1, r2⟩, hat2⟩
    rcases hf with rfl | rfl <;> exact fin
  · obtain rfl : i = kvs.length := by omega
    refine W.done _ _ _ ⟨hit, hat'⟩ fun h1 tk1 hk => wpAny_execs_nil ?_
    have z := it_keep F N hLI hI0 hne fun b o hb e => hk b o (by simpa using hb) e
    exact done m h1 tk1 (hv.length ▸ hJ) z.1 z.2
/-- a loop over a list of the ledger, which stays. -/
theorem for_l {x : Str} {px : Pos} {body : List Stmt} {env : Env} {d : Addr} {vs : List Value} {n0 : Nat} {R : Result → Shared → Prop} {E : Value → Shared → Prop} {m : Str → Option Value} {news : List (Addr × Obj)} (J : Nat → (Str → Option Value) → Prop)
    (hh : A.handled = none) (hx : env.kindOf x = some .local) (hE : env.locals = L) (hke : (env.scope.kind == .class || (env.scope.kind == .module && env.locals != env.globals)) = false)
    (hm : (d, listOf vs.toArray n0) ∈ news) (F : Fr h₀ L s.heap m) (N : News h₀ L s.heap news) (h0 : J 0 m)
    (turn : ∀ i v m h tk I oI (s0 : Shared) (Qt : Flow → Shared → Prop) (E' : Value → Shared → Prop), (∀ f h' tk' m', f = .next ∨ f = .cont → Fr h₀ L h' m' → News h₀ L h' ((I, oI) :: news) → J (i + 1) m' → Qt f { s0 with heap := h', toks := tk' }) →
      vs[i]? = some v → J i m → (∀ p ∈ news, p.1 < I) → Fr h₀ L h (fun y => if y = x then some v else m y) → News h₀ L h ((I, oI) :: news) →
      wpAny (model prog w) A (execs body env) Qt E' { s0 with heap := h, toks := tk })
    (done : ∀ m h tk, J vs.length m → Fr h₀ L h m → News h₀ L h news → R (.ok .next) { s with heap := h, toks := tk }) :
    wpAny (model prog w) A (pyIter (.ref d)) (fun it s₂ => codeAny (model prog w) A (.forLoop (.Name x px) it body [] env) R s₂) E s := by
  subst hE
  have hat := listAt N hm
  have hlt : d < s.heap.objs.size := Heap.lt_size (N _ hm).1
  have hdI : d ≠ s.heap.objs.size := Nat.ne_of_lt hlt
  have hlI : ∀ p ∈ news, p.1 < s.heap.objs.size := fun p hp => Heap.lt_size (N p hp).1
  have hLI : env.locals ≠ s.heap.objs.size := Nat.ne_of_lt F.ns.lt
  have hI0 : h₀.get? s.heap.objs.size = none := next_is_new F
  have hod := (N _ hm).1
  refine wpAny_pyIter_list hat ?_
  generalize hI : s.heap.objs.size = I at *
  have W := Walks.list (prog := prog) (w := w) (A := A) hh I d hdI vs.toArray
  rw [List.size_toArray] at W
  refine codeAny_forLoop (fun k s' => ∃ i m h tk, s' = { s with heap := h, toks := tk } ∧ k = vs.length - i ∧ i ≤ vs.length ∧ J i m ∧ Fr h₀ env.locals h m ∧ News h₀ env.locals h news ∧ h.IsListIter I d i ∧ h.IsList d vs.toArray) ?_ vs.length
    ⟨0, m, _, s.toks, rfl, rfl, Nat.zero_le _, h0, F.push _, N.grown fun _ _ e => Heap.get?_push_of_some _ e, ⟨_, by rw [← hI]; exact Heap.get?_push_size _ rfl, rfl, rfl⟩, hat.push _⟩
  rintro k s' ⟨i, m, h, tk, rfl, rfl, hi, hJ, F, N, hit, hat'⟩
  have hne : ∀ p ∈ news, p.1 ≠ I := fun p hp => Nat.ne_of_lt (hlI p hp)
  by_cases hlt : i < vs.length
  · refine W.item i _ _ _ hlt ⟨hit, hat'⟩ fun v h1 tk1 hP hst hk => ?_
    have hP : vs[i]? = some v := by simpa using hP
    have z := it_keep F N hLI hI0 hne fun b o hb e => hk b o (by simpa using hb) e
    obtain ⟨oI, hoI, r1, r2⟩ := hst.1
    have N1 : News h₀ env.locals h1 ((I, oI) :: news) := fun p hp => by
      rcases List.mem_cons.mp hp with rfl | hp
      · exact ⟨hoI, hLI.symm, hI0⟩
      · exact z.2 p hp
    refine wpAny_assign_Name (wpAny_storeName_local hx z.1.ns (fun h2 hn2 hs2 => ?_) hke)
    have F2 : Fr h₀ env.locals h2 (fun y => if y = x then some v else m y) := ⟨hn2, fun b o e => (hs2.2 b (fun q => by
      subst q
      exact absurd (Nat.lt_of_lt_of_le (Heap.lt_size e) z.1.above) (Nat.lt_irrefl _))).trans (z.1.keep b o e), z.1.above⟩
    have N2 := N1.set hs2
    refine wpAny_mono (turn i v m h2 _ I oI s (fun f s' => (f = .next ∨ f = .cont) ∧ ∃ h' tk' m', s' = { s with heap := h', toks := tk' } ∧ Fr h₀ env.locals h' m' ∧ News h₀ env.locals h' ((I, oI) :: news) ∧ J (i + 1) m') _
      (fun f h' tk' m' a b c e => ⟨a, h', tk', m', rfl, b, c, e⟩) hP hJ hlI F2 N2) (fun f s' hf => ?_) fun _ _ e => e
    obtain ⟨hf, h', tk', m', rfl, F3, N3, hJ3⟩ := hf
    have hat2 : h'.IsList d vs.toArray := hat'.at fun o e => by
      have e2 := (N _ hm).1
      rw [e2] at e
      cases e
      exact (N3 _ (.tail _ hm)).1
    have fin : ∃ j, j < vs.length - i ∧ ∃ i m h tk, ({ s with heap := h', toks := tk' } : Shared) = { s with heap := h, toks := tk } ∧ j = vs.length - i ∧ i ≤ vs.length ∧ J i m ∧ Fr h₀ env.locals h m ∧ News h₀ env.locals h news ∧ h.IsListIter I d i ∧ h.IsList d vs.toArray :=
      ⟨vs.length - (i + 1), by omega, i + 1, m', h', tk', rfl, rfl, hlt, hJ3, F3, fun p hp => N3 p (.tail _ hp), ⟨oI, (N3 _ (.head _)).1, r1, r2⟩, hat2⟩
    rcases hf with rfl | rfl <;> exact fin
  · obtain rfl : i = vs.length := by omega
    refine W.done _ _ _ ⟨hit, hat'⟩ fun h1 tk1 hk => wpAny_execs_nil ?_
    have z := it_keep F N hLI hI0 hne fun b o hb e => hk b o (by simpa using hb) e
    exact done m h1 tk1 hJ z.1 z.2
end
noncomputable def Has (m : Str → Option Value) (l : List (Str × Value)) : Prop := ∀ p ∈ l, m p.1 = some p.2
section
variable {m : Str → Option Value} {x y z u v : Str} {a b c d e : Value}
theorem has1 (ha : m x = some a) : Has m [(x, a)] := fun p hp => by rw [List.mem_singleton.mp hp]; exact ha
theorem hasc {l : List (Str × Value)} (ha : m x = some a) (hl : Has m l) : Has m ((x, a) :: l) := fun p hp => by
  rcases List.mem_cons.mp hp with rfl | hp
  · exact ha
  · exact hl p hp
theorem has2 (ha : m x = some a) (hb : m y = some b) : Has m [(x, a), (y, b)] := hasc ha (has1 hb)
theorem has3 (ha : m x = some a) (hb : m y = some b) (hc : m z = some c) : Has m [(x, a), (y, b), (z, c)] := hasc ha (has2 hb hc)
theorem has4 (ha : m x = some a) (hb : m y = some b) (hc : m z = some c) (hd : m u = some d) : Has m [(x, a), (y, b), (z, c), (u, d)] := hasc ha (has3 hb hc hd)
theorem has5 (ha : m x = some a) (hb : m y = some b) (hc : m z = some c) (hd : m u = some d) (he : m v = some e) : Has m [(x, a), (y, b), (z, c), (u, d), (v, e)] := hasc ha (has4 hb hc hd he)
end
theorem one_yes {v k : UInt8} (h : (([v].toArray).toList == (#[k] : Array UInt8).toList) = true) : v = k := by
  have : [v] = [k] := eq_of_beq h
  exact (List.cons.inj this).1
theorem one_no {v k : UInt8} (h : (([v].toArray).toList == (#[k] : Array UInt8).toList) = false) : v ≠ k := by
  rintro rfl
  simp at h
theorem nil_yes {b : List UInt8} (h : ((b.toArray).toList == (#[] : Array UInt8).toList) = true) : b = [] := eq_of_beq h
theorem nil_no {b : List UInt8} (h : ((b.toArray).toList == (#[] : Array UInt8).toList) = false) : b ≠ [] := by
  rintro rfl
  simp at h
theorem cutAll_nil {l : List UInt8} {z : Int} (h : (cutN l z l.length).1 = []) : cutAll l z = (cutN l z l.length).2 := by
  unfold cutAll cutEnd
  rw [if_pos h]
theorem cutAll_cons {l : List UInt8} {z : Int} (h : (cutN l z l.length).1 ≠ []) : cutAll l z = bump (cutN l z l.length).2 (cutN l z l.length).1 := by
  unfold cutAll cutEnd
  rw [if_neg h]
theorem nil_ne {b : List UInt8} (h : ((b.toArray).toList != (#[] : Array UInt8).toList) = true) : b ≠ [] := by
  rintro rfl
  simp at h
theorem nil_eq {b : List UInt8} (h : ((b.toArray).toList != (#[] : Array UInt8).toList) = false) : b = [] := by
  simpa using h

-- plain
section
variable {prog : Program} {w : World} {A : Around} {s : Shared} {h₀ : Heap} {L : Addr} {m : Str → Option Value} {news : List (Addr × Obj)} {E : Value → Shared → Prop}
theorem ints_snoc {vs : List Value} {ns : List Int} (h : IntsAre vs ns) (n : Int) (t : Tok) : IntsAre (vs ++ [.int n t]) (ns ++ [n]) := ksk_snoc h
/-- the element of a comprehension over the keys of a count dict: an int of the key; the ledger stays. -/
noncomputable def EltD (prog : Program) (w : World) (A : Around) (h₀ : Heap) (L : Addr) (m : Str → Option Value) (env : Env) (elt : Expr) (x : Str) (scope : Scope) (cl : List (Str × Addr)) (news : List (Addr × Obj)) (f : List UInt8 → Int) (ps : Ps) : Prop :=
  ∀ k t I oI C oC D ys m₂ h tk (s0 : Shared) (Qe : Value → Shared → Prop) (E' : Value → Shared → Prop), k ∈ ps.map (·.1) → LCg.NsObj oC m₂ → m₂ x = some (.bytes k.toArray t) → Fr h₀ L h m → News h₀ L h ((I, oI) :: (C, oC) :: (D, ys) :: news) →
    (∀ h' tk' t', Fr h₀ L h' m → News h₀ L h' ((I, oI) :: (C, oC) :: (D, ys) :: news) → Qe (.int (f k) t') { s0 with heap := h', toks := tk' }) → wpAny (model prog w) A (eval elt (compEnvC scope cl C env)) Qe E' { s0 with heap := h, toks := tk }
theorem comp_rest {elt : Expr} {x : Str} {scope : Scope} {cl : List (Str × Addr)} {env : Env} {d : Addr} {o : Obj} {ps : Ps} {kvs : List (List UInt8 × Value)} {f : List UInt8 → Int} {s₂ : Shared} (hm : (d, o) ∈ news) (hv : Vals kvs ps)
    (he : EltD prog w A h₀ L m env elt x scope cl news f ps) : ∀ (j i : Nat) (ys : List Value), i + j = kvs.length → IntsAre ys ((ps.take i).map fun p => f p.1) →
      LCg.CompRest prog w A h₀ L m env elt x scope cl s₂ (fun nw => (d, o) ∈ nw) (fun i v => ∃ k y, kvs[i]? = some (k, y) ∧ (bytesKind prog w).is k v = true) (fun ys nw => IntsAre ys (ps.map fun p => f p.1) ∧ nw = news) j i ys news
  | 0, i, ys, hi, hy => by
    refine LCg.CompRest.zero ⟨?_, rfl⟩
    rw [List.take_of_length_le (by have := hv.length; omega)] at hy
    exact hy
  | j + 1, i, ys, hi, hy => by
    refine LCg.CompRest.succ fun v I oI C oC D m₂ h tk E' hP hC hx F N off ne => ?_
    obtain ⟨k, y, hk, hkey⟩ := hP
    obtain ⟨t, rfl⟩ := key_bytes hkey
    have e := congrArg (·[i]?) hv.keys
    simp only [List.getElem?_map, hk, Option.map_some] at e
    obtain ⟨q, hq, hqk⟩ : ∃ q, ps[i]? = some q ∧ q.1 = k := by
      cases hq : ps[i]? with
      | none => rw [hq] at e; simp at e
      | some q => rw [hq] at e; simp at e; exact ⟨q, rfl, e.symm⟩
    refine he k t I oI C oC D _ m₂ h tk s₂ _ _ (hqk ▸ List.mem_map_of_mem (List.mem_of_getElem? hq)) hC hx F N fun h' tk' t' F' N' => ?_
    refine ⟨h', tk', news, rfl, F', N', off, hm, comp_rest hm hv he j (i + 1) _ (by omega) ?_⟩
    rw [List.take_add_one, hq]
    simp only [Option.toList_some, List.map_append, List.map_cons, List.map_nil, hqk]
    exact ints_snoc hy _ _
theorem comp_d {elt iter : Expr} {x : Str} {px : Pos} {scope : Scope} {cl : List (Str × Addr)} {pos : Pos} {env : Env} {d : Addr} {o : Obj} {ps : Ps} {Q : Value → Shared → Prop} (f : List UInt8 → Int)
    (hi : ∀ Qv : Value → Shared → Prop, Qv (.ref d) s → wpAny (model prog w) A (eval iter env) Qv E s) (hh : A.handled = none) (F : Fr h₀ L s.heap m) (N : News h₀ L s.heap news) (hm : (d, o) ∈ news) (hc : Cnt prog w o ps) (lo : (d == sysModules) = false) (hz : ps.length ≤ 1000)
    (hclos : closureFor scope env = pure cl) (hcell : ∀ y ∈ scope.names, y.2 ≠ .cell) (hkind : scope.kind = .function)
    (hnames : ∀ y ∈ scope.names, y.2 = .local → scope.names.lookup y.1 = some .local) (hx : scope.names.lookup x = some .local)
    (he : EltD prog w A h₀ L m env elt x scope cl news f ps)
    (h : ∀ D ys n h' tk, IntsAre ys (ps.map fun p => f p.1) → Fr h₀ L h' m → News h₀ L h' ((D, listOf ys.toArray n) :: news) → LCg.Off1 D news → Q (.ref D) { s with heap := h', toks := tk })
    (hs : ∀ x, foldedSetIterable iter env x = pure x := by intro _; rfl) :
    wpAny (model prog w) A (eval (.ListComp elt [⟨.Name x px, iter, [], 0⟩] scope pos) env) Q E s := by
  obtain ⟨kvs, hd, hv⟩ := hc
  obtain ⟨ep, hat⟩ := (kda_dict N hm hd).dictAt
  have hlt := hat.lt_size
  rw [eval_ListComp]
  refine wpAny_comprehension_free (use := none) rfl hs hclos hkind hnames (hi _ ?_)
  refine wpAny_pyIter_dict lo hat ?_
  refine LCg.block_U (P := fun i v => ∃ k y, kvs[i]? = some (k, y) ∧ (bytesKind prog w).is k v = true) (S := fun nw => (d, o) ∈ nw) (Fin := fun ys nw => IntsAre ys (ps.map fun p => f p.1) ∧ nw = news)
    (Walks.dictKeys (knd := bytesKind prog w) hh s.heap.objs.size d (Nat.ne_of_lt hlt) kvs ep) (by rw [hv.length, sizeLine_eq]; omega) (fun i h st => by obtain ⟨o, e, _⟩ := st.1; exact ⟨o, e⟩) ?_ hcell hkind hx ⟨⟨_, Heap.get?_push_size _ rfl, rfl, rfl⟩, hat.push _⟩ (fun b hb => ?_)
    (F.push _) (N.grown fun _ _ e => Heap.get?_push_of_some _ e) (Nat.ne_of_lt F.ns.lt) (next_is_new F) (fun p hp => Nat.ne_of_lt (Heap.lt_size (N p hp).1)) hm (comp_rest hm hv he kvs.length 0 [] (by omega) .nil) ?_
  · intro i h h' o' nw st e e' k N' S
    refine ⟨by obtain ⟨o2, q, r⟩ := st.1; rw [e] at q; cases q; exact ⟨o', e', r⟩, ?_⟩
    exact hat.at' fun o2 e2 => by
      have e3 := (N _ hm).1
      rw [e2] at e3
      cases e3
      exact (N' _ S).1
  · show b < (s.heap.push _).objs.size
    rw [Heap.size_push]
    rcases List.mem_cons.mp hb with rfl | hb
    · exact Nat.lt_succ_self _
    · rw [List.mem_singleton.mp hb]; exact Nat.lt_succ_of_lt hlt
  · intro D C h' tk m' ys news' F' N' o1 hn hC₀ hD₀ hCL hDL hCD offC fin
    obtain ⟨hy, rfl⟩ := fin
    refine ⟨m', hn, fun h'' hs'' => h D ys ys.length h'' tk hy (F'.change hs'' hCL hC₀) (fun p hp => ?_) o1⟩
    refine ⟨hs''.extBut _ _ ?_ (N' p hp).1, (N' p hp).2⟩
    rcases List.mem_cons.mp hp with rfl | hp
    · exact Ne.symm hCD
    · exact offC p hp
theorem ld_c {x : Str} {pos : Pos} {c : Addr} {oc : Obj} {v : Value} {scope : Scope} {cl : List (Str × Addr)} {C : Addr} {env : Env} {M : Model} {Q : Value → Shared → Prop} (N : News h₀ L s.heap news) (hm : (c, oc) ∈ news) (ho : oc.data = .cell (some v)) (h : Q v s) (hc : cl.lookup x = some c := by rfl)
    (hk : (compEnvC scope cl C env).scope.kind = .function := by rfl) (hl : (compEnvC scope cl C env).kindOf x = some .cell := by rfl) (hd : (x == ("__debug__" : Str)) = false := by decide) :
    wpAny M A (eval (.Name x pos) (compEnvC scope cl C env)) Q E s := lcf_cell N hc hm ho h hk hl hd
end
theorem news_up1 {h₀ h : Heap} {L : Addr} {a : Addr × Obj} {l : List (Addr × Obj)} (N : News h₀ L h l) (ha : a ∈ l) : News h₀ L h (a :: l) := kst_newsOf N (List.forall_mem_cons.mpr ⟨ha, fun _ h => h⟩)
theorem news_dn1 {h₀ h : Heap} {L : Addr} {a : Addr × Obj} {l : List (Addr × Obj)} (N : News h₀ L h (a :: l)) : News h₀ L h l := News.tail' N
noncomputable abbrev spDict (w : World) (z : Int) (c : Addr) (t1 t2 t3 : Tok) : Obj := dictOf [{ hash := PyData.keyHash w.params (Str.ofString "size"), key := .str (Str.ofString "size") t1, val := .int z t2 }, { hash := PyData.keyHash w.params (Str.ofString "counts"), key := .str (Str.ofString "counts") t3, val := .ref c }] 2
/-- a Spans object in the ledger: its counts are ps, its size what they add up to. -/
noncomputable def SpAt (prog : Program) (w : World) (news : List (Addr × Obj)) (x : Addr) (ps : Ps) : Prop :=
  ∃ dx c oc t1 t2 t3, (x, instObj 75 dx) ∈ news ∧ (dx, spDict w (tot ps) c t1 t2 t3) ∈ news ∧ (c, oc) ∈ news ∧ Cnt prog w oc ps ∧ (c == sysModules) = false
theorem SpAt.mono {prog : Program} {w : World} {news news' : List (Addr × Obj)} {x : Addr} {ps : Ps} (h : SpAt prog w news x ps) (hs : ∀ p ∈ news, p ∈ news') : SpAt prog w news' x ps :=
  let ⟨dx, c, oc, t1, t2, t3, a, b, d, e, f⟩ := h; ⟨dx, c, oc, t1, t2, t3, hs _ a, hs _ b, hs _ d, e, f⟩

-- plain
noncomputable def ins (a : Int) : List Int → List Int
  | [] => [a]
  | b :: r => if a ≤ b then a :: b :: r else b :: ins a r
noncomputable def srt : List Int → List Int
  | [] => []
  | a :: r => ins a (srt r)
theorem ins_perm (a : Int) : ∀ l : List Int, (ins a l).Perm (a :: l)
  | [] => .refl _
  | b :: r => by
    unfold ins
    split
    · exact .refl _
    · exact (List.Perm.cons b (ins_perm a r)).trans (List.Perm.swap a b r)
theorem srt_perm : ∀ l : List Int, (srt l).Perm l
  | [] => .refl _
  | a :: r => (ins_perm a (srt r)).trans (List.Perm.cons a (srt_perm r))
theorem ins_asc (a : Int) : ∀ l : List Int, l.Pairwise (· ≤ ·) → (ins a l).Pairwise (· ≤ ·)
  | [], _ => List.pairwise_singleton _ _
  | b :: r, h => by
    have h' := List.pairwise_cons.mp h
    unfold ins
    split
    · rename_i hab
      refine List.pairwise_cons.mpr ⟨fun x hx => ?_, h⟩
      rcases List.mem_cons.mp hx with rfl | hx
      · exact hab
      · exact Int.le_trans hab (h'.1 x hx)
    · rename_i hab
      refine List.pairwise_cons.mpr ⟨fun x hx => ?_, ins_asc a r h'.2⟩
      rcases List.mem_cons.mp ((ins_perm a r).mem_iff.mp hx) with rfl | hx
      · omega
      · exact h'.1 x hx
theorem srt_asc : ∀ l : List Int, (srt l).Pairwise (· ≤ ·)
  | [] => .nil
  | a :: r => ins_asc a _ (srt_asc r)
theorem srt_uniq {a b : List Int} (p : a.Perm b) (h : a.Pairwise (· ≤ ·)) : a = srt b := lks_uniq (p.trans (srt_perm b).symm) h (srt_asc b)
section
variable {prog : Program} {w : World} {A : Around} {s : Shared} {h₀ : Heap} {L d l v : Addr} {m : Str → Option Value} {news : List (Addr × Obj)} {E : Value → Shared → Prop} {o : Obj} {ps : Ps}
theorem sorted_I {vs : List Value} {ns : List Int} {n : Nat} {Q : Value → Shared → Prop} (F : Fr h₀ L s.heap m) (N : News h₀ L s.heap news) (hm : (l, listOf vs.toArray n) ∈ news) (hi : IntsAre vs ns) (h64 : ns.length < 64)
    (h : ∀ D vs' c h', Fr h₀ L h' m → News h₀ L h' ((D, listOf vs'.toArray c) :: news) → (∀ q ∈ news, q.1 < D) → IntsAre vs' (srt ns) → Q (.ref D) { s with heap := h' }) :
    wpAny (model prog w) A (call (.builtin "sorted") [.ref l]) Q E s :=
  kso_sorted F N (listAt N hm) hi h64 fun D vs' ns' c h' F' N' l1 i e p o' b => h D vs' c h' F' N' l1 (srt_uniq p o' ▸ i)
theorem getm_values {pl : Sem Bool} {Q : Value × List Value → Shared → Prop} (N : News h₀ L s.heap news) (hp : (d, o) ∈ news) (hc : Cnt prog w o ps) (h : Q (.builtin "dict.values", [.ref d]) s) : wpAny (model prog w) A (getMethod (.ref d) "values" pl) Q E s := by
  obtain ⟨kvs, hd, hv⟩ := hc
  exact kdl_method PySem.F.slot_dict_values PySem.F.type_dict_values N hp hd h
theorem view_values {Q : Value → Shared → Prop} (F : Fr h₀ L s.heap m) (N : News h₀ L s.heap news) (hp : (d, o) ∈ news) (hc : Cnt prog w o ps) (lo : (d == sysModules) = false)
    (h : ∀ (D : Addr) h', Fr h₀ L h' m → News h₀ L h' ((D, { cls := .type "dict_values", data := .fields #[.ref d] }) :: news) → (∀ q ∈ news, q.1 < D) → Q (.ref D) { s with heap := h' }) :
    wpAny (model prog w) A (call (.builtin "dict.values") [.ref d]) Q E s := by
  obtain ⟨kvs, hd, hv⟩ := hc
  exact kdl_view_values F N hp hd lo h
theorem vals_ints : ∀ {kvs : List (List UInt8 × Value)} {ps : Ps} (_ : Vals kvs ps) {vs : List Value}, vs.length = kvs.length → (∀ (j : Nat) (v : Value), vs[j]? = some v → ∃ k, kvs[j]? = some (k, v)) → IntsAre vs (ps.map (·.2))
  | _, _, .nil, [], _, _ => .nil
  | _, _, .nil, _ :: _, h, _ => nomatch h
  | _, _, .cons _ _ _ _, [], h, _ => nomatch h
  | _, _, .cons k n t hv, v :: vs, h, hj => by
    obtain ⟨k', e⟩ := hj 0 v rfl
    simp at e
    obtain ⟨rfl, rfl⟩ := e
    exact .cons n t (vals_ints hv (by simpa using h) fun j u hu => by simpa using hj (j + 1) u (by simpa using hu))
theorem sorted_V {Q : Value → Shared → Prop} (hh : A.handled = none) (F : Fr h₀ L s.heap m) (N : News h₀ L s.heap news) (hv : (v, { cls := .type "dict_values", data := .fields #[.ref d] }) ∈ news) (hp : (d, o) ∈ news) (hc : Cnt prog w o ps) (h64 : ps.length < 64)
    (h : ∀ D vs' c h' tk, Fr h₀ L h' m → News h₀ L h' ((D, listOf vs'.toArray c) :: news) → (∀ q ∈ news, q.1 < D) → IntsAre vs' (srt (ps.map fun p => cget ps p.1)) → Q (.ref D) { s with heap := h', toks := tk }) :
    wpAny (model prog w) A (call (.builtin "sorted") [.ref v]) Q E s := by
  have hnd := hc.nodup
  obtain ⟨kvs, hd, hvv⟩ := hc
  obtain ⟨ep, hat⟩ := (kda_dict N hp hd).dictAt
  have hl := hvv.length
  refine kdu_sorted (kdl_values (knd := bytesKind prog w) (kvs := kvs) (ep := ep)) hh F N ⟨⟨_, (N _ hv).1, rfl, rfl⟩, hat⟩ (by rw [sizeLine_eq]; omega) fun D h1 tk vs F1 N1 l1 hl1 hj => ?_
  have hi := vals_ints hvv hl1 hj
  rw [← cget_self ps hnd] at hi
  have hD := (N1 _ (.head _))
  refine wpAny_call_entry PyProof.Rows.slot_list_sort ⟨_, hD.1, rfl⟩ PyProof.Rows.entry_list_sort (list_sort_tree (n := 0) (vs := vs) hD.1 hi (by omega) fun out ns' hI hp' hP => ⟨.none, rfl, ?_⟩) (PyProof.Rows.args_list_sort _)
  obtain ⟨e, he⟩ := sortedHeap_at (out := out) hD.1
  have hlt : ∀ b o, h1.get? b = some o → b < h1.objs.size := fun b o e => Heap.lt_size e
  have old : ∀ b o, b ≠ D → h1.get? b = some o → (sortedHeap h1 D vs out).get? b = some o := fun b o hb e => (sortedHeap_old hb (Heap.lt_size e)).trans e
  have z := it_keep F1 (fun p hp => N1 p (.tail _ hp)) hD.2.1.symm hD.2.2 (fun p hp => Nat.ne_of_lt (l1 p hp)) old
  refine h D out.toList e _ tk z.1 (fun p hp => ?_) l1 (srt_uniq hp' hP ▸ hI)
  rcases List.mem_cons.mp hp with rfl | hp
  · refine ⟨?_, hD.2⟩
    rw [Array.toArray_toList]
    exact he
  · exact z.2 p hp
end

-- plain
section
variable {prog : Program} {w : World} {A : Around} {s : Shared} {h₀ : Heap} {L : Addr} {m : Str → Option Value} {news : List (Addr × Obj)} {E : Value → Shared → Prop}
/-- the element of a comprehension: an int of the turn's number; the ledger stays. -/
noncomputable def EltW (prog : Program) (w : World) (A : Around) (h₀ : Heap) (L : Addr) (m : Str → Option Value) (env : Env) (elt : Expr) (x : Str) (scope : Scope) (cl : List (Str × Addr)) (news : List (Addr × Obj)) (g : Nat → Int) (n : Nat) (P : Nat → Value → Prop) : Prop :=
  ∀ i v I oI C oC D ys m₂ h tk (s0 : Shared) (Qe : Value → Shared → Prop) (E' : Value → Shared → Prop), i < n → P i v → LCg.NsObj oC m₂ → m₂ x = some v → Fr h₀ L h m → News h₀ L h ((I, oI) :: (C, oC) :: (D, ys) :: news) →
    (∀ h' tk' t', Fr h₀ L h' m → News h₀ L h' ((I, oI) :: (C, oC) :: (D, ys) :: news) → Qe (.int (g i) t') { s0 with heap := h', toks := tk' }) → wpAny (model prog w) A (eval elt (compEnvC scope cl C env)) Qe E' { s0 with heap := h, toks := tk }
theorem rest_W {elt : Expr} {x : Str} {scope : Scope} {cl : List (Str × Addr)} {env : Env} {g : Nat → Int} {n : Nat} {P : Nat → Value → Prop} {s₂ : Shared}
    (he : EltW prog w A h₀ L m env elt x scope cl news g n P) : ∀ (j i : Nat) (ys : List Value), i + j = n → IntsAre ys ((List.range i).map g) →
      LCg.CompRest prog w A h₀ L m env elt x scope cl s₂ (fun _ => True) P (fun ys nw => IntsAre ys ((List.range n).map g) ∧ nw = news) j i ys news
  | 0, i, ys, hi, hy => LCg.CompRest.zero ⟨by rw [show n = i by omega]; exact hy, rfl⟩
  | j + 1, i, ys, hi, hy => by
    refine LCg.CompRest.succ fun v I oI C oC D m₂ h tk E' hP hC hx F N off ne => ?_
    refine he i v I oI C oC D _ m₂ h tk s₂ _ _ (by omega) hP hC hx F N fun h' tk' t' F' N' => ?_
    refine ⟨h', tk', news, rfl, F', N', off, trivial, rest_W he j (i + 1) _ (by omega) ?_⟩
    rw [List.range_succ, List.map_append]
    exact ints_snoc hy _ _
variable {elt iter : Expr} {x y : Str} {px py : Pos} {scope : Scope} {cl : List (Str × Addr)} {pos spos : Pos} {env : Env} {xv : Value} {oI : Obj} {n : Nat} {P : Nat → Value → Prop} {St : Nat → Heap → Prop}
theorem comp_A {Q : Flow → Shared → Prop} (g : Nat → Int) (F : Fr h₀ L s.heap m) (N : News h₀ L s.heap news) (hLe : env.locals = L)
    (hi : ∀ Qv : Value → Shared → Prop, Qv xv s → wpAny (model prog w) A (eval iter env) Qv E s)
    (hit : ∀ Qv : Value → Shared → Prop, Qv (.ref s.heap.objs.size) { s with heap := s.heap.push oI } → wpAny (model prog w) A (pyIter xv) Qv E s)
    (W : Walks prog w A s.heap.objs.size [s.heap.objs.size] [s.heap.objs.size] n P St) (hn : n ≤ 1000) (hIo : ∀ i h, St i h → ∃ o, h.get? s.heap.objs.size = some o)
    (st0 : St 0 (s.heap.push oI))
    (hsw : swapsWith (.ListComp elt [⟨.Name x px, iter, [], 0⟩] scope pos) (some (.Name y py)) spos.line env = pure true)
    (hclos : closureFor scope env = pure cl) (hcell : ∀ y ∈ scope.names, y.2 ≠ .cell) (hkind : scope.kind = .function)
    (hnames : ∀ y ∈ scope.names, y.2 = .local → scope.names.lookup y.1 = some .local) (hx : scope.names.lookup x = some .local)
    (hy : env.kindOf y = some .local) (hp : (env.scope.kind == .class || (env.scope.kind == .module && env.locals != env.globals)) = false)
    (he : EltW prog w A h₀ L m env elt x scope cl news g n P)
    (h : ∀ D ys n' h' tk, IntsAre ys ((List.range n).map g) → Fr h₀ L h' (fun z => if z = y then some (.ref D) else m z) → News h₀ L h' ((D, listOf ys.toArray n') :: news) → LCg.Off1 D news → Q .next { s with heap := h', toks := tk })
    (hs : ∀ x, foldedSetIterable iter env x = pure x := by intro _; rfl) :
    wpAny (model prog w) A (exec (.Assign [.Name y py] (.ListComp elt [⟨.Name x px, iter, [], 0⟩] scope pos) spos) env) Q E s := by
  subst hLe
  rw [exec_Assign_Name_used _ _ _ _ hsw]
  refine wpAny_bind (wpAny_standAt (wpAny_bind ?_))
  show wpAny _ A (do let _ ← comprehension (.ListComp elt [⟨.Name x px, iter, [], 0⟩] scope pos) scope env _ (newList []) false (eval iter env) (some (assign (.Name y py) env))) _ _ s
  refine wpAny_bind (wpAny_mono (wpAny_comprehension_free (use := some (assign (.Name y py) env)) (Q := fun _ s' => Q .next s') rfl hs hclos hkind hnames (hi _ (hit _ ?_))) (fun _ s' hq => wpAny_pure (wpAny_pure hq)) fun _ _ e => e)
  refine LCg.block_U (P := P) (S := fun _ => True) (Fin := fun ys nw => IntsAre ys ((List.range n).map g) ∧ nw = news)
    W (by rw [sizeLine_eq]; omega) hIo (fun i h h' o nw st e e' _ _ _ => W.frame i h h' st fun b hb o2 e2 => by rw [List.mem_singleton.mp hb] at e2 ⊢; rw [e] at e2; cases e2; exact e') hcell hkind hx st0 (fun b hb => ?_)
    (F.push _) (N.grown fun _ _ e => Heap.get?_push_of_some _ e) (Nat.ne_of_lt F.ns.lt) (next_is_new F) (fun p hp => Nat.ne_of_lt (Heap.lt_size (N p hp).1)) trivial (rest_W he n 0 [] (by omega) .nil) ?_
  · show b < (s.heap.push _).objs.size
    rw [Heap.size_push, List.mem_singleton.mp hb]
    exact Nat.lt_succ_self _
  · intro D C h' tk m' ys news' F' N' o1 hn hC₀ hD₀ hCL hDL hCD offC fin
    obtain ⟨hyy, rfl⟩ := fin
    show wpAny _ A (assign (.Name y py) env (.ref D)) _ _ _
    refine wpAny_assign_Name (wpAny_storeName_local hy F'.ns (fun h₂ hn₂ hs₂ => ?_) hp)
    have hL₀ : h₀.get? env.locals = none := Heap.get?_none_of_le F'.above
    have F₂ : Fr h₀ env.locals h₂ (fun z => if z = y then some (.ref D) else m z) := ⟨hn₂, fun b o e => hs₂.extBut b o (fun q => by rw [q, hL₀] at e; cases e) (F'.keep b o e), F'.above⟩
    refine ⟨m', hn.sameBut hs₂ hCL, fun h'' hs'' => h D ys ys.length h'' _ hyy (F₂.change hs'' hCL hC₀) (fun p hp => ?_) o1⟩
    have z : h₂.get? p.1 = some p.2 := hs₂.extBut _ _ (N' p hp).2.1 (N' p hp).1
    refine ⟨hs''.extBut _ _ ?_ z, (N' p hp).2⟩
    rcases List.mem_cons.mp hp with rfl | hp
    · exact Ne.symm hCD
    · exact offC p hp
end
theorem ints_get {vs : List Value} {ns : List Int} (h : IntsAre vs ns) : ∀ {i : Nat} {v : Value}, vs[i]? = some v → ∃ k t, v = .int k t ∧ ns[i]? = some k := fun e => IntsAre.at h _ _ e
/-- the octets of an ascii text. -/
noncomputable def digs (tx : Str) : List UInt8 := ((List.range tx.cps.size).map fun i => ((tx.cps.getD i 0 : Nat) : Int)).map fun n => n.toNat.toUInt8
theorem digs_lt {tx : Str} (ha : tx.cps.all (· < 128) = true) : ∀ n ∈ (List.range tx.cps.size).map fun i => ((tx.cps.getD i 0 : Nat) : Int), 0 ≤ n ∧ n < 256 := by
  intro n hn
  obtain ⟨i, hi, rfl⟩ := List.mem_map.mp hn
  have hi' := List.mem_range.mp hi
  have := Array.all_eq_true.mp ha i hi'
  simp only [decide_eq_true_eq] at this
  have e : tx.cps.getD i 0 = tx.cps[i] := by simp [hi']
  rw [e]
  omega
noncomputable def lenTx (n : Nat) : Str := Str.ofString (toString (n : Int))
noncomputable def lenOk (n : Nat) : Bool := decide ((lenTx n).cps.size ≤ 90) && (lenTx n).cps.all (· < 128) && decide ((digs (lenTx n)).length = if n < 10 then 1 else 2) && ((List.range 40).all fun k => k == n || digs (lenTx k) != digs (lenTx n)) && !(digs (lenTx n)).contains 0
theorem lenOk_all : ((List.range 40).all lenOk) = true := by decide +kernel
theorem lenOk_at {n : Nat} (h : n < 40) : lenOk n = true := List.all_eq_true.mp lenOk_all n (List.mem_range.mpr h)
theorem len_size {n : Nat} (h : n < 40) : (lenTx n).cps.size ≤ 90 := by
  have := lenOk_at h
  simp only [lenOk, Bool.and_eq_true, decide_eq_true_eq] at this
  exact this.1.1.1.1
theorem len_ascii {n : Nat} (h : n < 40) : (lenTx n).cps.all (· < 128) = true := by
  have := lenOk_at h
  simp only [lenOk, Bool.and_eq_true] at this
  exact this.1.1.1.2
theorem len_digs {n : Nat} (h : n < 40) : (digs (lenTx n)).length = if n < 10 then 1 else 2 := by
  have := lenOk_at h
  simp only [lenOk, Bool.and_eq_true, decide_eq_true_eq] at this
  exact this.1.1.2
theorem len_inj {n k : Nat} (h : n < 40) (hk : k < 40) (e : digs (lenTx k) = digs (lenTx n)) : k = n := by
  have := lenOk_at h
  simp only [lenOk, Bool.and_eq_true] at this
  have := List.all_eq_true.mp this.1.2 k (List.mem_range.mpr hk)
  simp only [Bool.or_eq_true, beq_iff_eq, bne_iff_ne, ne_eq] at this
  exact this.resolve_right fun q => q e
/-- the octets of a blob. -/
noncomputable def blobOf (c : List UInt8) : List UInt8 := [98, 108, 111, 98] ++ [32] ++ digs (lenTx c.length) ++ [0] ++ c
theorem blobOf_inj {c d : List UInt8} (hc : c.length < 40) (hd : d.length < 40) (e : blobOf c = blobOf d) : c = d := by
  unfold blobOf at e
  simp only [List.append_assoc] at e
  have e1 := List.append_cancel_left (List.append_cancel_left e)
  have l1 := len_digs hc
  have l2 := len_digs hd
  have e2 : (digs (lenTx c.length) ++ ([0] ++ c)).length = (digs (lenTx d.length) ++ ([0] ++ d)).length := by rw [e1]
  simp only [List.length_append, List.length_cons, List.length_nil, l1, l2] at e2
  have e3 : c.length = d.length := by
    split at e2 <;> split at e2 <;> omega
  rw [e3] at e1
  have e4 := List.append_cancel_left e1
  exact (List.cons.inj e4).2
section
variable {prog : Program} {w : World} {A : Around} {s : Shared} {h₀ : Heap} {L : Addr} {m : Str → Option Value} {news : List (Addr × Obj)} {E : Value → Shared → Prop}
variable {elt iter : Expr} {x : Str} {px : Pos} {scope : Scope} {cl : List (Str × Addr)} {pos : Pos} {env : Env} {Q : Value → Shared → Prop}
/-- what is left of a list comprehension once the iterator is made. -/
noncomputable def CompK (prog : Program) (w : World) (A : Around) (E : Value → Shared → Prop) (Q : Value → Shared → Prop) (e : Expr) (scope : Scope) (cl : List (Str × Addr)) (env : Env) (it : Value) (s₂ : Shared) : Prop :=
  wpAny (model prog w) A (newList []) (fun acc s₃ => wpAny (model prog w) A (newFunctionEnv scope env.globals cl [] env.qual none .none (some env)) (fun cenv s₄ =>
    codeAny (model prog w) A (.compStart e 0 it acc { cenv with scope := relabel scope env }) (compPost (model prog w) A E none Q acc cenv.locals) s₄) E s₃) E s₂
theorem comp_E1 (hclos : closureFor scope env = pure cl) (hkind : scope.kind = .function)
    (hnames : ∀ y ∈ scope.names, y.2 = .local → scope.names.lookup y.1 = some .local)
    (h : wpAny (model prog w) A (eval iter env) (fun xv s₁ => wpAny (model prog w) A (pyIter xv) (fun it s₂ => CompK prog w A E Q (.ListComp elt [⟨.Name x px, iter, [], 0⟩] scope pos) scope cl env it s₂) E s₁) E s)
    (hs : ∀ x, foldedSetIterable iter env x = pure x := by intro _; rfl) :
    wpAny (model prog w) A (eval (.ListComp elt [⟨.Name x px, iter, [], 0⟩] scope pos) env) Q E s := by
  rw [eval_ListComp]
  exact wpAny_comprehension_free (use := none) rfl hs hclos hkind hnames h
theorem comp_range {r : Addr} {k : Int} {t u v : Tok} {n : Nat} (g : Nat → Int) (hR : IsRange s.heap r 0 k 1 t u v) (hn : k = (n : Int)) (hz : n ≤ 1000) (F : Fr h₀ L s.heap m) (N : News h₀ L s.heap news) (hh : A.handled = none)
    (hcell : ∀ y ∈ scope.names, y.2 ≠ .cell) (hkind : scope.kind = .function) (hx : scope.names.lookup x = some .local)
    (he : EltW prog w A h₀ L m env elt x scope cl news g n (fun i v => ∃ t, v = .int (i : Int) t))
    (h : ∀ D ys n' h' tk, IntsAre ys ((List.range n).map g) → Fr h₀ L h' m → News h₀ L h' ((D, listOf ys.toArray n') :: news) → LCg.Off1 D news → Q (.ref D) { s with heap := h', toks := tk }) :
    wpAny (model prog w) A (pyIter (.ref r)) (fun it s₂ => CompK prog w A E Q (.ListComp elt [⟨.Name x px, iter, [], 0⟩] scope pos) scope cl env it s₂) E s := by
  subst hn
  refine wpAny_pyIter_range hR (small_one (by omega) (by omega) (by omega) (by omega)) ?_
  have er : Builtin.Range.rangeSize 0 (n : Int) 1 = (n : Int) := by rw [rangeSize0]; simp
  rw [er]
  refine LCg.block_U (s₂ := { s with heap := s.heap.push _ }) (P := fun i v => ∃ t, v = .int (i : Int) t) (S := fun _ => True) (Fin := fun ys nw => IntsAre ys ((List.range n).map g) ∧ nw = news)
    (Walks.range hh s.heap.objs.size 0 1 n |> fun W => { sub := W.sub, frame := W.frame, done := W.done, self := W.self, item := fun i s Q E hi st hQ => W.item i s Q E hi st fun v h' tk hP => hQ v h' tk (by obtain ⟨t, rfl⟩ := hP; exact ⟨t, by simp⟩) })
    (by rw [sizeLine_eq]; omega) (fun i h st => ⟨_, st⟩) (fun i h h' o nw st e e' _ _ _ => by
      have st' : h.get? s.heap.objs.size = some _ := st
      show h'.get? s.heap.objs.size = some _
      rw [e', ← e]; exact st') hcell hkind hx (by
      show IsRangeIter _ _ (0 + ((0 : Nat) : Int) * 1) ((n : Int) - ((0 : Nat) : Int)) 1
      rw [show (n : Int) - ((0 : Nat) : Int) = n by simp]
      exact Heap.get?_push_size _ rfl) (fun b hb => ?_)
    (F.push _) (N.grown fun _ _ e => Heap.get?_push_of_some _ e) (Nat.ne_of_lt F.ns.lt) (next_is_new F) (fun p hp => Nat.ne_of_lt (Heap.lt_size (N p hp).1)) trivial (rest_W he n 0 [] (by omega) .nil) ?_
  · show b < (s.heap.push _).objs.size
    rw [Heap.size_push, List.mem_singleton.mp hb]
    exact Nat.lt_succ_self _
  · intro D C h' tk m' ys news' F' N' o1 hn hC₀ hD₀ hCL hDL hCD offC fin
    obtain ⟨hy, rfl⟩ := fin
    refine ⟨m', hn, fun h'' hs'' => h D ys ys.length h'' tk hy (F'.change hs'' hCL hC₀) (fun p hp => ?_) o1⟩
    refine ⟨hs''.extBut _ _ ?_ (N' p hp).1, (N' p hp).2⟩
    rcases List.mem_cons.mp hp with rfl | hp
    · exact Ne.symm hCD
    · exact offC p hp
end
noncomputable def beAt (k : Int) (i : Nat) : Int := Builtin.bitAnd (k.fdiv (2 ^ (8 * (4 - 1 - (i : Int))).toNat)) 255
noncomputable def be4 (k : Int) : List UInt8 := ((List.range 4).map (beAt k)).map fun n => n.toNat.toUInt8
theorem beAt_lt {k : Int} (h : k = 1 ∨ k = 2) : ∀ n ∈ (List.range 4).map (beAt k), 0 ≤ n ∧ n < 256 := by
  rcases h with rfl | rfl <;> decide
theorem be4_ne : be4 1 ≠ be4 2 := by decide

-- plain
section
variable {prog : Program} {w : World} {A : Around} {E : Value → Shared → Prop} {s : Shared} {h₀ : Heap} {L d : Addr} {m : Str → Option Value} {news : List (Addr × Obj)} {g : Obj → List (Addr × Obj)} {o : Obj} {ps : Ps} {k : List UInt8} {t u : Tok} {n : Int} {kvs : List (List UInt8 × Value)} {b : Bool}
theorem Vals.has {kvs : List (List UInt8 × Value)} {ps : Ps} (h : Vals kvs ps) (k : List UInt8) : (valueAt kvs k).isSome = ps.any (fun p => p.1 = k) := by
  rw [← h.any k]
  induction kvs generalizing ps with
  | nil => rfl
  | cons q r ih =>
    obtain ⟨k', v'⟩ := q
    cases h with
    | cons _ n t hr =>
      by_cases e : k' = k
      · subst e; simp [valueAt]
      · simpa [valueAt, e] using ih hr
theorem notin_cnt {Q : Value → Shared → Prop} (N : News h₀ L s.heap news) (hp : (d, o) ∈ news) (hc : Cnt prog w o ps) (lo : (d == sysModules) = false) (hb : ps.any (fun p => p.1 = k) = b) (h : Q (.bool (!b)) { s with toks := s.toks + 1 }) :
    wpAny (model prog w) A (compareOp .NotIn (.bytes k.toArray t) (.ref d)) Q E s := by
  obtain ⟨kvs, hd, hv⟩ := hc
  exact kdg_notin N hp hd lo (bytesKind_is prog w k t) b (by rw [hv.has, hb]) h
theorem len_cnt {Q : Value → Shared → Prop} (N : News h₀ L s.heap news) (hp : (d, o) ∈ news) (hc : Cnt prog w o ps) (lo : (d == sysModules) = false) (hz : ps.length ≤ 1000) (h : Q (.int ps.length (s.toks + 1)) { s with toks := s.toks + 1 + 1 }) :
    wpAny (model prog w) A (call (.builtin "len") [.ref d]) Q E s := by
  obtain ⟨kvs, hd, hv⟩ := hc
  have e := hv.length
  refine kda_len N hp hd lo (by omega) ?_
  rw [e]
  exact h
theorem notin_r {Q : Value → Shared → Prop} (N : News h₀ L s.heap news) (hp : (d, o) ∈ news) (hd : o.IsDictOf (bytesKind prog w) kvs) (lo : (d == sysModules) = false) (hb : (valueAt kvs k).isSome = b) (h : Q (.bool (!b)) { s with toks := s.toks + 1 }) :
    wpAny (model prog w) A (compareOp .NotIn (.bytes k.toArray t) (.ref d)) Q E s := kdg_notin N hp hd lo (bytesKind_is prog w k t) b hb h
theorem item_r {value slice : PySem.Expr} {v : Value} {Q : Value → Shared → Prop} (N : News h₀ L s.heap news) (hp : (d, o) ∈ news) (hd : o.IsDictOf (bytesKind prog w) kvs) (hl : valueAt kvs k = some v) (h : Q v { s with toks := s.toks + 1 })
    (hs : subscripted slice false (.ref d) (.bytes k.toArray t) = operate [.ref d, .bytes k.toArray t] (getItem (.ref d) (.bytes k.toArray t))) (hg : ∀ r, letTemporaryGo value (.ref d) r = pure ()) :
    wpAny (model prog w) A (subscriptTail value slice (.ref d) (.bytes k.toArray t)) Q E s := kda_item N hp hd (bytesKind_is prog w k t) hl h hs hg
theorem set_r {x : Addr} {Q : Unit → Shared → Prop} (F : Fr h₀ L s.heap m) (N : News h₀ L s.heap news) (U : UpdF d o news g) (hd : o.IsDictOf (bytesKind prog w) kvs) (hsz : kvs.length ≤ 1000)
    (h : ∀ h' o', Fr h₀ L h' m → News h₀ L h' (g o') → o'.IsDictOf (bytesKind prog w) (stored kvs k (.ref x)) → Q () { s with heap := h', toks := s.toks + 1 }) : wpAny (model prog w) A (setItem (.ref d) (.bytes k.toArray t) (.ref x)) Q E s :=
  kda_set F N U hd (bytesKind_is prog w k t) (by rw [sizeLine_eq]; omega) h
theorem cput_mem (ps : Ps) (k : List UInt8) (n : Int) : k ∈ (cput ps k n).map (·.1) := by
  unfold cput
  split
  · rename_i h
    obtain ⟨p, hp, e⟩ := List.any_eq_true.mp h
    refine List.mem_map.mpr ⟨_, List.mem_map_of_mem hp, ?_⟩
    simp only [decide_eq_true_eq] at e
    simp [e]
  · simp
theorem any_mem {ps : Ps} {k : List UInt8} (h : ps.any (fun p => p.1 = k) = true) : k ∈ ps.map (·.1) := by
  obtain ⟨p, hp, e⟩ := List.any_eq_true.mp h
  exact List.mem_map.mpr ⟨p, hp, by simpa using e⟩
end
section
variable {P : Addr} {oP : Obj} {news : List (Addr × Obj)} {g1 : Obj → List (Addr × Obj)}
theorem upd1_in (U1 : UpdF P oP news g1) : ∀ p ∈ (P, oP) :: news.filter (fun p => decide (@Ne Nat p.1 P)), p ∈ news := by
  obtain ⟨pre, post, rfl, _, _, _⟩ := U1.split
  intro p hp
  rcases List.mem_cons.mp hp with rfl | hp
  · exact List.mem_append_right _ (.head _)
  · exact (List.mem_filter.mp hp).1
theorem upd1_out (U1 : UpdF P oP news g1) (oP' : Obj) : ∀ p ∈ g1 oP', p ∈ (P, oP') :: news.filter (fun p => decide (@Ne Nat p.1 P)) := by
  obtain ⟨pre, post, rfl, hg, a1, b1⟩ := U1.split
  intro p hp
  rw [hg] at hp
  rcases List.mem_append.mp hp with h | h
  · exact .tail _ (List.mem_filter.mpr ⟨List.mem_append_left _ h, decide_eq_true (a1 p h)⟩)
  · rcases List.mem_cons.mp h with rfl | h
    · exact .head _
    · exact .tail _ (List.mem_filter.mpr ⟨List.mem_append_right _ (.tail _ h), decide_eq_true (b1 p h)⟩)
theorem filt0 : ∀ q ∈ news.filter (fun p => decide (@Ne Nat p.1 P)), q.1 ≠ P := fun _ hq => of_decide_eq_true (List.mem_filter.mp hq).2
theorem filt_mem {q : Addr × Obj} (h : q ∈ news) (hn : @Ne Nat q.1 P) : q ∈ news.filter (fun p => decide (@Ne Nat p.1 P)) := List.mem_filter.mpr ⟨h, decide_eq_true hn⟩
end
noncomputable abbrev hsDict (w : World) (k : Addr) (t1 t2 t3 : Tok) : Obj := dictOf [{ hash := PyData.keyHash w.params (Str.ofString "size"), key := .str (Str.ofString "size") t1, val := .int 4 t2 }, { hash := PyData.keyHash w.params (Str.ofString "known"), key := .str (Str.ofString "known") t3, val := .ref k }] 2
noncomputable abbrev stDict (w : World) (hs kp : Addr) (t1 t3 : Tok) : Obj := dictOf [{ hash := PyData.keyHash w.params (Str.ofString "hasher"), key := .str (Str.ofString "hasher") t1, val := .ref hs }, { hash := PyData.keyHash w.params (Str.ofString "kept"), key := .str (Str.ofString "kept") t3, val := .ref kp }] 2
theorem hasO {ps : Ps} {k : List UInt8} (h : k ∈ ps.map (·.1)) : ps.any (fun p => p.1 = k) = true := by
  obtain ⟨p, hp, e⟩ := List.mem_map.mp h
  exact List.any_eq_true.mpr ⟨p, hp, by simpa using e⟩
/-- what the hasher knows behind a digest. -/
noncomputable def hput (ps : Ps) (k : List UInt8) : Ps := if ps.any (fun p => p.1 = k) then ps else cput ps k (ps.length + 1)
namespace FA
set_option maxRecDepth 100000
open Builtin
theorem has_bytes : typeLookup (.type "bytes") "__bytes__" = pure (some (.builtin "bytes.__bytes__")) := by rw [typeLookup_type, builtinLookup_eq_fast]; kernel_rfl
section
variable {prog : Program} {w : World} {A : Around} {E : Value → Shared → Prop} {s : Shared}
theorem new_bytes_b {b : Array UInt8} {t : Tok} {Q : Value → Shared → Prop} (h : Q (.bytes b t) s) :
    codeAny (model prog w) A (.call (.builtin "bytes.__new__") ⟨[.type "bytes", .bytes b t], []⟩) (wants Q E) s := by
  refine codeAny_of_tree ?_
  show wpAny _ A.in1 (do checkBuiltinCall "bytes.__new__" ⟨[.type "bytes", .bytes b t], []⟩; again (.builtin "bytes.__new__" ⟨[.type "bytes", .bytes b t], []⟩)) _ _ s
  refine wpAny_bind (wpAny_of_eq (F.bm_newCall _) (wpAny_pure ⟨plainId_quiet F.bm_plain _, codeAny_builtin F.bm_entry ?_⟩))
  rw [Around.under_plainId F.bm_plain _]
  have hT : s.TypeIs (.bytes b t) "bytes" := typeIs_bytes _ _ _
  unfold Builtin.«bytes.__new__»
  refine wpAny_bind (wpAny_of_eq (a := true) rfl ?_)
  refine bm_if_false rfl ?_
  refine wpAny_bind (wpAny_of_eq F.bm_sub ?_)
  refine bm_if_false rfl ?_
  refine wpAny_bind (wpAny_of_eq (F.bm_bind _) ?_)
  refine wpAny_bind (wpAny_of_eq (a := ()) rfl ?_)
  refine wpAny_bind (wpAny_of_eq (a := ()) rfl ?_)
  refine bm_if_false rfl ?_
  refine wpAny_bind (wpAny_specialOf hT has_bytes ?_)
  dsimp only
  refine wpAny_bind (wpAny_rule ?_)
  refine wpAny_bind (wpAny_typeOf hT ?_)
  refine bm_if_true (by decide) ?_
  show wpAny _ _ (if (Value.type "bytes" == Value.type "bytes") = true then _ else _) _ _ _
  refine bm_if_true (by decide) ?_
  first
    | exact wpAny_pure h
    | exact wpAny_bind (wpAny_pure (wpAny_pure h))
theorem bytes_b {b : Array UInt8} {t : Tok} {Q : Value → Shared → Prop} (h : Q (.bytes b t) s) :
    wpAny (model prog w) A (call (.type "bytes") [.bytes b t]) Q E s := by
  refine callType_codes (Q₁ := fun obj s₁ => s₁.TypeIs obj "bytes" ∧ Q obj s₁) F.bm_called (F.bm_typeCall _) F.entry_object_init
    (new_bytes_b ⟨PySem.W.typeIs_bytes _ _ _, h⟩) fun obj s₁ h₁ => ?_
  exact ⟨h₁.1, F.args_object_init_2 obj _, object_init_meets F.bm_called.init.lookup F.bm_called.made (by decide) prog w A.in1 _ s₁ ⟨h₁.1, rfl, h₁.2⟩⟩
end
end FA

-- plain
section
variable {prog : Program} {w : World} {A : Around} {s : Shared} {env : Env}
theorem wpC_Assign_Subscript {o i pos' value pos} {Q : Flow → Shared → Prop}
    (h : wpC (model prog w) A (eval value env) (fun v s₁ => wpAny (model prog w) A (eval o env) (fun ov s₂ => wpAny (model prog w) A (eval i env) (fun iv s₃ =>
      wpAny (model prog w) A (setItem ov iv v) (fun _ => Q .next) noE s₃) noE s₂) noE s₁) s)
    (hs : swapsWith value (some (.Subscript o i pos')) pos.line env = pure false := by rfl) :
    wpC (model prog w) A (exec (.Assign [.Subscript o i pos'] value pos) env) Q s := by
  rw [exec_Assign_Subscript o i pos' value pos hs]
  refine wpC_bind (wpC_standAt (wpC_bind (wpC_mono h fun v s₁ h₁ => wpC_of_any ?_)))
  intro Γ p hΓ
  simp only [assign_Subscript, Sem.wp_bind', Sem.wp_holding, Sem.wp_cmd_standAt, Sem.wp_release, Sem.wp_pure']
  exact Sem.wp_mono (model prog w) Γ _ (fun ov p₂ s₂ h₂ => Sem.wp_mono (model prog w) Γ _ (fun iv _ s₃ h₃ => h₃ Γ _ hΓ)
    (fun _ _ _ h' => h') _ _ (h₂ Γ p₂ hΓ)) (fun _ _ _ h' => h') _ _ (h₁ Γ p hΓ)
theorem wpC_Assign_swapped {elts k tpos value pos} {names : List Str} {Q : Flow → Shared → Prop}
    (h : wpC (model prog w) A (eval value env) (fun v s₁ => wpAny (model prog w) A (unpackItems v names.length none) (fun items s₂ =>
      wpAny (model prog w) A (assignInOrder (names.reverse.map fun n => bindName env n) items.reverse) (fun _ => Q .next) noE s₂) noE s₁) s)
    (hs : swapsWithSole [.Tuple elts k tpos] value pos.line env = pure false := by rfl)
    (hw : swappedStores [.Tuple elts k tpos] value env = pure (some names) := by rfl) :
    wpC (model prog w) A (exec (.Assign [.Tuple elts k tpos] value pos) env) Q s := by
  rw [exec_Assign]
  refine wpC_bind (wpC_standAt ?_)
  rw [hs]
  refine wpC_bind (wpC_pure ?_)
  rw [if_neg (by decide)]
  refine wpC_bind (wpC_mono h fun v s₁ h₁ => ?_)
  rw [hw]
  refine wpC_bind (wpC_pure ?_)
  show wpC (model prog w) A (do rule "assign.swapped-stores"; let items ← unpackItems v names.length none; assignInOrder (names.reverse.map fun n => bindName env n) items.reverse; pure .next) Q s₁
  exact wpC_of_any (wpAny_bind (wpAny_rule (wpAny_bind (wpAny_mono h₁ (fun items s₂ h₂ => wpAny_bind (wpAny_mono h₂ (fun _ _ x => wpAny_pure x) fun _ _ x => x)) fun _ _ x => x))))
theorem wpC_Assign_Tuple {elts k tpos value pos} {Q : Flow → Shared → Prop}
    (h : wpC (model prog w) A (eval value env) (fun v s₁ => wpAny (model prog w) A (assign (.Tuple elts k tpos) env v) (fun _ => Q .next) noE s₁) s)
    (hs : swapsWithSole [.Tuple elts k tpos] value pos.line env = pure false := by rfl)
    (hw : swappedStores [.Tuple elts k tpos] value env = pure none := by rfl) :
    wpC (model prog w) A (exec (.Assign [.Tuple elts k tpos] value pos) env) Q s := by
  rw [exec_Assign]
  refine wpC_bind (wpC_standAt ?_)
  rw [hs]
  refine wpC_bind (wpC_pure ?_)
  rw [if_neg (by decide)]
  refine wpC_bind (wpC_mono h fun v s₁ h₁ => ?_)
  rw [hw]
  refine wpC_bind (wpC_pure ?_)
  show wpC (model prog w) A (do assignAll v [assign (.Tuple elts k tpos) env]; pure .next) Q s₁
  exact wpC_of_any (wpAny_bind (wpAny_mono h₁ (fun _ _ x => wpAny_pure x) fun _ _ x => x))
theorem wpC_Tuple {elts : List Expr} {k : Nat} {pos : Pos} {Q : Value → Shared → Prop}
    (h : wpC (model prog w) A (spliced (backTo pos (starEach elts env))) (fun vs s₁ => wpAny (model prog w) A (newTuple vs) Q noE s₁) s) : wpC (model prog w) A (eval (.Tuple elts k pos) env) Q s := by
  rw [arm_eval_Tuple]
  exact wpC_bind (wpC_standAt (wpC_bind (wpC_mono h fun vs s₁ h₁ => wpC_of_any h₁)))
end
theorem valueAt_stored {kvs : List (List UInt8 × Value)} {k : List UInt8} {v : Value} : valueAt (stored kvs k v) k = some v := by
  unfold stored
  split
  · rename_i h
    induction kvs with
    | nil => simp at h
    | cons q r ih =>
      obtain ⟨k', v'⟩ := q
      by_cases e : k' = k
      · subst e; simp [valueAt]
      · have := ih (by simpa [e] using h)
        simpa [valueAt, e] using this
  · rename_i h
    induction kvs with
    | nil => simp [valueAt]
    | cons q r ih =>
      obtain ⟨k', v'⟩ := q
      by_cases e : k' = k
      · subst e; simp at h
      · have := ih (by simpa [e] using h)
        simpa [valueAt, e] using this
theorem valueAt_stored_ne {kvs : List (List UInt8 × Value)} {k k' : List UInt8} {v : Value} (h : k ≠ k') : valueAt (stored kvs k v) k' = valueAt kvs k' := by
  unfold stored
  split
  · rename_i hh
    clear hh
    induction kvs with
    | nil => rfl
    | cons q r ih =>
      obtain ⟨a, v'⟩ := q
      by_cases e : a = k
      · subst e
        simpa [valueAt, h] using ih
      · by_cases e2 : a = k'
        · subst e2; simp [valueAt, e]
        · simpa [valueAt, e, e2] using ih
  · rename_i hh
    clear hh
    induction kvs with
    | nil => simp [valueAt, h]
    | cons q r ih =>
      obtain ⟨a, v'⟩ := q
      by_cases e2 : a = k'
      · subst e2; simp [valueAt]
      · simpa [valueAt, e2] using ih
noncomputable abbrev ctDict (w : World) (st bi : Addr) (t1 t3 : Tok) : Obj := dictOf [{ hash := PyData.keyHash w.params (Str.ofString "store"), key := .str (Str.ofString "store") t1, val := .ref st }, { hash := PyData.keyHash w.params (Str.ofString "by_id"), key := .str (Str.ofString "by_id") t3, val := .ref bi }] 2
/-- what percent tells of two blobs that part. -/
noncomputable def told (least : Int) (ps qs : Ps) : Int := if mn (tot ps) (tot qs) * 100 < least * mx (tot ps) (tot qs) then 0 else mn 99 (pct ps qs)
/-- what the store keeps of a blob. -/
noncomputable abbrev tupB (t3 : Tok) (c : List UInt8) (t4 : Tok) : Obj := { cls := .type "tuple", data := .seq #[.bytes #[98, 108, 111, 98] t3, .bytes c.toArray t4] }
theorem stored_len {kvs : List (List UInt8 × Value)} {k : List UInt8} {v : Value} : (stored kvs k v).length ≤ kvs.length + 1 := stored_length_le _ _ _
section
variable {prog : Program} {w : World} {A : Around} {s : Shared}
theorem codeC_call_cells {R : Flow → Shared → Prop} {a : Addr} {o : Obj} {fd : FuncData} {body : List Stmt} {args : Args} {binds : List (Str × Value)}
    (hroom : A.depth < recursionLimit) (ho : s.heap.get? a = some o) (hdata : o.data = .func fd) (hlim : s.heap.NoLimit) (hcd : s.heap.CodeRec fd.code fd.qualname)
    (hbody : fd.body = .stmts body) (hbind : BindsTo s fd args binds)
    (hkind : ∀ n, ∀ x ∈ binds, fd.scope.names.lookup x.1 = some .local ∨ (fd.scope.names.lookup x.1 = some .cell ∧ ((cellsFrom n fd.scope.names []).lookup x.1).isSome = true)) (hclo : fd.closure = [])
    (h : ∀ s₁, InCallC s (callEnvC fd s.heap.objs.size a).locals (bindL (callEnvC fd s.heap.objs.size a).kindOf binds fun _ => none) (callEnvC fd s.heap.objs.size a).cells (bindC (callEnvC fd s.heap.objs.size a).kindOf binds fun _ => none) s₁ →
      wpC (model prog w) (A.deeper (callEnvC fd s.heap.objs.size a)) (execs body (callEnvC fd s.heap.objs.size a)) (fun f s' => R (.ret (match f with | .ret v => v | _ => .none)) s') s₁)
    (hco : fd.scope.isCoroutine = false) (hgen : fd.scope.isGenerator = false) (hk : fd.scope.kind = .function) : codeC (model prog w) A (.call (.ref a) args) R s := by
  refine codeC_of_tree ?_
  show wpC _ A.in1 (callAny (.ref a) args) _ s
  simp only [callAny]
  refine wpC_then (wpAny_load ho ?_)
  obtain ⟨c, oc, vs, tq, hc, hoc, hdc, hq⟩ := hcd
  simp only [hdata, callFunction, hco, hgen, hbody, hc, hclo]
  refine wpC_then (m := field (.ref c) 1) (wpAny_field hoc hdc hq (wpC_bind (wpC_pure ?_)))
  refine wpC_then (hbind _ _ _ _ (wpC_then (wpAny_newFunctionEnv_cells hk (hkind _) fun env' he s' x => ?_)))
  subst he
  refine wpC_then (wpAny_enterFrame (hlim.keeps x.toInCall.keep) hroom (wpC_pure ⟨rfl, rfl, ?_⟩))
  rw [← hc]
  exact codeC_func (h s' x)
end
section
variable {prog : Program} {w : World} {A : Around} {s : Shared}
variable {A₀ : Around} {base h₀ : Heap} {outer : List Env} {L : Addr} {m mg mb : Str → Option Value} {env : Env} {news : List (Addr × Obj)} {K : Frag} {p : Program} {loose : List Str} {mean : ExcName → Option Value}
  {R : Flow → Shared → Prop} {name qual : Str} {params : Arguments} {body : List Stmt} {scope : Scope} {dV kV doc pm cdv ct oc : Value} {an od : Option Addr} {osl : Array (Option Value)} {f : Addr} {args : Args} {binds : List (Str × Value)}
theorem fn_cC (B : Below A₀ base outer h₀) (F : Fr h₀ L s.heap m) (X₀ : K.In h₀) (N : News h₀ L s.heap news) (T : Top p loose mean mg mb h₀) (hA : A.frames = some (env :: outer)) (hf : env.frame = some L) (hke : env.scope.kind = .function)
    (ho : K.lookup f = some ⟨oc, od, .func (fnOf name qual params body scope dV kV doc pm an cdv ct), osl⟩) (hcd : codeIn K cdv qual = true) (hroom : A.depth < recursionLimit)
    (hbind : BindsTo s (fnOf name qual params body scope dV kV doc pm an cdv ct) args binds) (hkind : (binds.all fun y => scope.names.lookup y.1 == some .local || scope.names.lookup y.1 == some .cell) = true)
    (hnd : ((cellsFrom 0 scope.names []).map (·.1)).Nodup)
    (h : ∀ g L' h₁ tk cells, Fr h₀ L g m → Fr g L' h₁ (bindL (envOfC qual scope L' f cdv).kindOf binds fun _ => none) → News g L' h₁ (cells ++ news) →
      CellsAre (bindC (envOfC qual scope L' f cdv).kindOf binds fun _ => none) (cellsFrom (L' + 1) scope.names []) cells → Below A base (env :: outer) g → K.In g → Top p loose mean mg mb g → (∀ p ∈ news, p.1 < L') →
      wpC (model prog w) (A.deeper (envOfC qual scope L' f cdv)) (execs body (envOfC qual scope L' f cdv))
        (fun fl s' => LeaveK h₀ L m g (backC R) (match fl with | .ret v => v | _ => .none) s') { s with heap := h₁, toks := tk })
    (hco : scope.isCoroutine = false) (hgen : scope.isGenerator = false) (hk : scope.kind = .function) : codeC (model prog w) A (.call (.ref f) args) R s := by
  obtain ⟨FG, BG, st, lv⟩ := groundX (R := backC R) B F N hA hf hke
  refine codeC_call_cells (fd := fnX name qual params body scope [] dV kV doc pm an cdv ct) (body := body) (binds := binds) hroom ((X₀.keeps F.keep) _ _ ho) rfl (T.nolimit.keeps F.keep) (codeRec_of (X₀.keeps F.keep) hcd) rfl hbind (kindsX hkind) rfl (fun s₁ x => ?_) hco hgen hk
  obtain ⟨h₁, tk, rfl, _⟩ := x.done
  have hk₁ := x.toInCall.keep
  obtain ⟨cells, NC, Y⟩ := Cl.news (h₀ := s.heap) (Nat.le_refl _) fun n c hm => ⟨x.cell n c (lookup_of_mem_nodup (cellsFrom_names scope.names 0 (s.heap.objs.size + 1) [] [] rfl ▸ hnd) hm), x.above n c hm⟩
  refine wpC_mono (h _ s.heap.objs.size h₁ tk cells FG ⟨x.toInCall.ns, fun b o e => hk₁ b o (of_hideAll _ e), Nat.le_of_eq (hideAll_size _ _)⟩ (fun p hp => ?_) Y BG (X₀.keeps st) (T.keeps st) (fun p hp => Heap.lt_size (N p hp).1)) fun fl s' hl => lv _ _ hl
  rcases List.mem_append.mp hp with hp | hp
  · refine ⟨(NC p hp).1, (NC p hp).2.1, ?_⟩
    cases q : (hideAll s.heap (news.map (·.1))).get? p.1 with
    | none => rfl
    | some o => have := of_hideAll _ q; rw [(NC p hp).2.2] at this; cases this
  · exact ⟨hk₁ _ _ (N p hp).1, Nat.ne_of_lt (Heap.lt_size (N p hp).1), hideAll_none _ (List.mem_map_of_mem hp)⟩
end
section
variable {M : Model} {A : Around} {E : Value → Shared → Prop} {s : Shared} {h₀ : Heap} {L c : Addr} {m : Str → Option Value} {news : List (Addr × Obj)} {g : Obj → List (Addr × Obj)} {oc : Obj} {v₀ : Option Value} {v : Value} {env : Env} {x : Str}
theorem store_cell {Q : Unit → Shared → Prop} (F : Fr h₀ L s.heap m) (N : News h₀ L s.heap news) (U : UpdF c oc news g) (ho : oc.data = .cell v₀) (hk : env.scope.kind = .function) (hl : env.kindOf x = some .cell) (hc : env.cells.lookup x = some c)
    (h : ∀ h' o', Fr h₀ L h' m → News h₀ L h' (g o') → o'.data = .cell (some v) → Q () { s with heap := h' }) : wpAny M A (storeName env x v) Q E s := by
  obtain ⟨pre, post, rfl, hg, a, b⟩ := U.split
  have hm := N (c, oc) (List.mem_append_right _ (.head _))
  refine wpAny_storeName_cell hk hl hc ⟨oc, hm.1, ho⟩ fun h' hc' hs => ?_
  obtain ⟨o', ho', hd'⟩ := hc'
  exact h h' o' (F.change hs hm.2.1 hm.2.2) (hg o' ▸ N.setIn a b hs ho') hd'
end
theorem allLt_ne1 {d : Addr} {l : List (Addr × Obj)} (h : AllLt d l) : ∀ q ∈ l, q.1 ≠ d + 1 := fun q hq => by
  have := tb_ltOf h q hq
  exact Nat.ne_of_lt (Nat.lt_succ_of_lt this)
theorem hput_z (o : List UInt8) : hput [] o = [(o, 1)] := rfl
theorem cget_z (o : List UInt8) : cget (hput [] o) o = 1 := by simp [hput_z, cget]
theorem hput_s (o : List UInt8) : hput [(o, 1)] o = [(o, 1)] := by simp [hput]
theorem cget_s (o : List UInt8) : cget (hput [(o, 1)] o) o = 1 := by simp [hput_s, cget]
theorem hput_d {o q : List UInt8} (h : o ≠ q) : hput [(o, 1)] q = [(o, 1), (q, 2)] := by simp [hput, cput, h]
theorem cget_d {o q : List UInt8} (h : o ≠ q) : cget (hput [(o, 1)] q) q = 2 := by simp [hput_d h, cget, h]
section
variable {prog : Program} {w : World} {A : Around} {s : Shared} {env : Env}
/-- a leaf statement, and what is known behind it. -/
theorem leaf_cut {st : Stmt} {rest : List Stmt} {Q : Flow → Shared → Prop} (P : Heap → Prop)
    (leaf : ∀ Qm : Flow → Shared → Prop, (∀ h' tk', P h' → Qm .next { s with heap := h', toks := tk' }) → wpAny (model prog w) A (exec st env) Qm noE s)
    (next : ∀ h' tk', P h' → wpC (model prog w) A (execs rest env) Q { s with heap := h', toks := tk' }) : wpC (model prog w) A (execs (st :: rest) env) Q s := by
  refine wpC_execs_cons (wpC_of_any (wpAny_mono (leaf (fun f s' => f = .next ∧ ∃ h' tk', s' = { s with heap := h', toks := tk' } ∧ P h') fun h' tk' a => ⟨rfl, h', tk', rfl, a⟩) (fun f s' h => ?_) fun _ _ x => x))
  obtain ⟨rfl, h', tk', rfl, a⟩ := h
  exact next h' tk' a
end
/-- hidden from omega. -/
noncomputable def One12 (x : Int) : Prop := x = 1 ∨ x = 2
section
variable {m : Str → Option Value} {x y z u v r q t k : Str} {a b c d e f g h i : Value}
theorem has6 (ha : m x = some a) (hb : m y = some b) (hc : m z = some c) (hd : m u = some d) (he : m v = some e) (hf : m r = some f) : Has m [(x, a), (y, b), (z, c), (u, d), (v, e), (r, f)] := hasc ha (has5 hb hc hd he hf)
theorem has7 (ha : m x = some a) (hb : m y = some b) (hc : m z = some c) (hd : m u = some d) (he : m v = some e) (hf : m r = some f) (hg : m q = some g) : Has m [(x, a), (y, b), (z, c), (u, d), (v, e), (r, f), (q, g)] := hasc ha (has6 hb hc hd he hf hg)
theorem has8 (ha : m x = some a) (hb : m y = some b) (hc : m z = some c) (hd : m u = some d) (he : m v = some e) (hf : m r = some f) (hg : m q = some g) (hh : m t = some h) : Has m [(x, a), (y, b), (z, c), (u, d), (v, e), (r, f), (q, g), (t, h)] := hasc ha (has7 hb hc hd he hf hg hh)
theorem has9 (ha : m x = some a) (hb : m y = some b) (hc : m z = some c) (hd : m u = some d) (he : m v = some e) (hf : m r = some f) (hg : m q = some g) (hh : m t = some h) (hi : m k = some i) : Has m [(x, a), (y, b), (z, c), (u, d), (v, e), (r, f), (q, g), (t, h), (k, i)] := hasc ha (has8 hb hc hd he hf hg hh hi)
end
/-- what the law expects of percent. -/
noncomputable def tellv (least : Int) (a b : List UInt8) : Int := if a = b then 100 else told least (cutAll a 64) (cutAll b 64)
section
variable {prog : Program} {w : World} {A : Around} {E : Value → Shared → Prop} {s : Shared} {h₀ : Heap} {L : Addr} {news : List (Addr × Obj)}
theorem item_lit {value slice : PySem.Expr} {l : Addr} {vs : List Value} {n : Nat} {k : Int} {u : Tok} {v : Value} {Q : Value → Shared → Prop} (N : News h₀ L s.heap news) (hm : (l, listOf vs.toArray n) ∈ news) (h0 : 0 ≤ k) (h1 : k < 1000) (hx : vs[k.toNat]? = some v) (h : Q v s)
    (hs : subscripted slice false (.ref l) (.int k u) = operate [.ref l, .int k u] (getItem (.ref l) (.int k u)) := by with_unfolding_all rfl) :
    wpAny (model prog w) A (subscriptTail value slice (.ref l) (.int k u)) Q E s :=
  item_litK (listAt N hm) h0 (by omega) hx h hs
end

-- plain
noncomputable def NonNeg (ps : Ps) : Prop := ∀ p ∈ ps, 0 ≤ p.2
theorem NonNeg.get {ps : Ps} (h : NonNeg ps) (k : List UInt8) : 0 ≤ cget ps k := by
  unfold cget
  cases e : ps.find? (fun p => p.1 = k) with
  | none => simp
  | some p => simpa using h p (List.mem_of_find?_eq_some e)
theorem NonNeg.put {ps : Ps} (h : NonNeg ps) (k : List UInt8) {n : Int} (hn : 0 ≤ n) : NonNeg (cput ps k n) := by
  intro p hp
  unfold cput at hp
  split at hp
  · obtain ⟨q, hq, rfl⟩ := List.mem_map.mp hp
    split
    · exact hn
    · exact h q hq
  · rcases List.mem_append.mp hp with hp | hp
    · exact h p hp
    · rw [List.mem_singleton.mp hp]; exact hn
theorem NonNeg.bump {ps : Ps} (h : NonNeg ps) (k : List UInt8) : NonNeg (bump ps k) := h.put k (by have := h.get k; omega)
theorem cutN_nonneg (l : List UInt8) (z : Int) : ∀ n, NonNeg (cutN l z n).2
  | 0 => fun _ h => nomatch h
  | n + 1 => by
    have ih := cutN_nonneg l z n
    unfold cutN cutStep
    split
    · exact ih
    · split
      · exact ih.bump _
      · exact ih
theorem cutAll_nonneg (l : List UInt8) (z : Int) : NonNeg (cutAll l z) := by
  have ih := cutN_nonneg l z l.length
  unfold cutAll cutEnd
  split
  · exact ih
  · exact ih.bump _
theorem cget_none {ps : Ps} {k : List UInt8} (h : k ∉ ps.map (·.1)) : cget ps k = 0 := by
  unfold cget
  rw [List.find?_eq_none.mpr fun p hp e => h (List.mem_map.mpr ⟨p, hp, by simpa using e⟩)]
  rfl
theorem sum_keys (ks : List (List UInt8)) (f : List UInt8 → Int) : (ks.map f).sum = (ks.map f).sum := rfl
/-- a sum over the keys of one list that are nought but on the other's. -/
theorem sum_part (f : List UInt8 → Int) : ∀ (ks ls : List (List UInt8)), ks.Nodup → (∀ k ∈ ks, k ∉ ls → f k = 0) → (ks.map f).sum = ((ks.filter fun k => decide (k ∈ ls)).map f).sum
  | [], _, _, _ => rfl
  | k :: r, ls, hd, h => by
    have ih := sum_part f r ls (List.nodup_cons.mp hd).2 fun a ha => h a (.tail _ ha)
    by_cases e : k ∈ ls
    · simp only [List.filter_cons, e, decide_true, if_true, List.map_cons, List.sum_cons, ih]
    · have := h k (.head _) e
      simp only [List.filter_cons, e, decide_false, Bool.false_eq_true, if_false, List.map_cons, List.sum_cons, ih, this, Int.zero_add]
theorem sum_perm {a b : List Int} (h : a.Perm b) : a.sum = b.sum := by
  induction h with
  | nil => rfl
  | cons x _ ih => simp [ih]
  | swap x y l => simp only [List.sum_cons]; omega
  | trans _ _ h1 h2 => exact h1.trans h2
theorem filter_perm (ks ls : List (List UInt8)) (h1 : ks.Nodup) (h2 : ls.Nodup) : (ks.filter fun k => decide (k ∈ ls)).Perm (ls.filter fun k => decide (k ∈ ks)) := by
  refine (List.perm_ext_iff_of_nodup (h1.filter _) (h2.filter _)).mpr fun a => ?_
  simp only [List.mem_filter, decide_eq_true_eq]
  exact ⟨fun h => ⟨h.2, h.1⟩, fun h => ⟨h.2, h.1⟩⟩
theorem shr_keys (ps qs : Ps) : shr ps qs = ((ps.map (·.1)).map fun k => mn (cget ps k) (cget qs k)).sum := by
  unfold shr
  rw [List.map_map]
  rfl
theorem shr_comm {ps qs : Ps} (h1 : (ps.map (·.1)).Nodup) (h2 : (qs.map (·.1)).Nodup) (n1 : NonNeg ps) (n2 : NonNeg qs) : shr ps qs = shr qs ps := by
  have z : ∀ a : Int, 0 ≤ a → mn a 0 = 0 := fun a ha => by unfold mn; split <;> omega
  rw [shr_keys, shr_keys, sum_part _ _ (qs.map (·.1)) h1 fun k _ hk => by rw [cget_none hk]; exact z _ (n1.get k),
    sum_part (fun k => mn (cget qs k) (cget ps k)) _ (ps.map (·.1)) h2 fun k _ hk => by rw [cget_none hk]; exact z _ (n2.get k)]
  rw [show (fun k => mn (cget qs k) (cget ps k)) = fun k => mn (cget ps k) (cget qs k) from funext fun k => mn_comm _ _]
  exact sum_perm ((filter_perm _ _ h1 h2).map _)
theorem mx_comm (a b : Int) : mx a b = mx b a := by unfold mx; split <;> split <;> omega
theorem pct_comm {ps qs : Ps} (h1 : (ps.map (·.1)).Nodup) (h2 : (qs.map (·.1)).Nodup) (n1 : NonNeg ps) (n2 : NonNeg qs) : pct ps qs = pct qs ps := by
  unfold pct
  rw [shr_comm h1 h2 n1 n2, mx_comm]
theorem cut_comm (a b : List UInt8) (z : Int) : pct (cutAll a z) (cutAll b z) = pct (cutAll b z) (cutAll a z) := pct_comm (cutAll_nodup a z) (cutAll_nodup b z) (cutAll_nonneg a z) (cutAll_nonneg b z)
theorem like_comm (a b : List UInt8) : like a b = like b a := by
  unfold like
  rw [cut_comm]
  by_cases h : a = b
  · rw [if_pos h, if_pos h.symm]
  · rw [if_neg h, if_neg fun q => h q.symm]
theorem told_comm (least : Int) (a b : List UInt8) : told least (cutAll a 64) (cutAll b 64) = told least (cutAll b 64) (cutAll a 64) := by
  unfold told
  rw [cut_comm, mn_comm, mx_comm]
theorem srt2 (x y : Int) : srt [x, y] = [mn x y, mx x y] := by
  show (if x ≤ y then x :: y :: [] else y :: ins x []) = _
  unfold mn mx
  by_cases h : x ≤ y
  · rw [if_pos h, if_neg (by omega)]
    by_cases h2 : x < y
    · rw [if_pos h2]
    · rw [if_neg h2]
      have : x = y := by omega
      rw [this]
  · rw [if_neg h, if_pos (by omega), if_neg (by omega)]
    rfl
theorem tellv_eq {least : Int} {a b : List UInt8} (h : a = b) : tellv least a b = 100 := if_pos h
theorem tellv_ne {least : Int} {a b : List UInt8} (h : a ≠ b) : tellv least a b = told least (cutAll a 64) (cutAll b 64) := if_neg h
theorem tellv_lt {least : Int} {a b : List UInt8} (h : a ≠ b) (h2 : 100 * mn (tot (cutAll a 64)) (tot (cutAll b 64)) < least * mx (tot (cutAll a 64)) (tot (cutAll b 64))) : tellv least a b = 0 := by
  rw [tellv_ne h]
  unfold told
  rw [if_pos (by rw [Int.mul_comm]; exact h2)]
theorem tellv_ge {least : Int} {a b : List UInt8} (h : a ≠ b) (h2 : ¬ 100 * mn (tot (cutAll a 64)) (tot (cutAll b 64)) < least * mx (tot (cutAll a 64)) (tot (cutAll b 64))) : tellv least a b = like a b := by
  rw [tellv_ne h]
  unfold told like
  rw [if_neg (by rw [Int.mul_comm]; exact h2), if_neg h]
theorem tellv_like {least : Int} {a b : List UInt8} (h : a = b) : tellv least a b = like a b := by
  rw [tellv_eq h]
  unfold like
  rw [if_pos h]
theorem bne_yes {a b : List UInt8} (h : (a.toArray.toList != b.toArray.toList) = true) : a ≠ b := by
  rintro rfl
  simp at h
theorem bne_no {a b : List UInt8} (h : (a.toArray.toList != b.toArray.toList) = false) : a = b := by simpa using h
section
variable {M : Model} {A : Around} {s : Shared} {env : Env} {pos : Pos} {Q : List Value → Shared → Prop}
theorem spl3_c {a b c : Expr} (h : wpC M A (eval a env) (fun v s₁ => wpC M A (eval b env) (fun u s₂ => wpC M A (eval c env) (fun x s₃ => Q [v, u, x] s₃) s₂) s₁) s) (he : backTo pos (starEach [a, b, c] env) = [(false, eval a env), (false, eval b env), (false, eval c env)] := by rfl) :
    wpC M A (spliced (backTo pos (starEach [a, b, c] env))) Q s := by
  rw [he]; exact spliced_cons_c (wpC_mono h fun v s₁ h₁ => spliced_cons_c (wpC_mono h₁ fun u s₂ h₂ => spliced_cons_c (wpC_mono h₂ fun x s₃ h₃ => spliced_nil_c h₃)))
end

-- plain
section
variable {prog : Program} {w : World} {A : Around} {s : Shared}
/-- a plain def called from the claim's own thread, with cells: the clean twin. -/
theorem top_cells {R : Flow → Shared → Prop} {name : Str} {params : Arguments} {body : List Stmt} {scope : Scope} {pm cd doc : Value} {a : Addr} {o : Obj} {args : List Value} {binds : List (Str × Value)}
    (hroom : A.depth < recursionLimit) (ho : s.heap.get? a = some o) (hdata : o.data = .func (Calls.docDef name params body scope pm cd doc)) (hlim : s.heap.NoLimit) (hcd : s.heap.CodeRec cd name)
    (hbind : bindArgs (Calls.docDef name params body scope pm cd doc) ⟨args, []⟩ = pure binds)
    (hkind : (binds.all fun y => scope.names.lookup y.1 == some .local || scope.names.lookup y.1 == some .cell) = true)
    (hnd : ((cellsFrom 0 scope.names []).map (·.1)).Nodup)
    (h : ∀ L' h₁ tk cells, Fr s.heap L' h₁ (bindL (envOfC name scope L' a cd).kindOf binds fun _ => none) → News s.heap L' h₁ cells →
      CellsAre (bindC (envOfC name scope L' a cd).kindOf binds fun _ => none) (cellsFrom (L' + 1) scope.names []) cells →
      wpC (model prog w) (A.deeper (envOfC name scope L' a cd)) (execs body (envOfC name scope L' a cd)) (fun f s' => R (.ret (match f with | .ret v => v | _ => .none)) s') { s with heap := h₁, toks := tk })
    (hco : scope.isCoroutine = false := by rfl) (hgen : scope.isGenerator = false := by rfl) (hk : scope.kind = .function := by rfl) :
    codeC (model prog w) A (.call (.ref a) ⟨args, []⟩) R s := by
  refine codeC_call_cells (fd := Calls.docDef name params body scope pm cd doc) (body := body) (binds := binds) hroom ho hdata hlim hcd rfl (BindsTo.of_eq hbind) (kindsX hkind) rfl (fun s₁ x => ?_) hco hgen hk
  obtain ⟨h₁, tk, rfl, hk₁⟩ := x.done
  obtain ⟨cells, NC, Y⟩ := Cl.news (h₀ := s.heap) (Nat.le_refl _) fun n c hm => ⟨x.cell n c (lookup_of_mem_nodup (cellsFrom_names scope.names 0 (s.heap.objs.size + 1) [] [] rfl ▸ hnd) hm), x.above n c hm⟩
  exact h s.heap.objs.size h₁ tk cells ⟨x.toInCall.ns, hk₁, Nat.le_refl _⟩ NC Y
end
section
variable {M : Model} {A : Around} {s : Shared} {h₀ : Heap} {L : Addr} {t : Sem Flow} {Q : Flow → Shared → Prop}
/-- what stands behind the law is hidden while it is walked. -/
theorem wpC_hide (hG : ∀ h' tk m', Fr h₀ L h' m' → Q (.ret (.bool true)) { s with heap := h', toks := tk })
    (h : ∀ Qo : Flow → Shared → Prop, (∀ h' tk m', Fr h₀ L h' m' → Qo (.ret (.bool true)) { s with heap := h', toks := tk }) → wpC M A t Qo s) : wpC M A t Q s := h Q hG
end
section
variable {prog : Program} {w : World} {A : Around} {E : Value → Shared → Prop} {s : Shared} {h₀ : Heap} {L l : Addr} {m : Str → Option Value} {news : List (Addr × Obj)} {vs : List Value} {ns : List Int} {y : Int} {u : Tok} {value slice : PySem.Expr} {Q : Value → Shared → Prop}
/-- the first few of a list of ints that lay there before. -/
theorem slice_upto (F : Fr h₀ L s.heap m) (N : News h₀ L s.heap news) (hl : h₀.IsList l vs.toArray) (hi : IntsAre vs ns) (hy : 0 ≤ y) (hz : vs.length ≤ 1000)
    (h : ∀ D ws h', Fr h₀ L h' m → News h₀ L h' ((D, listOf (List.toArray ws) 0) :: news) → (∀ p ∈ news, p.1 < D) → IntsAre ws (ns.take y.toNat) → Q (.ref D) { s with heap := h' })
    (hs : subscripted slice false (.ref l) (.ref s.heap.objs.size) = operate [.ref s.heap.objs.size, .ref l] (getItem (.ref l) (.ref s.heap.objs.size))) (ht : ∀ r, letTemporaryGo value (.ref l) r = pure ()) :
    wpAny (model prog w) A (subscriptTail value slice (.ref l) (.ref s.heap.objs.size)) Q E { s with heap := s.heap.push { cls := .type "slice", data := .fields #[.none, .int y u, .none] } } :=
  kmk_slice_ints F N (Fr.lst F hl) IsPart.none (IsPart.int _ _) hi (kmk_upto hi hy) rfl (fun D ws h' F' N' l1 hi' _ _ => h D ws h' F' N' l1 hi') hs ht (by rw [List.size_toArray, sizeLine_eq]; omega)
end
theorem menu4 {d : Int} (h0 : 0 ≤ d) (h1 : d < 4) : ([1, 2, 3, 64] : List Int).getD d.toNat 0 = 1 ∨ ([1, 2, 3, 64] : List Int).getD d.toNat 0 = 2 ∨ ([1, 2, 3, 64] : List Int).getD d.toNat 0 = 3 ∨ ([1, 2, 3, 64] : List Int).getD d.toNat 0 = 64 := by
  have : d = 0 ∨ d = 1 ∨ d = 2 ∨ d = 3 := by omega
  rcases this with rfl | rfl | rfl | rfl
  · exact .inl rfl
  · exact .inr (.inl rfl)
  · exact .inr (.inr (.inl rfl))
  · exact .inr (.inr (.inr rfl))
theorem small_flat : ∀ {bs : List (List UInt8)}, Small3 bs → bs.flatten.length ≤ 3 * bs.length
  | [], _ => Nat.le_refl _
  | b :: r, h => by
    have ih := small_flat (bs := r) fun x hx => h x (.tail _ hx)
    have := h b (.head _)
    simp only [List.flatten_cons, List.length_append, List.length_cons]
    omega
theorem small_fits {bs : List (List UInt8)} {k : Nat} (h : Small3 bs) (hl : bs.length ≤ k) (hk : k ≤ 20) : bs.flatten.length ≤ 10000 := by
  have := small_flat h
  omega

-- plain
section
/-- the run of the top over a tree of objects, in one go. -/
noncomputable def runG (ok : Thread → Bool) (stp : SharedT → Thread → Option (SharedT × Thread)) (n : Nat) : SharedT → Thread → Option SharedT :=
  @Nat.rec (fun _ => SharedT → Thread → Option SharedT) (fun _ _ => none) (fun _ ih s t => @Bool.rec (fun _ => Option SharedT) (@Bool.rec (fun _ => Option SharedT) none (@Option.rec (SharedT × Thread) (fun _ => Option SharedT) none (fun r => @Prod.rec SharedT Thread (fun _ => Option SharedT) (fun s' t' => ih s' t') r) (stp s t)) (ok t)) (some s) (through t)) n
theorem runG_of {p : Program} {w : World} {n₀ : Nat} {ann : Option Value} : ∀ (n : Nat) (s s' : SharedT) (t : Thread), runG (stepOk n₀ ann) (stepT (denote treeTable) p w) n s t = some s' → topRun treeTable p w n₀ ann n s.abs t = some s'.abs
  | 0, _, _, _, h => by cases h
  | n + 1, s, s', t, h => by
    have e : runG (stepOk n₀ ann) (stepT (denote treeTable) p w) (n + 1) s t = @Bool.rec (fun _ => Option SharedT) (@Bool.rec (fun _ => Option SharedT) none (@Option.rec (SharedT × Thread) (fun _ => Option SharedT) none (fun r => @Prod.rec SharedT Thread (fun _ => Option SharedT) (fun s' t' => runG (stepOk n₀ ann) (stepT (denote treeTable) p w) n s' t') r) (stepT (denote treeTable) p w s t)) (stepOk n₀ ann t)) (some s) (through t) := rfl
    rw [e] at h
    unfold topRun
    cases ht : through t with
    | true => rw [ht] at h; cases h; rfl
    | false =>
      rw [ht] at h
      cases hk : stepOk n₀ ann t with
      | false => rw [hk] at h; cases h
      | true =>
        rw [hk] at h
        cases hs : stepT (denote treeTable) p w s t with
        | none => rw [hs] at h; cases h
        | some r => obtain ⟨s₂, t₂⟩ := r; rw [hs] at h; rw [stepT_spec hs]; exact runG_of n s₂ s' t₂ h
noncomputable def btOf (l : List Obj) : BT := (@List.rec Obj (fun _ => Nat → BT → BT) (fun _ t => t) (fun o _ ih i t => ih (i + 1) (t.ins i o)) l) 0 .nil
/-- what is asked of the state behind the top, and what is seen of it. -/
noncomputable def looksAt (p : Program) {α : Type} (Yf : Shared → α) (H₀ : Heap) (s : Shared) :=
  ((staticsOk (importedModules p.main.body) H₀ s.heap && namesBound p s.heap && gensDone s && laidKept H₀ s.heap), Yf s)
theorem left_of {p q : Program} {loose : List Str} {Xt : Shared → Bool} {α : Type} {Yf : Shared → α} {Ya : World → α} {N M : Nat} {S₀ : World → OsState → SharedT} {H₀ : Params → Heap} {gs₀ : Array GenState} {d₀ : Drawn} {k₀ m₀ : Nat} {ann : Option Value}
    (open_ : ∀ w : World, (fencedOpening treeTable p w N).map (fun s => (s.heap, s.gens, s.drawn, s.toks)) = some (H₀ w.params, gs₀, d₀, k₀))
    (size : ∀ w : World, ((H₀ w.params).isNs mainGlobals && gs₀.size == 0, (H₀ w.params).objs.size, (H₀ w.params).nsMap mainGlobals "__annotations__") = (true, m₀, ann))
    (abs : ∀ (w : World) (os : OsState), (S₀ w os).abs = ⟨H₀ w.params, gs₀, d₀, k₀, os⟩) (le : Nat.ble M N = true)
    (run : ∀ w : World, (fun os => (runG (stepOk m₀ ann) (stepT (denote treeTable) p w) M (S₀ w os) (topStub p)).map fun s => looksAt p Yf (H₀ w.params) s.abs) = fun _ => some (true, Ya w))
    (saw : ∀ w : World, (fun os => (runG (stepOk m₀ ann) (stepT (denote treeTable) p w) M (S₀ w os) (topStub p)).map fun s => openSeen q loose (importedModules p.main.body) Xt true s.abs) = fun _ => some (openGood q loose)) : LeftO p q loose Xt Yf Ya N := fun w => by
  obtain ⟨⟨h, gs, d, k, os⟩, e, e'⟩ := Option.map_eq_some_iff.mp (open_ w)
  obtain ⟨rfl, rfl, rfl, rfl⟩ : h = H₀ w.params ∧ gs = gs₀ ∧ d = d₀ ∧ k = k₀ := by simpa using e'
  obtain ⟨z1, z2, z3⟩ : _ ∧ _ ∧ _ := by simpa only [Prod.mk.injEq] using size w
  obtain ⟨s₁, r, l⟩ := Option.map_eq_some_iff.mp (congrFun (run w) os)
  obtain ⟨l1, l3⟩ : _ ∧ _ := by simpa only [looksAt, Prod.mk.injEq] using l
  have l2 := congrFun (saw w) os
  rw [r] at l2
  replace l2 := Option.some.inj l2
  have r := topRun_mono (N - M) _ _ _ _ (runG_of _ _ _ _ r)
  rw [show M + (N - M) = N by have := Nat.le_of_ble_eq_true le; omega, abs w os] at r
  have t : topFrom treeTable p w N ⟨H₀ w.params, gs, d, k, os⟩ = some s₁.abs := by
    unfold topFrom
    dsimp only
    rw [z1, z2, z3, r]
    show (match staticsOk (importedModules p.main.body) (H₀ w.params) s₁.abs.heap && namesBound p s₁.abs.heap && gensDone s₁.abs && laidKept (H₀ w.params) s₁.abs.heap with | true => _ | false => _) = _
    rw [l1]
  unfold openEnds
  rw [e]
  show (topFrom treeTable p w N _).map _ = _
  rw [t]
  exact congrArg some (Prod.ext l2 l3)
end

-- plain
section
open PyProof.Rows.LCg
variable {prog : Program} {w : World} {A : Around} {s : Shared} {env : Env}
theorem wpC_attempt {α : Type} {M : Model} {A : Around} {s : Shared} {m : Sem α} {Q : Except Value α → Shared → Prop} (h : wpC M A m (fun a => Q (.ok a)) s) : wpC M A m.attempt Q s := fun Γ p hΓ hc => by
  rw [Sem.wp_attempt]
  exact Sem.wp_mono M Γ m (fun _ _ _ h' => h') (fun _ _ _ h' => h'.elim) p s (h Γ p hΓ hc)
/-- a comprehension in the clean logic. -/
theorem wpC_comprehension {e : Expr} {scope : Scope} {pos : Pos} {newAcc first : Sem Value} {g : Comprehension} {gs : List Comprehension} {cl : List (Str × Addr)} {Q : Value → Shared → Prop}
    (hcl : clausesOf e = g :: gs) (hs : ∀ x, foldedSetIterable g.iter env x = pure x) (hclos : closureFor scope env = pure cl)
    (hkind : scope.kind = .function) (hnames : ∀ x ∈ scope.names, x.2 = .local → scope.names.lookup x.1 = some .local)
    (h : wpAny (model prog w) A first (fun x s₁ => wpAny (model prog w) A (pyIter x) (fun it s₂ => wpAny (model prog w) A newAcc (fun acc s₃ =>
      wpAny (model prog w) A (newFunctionEnv scope env.globals cl [] env.qual none .none (some env)) (fun cenv s₄ =>
        codeC (model prog w) A (.compStart e 0 it acc { cenv with scope := relabel scope env }) (fun _ s' => ∃ m, s'.heap.Ns cenv.locals m ∧ ∀ h', Heap.SameBut cenv.locals s'.heap h' → Q acc { s' with heap := h' }) s₄) noE s₃) noE s₂) noE s₁) noE s) :
    wpC (model prog w) A (comprehension e scope env pos newAcc false first none) Q s := by
  unfold comprehension
  rw [hclos, hcl]
  refine wpC_then (wpAny_mono h (fun x s₁ h₁ => ?_) fun _ _ e => e)
  refine wpC_bind (wpC_standAt (wpC_bind (wpC_of_eq (hs x) ?_)))
  refine wpC_bind (wpC_holding (wpC_of_any (wpAny_mono h₁ (fun it s₂ h₂ => ?_) fun _ _ e => e)))
  show wpC _ _ (newAcc >>= _) _ _
  refine wpC_then (wpAny_mono h₂ (fun acc s₃ h₃ => ?_) fun _ _ e => e)
  refine wpC_bind (wpC_pure (wpC_then (wpAny_mono h₃ (fun cenv s₄ h₄ => ?_) fun _ _ e => e)))
  dsimp only
  have hv : ∀ x ∈ (scope.names.filter fun x => (x.2 == .local || x.2 == .cell) && x.1 != (".0" : Str)).reverse, x.2 = .local →
      Env.kindOf { cenv with scope := relabel scope env } x.1 = some .local := fun x hx hl => lookup_relabel_local (hnames x (List.mem_filter.mp (List.mem_reverse.mp hx)).1 hl)
  refine wpC_holding (wpC_bind (wpC_attempt (wpC_holding (wpC_run (codeC_mono h₄ fun r s' hr => ?_) rfl))))
  obtain ⟨m, hn, hr⟩ := hr
  exact wpC_of_any (wpAny_bind (wpAny_holding (wpAny_comp_letGo (cenv := { cenv with scope := relabel scope env }) hkind _ s' m hv hn fun h' m' _ hs' => wpAny_pure (hr h' hs'))))
theorem codeC_compStart {elt target iter : Expr} {ifs : List Expr} {rest : List Comprehension} {scope : Scope} {pos : Pos} {it acc : Value} {R : Flow → Shared → Prop}
    (h0 : codeC (model prog w) A (.compLoop (.ListComp elt (⟨target, iter, ifs, 0⟩ :: rest) scope pos) 0 it acc env) R s)
    (h : wpAny (model prog w) A (pyIter it) (fun it' s' => codeC (model prog w) A (.compLoop (.ListComp elt (⟨target, iter, ifs, 0⟩ :: rest) scope pos) 0 it' acc env) R s') noE s) :
    codeC (model prog w) A (.compStart (.ListComp elt (⟨target, iter, ifs, 0⟩ :: rest) scope pos) 0 it acc env) R s := by
  refine codeC_of_tree ?_
  rw [Around.under_of_weight rfl rfl]
  show wpC _ _ ((compStart (.ListComp elt (⟨target, iter, ifs, 0⟩ :: rest) scope pos) 0 it acc env).onRaise (fun x => do noteFrame x env; standAt theWindowsPlace)) _ s
  refine wpC_onRaise ?_
  unfold compStart
  show wpC _ _ (ask >>= _) _ s
  refine wpC_then (wpAny_askSetting ?_)
  split
  · first
      | exact wpC_bind (wpC_pure (wpC_pure ⟨rfl, rfl, h0⟩))
      | exact wpC_pure ⟨rfl, rfl, h0⟩
  · refine wpC_then (wpAny_rule ?_)
    show wpC _ _ (standAt iter.pos >>= _) _ s
    exact wpC_bind (wpC_standAt (wpC_then (wpAny_mono h (fun it' s' h' => wpC_pure ⟨rfl, rfl, h'⟩) fun _ _ x => x)))
theorem codeC_compTurn {elt iter : Expr} {x : Str} {px : Pos} {scope : Scope} {pos : Pos} {it acc : Value} {R : Flow → Shared → Prop}
    (h : wpAny (model prog w) A (pyNext it) (fun r s₁ => match r with
      | none => R .next s₁
      | some v => wpAny (model prog w) A (assign (.Name x px) env v) (fun _ s₂ => wpC (model prog w) A (eval elt env) (fun y s₃ =>
          wpAny (model prog w) A (call (.builtin "list.append") [acc, y]) (fun _ s₄ => codeC (model prog w) A (.compLoop (.ListComp elt [⟨.Name x px, iter, [], 0⟩] scope pos) 0 it acc env) R s₄) noE s₃) s₂) noE s₁) noE s) :
    codeC (model prog w) A (.compLoop (.ListComp elt [⟨.Name x px, iter, [], 0⟩] scope pos) 0 it acc env) R s := by
  refine codeC_of_tree ?_
  rw [Around.under_of_weight rfl rfl]
  show wpC _ _ ((compTurn (.ListComp elt [⟨.Name x px, iter, [], 0⟩] scope pos) 0 it acc env).onRaise (fun x => do noteFrame x env; theTreesLotGoes x)) _ s
  refine wpC_onRaise ?_
  rw [compTurn_list1]
  refine wpC_bind (wpC_standAt (wpC_then (wpAny_mono h (fun r s₁ h₁ => ?_) fun _ _ e => e)))
  cases r with
  | none => exact wpC_pure h₁
  | some v =>
    refine wpC_bind (wpC_of_eq (a := ()) rfl (wpC_then (wpAny_mono h₁ (fun _ s₂ h₂ => ?_) fun _ _ e => e)))
    exact wpC_bind (wpC_bind (wpC_mono h₂ fun y s₃ h₃ => wpC_then (wpAny_mono h₃ (fun _ s₄ h₄ => wpC_pure (wpC_pure ⟨rfl, rfl, h₄⟩)) fun _ _ e => e)))
end

-- plain
section
open PyProof.Rows.LCg
variable {prog : Program} {w : World} {A : Around} {s : Shared} {env : Env} {h₀ : Heap} {L : Addr} {m : Str → Option Value}
/-- what is asked of the elements of a comprehension over the values that are left. -/
noncomputable def RestC (prog : Program) (w : World) (A : Around) (h₀ : Heap) (L : Addr) (m : Str → Option Value) (env : Env) (elt : Expr) (x : Str) (scope : Scope) (cl : List (Str × Addr)) (V : Addr) (vo : Obj) (s : Shared)
    (Fin : List Value → List (Addr × Obj) → Prop) : List Value → List Value → List (Addr × Obj) → Prop
  | [], ys, news => Fin ys news
  | v :: r, ys, news => ∀ I oI C oC D m₂ h tk (Qe : Value → Shared → Prop), NsObj oC m₂ → m₂ x = some v → Fr h₀ L h m → News h₀ L h ((I, oI) :: (C, oC) :: (D, lst ys) :: news) → Off3 I C D news → (@Ne Nat I C ∧ @Ne Nat I D ∧ @Ne Nat C D) →
      (∀ y h' tk' nx, Fr h₀ L h' m → News h₀ L h' ((I, oI) :: (C, oC) :: (D, lst ys) :: nx) → Off3 I C D nx → (V, vo) ∈ nx → RestC prog w A h₀ L m env elt x scope cl V vo s Fin r (ys ++ [y]) nx → Qe y { s with heap := h', toks := tk' }) →
      wpC (model prog w) A (eval elt (compEnvC scope cl C env)) Qe { s with heap := h, toks := tk }
noncomputable def ItOk (oI : Obj) (V : Addr) (i : Nat) : Prop := oI.cls = .type "list_iterator" ∧ oI.data = .fields #[.ref V, .int i 0]
theorem compLoop_c {elt iter : Expr} {x : Str} {px : Pos} {scope : Scope} {cl : List (Str × Addr)} {pos : Pos} {I C D V : Addr} {n : Nat} {vs : List Value} {R : Flow → Shared → Prop} {Fin : List Value → List (Addr × Obj) → Prop}
    (hh : A.handled = none) (hkind : scope.kind = .function) (hx : scope.names.lookup x = some .local) (ne : @Ne Nat I C ∧ @Ne Nat I D ∧ @Ne Nat C D) (hz : vs.length ≤ 1000)
    (done : ∀ ys nx oC mC h tk, Fin ys nx → Fr h₀ L h m → News h₀ L h ((C, oC) :: (D, lst ys) :: nx) → NsObj oC mC → Off3 I C D nx → R .next { s with heap := h, toks := tk }) :
    ∀ (r : List Value) (i : Nat) (ys : List Value) (nx : List (Addr × Obj)) (h : Heap) (tk : Nat) (oI oC : Obj) (mC : Str → Option Value), vs.drop i = r → ys.length = i → Fr h₀ L h m → News h₀ L h ((I, oI) :: (C, oC) :: (D, lst ys) :: nx) → ItOk oI V i → NsObj oC mC → Off3 I C D nx → (V, listOf vs.toArray n) ∈ nx →
      RestC prog w A h₀ L m env elt x scope cl V (listOf vs.toArray n) s Fin r ys nx →
      codeC (model prog w) A (.compLoop (.ListComp elt [⟨.Name x px, iter, [], 0⟩] scope pos) 0 (.ref I) (.ref D) (compEnvC scope cl C env)) R { s with heap := h, toks := tk } := by
  intro r
  induction r with
  | nil =>
    intro i ys nx h tk oI oC mC hr hy F N hI hC off hV fin
    have zI := N _ (.head _)
    have hl : h.IsList V vs.toArray := ⟨_, (N _ (.tail _ (.tail _ (.tail _ hV)))).1, rfl, n, rfl⟩
    have off3 := off.mem
    refine codeC_compTurn (wpAny_pyNext_list_end hh ⟨_, zI.1, hI.1, hI.2⟩ hl (by simpa using List.drop_eq_nil_iff.mp hr) fun h' he => ?_)
    have z := it_keep (nx := (C, oC) :: (D, lst ys) :: nx) F (fun p hp => N p (.tail _ hp)) zI.2.1.symm zI.2.2 (fun p hp => by
      rcases List.mem_cons.mp hp with rfl | hp
      · exact ne.1.symm
      · rcases List.mem_cons.mp hp with rfl | hp
        · exact ne.2.1.symm
        · exact (off3 p hp).1) fun b o hb e => he b o hb e
    exact done ys nx oC mC h' tk fin z.1 z.2 hC off
  | cons v r ih =>
    intro i ys nx h tk oI oC mC hr hy F N hI hC off hV rest
    have zI := N _ (.head _)
    have hl : h.IsList V vs.toArray := ⟨_, (N _ (.tail _ (.tail _ (.tail _ hV)))).1, rfl, n, rfl⟩
    have off3 := off.mem
    have hv : vs[i]? = some v := by
      have e : (vs.drop i)[0]? = some v := by rw [hr]; rfl
      rw [List.getElem?_drop] at e
      simpa using e
    have hr' : vs.drop (i + 1) = r := by
      have e : (vs.drop i).drop 1 = r := by rw [hr]; rfl
      rw [List.drop_drop] at e
      exact e
    refine codeC_compTurn (wpAny_pyNext_list_item ⟨_, zI.1, hI.1, hI.2⟩ hl (x := v) (by simpa using hv) fun h1 hit1 hs1 => ?_)
    obtain ⟨oI1, e1, hI1⟩ := hit1
    have F1 := F.change hs1 zI.2.1 zI.2.2
    have N1 : News h₀ L h1 ((I, oI1) :: (C, oC) :: (D, lst ys) :: nx) := N.setHead (fun p hp => by
      rcases List.mem_cons.mp hp with rfl | hp
      · exact ne.1.symm
      · rcases List.mem_cons.mp hp with rfl | hp
        · exact ne.2.1.symm
        · exact (off3 p hp).1) hs1 e1
    have zC := N1 (C, oC) (.tail _ (.head _))
    refine wpAny_assign_Name (wpAny_storeName_local (lookup_relabel_local hx) (hC.ns zC.1) (fun h2 hn2 hs2 => ?_) (by simp [compEnvC, relabel, hkind]))
    obtain ⟨oC2, e2, hC2⟩ := ns_obj hn2
    have F2 := F1.change hs2 zC.2.1 zC.2.2
    have N2 : News h₀ L h2 ((I, oI1) :: (C, oC2) :: (D, lst ys) :: nx) := News.setIn (own := [(I, oI1)]) N1 (fun p hp => by rw [List.mem_singleton.mp hp]; exact ne.1) (fun p hp => by
      rcases List.mem_cons.mp hp with rfl | hp
      · exact ne.2.2.symm
      · exact (off3 p hp).2.1) hs2 e2
    refine rest I oI1 C oC2 D _ h2 _ _ hC2 (by simp) F2 N2 off ne fun y h' tk' nx' F' N' off' hV' rest' => ?_
    have zD := N' (D, lst ys) (.tail _ (.tail _ (.head _)))
    have hyl : ys.length ≤ 1000 := by
      have : i < vs.length := by
        rcases Nat.lt_or_ge i vs.length with q | q
        · exact q
        · rw [List.getElem?_eq_none q] at hv; cases hv
      omega
    refine append_at zD.1 (hsz := by rw [sizeLine_eq, List.size_toArray]; omega) fun h5 hs5 hD5 => ?_
    have off3' := off'.mem
    have F5 := F'.change hs5 zD.2.1 zD.2.2
    have N5 : News h₀ L h5 ((I, oI1) :: (C, oC2) :: (D, lst (ys ++ [y])) :: nx') := News.setIn (own := [(I, oI1), (C, oC2)]) N' (fun p hp => by
      rcases List.mem_cons.mp hp with rfl | hp
      · exact ne.2.1
      · rw [List.mem_singleton.mp hp]; exact ne.2.2) (fun p hp => (off3' p hp).2.2) hs5 (hD5.trans (congrArg some (lst_snoc ys y)))
    exact ih (i + 1) (ys ++ [y]) nx' h5 tk' oI1 oC2 _ hr' (by rw [List.length_append, List.length_singleton, hy]) F5 N5 ⟨hI1.1, hI1.2⟩ hC2 off' hV' rest'
/-- a comprehension over a list of the ledger, in the clean logic. -/
theorem list_c {elt iter : Expr} {x : Str} {px : Pos} {scope : Scope} {cl : List (Str × Addr)} {pos : Pos} {V : Addr} {n : Nat} {vs : List Value} {news : List (Addr × Obj)} {Q : Value → Shared → Prop}
    (F : Fr h₀ L s.heap m) (N : News h₀ L s.heap news) (hV : (V, listOf vs.toArray n) ∈ news) (hh : A.handled = none) (hz : vs.length ≤ 1000)
    (hi : ∀ Qv : Value → Shared → Prop, Qv (.ref V) s → wpAny (model prog w) A (eval iter env) Qv noE s)
    (hclos : closureFor scope env = pure cl) (hcell : ∀ y ∈ scope.names, y.2 ≠ .cell) (hkind : scope.kind = .function)
    (hnames : ∀ y ∈ scope.names, y.2 = .local → scope.names.lookup y.1 = some .local) (hx : scope.names.lookup x = some .local)
    (R : RestC prog w A h₀ L m env elt x scope cl V (listOf vs.toArray n) s (fun ys nx => ∀ D h' tk, Fr h₀ L h' m → News h₀ L h' ((D, lst ys) :: nx) → Off1 D nx → Q (.ref D) { s with heap := h', toks := tk }) vs [] news)
    (hs : ∀ x, foldedSetIterable iter env x = pure x := by intro _; rfl) :
    wpC (model prog w) A (eval (.ListComp elt [⟨.Name x px, iter, [], 0⟩] scope pos) env) Q s := by
  rw [eval_ListComp]
  have hl : s.heap.IsList V vs.toArray := ⟨_, (N _ hV).1, rfl, n, rfl⟩
  refine wpC_comprehension rfl hs hclos hkind hnames (hi _ (wpAny_pyIter_list hl ?_))
  generalize hH1 : s.heap.push { cls := .type "list_iterator", data := .fields #[.ref V, .int 0 0] } = H1
  have eI : H1.get? s.heap.objs.size = some { cls := .type "list_iterator", data := .fields #[.ref V, .int 0 0] } := hH1 ▸ Heap.get?_push_size _ rfl
  have F1 : Fr h₀ L H1 m := hH1 ▸ F.push _
  have N1 : News h₀ L H1 ((s.heap.objs.size, _) :: news) := hH1 ▸ N.push F _
  have l1 : ∀ p ∈ news, p.1 < s.heap.objs.size := fun p hp => Heap.lt_size (N p hp).1
  have z1 : H1.objs.size = s.heap.objs.size + 1 := by rw [← hH1, Heap.size_push]
  refine wpAny_newObj_type ?_
  dsimp only
  generalize hH2 : H1.push { cls := .type "list", dict := none, data := .seq ([] : List Value).toArray } = H2
  have F2 : Fr h₀ L H2 m := hH2 ▸ F1.push _
  have N2 : News h₀ L H2 ((H1.objs.size, lst []) :: (s.heap.objs.size, _) :: news) := hH2 ▸ N1.push F1 _
  have z2 : H2.objs.size = H1.objs.size + 1 := by rw [← hH2, Heap.size_push]
  refine wpAny_newFunctionEnv hcell (by intro y hy; simp at hy) (fun h3 hn3 hs3 => ?_) hkind
  dsimp only at hn3 hs3 ⊢
  obtain ⟨oC, eC, hC⟩ := ns_obj hn3
  have old : ∀ b o, H2.get? b = some o → h3.get? b = some o := fun b o e => hs3.extBut b o (Nat.ne_of_lt (Heap.lt_size e)) (Heap.get?_push_of_some _ e)
  have F3 : Fr h₀ L h3 m := F2.keeps old
  have N3 := N2.grown old
  have hC₀ : h₀.get? H2.objs.size = none := next_is_new F2
  have hCL : H2.objs.size ≠ L := Ne.symm (Nat.ne_of_lt F2.ns.lt)
  have nIC : @Ne Nat s.heap.objs.size H2.objs.size := by omega
  have nID : @Ne Nat s.heap.objs.size H1.objs.size := by omega
  have nCD : @Ne Nat H2.objs.size H1.objs.size := by omega
  have off : Off3 s.heap.objs.size H2.objs.size H1.objs.size news := Off3.of fun p hp => by
    have := l1 p hp
    have a : @LT.lt Nat _ p.1 s.heap.objs.size := this
    exact ⟨Nat.ne_of_lt a, Nat.ne_of_lt (by omega), Nat.ne_of_lt (by omega)⟩
  have N4 : News h₀ L h3 ((s.heap.objs.size, { cls := .type "list_iterator", data := .fields #[.ref V, .int 0 0] }) :: (H2.objs.size, oC) :: (H1.objs.size, lst []) :: news) := fun p hp => by
    rcases List.mem_cons.mp hp with rfl | hp
    · exact N3 _ (.tail _ (.head _))
    · rcases List.mem_cons.mp hp with rfl | hp
      · exact ⟨eC, hCL, hC₀⟩
      · rcases List.mem_cons.mp hp with rfl | hp
        · exact N3 _ (.head _)
        · exact N3 _ (.tail _ (.tail _ hp))
  have loop : ∀ s₃ : Shared, (∃ tk, s₃ = { s with heap := h3, toks := tk }) → codeC (model prog w) A (.compLoop (.ListComp elt [⟨.Name x px, iter, [], 0⟩] scope pos) 0 (.ref s.heap.objs.size) (.ref H1.objs.size) (compEnvC scope cl H2.objs.size env))
      (fun _ s' => ∃ m, s'.heap.Ns H2.objs.size m ∧ ∀ h', Heap.SameBut H2.objs.size s'.heap h' → Q (.ref H1.objs.size) { s' with heap := h' }) s₃ := by
    rintro s₃ ⟨tk, rfl⟩
    refine compLoop_c (Fin := fun ys nx => ∀ D h' tk, Fr h₀ L h' m → News h₀ L h' ((D, lst ys) :: nx) → Off1 D nx → Q (.ref D) { s with heap := h', toks := tk }) (V := V) (n := n) (vs := vs) hh hkind hx ⟨nIC, nID, nCD⟩ hz
      (fun ys nx oC' mC' h tk fin F' N' hC' off' => ?_) vs 0 [] news h3 tk _ oC _ rfl rfl F3 N4 ⟨rfl, rfl⟩ hC off hV R
    have off3' := off'.mem
    refine ⟨mC', hC'.ns (N' _ (.head _)).1, fun h'' hs'' => fin _ h'' tk (F'.change hs'' hCL hC₀) (fun p hp => ?_) off'.one⟩
    refine ⟨hs''.extBut _ _ ?_ (N' p (.tail _ hp)).1, (N' p (.tail _ hp)).2⟩
    rcases List.mem_cons.mp hp with rfl | hp
    · exact nCD.symm
    · exact (off3' p hp).2.1
  have zI := N4 _ (.head _)
  have hit : h3.IsListIter s.heap.objs.size V 0 := ⟨_, zI.1, rfl, rfl⟩
  refine codeC_compStart (loop _ ⟨_, rfl⟩) (wpAny_pyIter_listiter hit (loop _ ⟨_, rfl⟩))
/-- a statement of the clean logic, and what is known behind it. -/
theorem stmt_cut {st : Stmt} {rest : List Stmt} {Q : Flow → Shared → Prop} (P : Heap → Prop)
    (leaf : ∀ Qm : Flow → Shared → Prop, (∀ h' tk', P h' → Qm .next { s with heap := h', toks := tk' }) → wpC (model prog w) A (exec st env) Qm s)
    (next : ∀ h' tk', P h' → wpC (model prog w) A (execs rest env) Q { s with heap := h', toks := tk' }) : wpC (model prog w) A (execs (st :: rest) env) Q s := by
  refine wpC_execs_cons (wpC_mono (leaf (fun f s' => f = .next ∧ ∃ h' tk', s' = { s with heap := h', toks := tk' } ∧ P h') fun h' tk' a => ⟨rfl, h', tk', rfl, a⟩) fun f s' h => ?_)
  obtain ⟨rfl, h', tk', rfl, a⟩ := h
  exact next h' tk' a
end
section
variable {M : Model} {A : Around} {s : Shared} {env : Env} {pos : Pos} {Q : List Value → Shared → Prop}
theorem spl4_c {a b c d : Expr} (h : wpC M A (eval a env) (fun v s₁ => wpC M A (eval b env) (fun u s₂ => wpC M A (eval c env) (fun x s₃ => wpC M A (eval d env) (fun y s₄ => Q [v, u, x, y] s₄) s₃) s₂) s₁) s)
    (he : backTo pos (starEach [a, b, c, d] env) = [(false, eval a env), (false, eval b env), (false, eval c env), (false, eval d env)] := by rfl) : wpC M A (spliced (backTo pos (starEach [a, b, c, d] env))) Q s := by
  rw [he]
  exact spliced_cons_c (wpC_mono h fun v s₁ h₁ => spliced_cons_c (wpC_mono h₁ fun u s₂ h₂ => spliced_cons_c (wpC_mono h₂ fun x s₃ h₃ => spliced_cons_c (wpC_mono h₃ fun y s₄ h₄ => spliced_nil_c h₄))))
end

end Mine
section
namespace Mine
set_option maxRecDepth 100000
set_option maxHeartbeats 8000000
noncomputable def vw : Program := PySem.W.view PySem.Challenge.pw_pq0518_01 [0, 3, 4, 5, 7, 8, 9, 10, 11, 12, 13, 14, 15, 17, 19, 21, 22, 23, 24, 25, 26, 27, 28, 29, 30, 31, 32, 33, 34]
abbrev lo2 : List Str := [Str.ofString "treediff_is_binary", Str.ofString "GitError"]
local macro_rules | `(tactic| o_law) => `(tactic| refine holds_law (by kernel_rfl) fun said => ?_)
local macro_rules | `(tactic| o_head $H) => `(tactic| refine Mine.split3
  (fun (hd : defOf Mine.vw (RowW.name (OpenRow.toRowW (OpenLaw.row PySem.Challenge.rw_pq0518_01))) = some (_, _) ∧ (RowW.prog (OpenRow.toRowW (OpenLaw.row PySem.Challenge.rw_pq0518_01))).theDef (RowW.name (OpenRow.toRowW (OpenLaw.row PySem.Challenge.rw_pq0518_01))) = some (_, _, _) ∧ kwWritten? _ _ = some _) hw
      (hl : LeftO (RowW.prog (OpenRow.toRowW (OpenLaw.row PySem.Challenge.rw_pq0518_01))) Mine.vw Mine.lo2 (fun s => xlAt Mine.vw [] s && recOk (RowW.records (OpenRow.toRowW (OpenLaw.row PySem.Challenge.rw_pq0518_01))) s) (Hook.obs $H) (Hook.val $H) 6086)
      (hc : WalkO Mine.vw Mine.lo2 (XL Mine.vw []) (Hook.says $H) (OpenRow.toRowW (OpenLaw.row PySem.Challenge.rw_pq0518_01)) _ _ fun f vs => Mine.looked (PySem.call f vs) (pure (.bool true))) =>
    Mine.holds_of (by first | assumption | decide +kernel) hw (open_anyG hl (Hook.of $H) (Hook.keeps $H) (fun s e => xl_of s (Bool.and_eq_true_iff.mp e).1) XL.keeps (fun s e => recFacts_of (Bool.and_eq_true_iff.mp e).2) (by rfl) (by decide +kernel) ⟨rfl, rfl, rfl, rfl, rfl, by decide +kernel⟩ hw
      (fun _ _ _ _ _ _ _ => Mine.stub_any) (fun _ _ hg G _ hn => Mine.one_pinned hn (pinned_of_view hg G hd.1 hd.2.1 hd.2.2))
      (fun w s₀ s₁ mg mb G Y args vs as hp hy L low => Mine.at7 (G.fn hd.1) fun a o pm cd doc dV kV g =>
        ⟨.ref a, g.1, hc w s₀ s₁ mg mb G Y a o pm cd doc dV kV g.2.1 g.2.2.1 g.2.2.2.1 g.2.2.2.2 (defOf_name hd.1 ▸ g.1) L.gens args vs as hp hy L.reads L.well (L.low low)⟩)))
  ⟨by rfl, by rfl, by rfl⟩ ?hw ?hc)
open_top hd for PySem.Challenge.rw_pq0518_01
theorem boot_op : opening PySem.Challenge.pw_pq0518_01 = plainProg PySem.Challenge.pw_pq0518_01.main.scope.names := by kernel_rfl
theorem boot_fe (s : Shared) : fenceModules? PySem.Challenge.pw_pq0518_01 s = some s := by kernel_rfl
noncomputable def S0 (w : World) (os : OsState) : SharedT := ⟨btOf (boot_heap w.params).objs.toList, 11, (boot_heap w.params).life, Array.mk [], boot_drawn, boot_toks, os⟩
theorem boot_sz (w : World) : ((boot_heap w.params).isNs mainGlobals && (Array.mk [] : Array GenState).size == 0, (boot_heap w.params).objs.size, (boot_heap w.params).nsMap mainGlobals "__annotations__") = (true, 11, some (Value.ref 6)) := by kernel_rfl
theorem boot_ab (w : World) (os : OsState) : (S0 w os).abs = ⟨boot_heap w.params, Array.mk [], boot_drawn, boot_toks, os⟩ := by kernel_rfl
theorem top_run (w : World) : (fun os => (runG (PySem.W.Fast.tw6613529449190102663 11 (some (.ref 6))) (PySem.W.Fast.tw10156331382660048174 (PySem.W.Fast.tw11892475500146522536 PySem.W.Fast.tw14364793385576792824) PySem.Challenge.pw_pq0518_01 w) 3000 (S0 w os) (topStub PySem.Challenge.pw_pq0518_01)).map fun s => looksAt PySem.Challenge.pw_pq0518_01 (fun s => ((hd.heap_1 w.params).map (·.1)).map s.heap.get?) (boot_heap w.params) s.abs) = fun _ => some (true, (hd.heap_1 w.params).map fun p => some p.2) := by kernel_rfl
theorem top_saw (w : World) : (fun os => (runG (PySem.W.Fast.tw6613529449190102663 11 (some (.ref 6))) (PySem.W.Fast.tw10156331382660048174 (PySem.W.Fast.tw11892475500146522536 PySem.W.Fast.tw14364793385576792824) PySem.Challenge.pw_pq0518_01 w) 3000 (S0 w os) (topStub PySem.Challenge.pw_pq0518_01)).map fun s => openSeen vw lo2 (importedModules PySem.Challenge.pw_pq0518_01.main.body) (fun s => xlAt vw [] s && recOk (RowW.records (OpenRow.toRowW (OpenLaw.row PySem.Challenge.rw_pq0518_01))) s) true s.abs) = fun _ => some (openGood vw lo2) := by kernel_rfl
theorem top_left (as : List Addr) (e : ∀ P, as = (hd.heap_1 P).map (·.1)) : LeftO PySem.Challenge.pw_pq0518_01 vw lo2 (fun s => xlAt vw [] s && recOk (RowW.records (OpenRow.toRowW (OpenLaw.row PySem.Challenge.rw_pq0518_01))) s) (kHook hd.heap_1 as e).obs (kHook hd.heap_1 as e).val 6086 :=
  left_of (M := 3000) (fun w => boot_open boot_op (by rfl) boot_fe w) boot_sz boot_ab (by rfl) (fun w => by
    have h := top_run w
    rw [← Fast.te6613529449190102663, ← Fast.te10156331382660048174, ← Fast.te11892475500146522536, ← Fast.te14364793385576792824] at h
    rw [← e w.params] at h
    exact h) fun w => by
    have h := top_saw w
    rw [← Fast.te6613529449190102663, ← Fast.te10156331382660048174, ← Fast.te11892475500146522536, ← Fast.te14364793385576792824] at h
    exact h
end Mine
end
example : (fun (_ : OpenLaw) (_ : Params → Frag) => True) PySem.Challenge.rw_pq0518_01 Mine.hd.heap_1 := by
  k_fill
  w_top off
  trivial
namespace Mine
set_option compiler.extract_closed false
set_option hygiene false
local macro_rules | `(tactic| walk_at "m0") => `(tactic| ((case B | F | X | T => k_asm); (case hk => first | exact rfl | assumption)))
local macro_rules | `(tactic| walk_at "m1") => `(tactic| (case hdp | hun => first | omega | exact Nat.le_of_ble_eq_true rfl))
local macro_rules | `(tactic| walk_at "m2") => `(tactic| (case F | N => k_asm))
local macro_rules | `(tactic| walk_at "m3") => `(tactic| ((case s => with_unfolding_all rfl); (case t => (intro _; with_unfolding_all rfl))))
local macro_rules | `(tactic| walk_at "m4") => `(tactic| ((case U1 => k_updF); (case U2 => (intro o'; (try dsimp only); k_updF))))
local macro_rules | `(tactic| walk_at "m5") => `(tactic| ((case kA | kF => exact rfl); (case kK => first | assumption | exact rfl); (case k1 | k2 | k3 | k4 | k5 => k_asm); (case k6 | k7 => k_is); (case k8 => ktr_room); (case k9 => first | exact BindsTo.of_eq rfl | exact binds_K (by k_in) rfl (by k_is) rfl rfl rfl)))
local macro_rules | `(tactic| k_ne) => `(tactic| (refine neN ?_; (try dsimp only); first | with_reducible assumption | exact Ne.symm (by with_reducible assumption) | exact Nat.ne_of_gt (by with_reducible assumption) | exact Nat.ne_of_lt (by with_reducible assumption) | exact Nat.ne_of_lt (And.left (by walk_at "mine alt")) | exact Nat.ne_of_gt (And.left (by walk_at "mine alt"))))
set_option hygiene true
local macro_rules | `(tactic| walk_at "t7") => `(tactic| (intro N' hc' lo' l1; (try dsimp only at N'); (try k_lt l1); (try k_sweep); (try dsimp only)))
local macro_rules | `(tactic| walk_at "t0") => `(tactic| (intro N'; (try dsimp only at N'); (try k_sweep); (try dsimp only)))
local macro_rules | `(tactic| walk_at "t1") => `(tactic| (intro N' c'; (try dsimp only at N'); (try k_sweep); (try dsimp only)))
local macro_rules | `(tactic| walk_at "t2") => `(tactic| (intro l1; (try k_lt l1); (try k_sweep); (try dsimp only)))
local macro_rules | `(tactic| walk_at "t3") => `(tactic| ((try k_sweep); (try dsimp only)))
local macro_rules | `(tactic| walk_at "t4") => `(tactic| (intro l1 i'; (try k_lt l1); (try k_sweep); (try dsimp only)))
local macro_rules | `(tactic| walk_at "t5") => `(tactic| (intro l1 hp' F' N'; (try k_lt l1); (try dsimp only at N'); (try k_sweep); (try dsimp only)))
local macro_rules | `(tactic| walk_at "t6") => `(tactic| (intro g' L' h' tk' cells' FG' F' N' Y' B' X' T' l1; (try k_lt l1); k_cells Y'; (try simp only [List.cons_append, List.nil_append] at N'); (try dsimp only); (try k_fold)))
local macro_rules | `(tactic| k_all) => `(tactic| assumption)
set_option hygiene false
local macro_rules | `(tactic| walk_at "mine alt") => `(tactic| first | with_reducible assumption | exact (by with_reducible assumption : _ ∧ _).2 | exact (by with_reducible assumption : _ ∧ _ ∧ _).2.2 | exact (by with_reducible assumption : _ ∧ _ ∧ _ ∧ _).2.2.2 | exact (by with_reducible assumption : _ ∧ _ ∧ _ ∧ _ ∧ _).2.2.2.2 | exact (by with_reducible assumption : _ ∧ _ ∧ _ ∧ _ ∧ _ ∧ _).2.2.2.2.2 | exact (by with_reducible assumption : _ ∧ _ ∧ _ ∧ _ ∧ _ ∧ _ ∧ _).2.2.2.2.2.2 | exact (by with_reducible assumption : _ ∧ _ ∧ _ ∧ _ ∧ _ ∧ _ ∧ _ ∧ _).2.2.2.2.2.2.2 | exact (by with_reducible assumption : _ ∧ _ ∧ _ ∧ _ ∧ _ ∧ _ ∧ _ ∧ _ ∧ _).2.2.2.2.2.2.2.2 | exact (by with_reducible assumption : _ ∧ _ ∧ _ ∧ _ ∧ _ ∧ _ ∧ _ ∧ _ ∧ _ ∧ _).2.2.2.2.2.2.2.2.2 | exact (by with_reducible assumption : _ ∧ _ ∧ _ ∧ _ ∧ _ ∧ _ ∧ _ ∧ _ ∧ _ ∧ _ ∧ _).2.2.2.2.2.2.2.2.2.2 | exact (by with_reducible assumption : _ ∧ _ ∧ _ ∧ _ ∧ _ ∧ _ ∧ _ ∧ _ ∧ _ ∧ _ ∧ _ ∧ _).2.2.2.2.2.2.2.2.2.2.2 | exact (by with_reducible assumption : _ ∧ _ ∧ _ ∧ _ ∧ _ ∧ _ ∧ _ ∧ _ ∧ _ ∧ _ ∧ _ ∧ _ ∧ _).2.2.2.2.2.2.2.2.2.2.2.2 | exact (by with_reducible assumption : _ ∧ _ ∧ _ ∧ _ ∧ _ ∧ _ ∧ _ ∧ _ ∧ _ ∧ _ ∧ _ ∧ _ ∧ _ ∧ _).2.2.2.2.2.2.2.2.2.2.2.2.2)
set_option hygiene true
local macro_rules | `(tactic| k_all) => `(tactic| exact tbn_neAll (by walk_at "mine alt"))
set_option hygiene false
local macro_rules | `(tactic| walk_at "call builtin:list.pop") => `(tactic| (k_here; (with_reducible show wpAny _ _ (call (Value.builtin _) [Value.ref _, Value.int _ _]) _ _ _); k_dflt (apply pop0; walk_at "m2"; (case U => k_upd); (case hz => omega); k_whole); intro _ _ _))
set_option hygiene true
local macro_rules | `(tactic| walk_at "mine steps") => `(tactic| repeat' (first | (k_unfold; (try dsimp only)) | ((fail_if_success (with_reducible show wpAny _ _ (pyIter _) (fun it s₂ => LoopAtV _ _ _ _ _ _ _ _ _ it s₂) _ _)); first | walk1 | (dsimp only; walk1) | (leave1; try dsimp only)) | fail "no step"))
local macro_rules | `(tactic| walk_at "call type:range") => `(tactic| (k_here; (with_reducible show wpAny _ _ (call _ [Value.int _ _]) _ _ _); k_dflt (refine' range1_rows ?F ?N ?_; walk_at "m2"); intro _ _ _ _ _ _ _ _ _; walk_at "t3"))
local macro_rules | `(tactic| walk_at "mine sub") => `(tactic| (intro p hp; repeat (first | exact hp | exact List.mem_append_left _ hp | exact List.mem_append_right _ hp | refine List.Mem.tail _ ?_)))
local macro_rules | `(tactic| walk_at "mine sub") => `(tactic| (refine' List.forall_mem_cons.mpr ⟨?ma, ?mb⟩; (case ma => k_mem); (case mb => walk_at "mine sub")))
local macro_rules | `(tactic| walk_at "mine len") => `(tactic| first | (simp only [List.length_append, List.length_cons, List.length_nil, List.length_reverse, List.length_take, List.length_drop]; omega) | omega)
local macro_rules | `(tactic| walk_at "binaryOp Add ref ref") => `(tactic| (k_here; (with_reducible show wpAny _ _ (binaryOp _ (Value.ref _) (Value.ref _)) _ _ _); k_dflt (refine' cat_K ?F ?N ?a ?b ?z ?_; walk_at "m2"; (case a | b => k_mem); (case z => walk_at "mine len")); intro _ _ _ _; walk_at "t2"))
local macro_rules | `(tactic| walk_at "mine enter") => `(tactic| k_dflt (refine' code_def ?k1 ?k2 ?k3 ?k4 ?k5 ?kA ?kF ?kK ?k6 ?k7 ?k8 ?k9 ?kB ?_ ?c2 ?c3 ?c4 ?c5; walk_at "m5"; (case c5 => decide); (case kB => exact locs rfl); (case c2 | c3 | c4 => exact rfl); k_whole; intro _ _ _ _ _ _ _ _ _; (try dsimp only); (try k_fold)))
local macro_rules | `(tactic| walk_at "mine cells") => `(tactic| k_dflt (refine' code_defC ?k1 ?k2 ?k3 ?k4 ?k5 ?kA ?kF ?kK ?k6 ?k7 ?k8 ?k9 ?kB ?kD ?_ ?c2 ?c3 ?c4; walk_at "m5"; (case kB => exact rfl); (case kD => decide +kernel); (case c2 | c3 | c4 => exact rfl); k_whole; walk_at "t6"))
local macro_rules | `(tactic| walk_at "mine enterC") => `(tactic| k_dflt (refine' fn_c ?k1 ?k2 ?k3 ?k4 ?k5 ?kA ?kF ?kK ?k6 ?k7 ?k8 ?k9 ?kB ?_ ?c2 ?c3 ?c4 ?c5; walk_at "m5"; (case c5 => decide); (case kB => exact locs rfl); (case c2 | c3 | c4 => exact rfl); k_whole; intro _ _ _ _ _ _ _ _ _; (try dsimp only); (try k_fold)))
set_option hygiene false
local macro_rules | `(tactic| walk_at "compareOp In bytes bytes") => `(tactic| (k_here; (with_reducible show wpAny _ _ (compareOp _ (Value.bytes #[0] _) (Value.bytes (List.toArray _) _)) _ _ _); k_dflt (apply FX.in_b; (case hh => exact rfl); walk_at "m2"); intro _ _ _ _; walk_at "t3"))
set_option hygiene true
set_option hygiene false
local macro_rules | `(tactic| walk_at "compareOp NotIn bytes bytes") => `(tactic| (k_here; (with_reducible show wpAny _ _ (compareOp _ (Value.bytes #[0] _) (Value.bytes (List.toArray _) _)) _ _ _); k_dflt (apply FX.notin_b; (case hh => exact rfl); walk_at "m2"); intro _ _ _ _; walk_at "t3"))
set_option hygiene true
local macro_rules | `(tactic| walk_at "subscriptTail") => `(tactic| (k_here; (with_reducible show wpAny _ _ (subscriptTail _ (PySem.Expr.Slice none (some _) none _) (Value.bytes (List.toArray _) _) (Value.ref _)) _ _ _); k_dflt (refine' FX.bslice ?F ?N .none (.int _ _) (FX.pick_all ?e) ?z ?_ ?s ?t; walk_at "m2"; (case e | z => omega); walk_at "m3"); intro _ _ _ _ _; walk_at "t3"))
local macro_rules | `(tactic| walk_at "subscriptTail") => `(tactic| (k_here; (with_reducible show wpAny _ _ (subscriptTail _ (PySem.Expr.Slice (some _) (some _) none _) (Value.bytes (List.toArray _) _) (Value.ref _)) _ _ _); k_dflt (refine' FX.bslice ?F ?N (.int _ _) (.int _ _) (FX.pick_one ?e ?e2) ?z ?_ ?s ?t; walk_at "m2"; (case e | e2 => omega); (case z => (simp only [List.length_take, List.length_drop]; omega)); walk_at "m3"); intro _ _ _ _ _; walk_at "t3"))
set_option hygiene false
local macro_rules | `(tactic| walk_at "getMethod ref") => `(tactic| (k_here; (with_reducible show wpAny _ _ (getMethod (Value.ref _) (Str.ofString "get") _) _ _ _); k_dflt (apply getm_cnt; (case N => k_asm); (case hp => k_mem); (case hc => with_reducible assumption))))
set_option hygiene true
local macro_rules | `(tactic| walk_at "call builtin:dict.get") => `(tactic| (k_here; (with_reducible show wpAny _ _ (call _ [Value.ref _, Value.bytes (List.toArray _) _, Value.int 0 _]) _ _ _); k_dflt (refine' get_cnt ?N ?p ?c ?l ?_; (case N => k_asm); (case p => k_mem); (case c | l => with_reducible assumption)); intro _; (try dsimp only)))
set_option hygiene false
local macro_rules | `(tactic| walk_at "setItem ref bytes") => `(tactic| (k_here; (with_reducible show wpAny _ _ (setItem (Value.ref _) (Value.bytes (List.toArray _) _) (Value.int _ _)) _ _ _); k_dflt (apply set_cnt; walk_at "m2"; (case hc => with_reducible assumption); (case U => k_updF); (case hsz => omega)); intro _ _ _; walk_at "t1"))
set_option hygiene true
local macro_rules | `(tactic| walk_at "subscriptTail") => `(tactic| (k_here; (with_reducible show wpAny _ _ (subscriptTail _ _ (Value.bytes (List.toArray _) _) (Value.int _ _)) _ _ _); k_dflt (refine' FX.bitem ?z ?e ?e2 ?_ ?s ?t; (case z | e | e2 => omega); walk_at "m3"); (try dsimp only)))
local macro_rules | `(tactic| walk_at "mine leaf") => `(tactic| (refine wpC_execs_cons (wpC_of_any ?_); walk_at "mine steps"))
local macro_rules | `(tactic| walk_at "call builtin:len") => `(tactic| (k_here; (with_reducible show wpAny _ _ (call (Value.builtin "len") [Value.ref _]) _ _ _); k_dflt (refine' FA.len_ba (News.get ?N ?m) ?z ?_; (case N => k_asm); (case m => k_mem); (case z => walk_at "mine len")); (try dsimp only)))
local macro_rules | `(tactic| walk_at "call type:bytes") => `(tactic| (k_here; (with_reducible show wpAny _ _ (call (Value.type "bytes") [Value.ref _]) _ _ _); k_dflt (refine' FA.bytes_ba (News.get ?N ?m) ?z ?_; (case N => k_asm); (case m => k_mem); (case z => walk_at "mine len")); intro _ _; walk_at "t3"))
local macro_rules | `(tactic| walk_at "getMethod ref") => `(tactic| (k_here; (with_reducible show wpAny _ _ (getMethod (Value.ref _) (Str.ofString "append") _) _ _ _); k_dflt (refine' FA.getm_append (News.get ?N ?m) ?_; (case N => k_asm); (case m => k_mem))))
set_option hygiene false
local macro_rules | `(tactic| walk_at "binaryOp Add bytes bytes") => `(tactic| (k_here; (with_reducible show wpAny _ _ (binaryOp _ (Value.bytes (List.toArray _) _) (Value.bytes (List.toArray _) _)) _ _ _); k_dflt (apply FX.badd; (case hz => walk_at "mine len")); intro _ _; walk_at "t3"))
set_option hygiene true
set_option hygiene false
local macro_rules | `(tactic| walk_at "call builtin:len") => `(tactic| (k_here; (with_reducible show wpAny _ _ (call (Value.builtin "len") [Value.bytes (List.toArray _) _]) _ _ _); k_dflt (apply FX.blen; (case hz => walk_at "mine len")); (try dsimp only)))
set_option hygiene true
local macro_rules | `(tactic| walk_at "mine upto") => `(tactic| repeat' (first | (k_unfold; (try dsimp only)) | ((fail_if_success (with_reducible show wpAny _ _ (eval (PySem.Expr.ListComp _ _ _ _) _) _ _ _)); (fail_if_success (with_reducible show wpAny _ _ (call (Value.ref 247) _) _ _ _)); (fail_if_success (with_reducible show LCg.CompSrc _ _ _ _ _ _ _ _ _ _ _ _ _ _)); (fail_if_success (with_reducible show wpAny _ _ (pyIter _) (fun it s₂ => codeAny _ _ _ _ s₂) _ _)); (fail_if_success (with_reducible show wpAny _ _ (pyIter _) (fun it s₂ => CompK _ _ _ _ _ _ _ _ _ it s₂) _ _)); first | walk1 | (dsimp only; walk1) | (leave1; try dsimp only)) | fail "no step"))
local macro_rules | `(tactic| walk_at "binaryOp FloorDiv int int") => `(tactic| (k_here; (refine floordiv_int ?fb ?_ (Or.inl (PyProof.noPylong_small ?fp)); (case fb => with_reducible assumption); (case fp => first | omega | (split <;> omega))); (try dsimp only)))
local macro_rules | `(tactic| walk_at "mine sp") => `(tactic| first | with_reducible assumption | (refine SpAt.mono (by with_reducible assumption) ?_; walk_at "mine sub"))
set_option hygiene false
local macro_rules | `(tactic| walk_at "getMethod ref") => `(tactic| (k_here; (with_reducible show wpAny _ _ (getMethod (Value.ref _) (Str.ofString "values") _) _ _ _); k_dflt (apply getm_values; (case N => k_asm); (case hp => k_mem); (case hc => with_reducible assumption))))
set_option hygiene true
set_option hygiene false
local macro_rules | `(tactic| walk_at "call builtin:dict.values") => `(tactic| (k_here; (with_reducible show wpAny _ _ (call (Value.builtin "dict.values") [Value.ref _]) _ _ _); k_dflt (apply view_values; walk_at "m2"; (case hp => k_mem); (case hc | lo => with_reducible assumption)); intro _ _ _ _; walk_at "t2"))
set_option hygiene true
local macro_rules | `(tactic| walk_at "call builtin:sorted") => `(tactic| (k_here; (with_reducible show wpAny _ _ (call (Value.builtin "sorted") [Value.ref _]) _ _ _); k_dflt (refine' sorted_I ?F ?N ?m ?i ?z ?_; walk_at "m2"; (case m => k_mem); (case i => first | with_reducible assumption | exact .cons _ _ (.cons _ _ .nil)); (case z => first | omega | ((try simp only [List.length_map]); omega) | exact Nat.le_of_ble_eq_true rfl)); intro _ _ _ _ _ _; walk_at "t4"))
local macro_rules | `(tactic| walk_at "call builtin:sorted") => `(tactic| (k_here; (with_reducible show wpAny _ _ (call (Value.builtin "sorted") [Value.ref _]) _ _ _); k_dflt (refine' sorted_V ?hh ?F ?N ?v ?p ?c ?z ?_; (case hh => rfl); walk_at "m2"; (case v | p => k_mem); (case c => with_reducible assumption); (case z => omega)); intro _ _ _ _ _ _ _; walk_at "t4"))
local macro_rules | `(tactic| walk_at "call type:bytes") => `(tactic| (k_here; (with_reducible show wpAny _ _ (call (Value.type "bytes") [Value.ref _]) _ _ _); k_dflt (refine' bytes_K ?F ?N ?l ?i ?r ?z ?h ?_; walk_at "m2"; (case l => exact listAt (by k_asm) (by k_mem)); (case i | r => with_reducible assumption); (case z => (rw [sizeLine_eq]; omega)); (case h => with_unfolding_all rfl); k_whole); intro h' t' k' F' N' hB'; (clear hB'); walk_at "t3"))
local macro_rules | `(tactic| walk_at "compareOp NotIn bytes ref") => `(tactic| (k_here; (with_reducible show wpAny _ _ (compareOp _ (Value.bytes (List.toArray _) _) (Value.ref _)) _ _ _); k_dflt (first | (refine' notin_cnt ?N ?p ?c ?l ?b ?_; (case N => k_asm); (case p => k_mem); (case c | l | b => with_reducible assumption)) | (refine' notin_r ?N ?p ?c ?l ?b ?_; (case N => k_asm); (case p => k_mem); (case c | l | b => with_reducible assumption))); (try dsimp only)))
set_option hygiene false
local macro_rules | `(tactic| walk_at "call builtin:len") => `(tactic| (k_here; (with_reducible show wpAny _ _ (call (Value.builtin "len") [Value.ref _]) _ _ _); k_dflt (apply len_cnt; (case N => k_asm); (case hp => k_mem); (case hc | lo => with_reducible assumption); (case hz => omega)); (try dsimp only)))
set_option hygiene true
local macro_rules | `(tactic| walk_at "subscriptTail") => `(tactic| (k_here; (with_reducible show wpAny _ _ (subscriptTail _ _ (Value.ref _) (Value.bytes (List.toArray _) _)) _ _ _); k_dflt (refine' item_cnt ?N ?p ?c ?m ?_ ?s ?t; (case N => k_asm); (case p => k_mem); (case c => with_reducible assumption); (case m => first | with_reducible assumption | exact cput_mem _ _ _ | exact any_mem (by with_reducible assumption)); walk_at "m3"); intro _; (try dsimp only)))
local macro_rules | `(tactic| walk_at "subscriptTail") => `(tactic| (k_here; (with_reducible show wpAny _ _ (subscriptTail _ _ (Value.ref _) (Value.bytes (List.toArray _) _)) _ _ _); k_dflt (refine' item_r ?N ?p ?c ?m ?_ ?s ?t; (case N => k_asm); (case p => k_mem); (case c => with_reducible assumption); (case m => first | with_reducible assumption | exact valueAt_stored); walk_at "m3"); (try dsimp only)))
local macro_rules | `(tactic| walk_at "setItem ref bytes") => `(tactic| (k_here; (with_reducible show wpAny _ _ (setItem (Value.ref _) (Value.bytes (List.toArray _) _) (Value.ref _)) _ _ _); k_dflt (refine' set_r ?F ?N ?U ?c ?z ?_; walk_at "m2"; (case U => k_updF); (case c => with_reducible assumption); (case z => omega)); intro _ _ _; walk_at "t1"))
local macro_rules | `(tactic| walk_at "call type:bytes") => `(tactic| (k_here; (with_reducible show wpAny _ _ (call (Value.type "bytes") [Value.bytes _ _]) _ _ _); refine FA.bytes_b ?_; (try dsimp only)))
local macro_rules | `(tactic| walk_at "mine keep") => `(tactic| first | exact keep_type | exact keep_builtin | (k_dflt (refine' keep_K (K := Mine.hd.heap_1 _) ?kk (Frag.In.keeps ?kx (Fr.keep ?kf)); (case kf | kx => k_asm); (case kk => k_is))))

local macro_rules | `(tactic| walk_at "mine sub") => `(tactic| exact List.forall_mem_nil _)
local macro_rules | `(tactic| walk_at "mine cellsC") => `(tactic| k_dflt (refine' fn_cC ?k1 ?k2 ?k3 ?k4 ?k5 ?kA ?kF ?kK ?k6 ?k7 ?k8 ?k9 ?kB ?kD ?_ ?c2 ?c3 ?c4; walk_at "m5"; (case kB => exact rfl); (case kD => decide +kernel); (case c2 | c3 | c4 => exact rfl); k_whole; walk_at "t6"))
set_option hygiene false
local macro_rules | `(tactic| walk_at "storeName") => `(tactic| (k_here; (with_reducible show wpAny _ _ (storeName (envOfC _ _ _ _ _) _ _) _ _ _); k_dflt (apply store_cell; (case hk => rfl); (case hl | hc => exact rfl); walk_at "m2"; (case U => k_updF); (case ho => assumption)); intro _ _ _; walk_at "t1"))
set_option hygiene true
local macro_rules | `(tactic| walk_at "subscriptTail Name Constant ref int") => `(tactic| (k_here; (with_reducible show wpAny _ _ (subscriptTail _ _ (Value.ref _) (Value.int (_ : Int) _)) _ _ _); k_dflt (refine' item_lit ?N ?m ?a ?b ?x ?_ ?s; (case N => k_asm); (case m => k_mem); (case a | b => decide); (case x => rfl); (case s => with_unfolding_all rfl)); (try dsimp only)))
set_option maxRecDepth 100000 in
set_option maxHeartbeats 8000000 in
theorem draw_c {prog : Program} {w : World} {dp un : Nat} {gd : Option (List Code)} {cn : Str} {cs : Scope} {L a : Addr} {ccd : Value} {cl : List (Str × Addr)} {outer : List Env} {A₀ : Around} {base h₀ : Heap} {m mg mb : Str → Option Value} {mean : ExcName → Option Value} {loose : List Str} {p : Program} {s : Shared} {Q E : Value → Shared → Prop}
  {P C : Addr} {oP oC : Obj} {k many : Int} {u3 : Tok} {rest : List (Addr × Obj)}
  (B : Below A₀ base outer h₀) (F : Fr h₀ L s.heap m) (X : (hd.heap_1 w.params).In h₀) (T : Top p loose mean mg mb h₀) (hk : cs.kind = .function) (hdp : dp ≤ 700) (hun : un ≤ 3000)
  (N : News h₀ L s.heap ((P, oP) :: (C, oC) :: rest)) (hp : PenOk prog w C k oP oC)
  (hPC : @Ne Nat P C) (hrP : ∀ q ∈ rest, q.1 ≠ P) (hrC : ∀ q ∈ rest, q.1 ≠ C)
  (hm1 : 1 ≤ many) (hm2 : many ≤ 10) (hk2 : k ≤ 1000)
  (h : ∀ d t oP' oC' h' tk, 0 ≤ d → d < many → PenOk prog w C (k + 1) oP' oC' → Fr h₀ L h' m → News h₀ L h' ((P, oP') :: (C, oC') :: rest) → Q (.int d t) { s with heap := h', toks := tk }) :
  wpAny (model prog w) (ktrTop dp un gd cn cs L a ccd cl outer) (call (.ref 370) [.ref P, .int many u3]) Q E s := by
  refine wp_room hdp hun ?_
  obtain ⟨l, tn, u1, u2, vs, ns, n, hD, rfl, hi, hz, hl, ht1, ht2⟩ := hp
  cases hi
  all_goals (try simp only [List.length_cons] at hz)
  all_goals
    refine wpAny_call ?_
    k_dflt ktr_enter
    k_steps
  all_goals
    refine' h _ _ _ _ _ _ ?zd0 ?zd1 (PenOk.of ?zhD ?ze ?zhi ?zh1 ?zh2 ?zh3 ?zh4) ?zhF (kst_newsOf ?zhN ?zsub)
    case zhN => assumption
    case zhF => assumption
    case zhD => assumption
    case zsub => walk_at "mine sub"
    case ze => exact rfl
    case zhi => first | assumption | exact .nil | exact .cons _ _ (by assumption)
    case zd0 => exact Int.fmod_nonneg_of_pos _ (by omega)
    case zd1 => exact Int.fmod_lt_of_pos _ (by omega)
    case zh1 => first | (simp; done) | (simp only [List.length_cons]; omega) | omega
    case zh2 => first | omega | exact Int.fdiv_nonneg (by omega) (by omega) | exact Int.fdiv_nonneg (by split <;> omega) (by omega)
    case zh3 => omega
    case zh4 => omega

theorem draw_u {prog : Program} {w : World} {dp un : Nat} {gd : Option (List Code)} {cn : Str} {cs : Scope} {L a : Addr} {ccd : Value} {cl : List (Str × Addr)} {outer : List Env} {A₀ : Around} {base h₀ : Heap} {m mg mb : Str → Option Value} {mean : ExcName → Option Value} {loose : List Str} {p : Program} {s : Shared} {Q E : Value → Shared → Prop}
  {P C : Addr} {oP oC : Obj} {k many : Int} {u3 : Tok} {news : List (Addr × Obj)} {g1 : Obj → List (Addr × Obj)} {g2 : Obj → Obj → List (Addr × Obj)}
  (B : Below A₀ base outer h₀) (F : Fr h₀ L s.heap m) (X : (hd.heap_1 w.params).In h₀) (T : Top p loose mean mg mb h₀) (hk : cs.kind = .function) (hdp : dp ≤ 700) (hun : un ≤ 3000)
  (N : News h₀ L s.heap news) (hp : PenOk prog w C k oP oC) (U1 : UpdF P oP news g1) (U2 : ∀ o, UpdF C oC (g1 o) (g2 o))
  (hPC : @Ne Nat P C) (hm1 : 1 ≤ many) (hm2 : many ≤ 10) (hk2 : k ≤ 1000)
  (h : ∀ d t oP' oC' h' tk, 0 ≤ d → d < many → PenOk prog w C (k + 1) oP' oC' → Fr h₀ L h' m → News h₀ L h' (g2 oP' oC') → Q (.int d t) { s with heap := h', toks := tk }) :
  wpAny (model prog w) (ktrTop dp un gd cn cs L a ccd cl outer) (call (.ref 370) [.ref P, .int many u3]) Q E s :=
  draw_c B F X T hk hdp hun (kst_newsOf N (upd2_in U1 U2)) hp hPC filt1 filt2 hm1 hm2 hk2 fun d t oP' oC' h' tk a1 a2 a3 F' N' => h d t oP' oC' h' tk a1 a2 a3 F' (kst_newsOf N' (upd2_out U1 U2 oP' oC'))

set_option hygiene false
local macro_rules | `(tactic| walk_at "call ref") => `(tactic| (k_here; (with_reducible show wpAny _ _ (call (Value.ref 370) [Value.ref _, Value.int _ _]) _ _ _); k_dflt (apply draw_u; walk_at "m0"; (case N | hp => k_asm); walk_at "m4"; (case hPC => k_ne); walk_at "m1"; (case hm1 | hm2 | hk2 => omega)); intro _ _ _ _ _ _ _ _ _ _; walk_at "t0"))
set_option hygiene true

local macro_rules | `(tactic| walk_at "subscriptTail") => `(tactic| (k_here; (with_reducible show wpAny _ _ (subscriptTail _ _ (Value.ref 361) (Value.int _ _)) _ _ _); k_dflt (refine' menu_bytes ?F ?X ?l ?a ?z ?h0 ?h1 ?_; (case F | X => k_asm); (case l => k_is); (case a => exact rfl); (case z => exact Nat.le_of_ble_eq_true rfl); (case h0 => omega); (case h1 => (show (_ : Int) < 7; omega))); intro _ _ _))
local macro_rules | `(tactic| walk_at "subscriptTail") => `(tactic| (k_here; (with_reducible show wpAny _ _ (subscriptTail _ _ (Value.ref 363) (Value.int _ _)) _ _ _); k_dflt (refine' menu_octet ?F ?X ?l ?a ?z ?h0 ?h1 ?_; (case F | X => k_asm); (case l => k_is); (case a => exact rfl); (case z => exact Nat.le_of_ble_eq_true rfl); (case h0 => omega); (case h1 => (show (_ : Int) < 9; omega))); intro _ _ _ _))
local macro_rules | `(tactic| walk_at "subscriptTail") => `(tactic| (k_here; (with_reducible show wpAny _ _ (subscriptTail _ _ (Value.ref 362) (Value.int _ _)) _ _ _); k_dflt (refine' menu_bytes ?F ?X ?l ?a ?z ?h0 ?h1 ?_; (case F | X => k_asm); (case l => k_is); (case a => exact rfl); (case z => exact Nat.le_of_ble_eq_true rfl); (case h0 => omega); (case h1 => (show (_ : Int) < 4; omega))); intro _ _ _))
set_option maxRecDepth 100000 in
set_option maxHeartbeats 8000000 in
theorem piece_c {prog : Program} {w : World} {dp un : Nat} {gd : Option (List Code)} {cn : Str} {cs : Scope} {L a : Addr} {ccd : Value} {cl : List (Str × Addr)} {outer : List Env} {A₀ : Around} {base h₀ : Heap} {m mg mb : Str → Option Value} {mean : ExcName → Option Value} {loose : List Str} {p : Program} {s : Shared} {Q E : Value → Shared → Prop}
  {P C : Addr} {oP oC : Obj} {k g : Int} {u3 : Tok} {rest : List (Addr × Obj)}
  (B : Below A₀ base outer h₀) (F : Fr h₀ L s.heap m) (X : (hd.heap_1 w.params).In h₀) (T : Top p loose mean mg mb h₀) (hk : cs.kind = .function) (hdp : dp ≤ 650) (hun : un ≤ 2500)
  (N : News h₀ L s.heap ((P, oP) :: (C, oC) :: rest)) (hp : PenOk prog w C k oP oC)
  (hPC : @Ne Nat P C) (hrP : ∀ q ∈ rest, q.1 ≠ P) (hrC : ∀ q ∈ rest, q.1 ≠ C) (hk2 : k ≤ 1000)
  (h : ∀ (b : List UInt8) t oP' oC' h' tk, b.length ≤ 3 → PenOk prog w C (k + 1) oP' oC' → Fr h₀ L h' m → News h₀ L h' ((P, oP') :: (C, oC') :: rest) → Q (.bytes b.toArray t) { s with heap := h', toks := tk }) :
  wpAny (model prog w) (ktrTop dp un gd cn cs L a ccd cl outer) (call (.ref 377) [.ref P, .int g u3]) Q E s := by
  refine wp_room hdp hun ?_
  refine wpAny_call ?_
  k_dflt ktr_enter
  k_steps
  all_goals
    refine' h _ _ _ _ _ _ ?zhb ?zhp ?zhF (kst_newsOf ?zhN ?zsub)
    case zhN => assumption
    case zhF => assumption
    case zsub => walk_at "mine sub"
    case zhp => assumption
    case zhb => first | assumption | exact Nat.le_of_ble_eq_true rfl
theorem piece_u {prog : Program} {w : World} {dp un : Nat} {gd : Option (List Code)} {cn : Str} {cs : Scope} {L a : Addr} {ccd : Value} {cl : List (Str × Addr)} {outer : List Env} {A₀ : Around} {base h₀ : Heap} {m mg mb : Str → Option Value} {mean : ExcName → Option Value} {loose : List Str} {p : Program} {s : Shared} {Q E : Value → Shared → Prop}
  {P C : Addr} {oP oC : Obj} {k g : Int} {u3 : Tok} {news : List (Addr × Obj)} {g1 : Obj → List (Addr × Obj)} {g2 : Obj → Obj → List (Addr × Obj)}
  (B : Below A₀ base outer h₀) (F : Fr h₀ L s.heap m) (X : (hd.heap_1 w.params).In h₀) (T : Top p loose mean mg mb h₀) (hk : cs.kind = .function) (hdp : dp ≤ 650) (hun : un ≤ 2500)
  (N : News h₀ L s.heap news) (hp : PenOk prog w C k oP oC) (U1 : UpdF P oP news g1) (U2 : ∀ o, UpdF C oC (g1 o) (g2 o))
  (hPC : @Ne Nat P C) (hk2 : k ≤ 1000)
  (h : ∀ (b : List UInt8) t oP' oC' h' tk, b.length ≤ 3 → PenOk prog w C (k + 1) oP' oC' → Fr h₀ L h' m → News h₀ L h' (g2 oP' oC') → Q (.bytes b.toArray t) { s with heap := h', toks := tk }) :
  wpAny (model prog w) (ktrTop dp un gd cn cs L a ccd cl outer) (call (.ref 377) [.ref P, .int g u3]) Q E s :=
  piece_c B F X T hk hdp hun (kst_newsOf N (upd2_in U1 U2)) hp hPC filt1 filt2 hk2 fun b t oP' oC' h' tk a1 a3 F' N' => h b t oP' oC' h' tk a1 a3 F' (kst_newsOf N' (upd2_out U1 U2 oP' oC'))
set_option hygiene false
local macro_rules | `(tactic| walk_at "call ref") => `(tactic| (k_here; (with_reducible show wpAny _ _ (call (Value.ref 377) [Value.ref _, Value.int _ _]) _ _ _); k_dflt (apply piece_u; walk_at "m0"; (case N | hp => k_asm); walk_at "m4"; (case hPC => k_ne); walk_at "m1"; (case hk2 => omega)); intro _ _ _ _ _ _ _ _ _; walk_at "t0"))
set_option hygiene true

set_option maxRecDepth 100000 in
set_option maxHeartbeats 8000000 in
theorem pieces_c {prog : Program} {w : World} {dp un : Nat} {gd : Option (List Code)} {cn : Str} {cs : Scope} {L a : Addr} {ccd : Value} {cl : List (Str × Addr)} {outer : List Env} {A₀ : Around} {base h₀ : Heap} {m mg mb : Str → Option Value} {mean : ExcName → Option Value} {loose : List Str} {p : Program} {s : Shared} {Q E : Value → Shared → Prop}
  {P C : Addr} {oP oC : Obj} {k g : Int} {u3 : Tok} {rest : List (Addr × Obj)}
  (B : Below A₀ base outer h₀) (F : Fr h₀ L s.heap m) (X : (hd.heap_1 w.params).In h₀) (T : Top p loose mean mg mb h₀) (hk : cs.kind = .function) (hdp : dp ≤ 600) (hun : un ≤ 2000)
  (N : News h₀ L s.heap ((P, oP) :: (C, oC) :: rest)) (hp : PenOk prog w C k oP oC)
  (hPC : @Ne Nat P C) (hrP : ∀ q ∈ rest, q.1 ≠ P) (hrC : ∀ q ∈ rest, q.1 ≠ C) (hk2 : k ≤ 900)
  (h : ∀ R vs bs oP' oC' h' tk, BytesAre vs bs → bs.length ≤ 10 → Small3 bs → (∀ q ∈ (P, oP) :: (C, oC) :: rest, q.1 < R) → PenOk prog w C (k + 12) oP' oC' → Fr h₀ L h' m → News h₀ L h' ((R, listOf vs.toArray 0) :: (P, oP') :: (C, oC') :: rest) → Q (.ref R) { s with heap := h', toks := tk }) :
  wpAny (model prog w) (ktrTop dp un gd cn cs L a ccd cl outer) (call (.ref 384) [.ref P, .int g u3]) Q E s := by
  refine wp_room hdp hun ?_
  refine wpAny_call ?_
  k_dflt ktr_enter
  walk_at "mine steps"
  all_goals
    rename IsRange _ _ _ _ _ _ _ _ => hR
    rename Fr _ _ _ _ => F1
    rename News _ _ _ _ => N1
    refine' kst_range (n := (_ : Int).toNat) (σ := Obj × Obj × List Value × Nat) (fun c => (?zR, listOf c.2.2.1.toArray c.2.2.2) :: (P, c.1) :: (C, c.2.1) :: rest) (fun _ => []) (fun _ => True) []
      (fun pre c => ∃ bs, BytesAre c.2.2.1 bs ∧ bs.length = pre.length ∧ Small3 bs ∧ PenOk prog w C (k + 1 + pre.length) c.1 c.2.1) (_, _, [], 0) rfl hR (small_one (by omega) (by omega) (by omega) (by omega)) (rangeSize0 _) F1 (kst_newsOf N1 ?zsub) trivial (fun _ h => nomatch h) ⟨[], .nil, rfl, .nil, ?zhp⟩ ?zturn ?zdone
    case zsub => (dsimp only; walk_at "mine sub")
    case zhp => (simp only [List.length_nil, Int.natCast_zero, Int.add_zero]; assumption)
    case zturn =>
      clear N1 F1
      intro c pre i t u h2 tk2 own hi hlt hoff _ hP F2 N2
      obtain ⟨oP2, oC2, vs2, n2⟩ := c
      obtain ⟨bs, hb, hbl, hbs, hp2⟩ := hP
      dsimp only [kstB] at N2 hp2 hb F2
      simp only [List.map_cons] at hoff
      simp only [List.cons_append] at N2
      have hl2 := hb.length
      have hrP2 := app_ne hrP (hoff.ne (.tail _ (.head _)))
      have hrC2 := app_ne hrC (hoff.ne (.tail _ (.tail _ (.head _))))
      have hrR2 := app_ne (tbn_neAll (by walk_at "mine alt")) (hoff.ne (.head _))
      walk_at "mine steps"
      rename News _ _ _ _ => N9
      simp only [List.push_toArray] at N9
      refine' kst_end (_, _, _, _) ?zeF ?zeN ?zhn ?zho ?zha trivial (fun _ h => nomatch h) ?zhr ?zhP
      case zeF => assumption
      case zeN => exact N9
      case zhn => (dsimp only; walk_at "mine sub")
      case zho => walk_at "mine sub"
      case zhr => kst_same
      case zha => exact rfl
      case zhP =>
        refine ⟨bs ++ [_], hb.snoc _ _, by simp [hbl], hbs.append (.one (by assumption)), ?_⟩
        (refine PenOk.mono (by assumption) ?_; simp only [List.length_append, List.length_cons, List.length_nil]; omega)
    case zdone =>
      clear N1 F1
      intro c u h2 tk2 _ hP F2 N2
      obtain ⟨oP2, oC2, vs2, n2⟩ := c
      obtain ⟨bs, hb, hbl, hbs, hp2⟩ := hP
      dsimp only [kstB] at N2 hp2 hb F2
      simp only [rangeKs_length] at hbl hp2
      have hl2 := hb.length
      walk_at "mine steps"
      all_goals
        refine' h _ _ (bs ++ [_]) _ _ _ _ ?zqb ?zql ?zqs ?zqa ?zqp ?zqF (kst_newsOf ?zqN ?zqsub)
        case zqN => assumption
        case zqF => assumption
        case zqsub => walk_at "mine sub"
        case zqb => exact hb.snoc _ _
        case zql => (simp only [List.length_append, List.length_cons, List.length_nil]; omega)
        case zqs => exact hbs.append (.one (by first | assumption | exact Nat.le_of_ble_eq_true rfl))
        case zqp => exact PenOk.mono (by assumption) (by omega)
        case zqa => exact walk_lt3 (by omega) (by omega) (by walk_at "mine alt")
theorem pieces_u {prog : Program} {w : World} {dp un : Nat} {gd : Option (List Code)} {cn : Str} {cs : Scope} {L a : Addr} {ccd : Value} {cl : List (Str × Addr)} {outer : List Env} {A₀ : Around} {base h₀ : Heap} {m mg mb : Str → Option Value} {mean : ExcName → Option Value} {loose : List Str} {p : Program} {s : Shared} {Q E : Value → Shared → Prop}
  {P C : Addr} {oP oC : Obj} {k g : Int} {u3 : Tok} {news : List (Addr × Obj)} {g1 : Obj → List (Addr × Obj)} {g2 : Obj → Obj → List (Addr × Obj)}
  (B : Below A₀ base outer h₀) (F : Fr h₀ L s.heap m) (X : (hd.heap_1 w.params).In h₀) (T : Top p loose mean mg mb h₀) (hk : cs.kind = .function) (hdp : dp ≤ 600) (hun : un ≤ 2000)
  (N : News h₀ L s.heap news) (hp : PenOk prog w C k oP oC) (U1 : UpdF P oP news g1) (U2 : ∀ o, UpdF C oC (g1 o) (g2 o))
  (hPC : @Ne Nat P C) (hk2 : k ≤ 900)
  (h : ∀ R vs bs oP' oC' h' tk, BytesAre vs bs → bs.length ≤ 10 → Small3 bs → (∀ q ∈ news, q.1 < R) → PenOk prog w C (k + 12) oP' oC' → Fr h₀ L h' m → News h₀ L h' ((R, listOf vs.toArray 0) :: g2 oP' oC') → Q (.ref R) { s with heap := h', toks := tk }) :
  wpAny (model prog w) (ktrTop dp un gd cn cs L a ccd cl outer) (call (.ref 384) [.ref P, .int g u3]) Q E s :=
  pieces_c B F X T hk hdp hun (kst_newsOf N (upd2_in U1 U2)) hp hPC filt1 filt2 hk2 fun R vs bs oP' oC' h' tk a1 a2 a3 a4 a5 F' N' => h R vs bs oP' oC' h' tk a1 a2 a3 (upd2_lt U1 U2 a4) a5 F' (kst_newsOf N' fun p hp => (List.mem_cons.mp hp).elim (fun e => e ▸ .head _) fun hp => .tail _ (upd2_out U1 U2 oP' oC' p hp))
set_option hygiene false
local macro_rules | `(tactic| walk_at "call ref") => `(tactic| (k_here; (with_reducible show wpAny _ _ (call (Value.ref 384) [Value.ref _, Value.int _ _]) _ _ _); k_dflt (apply pieces_u; walk_at "m0"; (case N | hp => k_asm); walk_at "m4"; (case hPC => k_ne); walk_at "m1"; (case hk2 => omega)); intro _ _ _ _ _ _ _ _ _ _; walk_at "t5"))
set_option hygiene true

local macro_rules | `(tactic| walk_at "subscriptTail") => `(tactic| (k_here; (with_reducible show wpAny _ _ (subscriptTail _ (PySem.Expr.Slice none none (some _) _) (Value.ref _) (Value.ref _)) _ _ _); k_dflt (refine' slice_any ?F ?N ?m .none .none (.int _ _) ?h0 (pick_rev _) ?z ?_ ?s; walk_at "m2"; (case m => k_mem); (case h0 => decide); (case z => walk_at "mine len"); (case s => with_unfolding_all rfl)); intro _ _ _ _; walk_at "t2"))
local macro_rules | `(tactic| walk_at "subscriptTail Name Slice ref ref") => `(tactic| (k_here; (with_reducible show wpAny _ _ (subscriptTail _ (PySem.Expr.Slice none (some _) none _) (Value.ref _) (Value.ref _)) _ _ _); k_dflt (refine' slice_any ?F ?N ?m .none (.int _ _) .none ?h0 (pick_but _) ?z ?_ ?s; walk_at "m2"; (case m => k_mem); (case h0 => (intro h; cases h)); (case z => walk_at "mine len"); (case s => with_unfolding_all rfl)); intro _ _ _ _; walk_at "t2"))
local macro_rules | `(tactic| walk_at "subscriptTail Name Slice ref ref") => `(tactic| (k_here; (with_reducible show wpAny _ _ (subscriptTail _ (PySem.Expr.Slice (some _) none none _) (Value.ref _) (Value.ref _)) _ _ _); k_dflt (refine' slice_any ?F ?N ?m (.int _ _) .none .none ?h0 (pick_last _) ?z ?_ ?s; walk_at "m2"; (case m => k_mem); (case h0 => (intro h; cases h)); (case z => walk_at "mine len"); (case s => with_unfolding_all rfl)); intro _ _ _ _; walk_at "t2"))
set_option maxRecDepth 100000 in
set_option maxHeartbeats 8000000 in
theorem other_c {prog : Program} {w : World} {dp un : Nat} {gd : Option (List Code)} {cn : Str} {cs : Scope} {L a : Addr} {ccd : Value} {cl : List (Str × Addr)} {outer : List Env} {A₀ : Around} {base h₀ : Heap} {m mg mb : Str → Option Value} {mean : ExcName → Option Value} {loose : List Str} {p : Program} {s : Shared} {Q E : Value → Shared → Prop}
  {P C V : Addr} {oP oC : Obj} {k g : Int} {u3 : Tok} {vs : List Value} {bs : List (List UInt8)} {n : Nat} {rest : List (Addr × Obj)}
  (B : Below A₀ base outer h₀) (F : Fr h₀ L s.heap m) (X : (hd.heap_1 w.params).In h₀) (T : Top p loose mean mg mb h₀) (hk : cs.kind = .function) (hdp : dp ≤ 550) (hun : un ≤ 1800)
  (N : News h₀ L s.heap ((P, oP) :: (C, oC) :: (V, listOf vs.toArray n) :: rest)) (hp : PenOk prog w C k oP oC) (hb : BytesAre vs bs) (hl : bs.length ≤ 10) (hs : Small3 bs)
  (hPC : @Ne Nat P C) (hPV : @Ne Nat P V) (hCV : @Ne Nat C V) (hrP : ∀ q ∈ rest, q.1 ≠ P) (hrC : ∀ q ∈ rest, q.1 ≠ C) (hk2 : k ≤ 800)
  (h : ∀ R vs' bs' oP' oC' n' h' tk, BytesAre vs' bs' → bs'.length ≤ 11 → Small3 bs' → (∀ q ∈ (P, oP) :: (C, oC) :: (V, listOf vs.toArray n) :: rest, q.1 < R) → PenOk prog w C (k + 13) oP' oC' → Fr h₀ L h' m → News h₀ L h' ((R, listOf vs'.toArray n') :: (P, oP') :: (C, oC') :: (V, listOf vs.toArray n) :: rest) → Q (.ref R) { s with heap := h', toks := tk }) :
  wpAny (model prog w) (ktrTop dp un gd cn cs L a ccd cl outer) (call (.ref 391) [.ref P, .int g u3, .ref V]) Q E s := by
  refine wp_room hdp hun ?_
  have hlv := hb.length
  refine wpAny_call ?_
  k_dflt ktr_enter
  walk_at "mine steps"
  all_goals
    refine' h _ _ _ _ _ _ _ _ ?zqb ?zql ?zqs ?zqa ?zqp ?zqF (kst_newsOf ?zqN ?zqsub)
    case zqN => assumption
    case zqF => assumption
    case zqsub => walk_at "mine sub"
    case zqb => first | assumption | exact (hb.take _).reverse.append (hb.drop _) | exact ((hb.take _).append (.cons _ _ .nil)).append (hb.drop _)
    case zql => first | omega | (simp only [List.length_append, List.length_cons, List.length_nil, List.length_reverse, List.length_take, List.length_drop]; omega)
    case zqs => first | assumption | exact (hs.take _).reverse.append (hs.drop _) | exact ((hs.take _).append (.one (by assumption))).append (hs.drop _)
    case zqp => exact PenOk.mono (by assumption) (by omega)
    case zqa => exact walk_lt4 (by omega) (by omega) (by omega) (by walk_at "mine alt")
theorem other_u {prog : Program} {w : World} {dp un : Nat} {gd : Option (List Code)} {cn : Str} {cs : Scope} {L a : Addr} {ccd : Value} {cl : List (Str × Addr)} {outer : List Env} {A₀ : Around} {base h₀ : Heap} {m mg mb : Str → Option Value} {mean : ExcName → Option Value} {loose : List Str} {p : Program} {s : Shared} {Q E : Value → Shared → Prop}
  {P C V : Addr} {oP oC : Obj} {k g : Int} {u3 : Tok} {vs : List Value} {bs : List (List UInt8)} {n : Nat} {news : List (Addr × Obj)} {g1 : Obj → List (Addr × Obj)} {g2 : Obj → Obj → List (Addr × Obj)}
  (B : Below A₀ base outer h₀) (F : Fr h₀ L s.heap m) (X : (hd.heap_1 w.params).In h₀) (T : Top p loose mean mg mb h₀) (hk : cs.kind = .function) (hdp : dp ≤ 550) (hun : un ≤ 1800)
  (N : News h₀ L s.heap news) (hp : PenOk prog w C k oP oC) (U1 : UpdF P oP news g1) (U2 : ∀ o, UpdF C oC (g1 o) (g2 o)) (hV : (V, listOf vs.toArray n) ∈ news) (hb : BytesAre vs bs) (hl : bs.length ≤ 10) (hs : Small3 bs)
  (hPC : @Ne Nat P C) (hPV : @Ne Nat P V) (hCV : @Ne Nat C V) (hk2 : k ≤ 800)
  (h : ∀ R vs' bs' oP' oC' n' h' tk, BytesAre vs' bs' → bs'.length ≤ 11 → Small3 bs' → (∀ q ∈ news, q.1 < R) → PenOk prog w C (k + 13) oP' oC' → Fr h₀ L h' m → News h₀ L h' ((R, listOf vs'.toArray n') :: g2 oP' oC') → Q (.ref R) { s with heap := h', toks := tk }) :
  wpAny (model prog w) (ktrTop dp un gd cn cs L a ccd cl outer) (call (.ref 391) [.ref P, .int g u3, .ref V]) Q E s :=
  other_c B F X T hk hdp hun (rest := news.filter fun p => decide (@Ne Nat p.1 P ∧ @Ne Nat p.1 C)) (kst_newsOf N (fun p hp => by
    rcases List.mem_cons.mp hp with rfl | hp
    · exact upd2_in U1 U2 _ (.head _)
    rcases List.mem_cons.mp hp with rfl | hp
    · exact upd2_in U1 U2 _ (.tail _ (.head _))
    rcases List.mem_cons.mp hp with rfl | hp
    · exact hV
    · exact upd2_in U1 U2 _ (.tail _ (.tail _ hp)))) hp hb hl hs hPC hPV hCV filt1 filt2 hk2 fun R vs' bs' oP' oC' n' h' tk a1 a2 a3 a4 a5 F' N' =>
    h R vs' bs' oP' oC' n' h' tk a1 a2 a3 (upd2_lt U1 U2 (fun q hq => by
      rcases List.mem_cons.mp hq with rfl | hq
      · exact a4 _ (.head _)
      rcases List.mem_cons.mp hq with rfl | hq
      · exact a4 _ (.tail _ (.head _))
      · exact a4 _ (.tail _ (.tail _ (.tail _ hq))))) a5 F' (kst_newsOf N' fun p hp => by
      rcases List.mem_cons.mp hp with rfl | hp
      · exact .head _
      have := upd2_out U1 U2 oP' oC' p hp
      rcases List.mem_cons.mp this with rfl | hp
      · exact .tail _ (.head _)
      rcases List.mem_cons.mp hp with rfl | hp
      · exact .tail _ (.tail _ (.head _))
      · exact .tail _ (.tail _ (.tail _ (.tail _ hp))))
set_option hygiene false
local macro_rules | `(tactic| walk_at "call ref") => `(tactic| (k_here; (with_reducible show wpAny _ _ (call (Value.ref 391) [Value.ref _, Value.int _ _, Value.ref _]) _ _ _); k_dflt (apply other_u; walk_at "m0"; (case N | hp => k_asm); walk_at "m4"; (case hV => k_mem); (case hb | hl | hs => k_asm); (case hPC | hPV | hCV => k_ne); walk_at "m1"; (case hk2 => omega)); intro _ _ _ _ _ _ _ _ _ _ _; walk_at "t5"))
set_option hygiene true

set_option maxRecDepth 100000 in
set_option maxHeartbeats 8000000 in
theorem binary_c {prog : Program} {w : World} {dp un : Nat} {gd : Option (List Code)} {cn : Str} {cs : Scope} {L a : Addr} {ccd : Value} {cl : List (Str × Addr)} {outer : List Env} {A₀ : Around} {base h₀ : Heap} {m mg mb : Str → Option Value} {mean : ExcName → Option Value} {loose : List Str} {p : Program} {s : Shared} {Q E : Value → Shared → Prop}
  {l : List UInt8} {t : Tok} {news : List (Addr × Obj)}
  (B : Below A₀ base outer h₀) (F : Fr h₀ L s.heap m) (X : (hd.heap_1 w.params).In h₀) (T : Top p loose mean mg mb h₀) (hk : cs.kind = .function) (hdp : dp ≤ 700) (hun : un ≤ 3000)
  (N : News h₀ L s.heap news) (hl : l.length ≤ 8000)
  (h : ∀ h' tk, Fr h₀ L h' m → News h₀ L h' news → Q (.bool (l.contains 0)) { s with heap := h', toks := tk }) :
  wpAny (model prog w) (ktrTop dp un gd cn cs L a ccd cl outer) (call (.ref 29) [.bytes l.toArray t]) Q E s := by
  refine wp_room hdp hun ?_
  refine wpAny_call ?_
  walk_at "mine enter"
  walk_at "mine steps"
  all_goals exact h _ _ (by assumption) (by assumption)

set_option hygiene false
local macro_rules | `(tactic| walk_at "call ref") => `(tactic| (k_here; (with_reducible show wpAny _ _ (call (Value.ref 29) [Value.bytes (List.toArray _) _]) _ _ _); k_dflt (apply binary_c; walk_at "m0"; (case N => k_asm); (case hl => omega); walk_at "m1"); intro _ _ _; walk_at "t0"))
set_option hygiene true

set_option maxRecDepth 100000 in
set_option maxHeartbeats 8000000 in
theorem put_c {prog : Program} {w : World} {dp un : Nat} {gd : Option (List Code)} {cn : Str} {cs : Scope} {L a : Addr} {ccd : Value} {cl : List (Str × Addr)} {outer : List Env} {A₀ : Around} {base h₀ : Heap} {m mg mb : Str → Option Value} {mean : ExcName → Option Value} {loose : List Str} {p : Program} {s : Shared} {Q E : Value → Shared → Prop}
  {b : List UInt8} {t tz t1 t3 : Tok} {z : Int} {ps : Ps} {x dx c : Addr} {oc : Obj} {rest : List (Addr × Obj)}
  (B : Below A₀ base outer h₀) (F : Fr h₀ L s.heap m) (X : (hd.heap_1 w.params).In h₀) (T : Top p loose mean mg mb h₀) (hk : cs.kind = .function) (hdp : dp ≤ 700) (hun : un ≤ 3000)
  (N : News h₀ L s.heap ((dx, dictOf [{ hash := PyData.keyHash w.params (Str.ofString "size"), key := .str (Str.ofString "size") t1, val := .int z tz }, { hash := PyData.keyHash w.params (Str.ofString "counts"), key := .str (Str.ofString "counts") t3, val := .ref c }] 2) :: (c, oc) :: (x, instObj 75 dx) :: rest)) (hc : Cnt prog w oc ps) (lo : (c == sysModules) = false) (hps : ps.length ≤ 900)
  (hb : b.length ≤ 900) (h1 : @Ne Nat dx c) (h2 : @Ne Nat x dx) (h3 : @Ne Nat x c) (hr1 : ∀ q ∈ rest, q.1 ≠ dx) (hr2 : ∀ q ∈ rest, q.1 ≠ c)
  (h : ∀ t' oc' h' tk, Fr h₀ L h' m → News h₀ L h' ((dx, dictOf [{ hash := PyData.keyHash w.params (Str.ofString "size"), key := .str (Str.ofString "size") t1, val := .int (z + b.length) t' }, { hash := PyData.keyHash w.params (Str.ofString "counts"), key := .str (Str.ofString "counts") t3, val := .ref c }] 2) :: (c, oc') :: (x, instObj 75 dx) :: rest) → Cnt prog w oc' (bump ps b) → Q .none { s with heap := h', toks := tk }) :
  wpAny (model prog w) (ktrTop dp un gd cn cs L a ccd cl outer) (call (.ref 51) [.ref x, .bytes b.toArray t]) Q E s := by
  refine wp_room hdp hun ?_
  refine wpAny_call ?_
  walk_at "mine enter"
  walk_at "mine steps"
  all_goals
    exact h _ _ _ _ (by assumption) (by assumption) (by assumption)

theorem put_u {prog : Program} {w : World} {dp un : Nat} {gd : Option (List Code)} {cn : Str} {cs : Scope} {L a : Addr} {ccd : Value} {cl : List (Str × Addr)} {outer : List Env} {A₀ : Around} {base h₀ : Heap} {m mg mb : Str → Option Value} {mean : ExcName → Option Value} {loose : List Str} {p : Program} {s : Shared} {Q E : Value → Shared → Prop}
  {b : List UInt8} {t tz t1 t3 : Tok} {z : Int} {ps : Ps} {x dx c : Addr} {oc : Obj} {news : List (Addr × Obj)} {g1 : Obj → List (Addr × Obj)} {g2 : Obj → Obj → List (Addr × Obj)}
  (B : Below A₀ base outer h₀) (F : Fr h₀ L s.heap m) (X : (hd.heap_1 w.params).In h₀) (T : Top p loose mean mg mb h₀) (hk : cs.kind = .function) (hdp : dp ≤ 700) (hun : un ≤ 3000)
  (N : News h₀ L s.heap news) (hx : (x, instObj 75 dx) ∈ news) (U1 : UpdF dx (dictOf [{ hash := PyData.keyHash w.params (Str.ofString "size"), key := .str (Str.ofString "size") t1, val := .int z tz }, { hash := PyData.keyHash w.params (Str.ofString "counts"), key := .str (Str.ofString "counts") t3, val := .ref c }] 2) news g1) (U2 : ∀ o, UpdF c oc (g1 o) (g2 o)) (hc : Cnt prog w oc ps) (lo : (c == sysModules) = false) (hps : ps.length ≤ 900)
  (hb : b.length ≤ 900) (h1 : @Ne Nat dx c) (h2 : @Ne Nat x dx) (h3 : @Ne Nat x c)
  (h : ∀ t' oc' h' tk, Fr h₀ L h' m → News h₀ L h' (g2 (dictOf [{ hash := PyData.keyHash w.params (Str.ofString "size"), key := .str (Str.ofString "size") t1, val := .int (z + b.length) t' }, { hash := PyData.keyHash w.params (Str.ofString "counts"), key := .str (Str.ofString "counts") t3, val := .ref c }] 2) oc') → Cnt prog w oc' (bump ps b) → Q .none { s with heap := h', toks := tk }) :
  wpAny (model prog w) (ktrTop dp un gd cn cs L a ccd cl outer) (call (.ref 51) [.ref x, .bytes b.toArray t]) Q E s := by
  refine put_c (z := z) (t1 := t1) (t3 := t3) (tz := tz) (rest := news.filter (fun p => decide (@Ne Nat p.1 dx ∧ @Ne Nat p.1 c))) B F X T hk hdp hun (kst_newsOf N ?_) hc lo hps hb h1 h2 h3 filt1 filt2 fun t' oc' h' tk F' N' hc' => h t' oc' h' tk F' (kst_newsOf N' ?_) hc'
  · intro p hp
    have q := upd2_in U1 U2
    rcases List.mem_cons.mp hp with rfl | hp
    · exact q _ (.head _)
    rcases List.mem_cons.mp hp with rfl | hp
    · exact q _ (.tail _ (.head _))
    rcases List.mem_cons.mp hp with rfl | hp
    · exact hx
    · exact q _ (.tail _ (.tail _ hp))
  · intro p hp
    have q := upd2_out U1 U2 _ _ p hp
    rcases List.mem_cons.mp q with rfl | q
    · exact .head _
    rcases List.mem_cons.mp q with rfl | q
    · exact .tail _ (.head _)
    · exact .tail _ (.tail _ (.tail _ q))

set_option hygiene false
local macro_rules | `(tactic| walk_at "call ref") => `(tactic| (k_here; (with_reducible show wpAny _ _ (call (Value.ref 51) [Value.ref _, Value.bytes (List.toArray _) _]) _ _ _); k_dflt (apply put_u; walk_at "m0"; (case hc => with_reducible assumption); (case N => k_asm); (case hx => k_mem); walk_at "m4"; (case lo => with_reducible assumption); (case hps | hb => omega); (case h1 | h2 | h3 => k_ne); walk_at "m1"); intro _ _ _ _ _; walk_at "t1"))
set_option hygiene true

set_option maxRecDepth 100000 in
set_option maxHeartbeats 8000000 in
theorem init_c {prog : Program} {w : World} {dp un : Nat} {gd : Option (List Code)} {cn : Str} {cs : Scope} {L a : Addr} {ccd : Value} {cl : List (Str × Addr)} {outer : List Env} {A₀ : Around} {base h₀ : Heap} {m mg mb : Str → Option Value} {mean : ExcName → Option Value} {loose : List Str} {p : Program} {s : Shared} {Q : Value → Shared → Prop}
  {l : List UInt8} {t tz : Tok} {z : Int} {x dx : Addr} {rest : List (Addr × Obj)} {args : List Value}
  (B : Below A₀ base outer h₀) (F : Fr h₀ L s.heap m) (X : (hd.heap_1 w.params).In h₀) (T : Top p loose mean mg mb h₀) (hk : cs.kind = .function)
  (N : News h₀ L s.heap ((x, instObj 75 dx) :: (dx, dictOf [] 0) :: rest))
  (hBinds : ∀ (fd : FuncData) (oc : Value) (od : Option Addr) (osl : Array (Option Value)), (hd.heap_1 w.params).lookup 44 = some ⟨oc, od, .func fd, osl⟩ → BindsTo s fd ⟨args, []⟩ [(Str.ofString "self", .ref x), (Str.ofString "octets", .bytes l.toArray t), (Str.ofString "longest", .int z tz)])
  (hb : l.length ≤ 800) (h2 : @LT.lt Nat _ dx x) (hr0 : AllLt dx rest)
  (h : ∀ c t1 t2 t3 oc h' tk, Fr h₀ L h' m → News h₀ L h' ((dx, dictOf [{ hash := PyData.keyHash w.params (Str.ofString "size"), key := .str (Str.ofString "size") t1, val := .int (total (cutAll l z)) t2 }, { hash := PyData.keyHash w.params (Str.ofString "counts"), key := .str (Str.ofString "counts") t3, val := .ref c }] 2) :: (c, oc) :: (x, instObj 75 dx) :: rest) → Cnt prog w oc (cutAll l z) → (c == sysModules) = false → @LT.lt Nat _ x c → Q .none { s with heap := h', toks := tk }) :
  codeC (model prog w) (ktrTop 600 2000 gd cn cs L a ccd cl outer) (.call (.ref 44) ⟨args, []⟩) (vC Q) s := by
  k_dflt (refine' fn_c ?zk1 ?zk2 ?zk3 ?zk4 ?zk5 ?zkA ?zkF ?zkK ?zk6 ?zk7 ?zk8 ?zk9 ?zkB ?_ ?zc2 ?zc3 ?zc4 ?zc5; (case zkA => exact rfl); (case zkF => exact rfl); (case zkK => first | assumption | exact rfl); (case zk1 => k_asm); (case zk2 => k_asm); (case zk3 => k_asm); (case zk4 => k_asm); (case zk5 => k_asm); (case zk6 => k_is); (case zk7 => k_is); (case zk8 => ktr_room); (case zk9 => exact hBinds _ _ _ _ (by k_is)); (case zc5 => decide); (case zkB => exact locs rfl); (case zc2 => exact rfl); (case zc3 => exact rfl); (case zc4 => exact rfl); k_whole; intro _ _ _ _ _ _ _ _ _; (try dsimp only); (try k_fold))
  walk_at "mine leaf"
  walk_at "mine leaf"
  walk_at "mine leaf"
  refine wpC_execs_cons (wpC_Assign_Name (callName_c ?_))
  walk_at "mine steps"
  refine spliced_nil_c ⟨keep_type, ?_⟩
  refine bytearray_c (by k_asm) (by k_asm) ?_
  intro X1 h1' F1 N1 lX
  k_lt lX
  walk_at "mine steps"
  refine wpC_execs_cons (wpC_For ?_)
  walk_at "mine steps"
  rename_i g' L' h7 FG B1 X2 T1 h6 d' h5 o' lo hs fs hi fi l1 h4 h3 tk1 h2' hA hB tkB ta tb tc hR F2 N2 hk2
  refine wpAny_pyIter_range hR (by exact small_one (by omega) (by omega) (by omega) (by omega)) ?_
  have er : Builtin.Range.rangeSize 0 (l.length : Int) 1 = (l.length : Int) := by rw [rangeSize0]; simp
  rw [er]
  have eit : ({ cls := .type "range_iterator", data := .fields #[rawInt 0, rawInt (l.length : Int), rawInt 1] } : Obj) = ritObj 0 l.length := by simp [ritObj]
  rw [eit]
  refine for_c (s := s) (h₀ := g') (n := l.length)
    (fun i m' nx => ∃ X oc t1 t2 t3, nx = (X, FA.baObj (cutN l z i).1) :: (d', oc) :: (x, instObj 75 dx) :: (dx, dictOf [{ hash := PyData.keyHash w.params (Str.ofString "size"), key := .str (Str.ofString "size") t1, val := .int (total (cutN l z i).2) t2 }, { hash := PyData.keyHash w.params (Str.ofString "counts"), key := .str (Str.ofString "counts") t3, val := .ref d' }] 2) :: rest ∧ Cnt prog w oc (cutN l z i).2 ∧
      (@LT.lt Nat _ d' X ∧ @LT.lt Nat _ x X ∧ @LT.lt Nat _ dx X ∧ AllLt X rest) ∧
      ∀ p ∈ [(Str.ofString "self", Value.ref x), (Str.ofString "octets", Value.bytes l.toArray t), (Str.ofString "longest", Value.int z tz), (Str.ofString "is_text", Value.bool (!l.contains 0)), (Str.ofString "span", Value.ref X)], m' p.1 = some p.2)
    rfl rfl rfl rfl ?zturn ?zdone l.length 0 _ _ _ _ (Nat.add_zero _) ?zj0 ?zne (F2.push _) (N2.push F2 _)
  case zj0 =>
    refine ⟨X1, o', _, _, _, rfl, Cnt.nil (nil_kind _ hs), lX, ?_⟩
    simp only [List.forall_mem_cons, List.not_mem_nil, false_implies, implies_true, and_true]
    exact ⟨rfl, rfl, rfl, rfl, rfl⟩
  case zne => exact fun p hp => Nat.ne_of_lt (Heap.lt_size (N2 p hp).1)
  case zdone =>
    rintro m' nx hZ tkZ ⟨X, oc, t1, t2, t3, rfl, hc, lX', hv⟩ F3 N3
    have hle := cutN_le l z l.length
    replace F3 := kB_fr F3 hv
    clear F2 N2 hR hk2 N F
    try dsimp only
    walk_at "mine leaf"
    all_goals
      try dsimp only
      refine wpC_execs_nil ?_
      try dsimp only
      refine leaveK_ (by k_asm) (by k_asm) (fun F9 N9 => ?_)
    · refine' h _ _ _ _ _ _ _ F9 (kst_newsOf N9 ?zsub) ?zhc lo l1.1
      case zhc => rw [cutAll_more (by assumption)]; assumption
      case zsub =>
        rw [cutAll_more (by assumption), total_bump _ _ (cutN_nodup l z _)]
        walk_at "mine sub"
    · refine' h _ _ _ _ _ _ _ F9 (kst_newsOf N9 ?zsub) ?zhc lo l1.1
      case zhc => rw [cutAll_none (by assumption)]; assumption
      case zsub =>
        rw [cutAll_none (by assumption)]
        walk_at "mine sub"
  case zturn =>
    rintro i tI m' nx hZ tkZ Qt hQt hi' ⟨X, oc, t1, t2, t3, rfl, hc, lX', hv⟩ hne F3 N3
    have hle := cutN_le l z i
    replace F3 := kB_fr1 F3 hv
    have hne' := hne
    simp only [List.forall_mem_cons] at hne
    obtain ⟨n1, n2, n3, n4, n5⟩ := hne
    generalize hB.objs.size = it at *
    replace n1 : @Ne Nat X it := n1
    replace n2 : @Ne Nat d' it := n2
    replace n3 : @Ne Nat x it := n3
    replace n4 : @Ne Nat dx it := n4
    clear F2 N2 hR hk2 N F
    walk_at "mine leaf"
    rename_i h8 F4 N4
    try dsimp only
    refine leaf_mid (by k_asm) (by k_asm) (fun f => (f = .next ∧ skips l i = false) ∨ (f = .cont ∧ skips l i = true)) (fun Qm hQm => ?za) (fun h9 tk9 hp F5 N5 => ?zb) (fun f h9 tk9 hf hp F5 N5 => ?zc)
    case zc =>
      have hsk : skips l i = true := by
        rcases hp with ⟨e, _⟩ | ⟨_, e⟩
        · exact absurd e hf
        · exact e
      have hcont : f = .cont := by
        rcases hp with ⟨e, _⟩ | ⟨e, _⟩
        · exact absurd e hf
        · exact e
      refine hQt f h9 tk9 _ _ (.inr hcont) F5 N5 hne' ⟨X, oc, t1, t2, t3, ?_, ?_, lX', ?_⟩
      · rw [cutN_skip hsk]
      · rw [cutN_skip hsk]; exact hc
      · simp only [List.forall_mem_cons, List.not_mem_nil, false_implies, implies_true, and_true]
        exact ⟨rfl, rfl, rfl, rfl, rfl⟩
    case za =>
      walk_at "mine steps"
      all_goals (try dsimp only)
      all_goals first
        | exact hQm _ _ _ (.inl ⟨rfl, skips_a (by assumption)⟩) (by k_asm) (by k_asm)
        | exact hQm _ _ _ (.inl ⟨rfl, skips_c (by assumption)⟩) (by k_asm) (by k_asm)
        | exact hQm _ _ _ (.inr ⟨rfl, skips_b (by assumption) (by assumption) (by assumption)⟩) (by k_asm) (by k_asm)
        | exact hQm _ _ _ (.inl ⟨rfl, skips_d (by assumption)⟩) (by k_asm) (by k_asm)
    case zb =>
      have hsk : skips l i = false := by
        rcases hp with ⟨_, e⟩ | ⟨e, _⟩
        · exact e
        · cases e
      clear hp F4 N4 F3 N3
      refine wpC_execs_cons (wpC_Expr (callMeth_c (wpC_of_any ?_)))
      walk_at "mine steps"
      refine spl1_c (wpC_of_any ?_)
      walk_at "mine steps"
      any_goals exact keep_builtin
      refine' append_K ?zF ?zN ?zU ?zz0 ?zz1 ?zz2 ?_
      case zF => k_asm
      case zN => k_asm
      case zU => k_updF
      case zz0 => omega
      case zz1 =>
        have := (l.getD (i : Int).toNat 0).toNat_lt
        omega
      case zz2 => omega
      intro h10 F6 N6
      try dsimp only at N6
      refine ⟨rfl, ?_⟩
      try dsimp only
      rw [show ((((l.getD (i : Int).toNat 0).toNat : Nat) : Int).toNat.toUInt8) = l.getD i 0 by simp] at N6
      refine wpC_execs_cons (test_mid F6 N6 (decide (l.getD i 0 = 10 ∨ (((cutN l z i).1 ++ [l.getD i 0]).length : Int) = z)) (fun Qm hQm => ?zta) (fun h11 tk11 hb0 F7 N7 => ?zty) (fun h11 tk11 hb0 F7 N7 => ?ztn))
      case ztn =>
        have eN := cutN_on hsk (of_decide_eq_false hb0)
        refine wpC_execs_nil ?_
        try dsimp only
        refine wpC_execs_nil ?_
        refine hQt _ _ _ _ _ (.inl rfl) F7 N7 (by simp only [List.forall_mem_cons]; exact ⟨n1, n2, n3, n4, n5⟩) ⟨X, oc, t1, t2, t3, ?_, ?_, lX', ?_⟩
        · rw [eN]
        · rw [eN]; exact hc
        · simp only [List.forall_mem_cons, List.not_mem_nil, false_implies, implies_true, and_true]
          exact ⟨rfl, rfl, rfl, rfl, rfl⟩
      case zta =>
        walk_at "mine steps"
        all_goals first
          | (rw [ends_10 (by assumption)] at hQm; exact hQm _ _ F6 N6)
          | (rw [ends_z (by assumption)] at hQm; exact hQm _ _ F6 N6)
          | (rw [ends_no (by assumption) (by assumption)] at hQm; exact hQm _ _ F6 N6)
      case zty =>
        have eN := cutN_end hsk (of_decide_eq_true hb0)
        have e2 : total (cutN l z (i + 1)).2 = total (cutN l z i).2 + ((cutN l z i).1 ++ [l.getD i 0]).length := by
          rw [eN]; exact total_bump _ _ (cutN_nodup l z i)
        have hle2 : ((cutN l z i).1 ++ [l.getD i 0]).length ≤ 850 := by
          rw [List.length_append]; simp only [List.length_cons, List.length_nil]; omega
        clear F6 N6 F5 N5
        walk_at "mine leaf"
        try dsimp only
        rename_i hcb
        refine wpC_execs_cons (wpC_Assign_Name (callName_c ?_))
        walk_at "mine steps"
        refine spl0_c ⟨keep_type, ?_⟩
        refine bytearray_c (by k_asm) (by k_asm) ?_
        intro X3 h13 F8 N8 lX3
        k_lt lX3
        walk_at "mine steps"
        rename_i F9 N9
        try dsimp only
        refine wpC_execs_nil ?_
        try dsimp only
        refine wpC_execs_nil ?_
        refine' hQt _ _ _ _ ((X3, FA.baObj (cutN l z (i + 1)).1) :: (d', _) :: (x, instObj 75 dx) :: (dx, _) :: rest) (.inl rfl) ?zhF (kst_newsOf ?zhN ?zhsub) ?zhne ⟨X3, _, _, _, _, rfl, ?zhc, ?zlt, ?zfr⟩
        case zhF => k_asm
        case zhN => k_asm
        case zhc => rw [eN]; assumption
        case zhsub =>
          rw [e2, show (cutN l z (i + 1)).1 = [] by rw [eN]]
          walk_at "mine sub"
        case zlt => exact ⟨by omega, by omega, by omega, by walk_at "mine alt"⟩
        case zhne =>
          simp only [List.forall_mem_cons]
          exact ⟨by k_ne, n2, n3, n4, n5⟩
        case zfr =>
          simp only [List.forall_mem_cons, List.not_mem_nil, false_implies, implies_true, and_true]
          exact ⟨rfl, rfl, rfl, rfl, rfl⟩

set_option maxRecDepth 100000 in
set_option maxHeartbeats 8000000 in
theorem spans_c {prog : Program} {w : World} {dp un : Nat} {gd : Option (List Code)} {cn : Str} {cs : Scope} {L a : Addr} {ccd : Value} {cl : List (Str × Addr)} {outer : List Env} {A₀ : Around} {base h₀ : Heap} {m mg mb : Str → Option Value} {mean : ExcName → Option Value} {loose : List Str} {p : Program} {s : Shared} {Q : Value → Shared → Prop}
  {l : List UInt8} {t tz : Tok} {z : Int} {args : List Value} {news : List (Addr × Obj)}
  (B : Below A₀ base outer h₀) (F : Fr h₀ L s.heap m) (X : (hd.heap_1 w.params).In h₀) (T : Top p loose mean mg mb h₀) (hk : cs.kind = .function) (hdp : dp ≤ 550) (hun : un ≤ 1900)
  (N : News h₀ L s.heap news) (hb : l.length ≤ 800) (hargs : args = [.bytes l.toArray t, .int z tz] ∨ (args = [.bytes l.toArray t] ∧ z = 64))
  (h : ∀ x dx c t1 t2 t3 oc h' tk, Fr h₀ L h' m → News h₀ L h' ((dx, dictOf [{ hash := PyData.keyHash w.params (Str.ofString "size"), key := .str (Str.ofString "size") t1, val := .int (total (cutAll l z)) t2 }, { hash := PyData.keyHash w.params (Str.ofString "counts"), key := .str (Str.ofString "counts") t3, val := .ref c }] 2) :: (c, oc) :: (x, instObj 75 dx) :: news) → Cnt prog w oc (cutAll l z) → (c == sysModules) = false → @LT.lt Nat _ dx x → @LT.lt Nat _ x c → AllLt dx news → Q (.ref x) { s with heap := h', toks := tk }) :
  wpC (model prog w) (ktrTop dp un gd cn cs L a ccd cl outer) (call (.ref 75) args) Q s := by
  refine wpC_room hdp hun (wpC_call (make_c (K := hd.heap_1 w.params) (fI := 44) F N X (by k_is) (by k_is) (by k_is) fun x dx h1 F1 N1 l1 l2 => ?_))
  refine codeC_room (dp := 600) (un := 2000) rfl rfl (Nat.le_of_ble_eq_true rfl) (Nat.le_of_ble_eq_true rfl) ?_
  rcases hargs with rfl | ⟨rfl, rfl⟩
  · refine init_c (dp := 0) (un := 0) (t := t) (tz := tz) B F1 X T hk N1 (fun fd oc od osl e => ?_) hb l2 (allLt_of l1) fun c t1 t2 t3 oc h' tk F2 N2 hc lo l3 => ⟨rfl, h x dx c t1 t2 t3 oc h' tk F2 N2 hc lo l2 l3 (allLt_of l1)⟩
    have e' : (hd.heap_1 w.params).lookup 44 = some _ := (by k_is)
    rw [e'] at e
    cases e
    exact binds_K (X.keeps F1.keep) rfl (by k_is) rfl rfl (by kernel_rfl)
  · refine' init_c (dp := 0) (un := 0) (t := t) (tz := 217) B F1 X T hk N1 (fun fd oc od osl e => ?zb) hb l2 (allLt_of l1) fun c t1 t2 t3 oc h' tk F2 N2 hc lo l3 => ⟨rfl, h x dx c t1 t2 t3 oc h' tk F2 N2 hc lo l2 l3 (allLt_of l1)⟩
    case zb =>
     have e' : (hd.heap_1 w.params).lookup 44 = some _ := (by k_is)
     rw [e'] at e
     cases e
     exact binds_K (X.keeps F1.keep) rfl (by k_is) rfl rfl (by kernel_rfl)

set_option maxRecDepth 100000 in
set_option maxHeartbeats 8000000 in
theorem cut_c {prog : Program} {w : World} {dp un : Nat} {gd : Option (List Code)} {cn : Str} {cs : Scope} {L a : Addr} {ccd : Value} {cl : List (Str × Addr)} {outer : List Env} {A₀ : Around} {base h₀ : Heap} {m mg mb : Str → Option Value} {mean : ExcName → Option Value} {loose : List Str} {p : Program} {s : Shared} {Q E : Value → Shared → Prop}
  {l : List UInt8} {t tz : Tok} {z : Int} {news : List (Addr × Obj)}
  (B : Below A₀ base outer h₀) (F : Fr h₀ L s.heap m) (X : (hd.heap_1 w.params).In h₀) (T : Top p loose mean mg mb h₀) (hk : cs.kind = .function) (hdp : dp ≤ 650) (hun : un ≤ 2500)
  (N : News h₀ L s.heap news) (hb : l.length ≤ 800)
  (h : ∀ d oc h' tk, Fr h₀ L h' m → News h₀ L h' ((d, oc) :: news) → Cnt prog w oc (cutAll l z) → (d == sysModules) = false → AllLt d news → Q (.ref d) { s with heap := h', toks := tk }) :
  wpAny (model prog w) (ktrTop dp un gd cn cs L a ccd cl outer) (call (.ref 398) [.bytes l.toArray t, .int z tz]) Q E s := by
  refine wp_room hdp hun ?_
  refine wpAny_call ?_
  walk_at "mine enter"
  refine seqA (fun Qm hQm => ?_)
  walk_at "mine steps"
  refine hQm _ ?_
  clear hQm Qm
  refine wpAny_execs_cons (wpAny_For ?_)
  walk_at "mine steps"
  rename_i d0 h5 o0 lD lo0 hs0 fs0 hi0 fi0 D0 h4 l1 h3 h2 h1 h0 tk0 t1 u1 v1 hR F1 N1 hk1
  refine' range_a (n := l.length) (fun i m' nx => ∃ oc, nx = (d0, oc) :: news ∧ Cnt prog w oc (cutN l z i).2 ∧
      ∃ th, Has m' [(Str.ofString "octets", Value.bytes l.toArray t), (Str.ofString "longest", Value.int z tz), (Str.ofString "found", Value.ref d0), (Str.ofString "here", Value.bytes (cutN l z i).1.toArray th)])
    hR rfl (by omega) F1 (kst_newsOf N1 ?zsub) ⟨_, rfl, Cnt.nil (nil_kind _ hs0), ?zhk0⟩ rfl rfl rfl rfl ?zturn ?zdone
  case zsub => (walk_at "mine sub")
  case zhk0 => exact ⟨_, has4 rfl rfl rfl rfl⟩
  case zturn =>
    clear N1 F1 hR
    rintro i tI m' nx h2 tk2 it s0 Qt E' hQt hi' ⟨oc, rfl, hc, th, hv⟩ hne F2 N2
    have hle := cutN_le l z i
    replace F2 := kB_fr1 F2 hv
    have hne' := hne
    simp only [List.forall_mem_cons] at hne
    obtain ⟨n1, n2⟩ := hne
    replace n1 : @Ne Nat _ it := n1
    have hrD := tbn_neAll (allLt_of lD)
    clear N F
    refine seqA (fun Qm hQm => ?_)
    walk_at "mine steps"
    refine hQm _ ?_
    clear hQm Qm
    rename_i h3 F3 N3
    refine leaf_midA F3 N3 (fun f => (f = .next ∧ skips l i = false) ∨ (f = .cont ∧ skips l i = true)) (fun Qm hQm => ?za2) (fun h4 tk4 hp F4 N4 => ?zb2) (fun f h4 tk4 hf hp F4 N4 => ?zc2)
    case za2 =>
      clear hQt
      walk_at "mine steps"
      all_goals (try dsimp only)
      all_goals first
        | exact hQm _ _ _ (.inl ⟨rfl, skips_a (by assumption)⟩) (by k_asm) (by k_asm)
        | exact hQm _ _ _ (.inr ⟨rfl, law_c rfl (by assumption) (by assumption) (by assumption)⟩) (by k_asm) (by k_asm)
        | exact hQm _ _ _ (.inl ⟨rfl, law_a rfl (by assumption)⟩) (by k_asm) (by k_asm)
        | exact hQm _ _ _ (.inl ⟨rfl, law_b rfl (by assumption)⟩) (by k_asm) (by k_asm)
    case zc2 =>
      have hsk : skips l i = true := by
        rcases hp with ⟨e, _⟩ | ⟨_, e⟩
        · exact absurd e hf
        · exact e
      have hcont : f = .cont := by
        rcases hp with ⟨e, _⟩ | ⟨e, _⟩
        · exact absurd e hf
        · exact e
      refine hQt f h4 tk4 _ _ (.inr hcont) F4 N4 hne' ⟨oc, rfl, ?_, ?_⟩
      · rw [cutN_skip hsk]; exact hc
      · rw [cutN_skip hsk]; exact ⟨_, has4 rfl rfl rfl rfl⟩
    case zb2 =>
      have hsk : skips l i = false := by
        rcases hp with ⟨_, e⟩ | ⟨e, _⟩
        · exact e
        · cases e
      clear hp F3 N3
      rw [take1_eq rfl hi'] at F4
      try dsimp only
      refine seqA (fun Qm hQm => ?_)
      walk_at "mine steps"
      refine hQm _ ?_
      clear hQm Qm
      refine wpAny_execs_cons (test_midA (by k_asm) (by k_asm) (decide (l.getD i 0 = 10 ∨ (((cutN l z i).1 ++ [l.getD i 0]).length : Int) = z)) (fun Qm hQm => ?zta) (fun h11 tk11 hb0 F7 N7 => ?zty) (fun h11 tk11 hb0 F7 N7 => ?ztn))
      case zta =>
        clear hQt
        walk_at "mine steps"
        all_goals first
          | (rw [decide_eq_true (.inl (one_yes (by assumption)))] at hQm; exact hQm _ _ (by k_asm) (by k_asm))
          | (rw [decide_eq_true (.inr (by assumption))] at hQm; exact hQm _ _ (by k_asm) (by k_asm))
          | (rw [decide_eq_false (not_or.mpr ⟨one_no (by assumption), by assumption⟩)] at hQm; exact hQm _ _ (by k_asm) (by k_asm))
      case ztn =>
        have eN := cutN_on hsk (of_decide_eq_false hb0)
        refine wpAny_execs_nil ?_
        dsimp only
        refine wpAny_execs_nil ?_
        refine hQt _ _ _ _ _ (.inl rfl) F7 N7 hne' ⟨oc, rfl, ?_, ?_⟩
        · rw [eN]; exact hc
        · rw [eN]; exact ⟨_, has4 rfl rfl rfl rfl⟩
      case zty =>
        have eN := cutN_end hsk (of_decide_eq_true hb0)
        have hle2 : ((cutN l z i).1 ++ [l.getD i 0]).length ≤ 850 := by
          rw [List.length_append]; simp only [List.length_cons, List.length_nil]; omega
        try dsimp only
        walk_at "mine steps"
        refine hQt _ _ _ _ _ (.inl rfl) (by k_asm) (by k_asm) (by simp only [List.forall_mem_cons]; exact ⟨n1, n2⟩) ⟨_, rfl, ?_, ?_⟩
        · rw [eN]; assumption
        · rw [eN]; exact ⟨_, has4 rfl rfl rfl rfl⟩
  case zdone =>
    rintro m' nx h2 tk2 ⟨oc, rfl, hc, th, hv⟩ F2 N2
    have hle := cutN_le l z l.length
    replace F2 := kB_fr F2 hv
    clear F1 N1 hR N F
    dsimp only
    have hrD := tbn_neAll (allLt_of lD)
    walk_at "mine steps"
    all_goals
      refine h _ _ _ _ (by k_asm) (by k_asm) ?_ lo0 (allLt_of lD)
    · rw [cutAll_cons (nil_ne (by assumption))]; assumption
    · rw [cutAll_nil (nil_eq (by assumption))]; assumption

set_option hygiene false
local macro_rules | `(tactic| walk_at "call ref") => `(tactic| (k_here; (with_reducible show wpAny _ _ (call (Value.ref 398) [Value.bytes (List.toArray _) _, Value.int _ _]) _ _ _); k_dflt (apply cut_c; walk_at "m0"; (case N => k_asm); (case hb => omega); walk_at "m1"); intro _ _ _ _ _; walk_at "t7"))
set_option hygiene true

set_option maxRecDepth 100000 in
set_option maxHeartbeats 8000000 in
theorem size_c {prog : Program} {w : World} {dp un : Nat} {gd : Option (List Code)} {cn : Str} {cs : Scope} {L a : Addr} {ccd : Value} {cl : List (Str × Addr)} {outer : List Env} {A₀ : Around} {base h₀ : Heap} {m mg mb : Str → Option Value} {mean : ExcName → Option Value} {loose : List Str} {p : Program} {s : Shared} {Q E : Value → Shared → Prop}
  {d : Addr} {od : Obj} {ps : Ps} {news : List (Addr × Obj)}
  (B : Below A₀ base outer h₀) (F : Fr h₀ L s.heap m) (X : (hd.heap_1 w.params).In h₀) (T : Top p loose mean mg mb h₀) (hk : cs.kind = .function) (hdp : dp ≤ 700) (hun : un ≤ 3000)
  (N : News h₀ L s.heap news) (hm : (d, od) ∈ news) (hc : Cnt prog w od ps) (lo : (d == sysModules) = false) (hz : ps.length ≤ 900)
  (h : ∀ t h' tk, Fr h₀ L h' m → News h₀ L h' news → Q (.int (tot ps) t) { s with heap := h', toks := tk }) :
  wpAny (model prog w) (ktrTop dp un gd cn cs L a ccd cl outer) (call (.ref 403) [.ref d]) Q E s := by
  refine wp_room hdp hun ?_
  replace N := news_up1 N hm
  refine wpAny_call ?_
  walk_at "mine cells"
  walk_at "mine upto"
  refine' comp_d (cget ps) (fun Qv hQv => ?zhi) ?zhh ?zF ?zN ?zhm hc lo (by omega) ?zhclos ?zhcell ?zhkind ?zhnames ?zhx ?zhe ?_
  case zhh => rfl
  case zF => k_asm
  case zN => k_asm
  case zhm => k_mem
  case zhclos => rfl
  case zhcell => decide
  case zhkind => rfl
  case zhnames => decide
  case zhx => rfl
  case zhi =>
    walk_at "mine steps"
    exact hQv
  case zhe =>
    intro k t I oI C oC D ys m₂ h9 tk s0 Qe E' hkm hC hx F9 N9 hQ
    clear F N
    walk_at "mine steps"
    exact hQ _ _ _ (by k_asm) (by k_asm)
  intro D ys n h9 tk hy F9 N9 o1
  dsimp only
  clear F N
  walk_at "mine steps"
  exact h _ _ _ (by k_asm) (kst_newsOf (by k_asm) (by walk_at "mine sub"))

set_option hygiene false
local macro_rules | `(tactic| walk_at "call ref") => `(tactic| (k_here; (with_reducible show wpAny _ _ (call (Value.ref 403) [Value.ref _]) _ _ _); k_dflt (apply size_c; walk_at "m0"; (case N => k_asm); (case hm => k_mem); (case hc | lo => with_reducible assumption); (case hz => omega); walk_at "m1"); intro _ _ _ _; walk_at "t0"))
set_option hygiene true

set_option maxRecDepth 100000 in
set_option maxHeartbeats 8000000 in
theorem lshared_c {prog : Program} {w : World} {dp un : Nat} {gd : Option (List Code)} {cn : Str} {cs : Scope} {L a : Addr} {ccd : Value} {cl : List (Str × Addr)} {outer : List Env} {A₀ : Around} {base h₀ : Heap} {m mg mb : Str → Option Value} {mean : ExcName → Option Value} {loose : List Str} {p : Program} {s : Shared} {Q E : Value → Shared → Prop}
  {d d2 : Addr} {od od2 : Obj} {ps qs : Ps} {news : List (Addr × Obj)}
  (B : Below A₀ base outer h₀) (F : Fr h₀ L s.heap m) (X : (hd.heap_1 w.params).In h₀) (T : Top p loose mean mg mb h₀) (hk : cs.kind = .function) (hdp : dp ≤ 700) (hun : un ≤ 3000)
  (N : News h₀ L s.heap news) (hm : (d, od) ∈ news) (hc : Cnt prog w od ps) (lo : (d == sysModules) = false) (hm2 : (d2, od2) ∈ news) (hc2 : Cnt prog w od2 qs) (lo2 : (d2 == sysModules) = false) (hz : ps.length ≤ 900)
  (h : ∀ t h' tk, Fr h₀ L h' m → News h₀ L h' news → Q (.int (shr ps qs) t) { s with heap := h', toks := tk }) :
  wpAny (model prog w) (ktrTop dp un gd cn cs L a ccd cl outer) (call (.ref 408) [.ref d, .ref d2]) Q E s := by
  refine wp_room hdp hun ?_
  replace N := news_up1 (news_up1 N hm2) (.tail _ hm)
  refine wpAny_call ?_
  walk_at "mine cells"
  walk_at "mine upto"
  refine' comp_d (fun k => mn (cget ps k) (cget qs k)) (fun Qv hQv => ?zhi) ?zhh ?zF ?zN ?zhm hc lo (by omega) ?zhclos ?zhcell ?zhkind ?zhnames ?zhx ?zhe ?_
  case zhh => rfl
  case zF => k_asm
  case zN => k_asm
  case zhm => k_mem
  case zhclos => rfl
  case zhcell => decide
  case zhkind => rfl
  case zhnames => decide
  case zhx => rfl
  case zhi =>
    walk_at "mine steps"
    exact hQv
  case zhe =>
    intro k t I oI C oC D ys m₂ h9 tk s0 Qe E' hkm hC hx F9 N9 hQ
    clear F N
    walk_at "mine steps"
    exact hQ _ _ _ (by k_asm) (by k_asm)
  intro D ys n h9 tk hy F9 N9 o1
  dsimp only
  clear F N
  walk_at "mine steps"
  exact h _ _ _ (by k_asm) (kst_newsOf (by k_asm) (by walk_at "mine sub"))

set_option hygiene false
local macro_rules | `(tactic| walk_at "call ref") => `(tactic| (k_here; (with_reducible show wpAny _ _ (call (Value.ref 408) [Value.ref _, Value.ref _]) _ _ _); k_dflt (apply lshared_c; walk_at "m0"; (case N => k_asm); (case hm => k_mem); (case hc | lo => with_reducible assumption); (case hm2 => k_mem); (case hc2 | lo2 => with_reducible assumption); (case hz => omega); walk_at "m1"); intro _ _ _ _; walk_at "t0"))
set_option hygiene true

set_option maxRecDepth 100000 in
set_option maxHeartbeats 8000000 in
theorem lpercent_c {prog : Program} {w : World} {dp un : Nat} {gd : Option (List Code)} {cn : Str} {cs : Scope} {L a : Addr} {ccd : Value} {cl : List (Str × Addr)} {outer : List Env} {A₀ : Around} {base h₀ : Heap} {m mg mb : Str → Option Value} {mean : ExcName → Option Value} {loose : List Str} {p : Program} {s : Shared} {Q E : Value → Shared → Prop}
  {d d2 : Addr} {od od2 : Obj} {ps qs : Ps} {news : List (Addr × Obj)}
  (B : Below A₀ base outer h₀) (F : Fr h₀ L s.heap m) (X : (hd.heap_1 w.params).In h₀) (T : Top p loose mean mg mb h₀) (hk : cs.kind = .function) (hdp : dp ≤ 650) (hun : un ≤ 2500)
  (N : News h₀ L s.heap news) (hm : (d, od) ∈ news) (hc : Cnt prog w od ps) (lo : (d == sysModules) = false) (hm2 : (d2, od2) ∈ news) (hc2 : Cnt prog w od2 qs) (lo2 : (d2 == sysModules) = false) (hz : ps.length ≤ 900) (hz2 : qs.length ≤ 900) (hp0 : 0 ≤ tot ps) (hp9 : tot ps ≤ 900) (hq0 : 0 ≤ tot qs) (hq9 : tot qs ≤ 900)
  (h : ∀ t h' tk, Fr h₀ L h' m → News h₀ L h' news → Q (.int (pct ps qs) t) { s with heap := h', toks := tk }) :
  wpAny (model prog w) (ktrTop dp un gd cn cs L a ccd cl outer) (call (.ref 415) [.ref d, .ref d2]) Q E s := by
  refine wp_room hdp hun ?_
  replace N := news_up1 (news_up1 N hm2) (.tail _ hm)
  refine wpAny_call ?_
  walk_at "mine enter"
  walk_at "mine steps"
  all_goals first
    | (rw [show pct ps qs = 100 from if_pos (by assumption)] at h; exact h _ _ _ (by k_asm) (kst_newsOf (by k_asm) (by walk_at "mine sub")))
    | (rw [show pct ps qs = _ from if_neg (by assumption)] at h; exact h _ _ _ (by k_asm) (kst_newsOf (by k_asm) (by walk_at "mine sub")))

set_option hygiene false
local macro_rules | `(tactic| walk_at "call ref") => `(tactic| (k_here; (with_reducible show wpAny _ _ (call (Value.ref 415) [Value.ref _, Value.ref _]) _ _ _); k_dflt (apply lpercent_c; walk_at "m0"; (case N => k_asm); (case hm => k_mem); (case hc | lo => with_reducible assumption); (case hm2 => k_mem); (case hc2 | lo2 => with_reducible assumption); (case hz | hz2 => omega); (case hp0 | hp9 | hq0 | hq9 => with_reducible assumption); walk_at "m1"); intro _ _ _ _; walk_at "t0"))
set_option hygiene true

set_option maxRecDepth 100000 in
set_option maxHeartbeats 8000000 in
theorem shared_c {prog : Program} {w : World} {dp un : Nat} {gd : Option (List Code)} {cn : Str} {cs : Scope} {L a : Addr} {ccd : Value} {cl : List (Str × Addr)} {outer : List Env} {A₀ : Around} {base h₀ : Heap} {m mg mb : Str → Option Value} {mean : ExcName → Option Value} {loose : List Str} {p : Program} {s : Shared} {Q E : Value → Shared → Prop}
  {x y : Addr} {ps qs : Ps} {news : List (Addr × Obj)}
  (B : Below A₀ base outer h₀) (F : Fr h₀ L s.heap m) (X : (hd.heap_1 w.params).In h₀) (T : Top p loose mean mg mb h₀) (hk : cs.kind = .function) (hdp : dp ≤ 700) (hun : un ≤ 3000)
  (N : News h₀ L s.heap news) (S1 : SpAt prog w news x ps) (S2 : SpAt prog w news y qs)
  (h : ∀ t h' tk, Fr h₀ L h' m → News h₀ L h' news → Q (.int (shr ps qs) t) { s with heap := h', toks := tk }) :
  wpAny (model prog w) (ktrTop dp un gd cn cs L a ccd cl outer) (call (.ref 58) [.ref x, .ref y]) Q E s := by
  refine wp_room hdp hun ?_
  obtain ⟨dx, c, oc, t1, t2, t3, hx, hdx, hco, hc, lo⟩ := S1
  obtain ⟨dy, c2, oc2, u1, u2, u3, hy, hdy, hco2, hc2, lo2⟩ := S2
  replace N := news_up1 (news_up1 (news_up1 (news_up1 (news_up1 (news_up1 N hco2) (.tail _ hdy)) (.tail _ (.tail _ hy))) (.tail _ (.tail _ (.tail _ hco)))) (.tail _ (.tail _ (.tail _ (.tail _ hdx))))) (.tail _ (.tail _ (.tail _ (.tail _ (.tail _ hx)))))
  refine wpAny_call ?_
  walk_at "mine enter"
  refine seqA (fun Qm hQm => ?_)
  walk_at "mine steps"
  refine hQm _ ?_
  clear hQm Qm
  refine wpAny_execs_cons (wpAny_For ?_)
  walk_at "mine upto"
  dsimp only
  rename Fr _ _ _ _ => F1
  rename News _ _ _ _ => N1
  refine' for_d (fun i m' => ∃ t, Has m' [(Str.ofString "self", Value.ref x), (Str.ofString "other", Value.ref y), (Str.ofString "found", Value.int (shrN ps qs i) t)])
    rfl rfl rfl rfl (by k_mem) hc lo F1 N1 ⟨_, has3 rfl rfl rfl⟩ ?zturn ?zdone
  case zturn =>
    clear N F F1 N1
    rintro i k v t m' h2 tk2 I oI s0 Qt E' hQt hi ⟨tf, hv⟩ hlt F2 N2
    have hkm := key_mem hi
    replace F2 := kB_fr1 F2 hv
    clear hlt
    walk_at "mine steps"
    refine hQt _ _ _ _ (.inl rfl) (by k_asm) (by k_asm) ?_
    rw [shrN_succ hi]
    exact ⟨_, has3 rfl rfl rfl⟩
  case zdone =>
    rintro m' h2 tk2 ⟨tf, hv⟩ F2 N2
    replace F2 := kB_fr F2 hv
    clear N F F1 N1
    dsimp only
    walk_at "mine steps"
    rw [shrN_all]
    exact h _ _ _ (by k_asm) (kst_newsOf (by k_asm) (fun _ h => .tail _ (.tail _ (.tail _ (.tail _ (.tail _ (.tail _ h)))))))

set_option hygiene false
local macro_rules | `(tactic| walk_at "call ref") => `(tactic| (k_here; (with_reducible show wpAny _ _ (call (Value.ref 58) [Value.ref _, Value.ref _]) _ _ _); k_dflt (apply shared_c; walk_at "m0"; (case N => k_asm); (case S1 | S2 => walk_at "mine sp"); walk_at "m1"); intro _ _ _ _; walk_at "t0"))
set_option hygiene true

set_option maxRecDepth 100000 in
set_option maxHeartbeats 8000000 in
theorem percent_c {prog : Program} {w : World} {dp un : Nat} {gd : Option (List Code)} {cn : Str} {cs : Scope} {L a : Addr} {ccd : Value} {cl : List (Str × Addr)} {outer : List Env} {A₀ : Around} {base h₀ : Heap} {m mg mb : Str → Option Value} {mean : ExcName → Option Value} {loose : List Str} {p : Program} {s : Shared} {Q E : Value → Shared → Prop}
  {x y : Addr} {ps qs : Ps} {news : List (Addr × Obj)}
  (B : Below A₀ base outer h₀) (F : Fr h₀ L s.heap m) (X : (hd.heap_1 w.params).In h₀) (T : Top p loose mean mg mb h₀) (hk : cs.kind = .function) (hdp : dp ≤ 650) (hun : un ≤ 2500)
  (N : News h₀ L s.heap news) (S1 : SpAt prog w news x ps) (S2 : SpAt prog w news y qs) (hp0 : 0 ≤ tot ps) (hp9 : tot ps ≤ 900) (hq0 : 0 ≤ tot qs) (hq9 : tot qs ≤ 900)
  (h : ∀ t h' tk, Fr h₀ L h' m → News h₀ L h' news → Q (.int (pct ps qs) t) { s with heap := h', toks := tk }) :
  wpAny (model prog w) (ktrTop dp un gd cn cs L a ccd cl outer) (call (.ref 65) [.ref x, .ref y]) Q E s := by
  refine wp_room hdp hun ?_
  have S1' := S1
  have S2' := S2
  obtain ⟨dx, c, oc, t1, t2, t3, hx, hdx, hco, hc, lo⟩ := S1
  obtain ⟨dy, c2, oc2, u1, u2, u3, hy, hdy, hco2, hc2, lo2⟩ := S2
  replace N := news_up1 (news_up1 (news_up1 (news_up1 (news_up1 (news_up1 N hco2) (.tail _ hdy)) (.tail _ (.tail _ hy))) (.tail _ (.tail _ (.tail _ hco)))) (.tail _ (.tail _ (.tail _ (.tail _ hdx))))) (.tail _ (.tail _ (.tail _ (.tail _ (.tail _ hx)))))
  refine wpAny_call ?_
  walk_at "mine enter"
  walk_at "mine steps"
  · rw [show pct ps qs = 100 from if_pos (by assumption)] at h
    exact h _ _ _ (by k_asm) (kst_newsOf (by k_asm) (by walk_at "mine sub"))
  · rw [show pct ps qs = _ from if_neg (by assumption), Int.mul_comm] at h
    exact h _ _ _ (by k_asm) (kst_newsOf (by k_asm) (by walk_at "mine sub"))

set_option hygiene false
local macro_rules | `(tactic| walk_at "call ref") => `(tactic| (k_here; (with_reducible show wpAny _ _ (call (Value.ref 65) [Value.ref _, Value.ref _]) _ _ _); k_dflt (apply percent_c; walk_at "m0"; (case N => k_asm); (case S1 | S2 => walk_at "mine sp"); (case hp0 | hp9 | hq0 | hq9 => with_reducible assumption); walk_at "m1"); intro _ _ _ _; walk_at "t0"))
set_option hygiene true

set_option maxRecDepth 100000 in
set_option maxHeartbeats 8000000 in
theorem gone_c {prog : Program} {w : World} {dp un : Nat} {gd : Option (List Code)} {cn : Str} {cs : Scope} {L a : Addr} {ccd : Value} {cl : List (Str × Addr)} {outer : List Env} {A₀ : Around} {base h₀ : Heap} {m mg mb : Str → Option Value} {mean : ExcName → Option Value} {loose : List Str} {p : Program} {s : Shared} {Q E : Value → Shared → Prop}
  {x y : Addr} {ps qs : Ps} {news : List (Addr × Obj)}
  (B : Below A₀ base outer h₀) (F : Fr h₀ L s.heap m) (X : (hd.heap_1 w.params).In h₀) (T : Top p loose mean mg mb h₀) (hk : cs.kind = .function) (hdp : dp ≤ 650) (hun : un ≤ 2500)
  (N : News h₀ L s.heap news) (S1 : SpAt prog w news x ps) (S2 : SpAt prog w news y qs) (hp0 : 0 ≤ tot ps) (hp9 : tot ps ≤ 900)
  (h : ∀ t h' tk, Fr h₀ L h' m → News h₀ L h' news → Q (.int (gone ps qs) t) { s with heap := h', toks := tk }) :
  wpAny (model prog w) (ktrTop dp un gd cn cs L a ccd cl outer) (call (.ref 72) [.ref x, .ref y]) Q E s := by
  refine wp_room hdp hun ?_
  have S1' := S1
  have S2' := S2
  obtain ⟨dx, c, oc, t1, t2, t3, hx, hdx, hco, hc, lo⟩ := S1
  obtain ⟨dy, c2, oc2, u1, u2, u3, hy, hdy, hco2, hc2, lo2⟩ := S2
  replace N := news_up1 (news_up1 (news_up1 (news_up1 (news_up1 (news_up1 N hco2) (.tail _ hdy)) (.tail _ (.tail _ hy))) (.tail _ (.tail _ (.tail _ hco)))) (.tail _ (.tail _ (.tail _ (.tail _ hdx))))) (.tail _ (.tail _ (.tail _ (.tail _ (.tail _ hx)))))
  refine wpAny_call ?_
  walk_at "mine enter"
  walk_at "mine steps"
  · rw [show gone ps qs = 0 from if_pos (by assumption)] at h
    exact h _ _ _ (by k_asm) (kst_newsOf (by k_asm) (by walk_at "mine sub"))
  · rw [show gone ps qs = _ from if_neg (by assumption)] at h
    exact h _ _ _ (by k_asm) (kst_newsOf (by k_asm) (by walk_at "mine sub"))

set_option hygiene false
local macro_rules | `(tactic| walk_at "call ref") => `(tactic| (k_here; (with_reducible show wpAny _ _ (call (Value.ref 72) [Value.ref _, Value.ref _]) _ _ _); k_dflt (apply gone_c; walk_at "m0"; (case N => k_asm); (case S1 | S2 => walk_at "mine sp"); (case hp0 | hp9 => with_reducible assumption); walk_at "m1"); intro _ _ _ _; walk_at "t0"))
set_option hygiene true

set_option maxRecDepth 100000 in
set_option maxHeartbeats 8000000 in
theorem right_c {prog : Program} {w : World} {dp un : Nat} {gd : Option (List Code)} {cn : Str} {cs : Scope} {L a : Addr} {ccd : Value} {cl : List (Str × Addr)} {outer : List Env} {A₀ : Around} {base h₀ : Heap} {m mg mb : Str → Option Value} {mean : ExcName → Option Value} {loose : List Str} {p : Program} {s : Shared} {Q E : Value → Shared → Prop}
  {x y d d2 : Addr} {od od2 : Obj} {ps qs : Ps} {news : List (Addr × Obj)}
  (B : Below A₀ base outer h₀) (F : Fr h₀ L s.heap m) (X : (hd.heap_1 w.params).In h₀) (T : Top p loose mean mg mb h₀) (hk : cs.kind = .function) (hdp : dp ≤ 600) (hun : un ≤ 2000)
  (N : News h₀ L s.heap news) (S1 : SpAt prog w news x ps) (S2 : SpAt prog w news y qs) (hm1 : (d, od) ∈ news) (hc1 : Cnt prog w od ps) (lo1 : (d == sysModules) = false) (hm2 : (d2, od2) ∈ news) (hc2' : Cnt prog w od2 qs) (lo2' : (d2 == sysModules) = false) (hp0 : 0 ≤ tot ps) (hp9 : tot ps ≤ 900) (hq0 : 0 ≤ tot qs) (hq9 : tot qs ≤ 900) (hpz : ps.length ≤ 60) (hqz : qs.length ≤ 60)
  (h : ∀ h' tk, Fr h₀ L h' m → News h₀ L h' news → Q (.bool true) { s with heap := h', toks := tk }) :
  wpAny (model prog w) (ktrTop dp un gd cn cs L a ccd cl outer) (call (.ref 420) [.ref x, .ref y, .ref d, .ref d2]) Q E s := by
  refine wp_room hdp hun ?_
  have S1' := S1
  have S2' := S2
  obtain ⟨dx, c, oc, t1, t2, t3, hx, hdx, hco, hc, lo⟩ := S1
  obtain ⟨dy, c2, oc2, u1, u2, u3, hy, hdy, hco2, hc2, lo2⟩ := S2
  replace N := news_up1 (news_up1 (news_up1 (news_up1 (news_up1 N hm2) (.tail _ hm1)) (.tail _ (.tail _ hco))) (.tail _ (.tail _ (.tail _ hdx)))) (.tail _ (.tail _ (.tail _ (.tail _ hx))))
  clear hm1 hm2 hco hdx hx hco2 hdy hy
  refine wpAny_call ?_
  walk_at "mine cells"
  walk_at "mine upto"
  all_goals try exact absurd rfl (by assumption : tot ps ≠ tot ps)
  refine' comp_d (cget ps) (fun Qv hQv => ?zhi) ?zhh ?zF ?zN ?zhm hc1 lo1 (by omega) ?zhclos ?zhcell ?zhkind ?zhnames ?zhx ?zhe ?_
  case zhh => rfl
  case zF => k_asm
  case zN => k_asm
  case zhm => k_mem
  case zhclos => rfl
  case zhcell => decide
  case zhkind => rfl
  case zhnames => decide
  case zhx => rfl
  case zhi =>
    walk_at "mine steps"
    exact hQv
  case zhe =>
    intro k t I oI C oC D ys m₂ h9 tk s0 Qe E' hkm hC hx F9 N9 hQ
    clear F N
    walk_at "mine steps"
    exact hQ _ _ _ (by k_asm) (by k_asm)
  intro D ys n h9 tk hy F9 N9 o1
  dsimp only
  clear F N
  k_sweep
  walk_at "mine steps"
  · rw [show (gone ps qs == 0) = true from by rw [gone_nil ps qs (by assumption)]; rfl]
    exact h _ _ (by k_asm) (kst_newsOf (by k_asm) (by walk_at "mine sub"))
  · rw [show (gone ps qs == (100 * (tot ps - shr ps qs)).fdiv (tot ps)) = true from by rw [gone_eq ps qs (by assumption)]; exact beq_self_eq_true _]
    exact h _ _ (by k_asm) (kst_newsOf (by k_asm) (by walk_at "mine sub"))

set_option hygiene false
local macro_rules | `(tactic| walk_at "call ref") => `(tactic| (k_here; (with_reducible show wpAny _ _ (call (Value.ref 420) [Value.ref _, Value.ref _, Value.ref _, Value.ref _]) _ _ _); k_dflt (apply right_c; walk_at "m0"; (case N => k_asm); (case S1 | S2 => walk_at "mine sp"); (case hm1 => k_mem); (case hc1 | lo1 => with_reducible assumption); (case hm2 => k_mem); (case hc2' | lo2' | hp0 | hp9 | hq0 | hq9 | hpz | hqz => with_reducible assumption); walk_at "m1"); intro _ _ _; walk_at "t0"))
set_option hygiene true

set_option maxRecDepth 100000 in
set_option maxHeartbeats 8000000 in
theorem octets_c {prog : Program} {w : World} {dp un : Nat} {gd : Option (List Code)} {cn : Str} {cs : Scope} {L a : Addr} {ccd : Value} {cl : List (Str × Addr)} {outer : List Env} {A₀ : Around} {base h₀ : Heap} {m mg mb : Str → Option Value} {mean : ExcName → Option Value} {loose : List Str} {p : Program} {s : Shared} {Q E : Value → Shared → Prop}
  {tx : Str} {t1 : Tok} {news : List (Addr × Obj)}
  (B : Below A₀ base outer h₀) (F : Fr h₀ L s.heap m) (X : (hd.heap_1 w.params).In h₀) (T : Top p loose mean mg mb h₀) (hk : cs.kind = .function) (hdp : dp ≤ 700) (hun : un ≤ 3000)
  (N : News h₀ L s.heap news) (hb : tx.cps.size ≤ 90) (ha : tx.cps.all (· < 128) = true)
  (h : ∀ t h' tk, Fr h₀ L h' m → News h₀ L h' news → Q (.bytes (digs tx).toArray t) { s with heap := h', toks := tk }) :
  wpAny (model prog w) (ktrTop dp un gd cn cs L a ccd cl outer) (call (.ref 171) [.str tx t1]) Q E s := by
  refine wp_room hdp hun ?_
  refine wpAny_call ?_
  walk_at "mine enter"
  refine wpAny_execs_cons ?_
  refine' comp_A (fun i => (tx.cps.getD i 0 : Int)) ?zF ?zN ?zhLe (xv := .str tx t1) (fun Qv hQv => ?zhi) (fun Qv hQv => wpAny_pyIter_ascii ha hQv) (Walks.strAscii ?zhh _ tx t1) (by omega) ?zhIo ?zst0 ?zhsw ?zhclos ?zhcell ?zhkind ?zhnames ?zhx ?zhy ?zhp ?zhe ?_
  case zF => k_asm
  case zN => k_asm
  case zhLe => rfl
  case zhh => rfl
  case zhIo => exact fun i h st => let ⟨o, e, _⟩ := st; ⟨o, e⟩
  case zst0 => exact ⟨_, Heap.get?_push_size _ rfl, rfl, rfl⟩
  case zhsw => with_unfolding_all rfl
  case zhclos => with_unfolding_all rfl
  case zhcell => decide
  case zhkind => rfl
  case zhnames => decide
  case zhx => rfl
  case zhy => rfl
  case zhp => rfl
  case zhi =>
    walk_at "mine steps"
    exact hQv
  case zhe =>
    intro i v I oI C oC D ys m₂ h9 tk s0 Qe E' hi hP hC hx F9 N9 hQ
    obtain ⟨c, u, hc, rfl⟩ := hP
    clear F N
    walk_at "mine steps"
    dsimp only at hQ
    rw [show tx.cps.getD i 0 = c from by rw [Array.getD_eq_getD_getElem?, hc]; rfl] at hQ
    exact hQ _ _ _ F9 N9
  intro D ys n h9 tk hy F9 N9 o1
  dsimp only
  clear F N
  refine wpAny_execs_cons (wpAny_For ?_)
  walk_at "mine upto"
  have hr := digs_lt ha
  have hyl : ys.length = tx.cps.size := by have := IntsAre.length hy; simpa using this
  refine' for_l (fun _ m' => Has m' [(Str.ofString "numbers", Value.ref D)]) rfl rfl rfl rfl (vs := ys) (n0 := n) (by k_mem) F9 N9 (has1 rfl) ?zturn ?zdone
  case zturn =>
    rintro i v m' h2 tk2 I oI s0 Qt E' hQt hi hv hlt F2 N2
    obtain ⟨k, t, rfl, hkm⟩ := ints_get hy hi
    have hk1 := hr k (List.mem_of_getElem? hkm)
    obtain ⟨hk1, hk2⟩ := hk1
    replace F2 := kB_fr1 F2 hv
    clear F9 N9 hlt
    walk_at "mine steps"
    exact hQt _ _ _ _ (.inl rfl) F2 N2 (has1 rfl)
  case zdone =>
    rintro m' h2 tk2 hv F2 N2
    replace F2 := kB_fr F2 hv
    clear F9 N9
    dsimp only
    walk_at "mine steps"
    exact h _ _ _ (by k_asm) (kst_newsOf (by k_asm) (by walk_at "mine sub"))

set_option hygiene false
local macro_rules | `(tactic| walk_at "call ref") => `(tactic| (k_here; (with_reducible show wpAny _ _ (call (Value.ref 171) [Value.str _ _]) _ _ _); k_dflt (apply octets_c; walk_at "m0"; (case N => k_asm); (case hb | ha => assumption); walk_at "m1"); intro _ _ _ _; walk_at "t0"))
set_option hygiene true

set_option maxRecDepth 100000 in
set_option maxHeartbeats 8000000 in
theorem octobj_c {prog : Program} {w : World} {dp un : Nat} {gd : Option (List Code)} {cn : Str} {cs : Scope} {L a : Addr} {ccd : Value} {cl : List (Str × Addr)} {outer : List Env} {A₀ : Around} {base h₀ : Heap} {m mg mb : Str → Option Value} {mean : ExcName → Option Value} {loose : List Str} {p : Program} {s : Shared} {Q E : Value → Shared → Prop}
  {c : List UInt8} {t1 t2 : Tok} {news : List (Addr × Obj)}
  (B : Below A₀ base outer h₀) (F : Fr h₀ L s.heap m) (X : (hd.heap_1 w.params).In h₀) (T : Top p loose mean mg mb h₀) (hk : cs.kind = .function) (hdp : dp ≤ 650) (hun : un ≤ 2500)
  (N : News h₀ L s.heap news) (hb : c.length < 40)
  (h : ∀ t h' tk, Fr h₀ L h' m → News h₀ L h' news → Q (.bytes (blobOf c).toArray t) { s with heap := h', toks := tk }) :
  wpAny (model prog w) (ktrTop dp un gd cn cs L a ccd cl outer) (call (.ref 219) [.bytes #[98, 108, 111, 98] t1, .bytes c.toArray t2]) Q E s := by
  refine wp_room hdp hun ?_
  refine wpAny_call ?_
  walk_at "mine enter"
  have hb1 : (Str.ofString (toString (c.length : Int))).cps.size ≤ 90 := len_size hb
  have hb2 : (Str.ofString (toString (c.length : Int))).cps.all (· < 128) = true := len_ascii hb
  have hb4 : (digs (Str.ofString (toString (c.length : Int)))).length ≤ 2 := by
    have := len_digs hb
    unfold lenTx at this
    rw [this]; split <;> omega
  walk_at "mine steps"
  exact h _ _ _ (by k_asm) (kst_newsOf (by k_asm) (by walk_at "mine sub"))

set_option hygiene false
local macro_rules | `(tactic| walk_at "call ref") => `(tactic| (k_here; (with_reducible show wpAny _ _ (call (Value.ref 219) [Value.bytes _ _, Value.bytes (List.toArray _) _]) _ _ _); k_dflt (apply octobj_c; walk_at "m0"; (case N => k_asm); (case hb => assumption); walk_at "m1"); intro _ _ _ _; walk_at "t0"))
set_option hygiene true

set_option maxRecDepth 100000 in
set_option maxHeartbeats 8000000 in
theorem big_c {prog : Program} {w : World} {dp un : Nat} {gd : Option (List Code)} {cn : Str} {cs : Scope} {L a : Addr} {ccd : Value} {cl : List (Str × Addr)} {outer : List Env} {A₀ : Around} {base h₀ : Heap} {m mg mb : Str → Option Value} {mean : ExcName → Option Value} {loose : List Str} {p : Program} {s : Shared} {Q E : Value → Shared → Prop}
  {k : Int} {t1 t2 : Tok} {news : List (Addr × Obj)}
  (B : Below A₀ base outer h₀) (F : Fr h₀ L s.heap m) (X : (hd.heap_1 w.params).In h₀) (T : Top p loose mean mg mb h₀) (hk : cs.kind = .function) (hdp : dp ≤ 700) (hun : un ≤ 3000)
  (N : News h₀ L s.heap news) (hk12 : k = 1 ∨ k = 2)
  (h : ∀ t h' tk, Fr h₀ L h' m → News h₀ L h' news → Q (.bytes (be4 k).toArray t) { s with heap := h', toks := tk }) :
  wpAny (model prog w) (ktrTop dp un gd cn cs L a ccd cl outer) (call (.ref 183) [.int k t1, .int 4 t2]) Q E s := by
  refine wp_room hdp hun ?_
  refine wpAny_call ?_
  walk_at "mine cells"
  walk_at "mine upto"
  refine' comp_E1 ?zhclos ?zhkind ?zhnames ?_
  case zhclos => with_unfolding_all rfl
  case zhkind => rfl
  case zhnames => decide
  walk_at "mine upto"
  rename IsRange _ _ _ _ _ _ _ _ => hR
  refine' comp_range (n := 4) (beAt k) hR (by rfl) (by omega) ?zF ?zN ?zhh ?zhcell ?zhkind ?zhx ?zhe ?_
  case zF => k_asm
  case zN => k_asm
  case zhh => rfl
  case zhcell => decide
  case zhkind => rfl
  case zhx => rfl
  case zhe =>
    have hk1 : 0 ≤ k ∧ k ≤ 2 := by omega
    obtain ⟨hk1, hk2⟩ := hk1
    intro i v I oI C oC D ys m₂ h9 tk s0 Qe E' hi hP hC hx F9 N9 hQ
    obtain ⟨t, rfl⟩ := hP
    clear F N
    k_sweep
    walk_at "mine steps"
    exact hQ _ _ _ (by k_asm) (by k_asm)
  intro D ys n h9 tk hy F9 N9 o1
  have hr := beAt_lt hk12
  have hyl : ys.length = 4 := by have := IntsAre.length hy; simpa using this
  clear F N
  k_sweep
  dsimp only
  walk_at "mine steps"
  exact h _ _ _ (by k_asm) (kst_newsOf (by k_asm) (by walk_at "mine sub"))

set_option hygiene false
local macro_rules | `(tactic| walk_at "call ref") => `(tactic| (k_here; (with_reducible show wpAny _ _ (call (Value.ref 183) [Value.int _ _, Value.int 4 _]) _ _ _); k_dflt (apply big_c; walk_at "m0"; (case N => k_asm); (case hk12 => first | assumption | exact .inl rfl | exact .inr rfl); walk_at "m1"); intro _ _ _ _; walk_at "t0"))
set_option hygiene true

set_option maxRecDepth 100000 in
set_option maxHeartbeats 8000000 in
theorem digest_c {prog : Program} {w : World} {dp un : Nat} {gd : Option (List Code)} {cn : Str} {cs : Scope} {L a : Addr} {ccd : Value} {cl : List (Str × Addr)} {outer : List Env} {A₀ : Around} {base h₀ : Heap} {m mg mb : Str → Option Value} {mean : ExcName → Option Value} {loose : List Str} {p : Program} {s : Shared} {Q E : Value → Shared → Prop}
  {k hs dh : Addr} {ok : Obj} {kps : Ps} {o : List UInt8} {t t1 t2 t3 : Tok} {rest : List (Addr × Obj)}
  (B : Below A₀ base outer h₀) (F : Fr h₀ L s.heap m) (X : (hd.heap_1 w.params).In h₀) (T : Top p loose mean mg mb h₀) (hk : cs.kind = .function) (hdp : dp ≤ 650) (hun : un ≤ 2500)
  (N : News h₀ L s.heap ((k, ok) :: (hs, instObj 208 dh) :: (dh, hsDict w k t1 t2 t3) :: rest)) (hc : Cnt prog w ok kps) (lo : (k == sysModules) = false)
  (n1 : @Ne Nat k hs) (n2 : @Ne Nat k dh) (hr : ∀ q ∈ rest, q.1 ≠ k) (hz : kps.length ≤ 9) (hol : o.length ≤ 100)
  (hv : cget (hput kps o) o = 1 ∨ cget (hput kps o) o = 2)
  (h : ∀ ok' t h' tk, Fr h₀ L h' m → News h₀ L h' ((k, ok') :: (hs, instObj 208 dh) :: (dh, hsDict w k t1 t2 t3) :: rest) → Cnt prog w ok' (hput kps o) → Q (.bytes (be4 (cget (hput kps o) o)).toArray t) { s with heap := h', toks := tk }) :
  wpAny (model prog w) (ktrTop dp un gd cn cs L a ccd cl outer) (call (.ref 205) [.ref hs, .bytes o.toArray t]) Q E s := by
  refine wp_room hdp hun ?_
  cases hb : kps.any (fun p => p.1 = o)
  · have e : hput kps o = cput kps o (kps.length + 1) := by unfold hput; rw [hb]; rfl
    rw [e] at hv h
    refine wpAny_call ?_
    walk_at "mine enter"
    walk_at "mine steps"
    exact h _ _ _ _ (by k_asm) (kst_newsOf (by k_asm) (by walk_at "mine sub")) (by assumption)
  · have e : hput kps o = kps := by unfold hput; rw [hb]; rfl
    rw [e] at hv h
    refine wpAny_call ?_
    walk_at "mine enter"
    walk_at "mine steps"
    exact h _ _ _ _ (by k_asm) (kst_newsOf (by k_asm) (by walk_at "mine sub")) (by assumption)
theorem digest_u {prog : Program} {w : World} {dp un : Nat} {gd : Option (List Code)} {cn : Str} {cs : Scope} {L a : Addr} {ccd : Value} {cl : List (Str × Addr)} {outer : List Env} {A₀ : Around} {base h₀ : Heap} {m mg mb : Str → Option Value} {mean : ExcName → Option Value} {loose : List Str} {p : Program} {s : Shared} {Q E : Value → Shared → Prop}
  {k hs dh : Addr} {ok : Obj} {kps : Ps} {o : List UInt8} {t t1 t2 t3 : Tok} {news : List (Addr × Obj)} {g1 : Obj → List (Addr × Obj)}
  (B : Below A₀ base outer h₀) (F : Fr h₀ L s.heap m) (X : (hd.heap_1 w.params).In h₀) (T : Top p loose mean mg mb h₀) (hk : cs.kind = .function) (hdp : dp ≤ 650) (hun : un ≤ 2500)
  (N : News h₀ L s.heap news) (U1 : UpdF k ok news g1) (hm1 : (hs, instObj 208 dh) ∈ news) (hm2 : (dh, hsDict w k t1 t2 t3) ∈ news) (hc : Cnt prog w ok kps) (lo : (k == sysModules) = false)
  (n1 : @Ne Nat k hs) (n2 : @Ne Nat k dh) (hz : kps.length ≤ 9) (hol : o.length ≤ 100)
  (hv : cget (hput kps o) o = 1 ∨ cget (hput kps o) o = 2)
  (h : ∀ ok' t h' tk, Fr h₀ L h' m → News h₀ L h' (g1 ok') → Cnt prog w ok' (hput kps o) → Q (.bytes (be4 (cget (hput kps o) o)).toArray t) { s with heap := h', toks := tk }) :
  wpAny (model prog w) (ktrTop dp un gd cn cs L a ccd cl outer) (call (.ref 205) [.ref hs, .bytes o.toArray t]) Q E s :=
  digest_c (rest := news.filter fun p => decide (@Ne Nat p.1 k)) B F X T hk hdp hun (kst_newsOf N fun p hp => by
    rcases List.mem_cons.mp hp with rfl | hp
    · exact upd1_in U1 _ (.head _)
    rcases List.mem_cons.mp hp with rfl | hp
    · exact hm1
    rcases List.mem_cons.mp hp with rfl | hp
    · exact hm2
    · exact upd1_in U1 _ (.tail _ hp)) hc lo n1 n2 filt0 hz hol hv fun ok' t h' tk F' N' c' => h ok' t h' tk F' (kst_newsOf N' fun p hp => by
      have := upd1_out U1 ok' p hp
      rcases List.mem_cons.mp this with rfl | hp
      · exact .head _
      · exact .tail _ (.tail _ (.tail _ hp))) c'

set_option hygiene false
local macro_rules | `(tactic| walk_at "call ref") => `(tactic| (k_here; (with_reducible show wpAny _ _ (call (Value.ref 205) [Value.ref _, Value.bytes (List.toArray _) _]) _ _ _); k_dflt (apply digest_u; walk_at "m0"; (case N => k_asm); (case hm1 | hm2 => k_mem); (case U1 => k_updF); (case hc | lo => with_reducible assumption); (case n1 | n2 => k_ne); (case hz => omega); (case hol | hv => first | assumption | omega); walk_at "m1"); intro _ _ _ _ _; walk_at "t1"))
set_option hygiene true

set_option maxRecDepth 100000 in
set_option maxHeartbeats 8000000 in
theorem write_c {prog : Program} {w : World} {dp un : Nat} {gd : Option (List Code)} {cn : Str} {cs : Scope} {L a : Addr} {ccd : Value} {cl : List (Str × Addr)} {outer : List Env} {A₀ : Around} {base h₀ : Heap} {m mg mb : Str → Option Value} {mean : ExcName → Option Value} {loose : List Str} {p : Program} {s : Shared} {Q E : Value → Shared → Prop}
  {st dst kp k hs dh : Addr} {ok okp : Obj} {kps : Ps} {kvs : List (List UInt8 × Value)} {c : List UInt8} {tb t t1 t2 t3 u1 u3 : Tok} {rest : List (Addr × Obj)}
  (B : Below A₀ base outer h₀) (F : Fr h₀ L s.heap m) (X : (hd.heap_1 w.params).In h₀) (T : Top p loose mean mg mb h₀) (hk : cs.kind = .function) (hdp : dp ≤ 600) (hun : un ≤ 2000)
  (N : News h₀ L s.heap ((k, ok) :: (kp, okp) :: (st, instObj 356 dst) :: (dst, stDict w hs kp u1 u3) :: (hs, instObj 208 dh) :: (dh, hsDict w k t1 t2 t3) :: rest)) (hc : Cnt prog w ok kps) (lo : (k == sysModules) = false)
  (hd : okp.IsDictOf (bytesKind prog w) kvs) (lo2 : (kp == sysModules) = false)
  (n0 : @Ne Nat k kp) (n1 : @Ne Nat k st) (n2 : @Ne Nat k dst) (n3 : @Ne Nat k hs) (n4 : @Ne Nat k dh) (m1 : @Ne Nat kp st) (m2 : @Ne Nat kp dst) (m3 : @Ne Nat kp hs) (m4 : @Ne Nat kp dh)
  (hr : ∀ q ∈ rest, q.1 ≠ k) (hr2 : ∀ q ∈ rest, q.1 ≠ kp) (hz : kps.length ≤ 9) (hz2 : kvs.length ≤ 9) (hcl : c.length < 40)
  (hv : cget (hput kps (blobOf c)) (blobOf c) = 1 ∨ cget (hput kps (blobOf c)) (blobOf c) = 2)
  (hA : (valueAt kvs (be4 (cget (hput kps (blobOf c)) (blobOf c)))).isSome = true → ∀ ok' t h' tk, Fr h₀ L h' m → News h₀ L h' ((k, ok') :: (kp, okp) :: (st, instObj 356 dst) :: (dst, stDict w hs kp u1 u3) :: (hs, instObj 208 dh) :: (dh, hsDict w k t1 t2 t3) :: rest) → Cnt prog w ok' (hput kps (blobOf c)) →
    Q (.bytes (be4 (cget (hput kps (blobOf c)) (blobOf c))).toArray t) { s with heap := h', toks := tk })
  (hB : (valueAt kvs (be4 (cget (hput kps (blobOf c)) (blobOf c)))).isSome = false → ∀ ok' okp' Tp t3' t h' tk, Fr h₀ L h' m → News h₀ L h' ((Tp, { cls := .type "tuple", data := .seq #[.bytes #[98, 108, 111, 98] t3', .bytes c.toArray t] }) :: (k, ok') :: (kp, okp') :: (st, instObj 356 dst) :: (dst, stDict w hs kp u1 u3) :: (hs, instObj 208 dh) :: (dh, hsDict w k t1 t2 t3) :: rest) → Cnt prog w ok' (hput kps (blobOf c)) →
    okp'.IsDictOf (bytesKind prog w) (stored kvs (be4 (cget (hput kps (blobOf c)) (blobOf c))) (.ref Tp)) → (∀ q ∈ (k, ok) :: (kp, okp) :: (st, instObj 356 dst) :: (dst, stDict w hs kp u1 u3) :: (hs, instObj 208 dh) :: (dh, hsDict w k t1 t2 t3) :: rest, q.1 < Tp) →
    ∀ t', Q (.bytes (be4 (cget (hput kps (blobOf c)) (blobOf c))).toArray t') { s with heap := h', toks := tk }) :
  wpAny (model prog w) (ktrTop dp un gd cn cs L a ccd cl outer) (call (.ref 247) [.ref st, .bytes #[98, 108, 111, 98] tb, .bytes c.toArray t]) Q E s := by
  refine wp_room hdp hun ?_
  have hol : (blobOf c).length ≤ 100 := by
    have := len_digs hcl
    unfold blobOf
    simp only [List.length_append, List.length_cons, List.length_nil, this]
    split <;> omega
  cases hb : (valueAt kvs (be4 (cget (hput kps (blobOf c)) (blobOf c)))).isSome
  · refine wpAny_call ?_
    walk_at "mine enter"
    walk_at "mine steps"
    exact hB hb _ _ _ _ _ _ _ (by k_asm) (kst_newsOf (by k_asm) (by walk_at "mine sub")) (by assumption) (by assumption) (tb_ltOf (by assumption)) _
  · refine wpAny_call ?_
    walk_at "mine enter"
    walk_at "mine steps"
    exact hA hb _ _ _ _ (by k_asm) (kst_newsOf (by k_asm) (by walk_at "mine sub")) (by assumption)

set_option maxRecDepth 100000 in
set_option maxHeartbeats 8000000 in
theorem blob_c {prog : Program} {w : World} {dp un : Nat} {gd : Option (List Code)} {cn : Str} {cs : Scope} {L a : Addr} {ccd : Value} {cl : List (Str × Addr)} {outer : List Env} {A₀ : Around} {base h₀ : Heap} {m mg mb : Str → Option Value} {mean : ExcName → Option Value} {loose : List Str} {p : Program} {s : Shared} {Q E : Value → Shared → Prop}
  {st dst kp hs Tp : Addr} {okp : Obj} {kvs : List (List UInt8 × Value)} {c oid : List UInt8} {t t3 t4 u1 u3 : Tok} {news : List (Addr × Obj)}
  (B : Below A₀ base outer h₀) (F : Fr h₀ L s.heap m) (X : (hd.heap_1 w.params).In h₀) (T : Top p loose mean mg mb h₀) (hk : cs.kind = .function) (hdp : dp ≤ 600) (hun : un ≤ 2000)
  (N : News h₀ L s.heap news) (q1 : (st, instObj 356 dst) ∈ news) (q2 : (dst, stDict w hs kp u1 u3) ∈ news) (q3 : (kp, okp) ∈ news) (q4 : (Tp, { cls := .type "tuple", data := .seq #[.bytes #[98, 108, 111, 98] t3, .bytes c.toArray t4] }) ∈ news)
  (hd : okp.IsDictOf (bytesKind prog w) kvs) (lo2 : (kp == sysModules) = false) (hv : valueAt kvs oid = some (.ref Tp))
  (h : ∀ h' tk, Fr h₀ L h' m → News h₀ L h' news → Q (.bytes c.toArray t4) { s with heap := h', toks := tk }) :
  wpAny (model prog w) (ktrTop dp un gd cn cs L a ccd cl outer) (call (.ref 324) [.ref st, .bytes oid.toArray t]) Q E s := by
  refine wp_room hdp hun ?_
  have hb : (valueAt kvs oid).isSome = true := by rw [hv]; rfl
  replace N := news_up1 (news_up1 (news_up1 (news_up1 N q4) (.tail _ q3)) (.tail _ (.tail _ q2))) (.tail _ (.tail _ (.tail _ q1)))
  clear q1 q2 q3 q4
  refine wpAny_call ?_
  walk_at "mine enter"
  walk_at "mine steps"
  exact h _ _ (by k_asm) (kst_newsOf (by k_asm) (by walk_at "mine sub"))

set_option hygiene false
local macro_rules | `(tactic| walk_at "call ref") => `(tactic| (k_here; (with_reducible show wpAny _ _ (call (Value.ref 324) [Value.ref _, Value.bytes (List.toArray _) _]) _ _ _); k_dflt (apply blob_c; walk_at "m0"; (case N => k_asm); (case q1 | q2 | q3 => k_mem); (case hd | hv => with_reducible assumption); (case q4 => k_mem); (case lo2 => with_reducible assumption); walk_at "m1"); intro _ _ _; walk_at "t0"))
set_option hygiene true

theorem spans_d {prog : Program} {w : World} {dp un : Nat} {gd : Option (List Code)} {cn : Str} {cs : Scope} {L a : Addr} {ccd : Value} {cl : List (Str × Addr)} {outer : List Env} {A₀ : Around} {base h₀ : Heap} {m mg mb : Str → Option Value} {mean : ExcName → Option Value} {loose : List Str} {p : Program} {s : Shared} {Q : Value → Shared → Prop}
  {l : List UInt8} {t tz : Tok} {z : Int} {args : List Value} {news : List (Addr × Obj)}
  (B : Below A₀ base outer h₀) (F : Fr h₀ L s.heap m) (X : (hd.heap_1 w.params).In h₀) (T : Top p loose mean mg mb h₀) (hk : cs.kind = .function) (hdp : dp ≤ 550) (hun : un ≤ 1900)
  (N : News h₀ L s.heap news) (hb : l.length ≤ 800) (hargs : args = [.bytes l.toArray t, .int z tz] ∨ (args = [.bytes l.toArray t] ∧ z = 64))
  (h : ∀ x dx c t1 t2 t3 oc h' tk, Fr h₀ L h' m → News h₀ L h' ((dx, spDict w (tot (cutAll l z)) c t1 t2 t3) :: (c, oc) :: (x, instObj 75 dx) :: news) → SpAt prog w ((dx, spDict w (tot (cutAll l z)) c t1 t2 t3) :: (c, oc) :: [(x, instObj 75 dx)]) x (cutAll l z) → @LT.lt Nat _ dx x → @LT.lt Nat _ x c → AllLt dx news → Q (.ref x) { s with heap := h', toks := tk }) :
  wpC (model prog w) (ktrTop dp un gd cn cs L a ccd cl outer) (call (.ref 75) args) Q s := by
  refine spans_c B F X T hk hdp hun N hb hargs fun x dx c t1 t2 t3 oc h' tk F' N' hc lo l1 l2 l3 => ?_
  rw [← tot_total _ hc.nodup] at N'
  exact h x dx c t1 t2 t3 oc h' tk F' N' ⟨dx, c, oc, t1, t2, t3, .tail _ (.tail _ (.head _)), .head _, .tail _ (.head _), hc, lo⟩ l1 l2 l3
local macro_rules | `(tactic| walk_at "mine spans") => `(tactic| (k_dflt (refine' spans_d (tz := 0) ?B ?F ?X ?T ?hk ?hdp ?hun ?N ?hb (.inr ⟨rfl, rfl⟩) ?_; walk_at "m0"; (case hdp | hun => exact Nat.le_of_ble_eq_true rfl); (case N => k_asm); (case hb => omega)); intro x' dx' c' t1' t2' t3' oc' h' tk' F' N' S' l1 l2 l3; (try simp only [AllLt] at l3); walk_at "t3"))
set_option maxRecDepth 100000 in
set_option maxHeartbeats 8000000 in
theorem like_c {prog : Program} {w : World} {dp un : Nat} {gd : Option (List Code)} {cn : Str} {cs : Scope} {L a : Addr} {ccd : Value} {cl : List (Str × Addr)} {outer : List Env} {A₀ : Around} {base h₀ : Heap} {m mg mb : Str → Option Value} {mean : ExcName → Option Value} {loose : List Str} {p : Program} {s : Shared} {Q : Value → Shared → Prop}
  {l1 l2 : List UInt8} {t1 t2 : Tok} {news : List (Addr × Obj)}
  (B : Below A₀ base outer h₀) (F : Fr h₀ L s.heap m) (X : (hd.heap_1 w.params).In h₀) (T : Top p loose mean mg mb h₀) (hk : cs.kind = .function) (hdp : dp ≤ 500) (hun : un ≤ 1700)
  (N : News h₀ L s.heap news) (hb1 : l1.length ≤ 800) (hb2 : l2.length ≤ 800)
  (h : ∀ t h' tk, Fr h₀ L h' m → News h₀ L h' news → Q (.int (like l1 l2) t) { s with heap := h', toks := tk }) :
  wpC (model prog w) (ktrTop dp un gd cn cs L a ccd cl outer) (call (.ref 86) [.bytes l1.toArray t1, .bytes l2.toArray t2]) Q s := by
  refine wpC_room hdp hun ?_
  refine wpC_call ?_
  walk_at "mine enterC"
  refine wpC_execs_cons (wpC_Return_some (wpC_IfExp (wpC_of_any ?_)))
  walk_at "mine steps"
  · refine wpC_of_any ?_
    walk_at "mine steps"
    rw [show like l1 l2 = 100 from if_pos (show l1 = l2 from eq_of_beq (by assumption))] at h
    exact h _ _ _ (by k_asm) (by k_asm)
  · have hne : l1 ≠ l2 := fun e => by
      have q : (l1.toArray.toList == l2.toArray.toList) = false := by assumption
      rw [e] at q
      simp at q
    have b1 := cutAll_total l1 64
    have b2 := cutAll_total l2 64
    obtain ⟨p1, p2⟩ := b1
    obtain ⟨p3, p4⟩ := b2
    have p2 : tot (cutAll l1 64) ≤ 900 := by omega
    have p4 : tot (cutAll l2 64) ≤ 900 := by omega
    refine callName_c ?_
    walk_at "mine steps"
    refine spl2_c (wpC_of_any ?_)
    walk_at "mine steps"
    refine callMeth_c (callName_c ?_)
    walk_at "mine steps"
    refine spl1_c (wpC_of_any ?_)
    walk_at "mine steps"
    · walk_at "mine keep"
    walk_at "mine spans"
    rename_i S1 q1 q2 q3
    walk_at "mine steps"
    refine spl1_c (callName_c ?_)
    walk_at "mine steps"
    refine spl1_c (wpC_of_any ?_)
    walk_at "mine steps"
    · walk_at "mine keep"
    walk_at "mine spans"
    refine ⟨by walk_at "mine keep", wpC_of_any ?_⟩
    dsimp only [List.cons_append, List.nil_append]
    walk_at "mine steps"
    · walk_at "mine keep"
    refine wpC_of_any ?_
    walk_at "mine steps"
    rw [show like l1 l2 = _ from if_neg hne] at h
    exact h _ _ _ (by k_asm) (kst_newsOf (by k_asm) (by walk_at "mine sub"))
set_option hygiene false
local macro_rules | `(tactic| walk_at "mine like") => `(tactic| (k_dflt (apply like_c; walk_at "m0"; (case hdp | hun => exact Nat.le_of_ble_eq_true rfl); (case N => k_asm); (case hb1 | hb2 => omega)); intro _ _ _ _ _; walk_at "t3"))
set_option hygiene true

set_option maxRecDepth 100000 in
set_option maxHeartbeats 8000000 in
theorem tcsp_a {prog : Program} {w : World} {dp un : Nat} {gd : Option (List Code)} {cn : Str} {cs : Scope} {L a : Addr} {ccd : Value} {cl : List (Str × Addr)} {outer : List Env} {A₀ : Around} {base h₀ : Heap} {m mg mb : Str → Option Value} {mean : ExcName → Option Value} {loose : List Str} {p : Program} {s : Shared} {Q E : Value → Shared → Prop}
  {ct dct bi st x : Addr} {obi : Obj} {bvs : List (List UInt8 × Value)} {oid : List UInt8} {t u1 u3 : Tok} {news : List (Addr × Obj)}
  (B : Below A₀ base outer h₀) (F : Fr h₀ L s.heap m) (X : (hd.heap_1 w.params).In h₀) (T : Top p loose mean mg mb h₀) (hk : cs.kind = .function) (hdp : dp ≤ 700) (hun : un ≤ 3000)
  (N : News h₀ L s.heap news) (q1 : (ct, instObj 117 dct) ∈ news) (q2 : (dct, ctDict w st bi u1 u3) ∈ news) (q3 : (bi, obi) ∈ news)
  (hd : obi.IsDictOf (bytesKind prog w) bvs) (lo2 : (bi == sysModules) = false) (hv : valueAt bvs oid = some (.ref x))
  (h : ∀ h' tk, Fr h₀ L h' m → News h₀ L h' news → Q (.ref x) { s with heap := h', toks := tk }) :
  wpAny (model prog w) (ktrTop dp un gd cn cs L a ccd cl outer) (call (.ref 107) [.ref ct, .bytes oid.toArray t]) Q E s := by
  refine wp_room hdp hun ?_
  have hb : (valueAt bvs oid).isSome = true := by rw [hv]; rfl
  replace N := news_up1 (news_up1 (news_up1 N q3) (.tail _ q2)) (.tail _ (.tail _ q1))
  clear q1 q2 q3
  refine wpAny_call ?_
  walk_at "mine enter"
  walk_at "mine steps"
  exact h _ _ (by k_asm) (kst_newsOf (by k_asm) (by walk_at "mine sub"))

set_option hygiene false
local macro_rules | `(tactic| walk_at "call ref") => `(tactic| (k_here; (with_reducible show wpAny _ _ (call (Value.ref 107) [Value.ref _, Value.bytes (List.toArray _) _]) _ _ _); k_dflt (apply tcsp_a; walk_at "m0"; (case N => k_asm); (case q1 | q2 | q3 => k_mem); (case hd | hv | lo2 => with_reducible assumption); walk_at "m1"); intro _ _ _; walk_at "t0"))
set_option hygiene true

set_option maxRecDepth 100000 in
set_option maxHeartbeats 8000000 in
theorem tcsp_b {prog : Program} {w : World} {dp un : Nat} {gd : Option (List Code)} {cn : Str} {cs : Scope} {L a : Addr} {ccd : Value} {cl : List (Str × Addr)} {outer : List Env} {A₀ : Around} {base h₀ : Heap} {m mg mb : Str → Option Value} {mean : ExcName → Option Value} {loose : List Str} {p : Program} {s : Shared} {Q : Value → Shared → Prop}
  {ct dct bi st dst kp hs Tp : Addr} {obi okp : Obj} {bvs kvs : List (List UInt8 × Value)} {oid c : List UInt8} {t u1 u3 v1 v3 t3 t4 : Tok} {rest : List (Addr × Obj)}
  (B : Below A₀ base outer h₀) (F : Fr h₀ L s.heap m) (X : (hd.heap_1 w.params).In h₀) (T : Top p loose mean mg mb h₀) (hk : cs.kind = .function) (hdp : dp ≤ 500) (hun : un ≤ 1700)
  (N : News h₀ L s.heap ((bi, obi) :: (ct, instObj 117 dct) :: (dct, ctDict w st bi u1 u3) :: (st, instObj 356 dst) :: (dst, stDict w hs kp v1 v3) :: (kp, okp) :: (Tp, { cls := .type "tuple", data := .seq #[.bytes #[98, 108, 111, 98] t3, .bytes c.toArray t4] }) :: rest))
  (hd : obi.IsDictOf (bytesKind prog w) bvs) (lo2 : (bi == sysModules) = false) (hv : valueAt bvs oid = none) (hz : bvs.length ≤ 9)
  (hdk : okp.IsDictOf (bytesKind prog w) kvs) (lok : (kp == sysModules) = false) (hvk : valueAt kvs oid = some (.ref Tp)) (hcl : c.length ≤ 800)
  (n1 : @Ne Nat bi ct) (n2 : @Ne Nat bi dct) (n3 : @Ne Nat bi st) (n4 : @Ne Nat bi dst) (n5 : @Ne Nat bi kp) (n6 : @Ne Nat bi Tp) (hr : ∀ q ∈ rest, q.1 ≠ bi)
  (h : ∀ x dx cc t1 t2 t3' oc obi' h' tk, Fr h₀ L h' m → News h₀ L h' ((dx, spDict w (tot (cutAll c 64)) cc t1 t2 t3') :: (cc, oc) :: (x, instObj 75 dx) :: (bi, obi') :: (ct, instObj 117 dct) :: (dct, ctDict w st bi u1 u3) :: (st, instObj 356 dst) :: (dst, stDict w hs kp v1 v3) :: (kp, okp) :: (Tp, { cls := .type "tuple", data := .seq #[.bytes #[98, 108, 111, 98] t3, .bytes c.toArray t4] }) :: rest) →
    SpAt prog w ((dx, spDict w (tot (cutAll c 64)) cc t1 t2 t3') :: (cc, oc) :: [(x, instObj 75 dx)]) x (cutAll c 64) → obi'.IsDictOf (bytesKind prog w) (stored bvs oid (.ref x)) → @LT.lt Nat _ dx x → @LT.lt Nat _ x cc → AllLt dx ((bi, obi) :: (ct, instObj 117 dct) :: (dct, ctDict w st bi u1 u3) :: (st, instObj 356 dst) :: (dst, stDict w hs kp v1 v3) :: (kp, okp) :: (Tp, { cls := .type "tuple", data := .seq #[.bytes #[98, 108, 111, 98] t3, .bytes c.toArray t4] }) :: rest) → Q (.ref x) { s with heap := h', toks := tk }) :
  wpC (model prog w) (ktrTop dp un gd cn cs L a ccd cl outer) (call (.ref 107) [.ref ct, .bytes oid.toArray t]) Q s := by
  refine wpC_room hdp hun ?_
  have hb : (valueAt bvs oid).isSome = false := by rw [hv]; rfl
  refine wpC_call ?_
  walk_at "mine enterC"
  refine wpC_execs_cons (wpC_If (wpC_of_any ?_))
  walk_at "mine steps"
  refine wpC_execs_cons (wpC_Assign_Subscript (callName_c ?_))
  walk_at "mine steps"
  refine spl1_c (wpC_of_any ?_)
  walk_at "mine steps"
  · walk_at "mine keep"
  walk_at "mine spans"
  rename_i S1 l1 l2 l3
  walk_at "mine steps"
  refine wpC_execs_nil ?_
  dsimp only
  walk_at "mine leaf"
  exact h _ _ _ _ _ _ _ _ _ _ (by k_asm) (kst_newsOf (by k_asm) (by walk_at "mine sub")) S1 (by assumption) l1 l2 l3

set_option maxRecDepth 100000 in
set_option maxHeartbeats 8000000 in
theorem pc_eq {prog : Program} {w : World} {dp un : Nat} {gd : Option (List Code)} {cn : Str} {cs : Scope} {L a : Addr} {ccd : Value} {cl : List (Str × Addr)} {outer : List Env} {A₀ : Around} {base h₀ : Heap} {m mg mb : Str → Option Value} {mean : ExcName → Option Value} {loose : List Str} {p : Program} {s : Shared} {Q E : Value → Shared → Prop}
  {ct : Addr} {o : List UInt8} {t t' t2 : Tok} {least : Int} {news : List (Addr × Obj)}
  (B : Below A₀ base outer h₀) (F : Fr h₀ L s.heap m) (X : (hd.heap_1 w.params).In h₀) (T : Top p loose mean mg mb h₀) (hk : cs.kind = .function) (hdp : dp ≤ 600) (hun : un ≤ 2000)
  (N : News h₀ L s.heap news)
  (h : ∀ t h' tk, Fr h₀ L h' m → News h₀ L h' news → Q (.int 100 t) { s with heap := h', toks := tk }) :
  wpAny (model prog w) (ktrTop dp un gd cn cs L a ccd cl outer) (call (.ref 114) [.ref ct, .bytes o.toArray t, .bytes o.toArray t', .int least t2]) Q E s := by
  refine wp_room hdp hun ?_
  refine wpAny_call ?_
  walk_at "mine enter"
  refine wpAny_execs_cons (wpAny_If ?_)
  walk_at "mine steps"
  · exact h _ _ _ (by k_asm) (kst_newsOf (by k_asm) (by walk_at "mine sub"))
  all_goals
    have q : (o.toArray.toList == o.toArray.toList) = false := by assumption
    simp at q

set_option maxRecDepth 100000 in
set_option maxHeartbeats 8000000 in
theorem pc_two {prog : Program} {w : World} {dp un : Nat} {gd : Option (List Code)} {cn : Str} {cs : Scope} {L a : Addr} {ccd : Value} {cl : List (Str × Addr)} {outer : List Env} {A₀ : Around} {base h₀ : Heap} {m mg mb : Str → Option Value} {mean : ExcName → Option Value} {loose : List Str} {p : Program} {s : Shared} {Q E : Value → Shared → Prop}
  {ct dct bi st x y : Addr} {obi : Obj} {bvs : List (List UInt8 × Value)} {o1 o2 : List UInt8} {t t' t2 u1 u3 : Tok} {least : Int} {ps qs : Ps} {news : List (Addr × Obj)}
  (B : Below A₀ base outer h₀) (F : Fr h₀ L s.heap m) (X : (hd.heap_1 w.params).In h₀) (T : Top p loose mean mg mb h₀) (hk : cs.kind = .function) (hdp : dp ≤ 600) (hun : un ≤ 2000)
  (N : News h₀ L s.heap news) (q1 : (ct, instObj 117 dct) ∈ news) (q2 : (dct, ctDict w st bi u1 u3) ∈ news) (q3 : (bi, obi) ∈ news)
  (hd : obi.IsDictOf (bytesKind prog w) bvs) (lo2 : (bi == sysModules) = false) (hv1 : valueAt bvs o1 = some (.ref x)) (hv2 : valueAt bvs o2 = some (.ref y)) (hne : o1 ≠ o2)
  (S1 : SpAt prog w news x ps) (S2 : SpAt prog w news y qs) (hp0 : 0 ≤ tot ps) (hp9 : tot ps ≤ 900) (hq0 : 0 ≤ tot qs) (hq9 : tot qs ≤ 900)
  (h : ∀ t h' tk, Fr h₀ L h' m → News h₀ L h' news → Q (.int (told least ps qs) t) { s with heap := h', toks := tk }) :
  wpAny (model prog w) (ktrTop dp un gd cn cs L a ccd cl outer) (call (.ref 114) [.ref ct, .bytes o1.toArray t, .bytes o2.toArray t', .int least t2]) Q E s := by
  refine wp_room hdp hun ?_
  have S1' := S1
  have S2' := S2
  obtain ⟨dx, c, oc, t1, t2, t3, hx, hdx, hco, hc, lo⟩ := S1
  obtain ⟨dy, c2, oc2, v1, v2, v3, hy, hdy, hco2, hc2, lo3⟩ := S2
  replace N := news_up1 (news_up1 (news_up1 (news_up1 (news_up1 (news_up1 (news_up1 N q3) (.tail _ q2)) (.tail _ (.tail _ q1))) (.tail _ (.tail _ (.tail _ hdy)))) (.tail _ (.tail _ (.tail _ (.tail _ hy))))) (.tail _ (.tail _ (.tail _ (.tail _ (.tail _ hdx)))))) (.tail _ (.tail _ (.tail _ (.tail _ (.tail _ (.tail _ hx))))))
  clear q1 q2 q3 hx hdx hco hy hdy hco2 hc hc2
  refine wpAny_call ?_
  walk_at "mine enter"
  refine wpAny_execs_cons (wpAny_If ?_)
  walk_at "mine steps"
  · exact absurd (eq_of_beq (by assumption)) hne
  · rw [show told least ps qs = 0 from if_pos (by assumption)] at h
    exact h _ _ _ (by k_asm) (kst_newsOf (by k_asm) (by walk_at "mine sub"))
  · rw [show told least ps qs = _ from if_neg (by assumption)] at h
    exact h _ _ _ (by k_asm) (kst_newsOf (by k_asm) (by walk_at "mine sub"))

local macro_rules | `(tactic| walk_at "call ref") => `(tactic| (k_here; (with_reducible show wpAny _ _ (call (Value.ref 114) [Value.ref _, Value.bytes (List.toArray _) _, Value.bytes (List.toArray _) _, Value.int _ _]) _ _ _); first | (k_dflt (refine' pc_eq ?B ?F ?X ?T ?hk ?hdp ?hun ?N ?_; walk_at "m0"; (case N => k_asm); (case hdp | hun => exact Nat.le_of_ble_eq_true rfl))) | (k_dflt (refine' pc_two ?B ?F ?X ?T ?hk ?hdp ?hun ?N ?q1 ?q2 ?q3 ?hd ?lo ?v1 ?v2 ?ne ?S1 ?S2 ?b1 ?b2 ?b3 ?b4 ?_; walk_at "m0"; (case N => k_asm); (case q1 | q2 | q3 => k_mem); (case hd | lo | v1 | v2 | ne => with_reducible assumption); (case S1 | S2 => walk_at "mine sp"); (case b1 | b2 | b3 | b4 => with_reducible assumption); (case hdp | hun => exact Nat.le_of_ble_eq_true rfl))); intro _ _ _ _; walk_at "t0"))

set_option maxRecDepth 100000 in
set_option maxHeartbeats 8000000 in
theorem pc_new {prog : Program} {w : World} {dp un : Nat} {gd : Option (List Code)} {cn : Str} {cs : Scope} {L a : Addr} {ccd : Value} {cl : List (Str × Addr)} {outer : List Env} {A₀ : Around} {base h₀ : Heap} {m mg mb : Str → Option Value} {mean : ExcName → Option Value} {loose : List Str} {p : Program} {s : Shared} {Q : Value → Shared → Prop}
  {ct dct bi st dst kp hs T1 T2 : Addr} {obi okp : Obj} {bvs kvs : List (List UInt8 × Value)} {o1 o2 c1 c2 : List UInt8} {t t' t2 u1 u3 v1 v3 t3 t4 t5 t6 : Tok} {least : Int} {rest : List (Addr × Obj)}
  (B : Below A₀ base outer h₀) (F : Fr h₀ L s.heap m) (X : (hd.heap_1 w.params).In h₀) (T : Top p loose mean mg mb h₀) (hk : cs.kind = .function) (hdp : dp ≤ 450) (hun : un ≤ 1500)
  (N : News h₀ L s.heap ((bi, obi) :: (ct, instObj 117 dct) :: (dct, ctDict w st bi u1 u3) :: (st, instObj 356 dst) :: (dst, stDict w hs kp v1 v3) :: (kp, okp) :: (T1, tupB t3 c1 t4) :: (T2, tupB t5 c2 t6) :: rest))
  (hd : obi.IsDictOf (bytesKind prog w) bvs) (lo2 : (bi == sysModules) = false) (hv1 : valueAt bvs o1 = none) (hv2 : valueAt bvs o2 = none) (hne : o1 ≠ o2) (hz : bvs.length ≤ 5)
  (hdk : okp.IsDictOf (bytesKind prog w) kvs) (lok : (kp == sysModules) = false) (hvk1 : valueAt kvs o1 = some (.ref T1)) (hvk2 : valueAt kvs o2 = some (.ref T2)) (hc1 : c1.length ≤ 800) (hc2 : c2.length ≤ 800)
  (n1 : @Ne Nat bi ct) (n2 : @Ne Nat bi dct) (n3 : @Ne Nat bi st) (n4 : @Ne Nat bi dst) (n5 : @Ne Nat bi kp) (n6 : @Ne Nat bi T1) (n7 : @Ne Nat bi T2) (hr : ∀ q ∈ rest, q.1 ≠ bi)
  (h : ∀ x y sx obi' h' tk t, Fr h₀ L h' m → News h₀ L h' (sx ++ (bi, obi') :: (ct, instObj 117 dct) :: (dct, ctDict w st bi u1 u3) :: (st, instObj 356 dst) :: (dst, stDict w hs kp v1 v3) :: (kp, okp) :: (T1, tupB t3 c1 t4) :: (T2, tupB t5 c2 t6) :: rest) → SpAt prog w sx x (cutAll c1 64) → SpAt prog w sx y (cutAll c2 64) → obi'.IsDictOf (bytesKind prog w) (stored (stored bvs o1 (.ref x)) o2 (.ref y)) → Q (.int (told least (cutAll c1 64) (cutAll c2 64)) t) { s with heap := h', toks := tk }) :
  wpC (model prog w) (ktrTop dp un gd cn cs L a ccd cl outer) (call (.ref 114) [.ref ct, .bytes o1.toArray t, .bytes o2.toArray t', .int least t2]) Q s := by
  refine wpC_room hdp hun ?_
  have b1 := cutAll_total c1 64
  have b2 := cutAll_total c2 64
  obtain ⟨p1, p2'⟩ := b1
  obtain ⟨p3, p4'⟩ := b2
  have p2 : tot (cutAll c1 64) ≤ 900 := by omega
  have p4 : tot (cutAll c2 64) ≤ 900 := by omega
  clear p2' p4'
  refine wpC_call ?_
  walk_at "mine enterC"
  refine wpC_execs_cons (wpC_If (wpC_of_any ?_))
  walk_at "mine steps"
  · exact absurd (eq_of_beq (by assumption)) hne
  refine wpC_execs_nil ?_
  dsimp only
  refine wpC_execs_cons (wpC_Assign_swapped (wpC_Tuple (spl2_c (callMeth_c (wpC_of_any ?_)))))
  walk_at "mine steps"
  refine spl1_c (wpC_of_any ?_)
  walk_at "mine steps"
  · walk_at "mine keep"
  dsimp only [List.cons_append, List.nil_append]
  k_dflt (refine' tcsp_b ?zB ?zF ?zX ?zT ?zhk ?zhdp ?zhun ?zN hd lo2 hv1 ?zhz hdk lok hvk1 hc1 n1 n2 n3 n4 n5 n6 ?zhr ?_; (case zB => k_asm); (case zF => k_asm); (case zX => k_asm); (case zT => k_asm); (case zhk => exact rfl); (case zhdp => exact Nat.le_of_ble_eq_true rfl); (case zhun => exact Nat.le_of_ble_eq_true rfl); (case zN => k_asm); (case zhz => omega); (case zhr => exact List.forall_mem_cons.mpr ⟨Ne.symm n7, hr⟩))
  intro x dx cc i1 i2 i3 oc obi1 h5 tk5 F5 N5 S1 hd1 l1 l2 l3
  simp only [AllLt] at l3
  have N6 := kst_newsOf (l' := (bi, obi1) :: (ct, instObj 117 dct) :: (dct, ctDict w st bi u1 u3) :: (st, instObj 356 dst) :: (dst, stDict w hs kp v1 v3) :: (kp, okp) :: (T2, tupB t5 c2 t6) :: (dx, spDict w (tot (cutAll c1 64)) cc i1 i2 i3) :: (cc, oc) :: (x, instObj 75 dx) :: (T1, tupB t3 c1 t4) :: rest) N5 (by walk_at "mine sub")
  clear N5
  k_sweep
  try dsimp only
  refine callMeth_c (wpC_of_any ?_)
  walk_at "mine steps"
  refine spl1_c (wpC_of_any ?_)
  walk_at "mine steps"
  · walk_at "mine keep"
  dsimp only [List.cons_append, List.nil_append]
  have hz2 := stored_len (kvs := bvs) (k := o1) (v := .ref x)
  obtain ⟨m1, m2, m3, m4, m5, m6, m7, m8, m9⟩ := l3
  k_dflt (refine' tcsp_b ?zB ?zF ?zX ?zT ?zhk ?zhdp ?zhun ?zN hd1 lo2 ?zhv ?zhz hdk lok hvk2 hc2 n1 n2 n3 n4 n5 n7 ?zhr ?_; (case zB => k_asm); (case zF => k_asm); (case zX => k_asm); (case zT => k_asm); (case zhk => exact rfl); (case zhdp => exact Nat.le_of_ble_eq_true rfl); (case zhun => exact Nat.le_of_ble_eq_true rfl); (case zN => k_asm); (case zhv => (rw [valueAt_stored_ne hne]; exact hv2)); (case zhz => omega); (case zhr => exact List.forall_mem_cons.mpr ⟨by k_ne, List.forall_mem_cons.mpr ⟨by k_ne, List.forall_mem_cons.mpr ⟨by k_ne, List.forall_mem_cons.mpr ⟨Ne.symm n6, hr⟩⟩⟩⟩))
  intro y dy cy j1 j2 j3 oy obi2 h6 tk6 F6 N7 S2 hd2 k1 k2 k3
  simp only [AllLt] at k3
  k_sweep
  try dsimp only
  walk_at "mine steps"
  try dsimp only
  clear N
  walk_at "mine leaf"
  · rw [show told least (cutAll c1 64) (cutAll c2 64) = 0 from if_pos (by assumption)] at h
    exact h x y [(dy, spDict w (tot (cutAll c2 64)) cy j1 j2 j3), (cy, oy), (y, instObj 75 dy), (dx, spDict w (tot (cutAll c1 64)) cc i1 i2 i3), (cc, oc), (x, instObj 75 dx)] obi2 _ _ _ (by k_asm) (kst_newsOf (by k_asm) (by (dsimp only [List.cons_append, List.nil_append]); walk_at "mine sub")) (S1.mono (by walk_at "mine sub")) (S2.mono (by walk_at "mine sub")) hd2
  dsimp only
  walk_at "mine leaf"
  rw [show told least (cutAll c1 64) (cutAll c2 64) = _ from if_neg (by assumption)] at h
  exact h x y [(dy, spDict w (tot (cutAll c2 64)) cy j1 j2 j3), (cy, oy), (y, instObj 75 dy), (dx, spDict w (tot (cutAll c1 64)) cc i1 i2 i3), (cc, oc), (x, instObj 75 dx)] obi2 _ _ _ (by k_asm) (kst_newsOf (by k_asm) (by (dsimp only [List.cons_append, List.nil_append]); walk_at "mine sub")) (S1.mono (by walk_at "mine sub")) (S2.mono (by walk_at "mine sub")) hd2

set_option maxRecDepth 100000 in
set_option maxHeartbeats 8000000 in
theorem blobs_c {prog : Program} {w : World} {dp un : Nat} {gd : Option (List Code)} {cn : Str} {cs : Scope} {L a : Addr} {ccd : Value} {cl : List (Str × Addr)} {outer : List Env} {A₀ : Around} {base h₀ : Heap} {m mg mb : Str → Option Value} {mean : ExcName → Option Value} {loose : List Str} {p : Program} {s : Shared} {Q : Value → Shared → Prop}
  {V d d2 : Addr} {od od2 : Obj} {a1 a2 : List UInt8} {t1 t2 tl : Tok} {n : Nat} {least : Int} {news : List (Addr × Obj)}
  (B : Below A₀ base outer h₀) (F : Fr h₀ L s.heap m) (X : (hd.heap_1 w.params).In h₀) (T : Top p loose mean mg mb h₀) (hk : cs.kind = .function) (hdp : dp ≤ 400) (hun : un ≤ 1300)
  (N : News h₀ L s.heap news) (hV : (V, listOf [Value.bytes a1.toArray t1, Value.bytes a2.toArray t2].toArray n) ∈ news) (hd1 : (d, od) ∈ news) (hc1 : Cnt prog w od (cutAll a1 64)) (lo1 : (d == sysModules) = false) (hd2 : (d2, od2) ∈ news) (hc2 : Cnt prog w od2 (cutAll a2 64)) (lo2 : (d2 == sysModules) = false)
  (hl1 : a1.length < 40) (hl2 : a2.length < 40)
  (h : ∀ h' tk, Fr h₀ L h' m → News h₀ L h' news → Q (.bool true) { s with heap := h', toks := tk }) :
  wpC (model prog w) (ktrTop dp un gd cn cs L a ccd cl outer) (call (.ref 425) [.ref V, .ref d, .ref d2, .int least tl]) Q s := by
  refine wpC_room hdp hun ?_
  replace N := news_up1 (news_up1 (news_up1 N hd2) (.tail _ hd1)) (.tail _ (.tail _ hV))
  clear hV hd1 hd2
  refine wpC_call ?_
  walk_at "mine cellsC"
  rename (@LT.lt Nat _ V _ ∧ _) => lL
  have hcell := allLt_ne1 lL.2.2.2
  walk_at "mine leaf"
  rename_i g0 L0 h00 tk00 FG0 B0 X0 T0 o00 dd0 hs dh h01 lh0 lh1 g1 L1 h02 B1 X1 T1' qk1 ek1 tk1 h03 k h04 ok lok hsk fsk hik fik lk h05 F01 N01 Tc1 kX1 st dst h06 ls0 ls1 g2 L2 h07 B2 X2 T2' h08 kp h09 okp lokp hskp fskp hikp fikp lkp h10 F02 N02 Tc2 kX2 h11 oc F1 N1 oC
  have cK : Cnt prog w ok [] := Cnt.nil (nil_kind _ hsk)
  have dK : okp.IsDictOf (bytesKind prog w) [] := nil_kind _ hskp
  clear F01 N01 Tc1 kX1 F02 N02 Tc2 kX2 qk1 ek1 qk ek B1 X1 T1' B2 X2 T2' fsk hik fik fskp hikp fikp hsk hskp
  obtain ⟨m0, F1', hm0⟩ : ∃ m0, Fr g0 L0 h11 m0 ∧ Has m0 [(Str.ofString "texts", Value.ref V), (Str.ofString "one", Value.ref d), (Str.ofString "other", Value.ref d2), (Str.ofString "least", Value.int least tl)] := ⟨_, F1, has4 rfl rfl rfl rfl⟩
  replace F1 := kB_fr F1' hm0
  clear F1'
  have z1 : One12 (cget (hput [] (blobOf a1)) (blobOf a1)) := .inl (cget_z _)
  have kv1 : ∀ v : Value, stored ([] : List (List UInt8 × Value)) (be4 1) v = [(be4 1, v)] := fun _ => rfl
  refine leaf_cut (fun h' => ∃ (m1 : Str → Option Value) (kvs : List (List UInt8 × Value)) (T1 T2 D : Addr) (okp' : Obj) (n' : Nat) (b3 b4 b5 b6 i1 i2 s1 s3 : Tok) (id2 : List UInt8),
      Fr g0 L0 h' m1 ∧ Has m1 [(Str.ofString "texts", Value.ref V), (Str.ofString "one", Value.ref d), (Str.ofString "other", Value.ref d2), (Str.ofString "least", Value.int least tl), (Str.ofString "ids", Value.ref D)] ∧
      News g0 L0 h' ((D, listOf [Value.bytes (be4 1).toArray i1, Value.bytes id2.toArray i2].toArray n') :: (T1, tupB b3 a1 b4) :: (T2, tupB b5 a2 b6) :: (kp, okp') :: (st, instObj 356 dst) :: (dst, stDict w hs kp s1 s3) :: (L0 + 1, oc) :: (V, listOf [Value.bytes a1.toArray t1, Value.bytes a2.toArray t2].toArray n) :: (d, od) :: (d2, od2) :: news) ∧
      okp'.IsDictOf (bytesKind prog w) kvs ∧ valueAt kvs (be4 1) = some (.ref T1) ∧ valueAt kvs id2 = some (.ref T2) ∧ (id2 = be4 1 ↔ a1 = a2)) (fun Qm hQm => ?zstm2) (fun h' tk' hP => ?zrest2)
  case zstm2 =>
    refine' LCg.Assign_ListComp_U (F₀ := F1) ?zhLe ?zhsw ?zhclos ?zhcell ?zhkind ?zhnames ?zhx ?zhy ?zhp ?_
    case zhLe => rfl
    case zhsw => with_unfolding_all rfl
    case zhclos => with_unfolding_all rfl
    case zhcell => decide
    case zhkind => rfl
    case zhnames => decide
    case zhx => rfl
    case zhy => rfl
    case zhp => rfl
    walk_at "mine upto"
    refine LCg.CompSrc.ledger (by rfl) (by k_asm) (by k_asm) (by k_mem) (Nat.le_of_ble_eq_true rfl) ?_
    intro g9
    lcg_lit
    refine LCg.CompRest.succ ?_
    intro v I oI C oC D mB h12 tk12 E' hv hCo hx F2 N2 off ne
    lcg_open hv
    have offM := off.mem
    clear off ne F1 N1
    walk_at "mine upto"
    obtain ⟨r1, r2, r3⟩ := offM (k, ok) (by k_mem)
    obtain ⟨r4, r5, r6⟩ := offM (kp, okp) (by k_mem)
    have hrk : ∀ q ∈ (I, oI) :: (C, oC) :: (D, LCg.lst []) :: (L0 + 1, oc) :: (V, listOf [Value.bytes a1.toArray t1, Value.bytes a2.toArray t2].toArray n) :: (d, od) :: (d2, od2) :: news, q.1 ≠ k :=
      List.forall_mem_cons.mpr ⟨Ne.symm r1, List.forall_mem_cons.mpr ⟨Ne.symm r2, List.forall_mem_cons.mpr ⟨Ne.symm r3, List.forall_mem_cons.mpr ⟨by k_ne, List.forall_mem_cons.mpr ⟨by k_ne, List.forall_mem_cons.mpr ⟨by k_ne, List.forall_mem_cons.mpr ⟨by k_ne, tbn_neAll (by walk_at "mine alt")⟩⟩⟩⟩⟩⟩⟩
    have hrp : ∀ q ∈ (I, oI) :: (C, oC) :: (D, LCg.lst []) :: (L0 + 1, oc) :: (V, listOf [Value.bytes a1.toArray t1, Value.bytes a2.toArray t2].toArray n) :: (d, od) :: (d2, od2) :: news, q.1 ≠ kp :=
      List.forall_mem_cons.mpr ⟨Ne.symm r4, List.forall_mem_cons.mpr ⟨Ne.symm r5, List.forall_mem_cons.mpr ⟨Ne.symm r6, List.forall_mem_cons.mpr ⟨by k_ne, List.forall_mem_cons.mpr ⟨by k_ne, List.forall_mem_cons.mpr ⟨by k_ne, List.forall_mem_cons.mpr ⟨by k_ne, tbn_neAll (by walk_at "mine alt")⟩⟩⟩⟩⟩⟩⟩
    clear r1 r2 r3 r4 r5 r6
    k_dflt (refine' write_c ?zB F2 ?zX ?zT ?zhk ?zhdp ?zhun (kst_newsOf N2 ?zsub) cK lok dK lokp ?zn0 ?zn1 ?zn2 ?zn3 ?zn4 ?zm1 ?zm2 ?zm3 ?zm4 hrk hrp ?zhz ?zhz2 hl1 z1 ?zhA ?zhB)
    case zB => k_asm
    case zX => k_asm
    case zT => k_asm
    case zhk => rfl
    case zhdp => exact Nat.le_of_ble_eq_true rfl
    case zhun => exact Nat.le_of_ble_eq_true rfl
    case zsub => walk_at "mine sub"
    case zhz => exact Nat.zero_le _
    case zhz2 => exact Nat.zero_le _
    case zn0 => k_ne
    case zn1 => k_ne
    case zn2 => k_ne
    case zn3 => k_ne
    case zn4 => k_ne
    case zm1 => k_ne
    case zm2 => k_ne
    case zm3 => k_ne
    case zm4 => k_ne
    case zhA => exact fun e => absurd e Bool.false_ne_true
    case zhB =>
      intro e ok1 okp1 T1 b3 tt h13 tk13 F3 N3 cK1 dK1 lt1 t'
      rw [cget_z, kv1] at dK1
      rw [cget_z]
      rw [hput_z] at cK1
      have i1 : @LT.lt Nat _ I T1 := lt1 (I, oI) (by k_mem)
      have i2 : @LT.lt Nat _ C T1 := lt1 (C, oC) (by k_mem)
      have i3 : @LT.lt Nat _ D T1 := lt1 (D, LCg.lst []) (by k_mem)
      have i4 : @LT.lt Nat _ k T1 := lt1 (k, ok) (by k_mem)
      have i5 : @LT.lt Nat _ kp T1 := lt1 (kp, okp) (by k_mem)
      clear F2 N2 cK dK e z1 hrk hrp
      show LCg.CompEnd _ _ _ _ _ _ _ _ _ _ _ _ _ _
      refine' ⟨h13, tk13, (T1, tupB b3 a1 tt) :: (k, ok1) :: (kp, okp1) :: (st, instObj 356 dst) :: (dst, stDict w hs kp _ _) :: (hs, instObj 208 dh) :: (dh, hsDict w k _ _ _) :: (L0 + 1, oc) :: (V, listOf [Value.bytes a1.toArray t1, Value.bytes a2.toArray t2].toArray n) :: (d, od) :: (d2, od2) :: news, rfl, F3, kst_newsOf N3 ?zsub2, LCg.Off3.of ?zoff, .inr ?zmem, ?znext⟩
      case zsub2 => walk_at "mine sub"
      case zmem => exact ⟨listOf [Value.bytes a1.toArray t1, Value.bytes a2.toArray t2].toArray n, by k_mem, rfl, n, rfl⟩
      case zoff =>
        have old : ∀ p ∈ news, p.1 ≠ I ∧ p.1 ≠ C ∧ p.1 ≠ D := fun p hp => offM p (by repeat (first | exact hp | refine List.Mem.tail _ ?_))
        have q1 := offM (k, ok) (by k_mem)
        have q2 := offM (kp, okp) (by k_mem)
        refine List.forall_mem_cons.mpr ⟨⟨by k_ne, by k_ne, by k_ne⟩, List.forall_mem_cons.mpr ⟨q1, List.forall_mem_cons.mpr ⟨q2, ?_⟩⟩⟩
        repeat (first | exact old | refine List.forall_mem_cons.mpr ⟨offM (_, _) (by k_mem), ?_⟩)
      case znext =>
        clear N3 F3 offM i1 i2 i3 lt1
        dsimp only
        refine LCg.CompRest.succ ?_
        intro v2 I2 oI2 C2 oC2 D2 mB2 h14 tk14 E2 hv2 hCo2 hx2 F4 N4 off2 ne2
        lcg_open hv2
        have offM := off2.mem
        clear off2 ne2
        walk_at "mine upto"
        have z2 : One12 (cget (hput [(blobOf a1, 1)] (blobOf a2)) (blobOf a2)) := by
          by_cases hab : a1 = a2
          · left; rw [hab]; exact cget_s _
          · right; exact cget_d fun q => hab (blobOf_inj hl1 hl2 q)
        obtain ⟨q1, q2, q3⟩ := offM (k, ok1) (by k_mem)
        have hrk : ∀ q ∈ (I2, oI2) :: (C2, oC2) :: (D2, LCg.lst ([] ++ [Value.bytes (be4 1).toArray t'])) :: (T1, tupB b3 a1 tt) :: (L0 + 1, oc) :: (V, listOf [Value.bytes a1.toArray t1, Value.bytes a2.toArray t2].toArray n) :: (d, od) :: (d2, od2) :: news, q.1 ≠ k :=
          List.forall_mem_cons.mpr ⟨Ne.symm q1, List.forall_mem_cons.mpr ⟨Ne.symm q2, List.forall_mem_cons.mpr ⟨Ne.symm q3, List.forall_mem_cons.mpr ⟨by k_ne, List.forall_mem_cons.mpr ⟨by k_ne, List.forall_mem_cons.mpr ⟨by k_ne, List.forall_mem_cons.mpr ⟨by k_ne, List.forall_mem_cons.mpr ⟨by k_ne, tbn_neAll (by walk_at "mine alt")⟩⟩⟩⟩⟩⟩⟩⟩
        clear q1 q2 q3
        obtain ⟨q1, q2, q3⟩ := offM (kp, okp1) (by k_mem)
        have hrp : ∀ q ∈ (I2, oI2) :: (C2, oC2) :: (D2, LCg.lst ([] ++ [Value.bytes (be4 1).toArray t'])) :: (T1, tupB b3 a1 tt) :: (L0 + 1, oc) :: (V, listOf [Value.bytes a1.toArray t1, Value.bytes a2.toArray t2].toArray n) :: (d, od) :: (d2, od2) :: news, q.1 ≠ kp :=
          List.forall_mem_cons.mpr ⟨Ne.symm q1, List.forall_mem_cons.mpr ⟨Ne.symm q2, List.forall_mem_cons.mpr ⟨Ne.symm q3, List.forall_mem_cons.mpr ⟨by k_ne, List.forall_mem_cons.mpr ⟨by k_ne, List.forall_mem_cons.mpr ⟨by k_ne, List.forall_mem_cons.mpr ⟨by k_ne, List.forall_mem_cons.mpr ⟨by k_ne, tbn_neAll (by walk_at "mine alt")⟩⟩⟩⟩⟩⟩⟩⟩
        clear q1 q2 q3
        k_dflt (refine' write_c ?zB F4 ?zX ?zT ?zhk ?zhdp ?zhun (kst_newsOf N4 ?zsub) cK1 lok dK1 lokp ?zn0 ?zn1 ?zn2 ?zn3 ?zn4 ?zm1 ?zm2 ?zm3 ?zm4 hrk hrp ?zhz ?zhz2 hl2 z2 ?zhA ?zhB)
        case zB => k_asm
        case zX => k_asm
        case zT => k_asm
        case zhk => rfl
        case zhdp => exact Nat.le_of_ble_eq_true rfl
        case zhun => exact Nat.le_of_ble_eq_true rfl
        case zsub => walk_at "mine sub"
        case zhz => exact Nat.le_of_ble_eq_true rfl
        case zhz2 => exact Nat.le_of_ble_eq_true rfl
        case zn0 => k_ne
        case zn1 => k_ne
        case zn2 => k_ne
        case zn3 => k_ne
        case zn4 => k_ne
        case zm1 => k_ne
        case zm2 => k_ne
        case zm3 => k_ne
        case zm4 => k_ne
        case zhA =>
          intro e ok2 t6 h15 tk15 F5 N5 cK2
          have hab : a1 = a2 := Classical.byContradiction fun hab => by
            rw [cget_d fun q => hab (blobOf_inj hl1 hl2 q)] at e
            simp [valueAt, be4_ne] at e
          rw [show cget (hput [(blobOf a1, 1)] (blobOf a2)) (blobOf a2) = 1 by rw [hab]; exact cget_s _]
          show LCg.CompEnd _ _ _ _ _ _ _ _ _ _ _ _ _ _
          refine' ⟨h15, tk15, (T1, tupB b3 a1 tt) :: (k, ok2) :: (kp, okp1) :: (st, instObj 356 dst) :: (dst, stDict w hs kp _ _) :: (hs, instObj 208 dh) :: (dh, hsDict w k _ _ _) :: (L0 + 1, oc) :: (V, listOf [Value.bytes a1.toArray t1, Value.bytes a2.toArray t2].toArray n) :: (d, od) :: (d2, od2) :: news, rfl, F5, kst_newsOf N5 ?zsub2, LCg.Off3.of ?zoff, .inr ?zmem, LCg.CompRest.zero ?znext⟩
          case zsub2 => walk_at "mine sub"
          case zmem => exact ⟨listOf [Value.bytes a1.toArray t1, Value.bytes a2.toArray t2].toArray n, by k_mem, rfl, n, rfl⟩
          case zoff =>
            have old : ∀ p ∈ news, p.1 ≠ I2 ∧ p.1 ≠ C2 ∧ p.1 ≠ D2 := fun p hp => offM p (by repeat (first | exact hp | refine List.Mem.tail _ ?_))
            have q1 := offM (k, ok1) (by k_mem)
            have q3 := offM (T1, tupB b3 a1 tt) (by k_mem)
            refine List.forall_mem_cons.mpr ⟨q3, List.forall_mem_cons.mpr ⟨q1, ?_⟩⟩
            repeat (first | exact old | refine List.forall_mem_cons.mpr ⟨offM (_, _) (by k_mem), ?_⟩)
          case znext =>
            intro D9 h9 tk9 F9 N9 o9
            exact hQm h9 tk9 ⟨_, [(be4 1, .ref T1)], T1, T1, D9, okp1, _, _, _, _, _, _, _, _, _, _, F9, has5 rfl rfl rfl rfl rfl, kst_newsOf N9 (by rw [← hab]; walk_at "mine sub"), dK1, by simp [valueAt], by simp [valueAt], ⟨fun _ => hab, fun _ => rfl⟩⟩
        case zhB =>
          intro e ok2 okp2 T2 b5 t6 h15 tk15 F5 N5 cK2 dK2 lt2 t7
          have hab : a1 ≠ a2 := fun hab => by
            rw [← hab, cget_s] at e
            simp [valueAt] at e
          have hnb : blobOf a1 ≠ blobOf a2 := fun q => hab (blobOf_inj hl1 hl2 q)
          rw [cget_d hnb] at dK2
          rw [cget_d hnb]
          have j1 : @LT.lt Nat _ I2 T2 := lt2 (I2, oI2) (by k_mem)
          have j2 : @LT.lt Nat _ C2 T2 := lt2 (C2, oC2) (by k_mem)
          have j3 : @LT.lt Nat _ D2 T2 := lt2 (D2, _) (by k_mem)
          show LCg.CompEnd _ _ _ _ _ _ _ _ _ _ _ _ _ _
          refine' ⟨h15, tk15, (T2, tupB b5 a2 t6) :: (T1, tupB b3 a1 tt) :: (k, ok2) :: (kp, okp2) :: (st, instObj 356 dst) :: (dst, stDict w hs kp _ _) :: (hs, instObj 208 dh) :: (dh, hsDict w k _ _ _) :: (L0 + 1, oc) :: (V, listOf [Value.bytes a1.toArray t1, Value.bytes a2.toArray t2].toArray n) :: (d, od) :: (d2, od2) :: news, rfl, F5, kst_newsOf N5 ?zsub2, LCg.Off3.of ?zoff, .inr ?zmem, LCg.CompRest.zero ?znext⟩
          case zsub2 => walk_at "mine sub"
          case zmem => exact ⟨listOf [Value.bytes a1.toArray t1, Value.bytes a2.toArray t2].toArray n, by k_mem, rfl, n, rfl⟩
          case zoff =>
            have old : ∀ p ∈ news, p.1 ≠ I2 ∧ p.1 ≠ C2 ∧ p.1 ≠ D2 := fun p hp => offM p (by repeat (first | exact hp | refine List.Mem.tail _ ?_))
            have q1 := offM (k, ok1) (by k_mem)
            have q2 := offM (kp, okp1) (by k_mem)
            have q3 := offM (T1, tupB b3 a1 tt) (by k_mem)
            refine List.forall_mem_cons.mpr ⟨⟨by k_ne, by k_ne, by k_ne⟩, List.forall_mem_cons.mpr ⟨q3, List.forall_mem_cons.mpr ⟨q1, List.forall_mem_cons.mpr ⟨q2, ?_⟩⟩⟩⟩
            repeat (first | exact old | refine List.forall_mem_cons.mpr ⟨offM (_, _) (by k_mem), ?_⟩)
          case znext =>
            intro D9 h9 tk9 F9 N9 o9
            exact hQm h9 tk9 ⟨_, stored [(be4 1, .ref T1)] (be4 2) (.ref T2), T1, T2, D9, okp2, _, _, _, _, _, _, _, _, _, _, F9, has5 rfl rfl rfl rfl rfl, kst_newsOf N9 (by walk_at "mine sub"), dK2, by rw [valueAt_stored_ne (fun q => be4_ne q.symm)]; simp [valueAt], valueAt_stored, ⟨fun q => absurd q.symm be4_ne, fun q => absurd q hab⟩⟩
  case zrest2 =>
    obtain ⟨m1, kvs, T1, T2, D, okp', n', b3, b4, b5, b6, i1, i2, s1, s3, id2, F5, hm1, N5, dK1, v1, v2, hid⟩ := hP
    replace F5 := kB_fr F5 hm1
    clear F1 N1 cK dK z1 kv1 hm0 hm1
    try dsimp only
    walk_at "mine leaf"
    rename_i ct dct hA0 lA lB gA LA hA1 BA XA TA hA2 bi hA3 obi lobi hso fso hio fio lbi hA4 FA NA TcA kXA hA5 F6 N6
    have dB : obi.IsDictOf (bytesKind prog w) [] := nil_kind _ hso
    obtain ⟨u1, u3, N7⟩ : ∃ u1 u3, News g0 L0 hA5 ((bi, obi) :: (ct, instObj 117 dct) :: (dct, ctDict w st bi u1 u3) :: (D, listOf [Value.bytes (be4 1).toArray i1, Value.bytes id2.toArray i2].toArray n') :: (T1, tupB b3 a1 b4) :: (T2, tupB b5 a2 b6) :: (kp, okp') :: (st, instObj 356 dst) :: (dst, stDict w hs kp s1 s3) :: (L0 + 1, oc) :: (V, listOf [Value.bytes a1.toArray t1, Value.bytes a2.toArray t2].toArray n) :: (d, od) :: (d2, od2) :: news) := ⟨_, _, N6⟩
    obtain ⟨m2, F6', hm2⟩ : ∃ m2, Fr g0 L0 hA5 m2 ∧ Has m2 [(Str.ofString "texts", Value.ref V), (Str.ofString "one", Value.ref d), (Str.ofString "other", Value.ref d2), (Str.ofString "least", Value.int least tl), (Str.ofString "ids", Value.ref D), (Str.ofString "contents", Value.ref ct)] := ⟨_, F6, has6 rfl rfl rfl rfl rfl rfl⟩
    replace F6 := kB_fr F6' hm2
    clear F6' N6 FA NA TcA kXA BA XA TA hso fso hio fio qk ek hm2
    have c1 := cutAll_total a1 64
    have c2 := cutAll_total a2 64
    obtain ⟨p1, p2'⟩ := c1
    obtain ⟨p3, p4'⟩ := c2
    have p2 : tot (cutAll a1 64) ≤ 900 := by omega
    have p4 : tot (cutAll a2 64) ≤ 900 := by omega
    have e1 := cutAll_le a1 64
    have e2 := cutAll_le a2 64
    clear p2' p4'
    refine leaf_cut (fun h' => ∃ m3 td, Fr g0 L0 h' m3 ∧ Has m3 [(Str.ofString "texts", Value.ref V), (Str.ofString "one", Value.ref d), (Str.ofString "other", Value.ref d2), (Str.ofString "least", Value.int least tl), (Str.ofString "ids", Value.ref D), (Str.ofString "contents", Value.ref ct), (Str.ofString "due", Value.int (like a1 a2) td)] ∧ News g0 L0 h' ((bi, obi) :: (ct, instObj 117 dct) :: (dct, ctDict w st bi u1 u3) :: (D, listOf [Value.bytes (be4 1).toArray i1, Value.bytes id2.toArray i2].toArray n') :: (T1, tupB b3 a1 b4) :: (T2, tupB b5 a2 b6) :: (kp, okp') :: (st, instObj 356 dst) :: (dst, stDict w hs kp s1 s3) :: (L0 + 1, oc) :: (V, listOf [Value.bytes a1.toArray t1, Value.bytes a2.toArray t2].toArray n) :: (d, od) :: (d2, od2) :: news)) (fun Qm hQm => ?zs4) (fun h' tk' hP => ?zr4)
    case zs4 =>
      walk_at "mine steps"
      · rw [show like a1 a2 = 100 from if_pos (show a1 = a2 from eq_of_beq (by assumption))] at hQm
        exact hQm _ _ ⟨_, _, by k_asm, has7 rfl rfl rfl rfl rfl rfl rfl, by k_asm⟩
      · rw [show like a1 a2 = _ from if_neg (fun e => by
          have q : (a1.toArray.toList == a2.toArray.toList) = false := by assumption
          rw [e] at q
          simp at q)] at hQm
        exact hQm _ _ ⟨_, _, by k_asm, has7 rfl rfl rfl rfl rfl rfl rfl, by k_asm⟩
    case zr4 =>
      obtain ⟨m3, td, F8, hm3, N8⟩ := hP
      replace F8 := kB_fr F8 hm3
      clear F6 N7 hm3
      refine wpC_execs_cons (wpC_If (wpC_isTrue_BoolOp (wpC_allTrue_Or_cons (wpC_isTrue_Compare1 (callName_c ?_)))))
      walk_at "mine steps"
      refine spl2_c (wpC_of_any ?_)
      walk_at "mine steps"
      refine wpC_of_any ?_
      walk_at "mine steps"
      · walk_at "mine keep"
      walk_at "mine like"
      refine wpC_of_any ?_
      walk_at "mine steps"
      · exact absurd rfl (by assumption : like a1 a2 ≠ like a1 a2)
      refine wpC_allTrue_Or_cons (wpC_isTrue_Compare1 (callName_c ?_))
      walk_at "mine steps"
      refine spl2_c (wpC_of_any ?_)
      walk_at "mine steps"
      refine wpC_of_any ?_
      walk_at "mine steps"
      · walk_at "mine keep"
      walk_at "mine like"
      rw [like_comm a2 a1]
      refine wpC_of_any ?_
      walk_at "mine steps"
      · exact absurd rfl (by assumption : like a1 a2 ≠ like a1 a2)
      refine wpC_allTrue_Or_nil ?_
      rw [if_neg Bool.false_ne_true]
      refine wpC_execs_nil ?_
      try dsimp only
      refine leaf_cut (fun h' => ∃ m4 S ta tb n6, Fr g0 L0 h' m4 ∧ Has m4 [(Str.ofString "texts", Value.ref V), (Str.ofString "one", Value.ref d), (Str.ofString "other", Value.ref d2), (Str.ofString "least", Value.int least tl), (Str.ofString "ids", Value.ref D), (Str.ofString "contents", Value.ref ct), (Str.ofString "due", Value.int (like a1 a2) td), (Str.ofString "sizes", Value.ref S)] ∧ News g0 L0 h' ((S, listOf [Value.int (mn (tot (cutAll a1 64)) (tot (cutAll a2 64))) ta, Value.int (mx (tot (cutAll a1 64)) (tot (cutAll a2 64))) tb].toArray n6) :: (bi, obi) :: (ct, instObj 117 dct) :: (dct, ctDict w st bi u1 u3) :: (D, listOf [Value.bytes (be4 1).toArray i1, Value.bytes id2.toArray i2].toArray n') :: (T1, tupB b3 a1 b4) :: (T2, tupB b5 a2 b6) :: (kp, okp') :: (st, instObj 356 dst) :: (dst, stDict w hs kp s1 s3) :: (L0 + 1, oc) :: (V, listOf [Value.bytes a1.toArray t1, Value.bytes a2.toArray t2].toArray n) :: (d, od) :: (d2, od2) :: news)) (fun Qm hQm => ?zs6) (fun h' tk' hP => ?zr6)
      case zs6 =>
        walk_at "mine steps"
        rename IntsAre _ (srt _) => hs6
        rw [srt2] at hs6
        obtain _ | ⟨_, ta, hs7⟩ := hs6
        obtain _ | ⟨_, tb, hs8⟩ := hs7
        cases hs8
        exact hQm _ _ ⟨_, _, _, _, _, by k_asm, has8 rfl rfl rfl rfl rfl rfl rfl rfl, kst_newsOf (by k_asm) (by walk_at "mine sub")⟩
      case zr6 =>
        obtain ⟨m4, S, ta, tb, n6, F10, hm4, N10⟩ := hP
        replace F10 := kB_fr F10 hm4
        clear hm4
        k_sweep
        try dsimp only
        refine leaf_cut (fun h' => ∃ m5 tq, Fr g0 L0 h' m5 ∧ Has m5 [(Str.ofString "texts", Value.ref V), (Str.ofString "one", Value.ref d), (Str.ofString "other", Value.ref d2), (Str.ofString "least", Value.int least tl), (Str.ofString "ids", Value.ref D), (Str.ofString "contents", Value.ref ct), (Str.ofString "told", Value.int (tellv least a1 a2) tq)] ∧ News g0 L0 h' ((bi, obi) :: (ct, instObj 117 dct) :: (dct, ctDict w st bi u1 u3) :: (D, listOf [Value.bytes (be4 1).toArray i1, Value.bytes id2.toArray i2].toArray n') :: (T1, tupB b3 a1 b4) :: (T2, tupB b5 a2 b6) :: (kp, okp') :: (st, instObj 356 dst) :: (dst, stDict w hs kp s1 s3) :: (L0 + 1, oc) :: (V, listOf [Value.bytes a1.toArray t1, Value.bytes a2.toArray t2].toArray n) :: (d, od) :: (d2, od2) :: news)) (fun Qm hQm => ?zs7) (fun h' tk' hP => ?zr7)
        case zs7 =>
          have g0 : 0 ≤ mx (tot (cutAll a1 64)) (tot (cutAll a2 64)) := by unfold mx; split <;> omega
          have g1 : mx (tot (cutAll a1 64)) (tot (cutAll a2 64)) ≤ 900 := by unfold mx; split <;> omega
          walk_at "mine steps"
          · rw [tellv_lt (bne_yes (by assumption)) (by assumption)] at hQm
            exact hQm _ _ ⟨_, _, by k_asm, has7 rfl rfl rfl rfl rfl rfl rfl, kst_newsOf (by k_asm) (by walk_at "mine sub")⟩
          · rw [tellv_ge (bne_yes (by assumption)) (by assumption)] at hQm
            exact hQm _ _ ⟨_, _, by k_asm, has7 rfl rfl rfl rfl rfl rfl rfl, kst_newsOf (by k_asm) (by walk_at "mine sub")⟩
          · rw [tellv_like (bne_no (by assumption))] at hQm
            exact hQm _ _ ⟨_, _, by k_asm, has7 rfl rfl rfl rfl rfl rfl rfl, kst_newsOf (by k_asm) (by walk_at "mine sub")⟩
        case zr7 =>
          obtain ⟨m5, tq, F12, hm5, N12⟩ := hP
          replace F12 := kB_fr F12 hm5
          clear F10 N10 hm5
          try dsimp only
          obtain ⟨l1, l2, l3, l4, l5, l6, l7, l8, l9, l10, l11, l12, l13⟩ := lbi
          by_cases hab : a1 = a2
          case pos =>
            have hi := hid.mpr hab
            subst hi
            rw [tellv_eq hab] at F12
            walk_at "mine leaf"
            try dsimp only
            refine wpC_execs_cons (wpC_Return_some (wpC_And2 (wpC_Compare1 (callMeth_c (wpC_of_any ?_)))))
            walk_at "mine steps"
            refine spl1_c (wpC_of_any ?_)
            walk_at "mine steps"
            · walk_at "mine keep"
            dsimp only [List.cons_append, List.nil_append]
            clear N12
            have N14 := kst_newsOf (l' := (bi, obi) :: (ct, instObj 117 dct) :: (dct, ctDict w st bi u1 u3) :: (st, instObj 356 dst) :: (dst, stDict w hs kp s1 s3) :: (kp, okp') :: (T1, tupB b3 a1 b4) :: (D, listOf [Value.bytes (be4 1).toArray i1, Value.bytes (be4 1).toArray i2].toArray n') :: (T2, tupB b5 a2 b6) :: (L0 + 1, oc) :: (V, listOf [Value.bytes a1.toArray t1, Value.bytes a2.toArray t2].toArray n) :: (d, od) :: (d2, od2) :: news) (by k_asm) (by walk_at "mine sub")
            have hr : ∀ q ∈ (D, listOf [Value.bytes (be4 1).toArray i1, Value.bytes (be4 1).toArray i2].toArray n') :: (T2, tupB b5 a2 b6) :: (L0 + 1, oc) :: (V, listOf [Value.bytes a1.toArray t1, Value.bytes a2.toArray t2].toArray n) :: (d, od) :: (d2, od2) :: news, q.1 ≠ bi :=
              List.forall_mem_cons.mpr ⟨Nat.ne_of_lt l3, List.forall_mem_cons.mpr ⟨Nat.ne_of_lt l5, List.forall_mem_cons.mpr ⟨Nat.ne_of_lt l9, List.forall_mem_cons.mpr ⟨Nat.ne_of_lt l10, List.forall_mem_cons.mpr ⟨Nat.ne_of_lt l11, List.forall_mem_cons.mpr ⟨Nat.ne_of_lt l12, tbn_neAll l13⟩⟩⟩⟩⟩⟩
            k_dflt (refine' tcsp_b ?zB ?zF ?zX ?zT ?zhk ?zhdp ?zhun N14 dB lobi (by rfl) ?zhz dK1 lokp v1 ?zhl (Ne.symm (Nat.ne_of_lt l1)) (Ne.symm (Nat.ne_of_lt l2)) (Ne.symm (Nat.ne_of_lt l7)) (Ne.symm (Nat.ne_of_lt l8)) (Ne.symm (Nat.ne_of_lt l6)) (Ne.symm (Nat.ne_of_lt l4)) hr ?_; (case zB => k_asm); (case zF => k_asm); (case zX => k_asm); (case zT => k_asm); (case zhk => exact rfl); (case zhdp => exact Nat.le_of_ble_eq_true rfl); (case zhun => exact Nat.le_of_ble_eq_true rfl); (case zhz => exact Nat.zero_le _); (case zhl => omega))
            intro x dx cc j1 j2 j3 oy obi1 h5 tk5 F15 N15 S1 hd1 k1 k2 k3
            clear N14 F12 k1 k2 k3 S1
            have vx := valueAt_stored (kvs := ([] : List (List UInt8 × Value))) (k := be4 1) (v := .ref x)
            k_sweep
            try dsimp only
            refine wpC_of_any ?_
            walk_at "mine steps"
            refine wpC_of_any ?_
            walk_at "mine steps"
            refine wpC_of_any ?_
            walk_at "mine steps"
            have e : (tot (cutAll a1 64) == tot (cutAll a1 64)) = true := beq_self_eq_true _
            rw [e]
            exact h _ _ (by k_asm) (kst_newsOf (by k_asm) (by walk_at "mine sub"))
          case neg =>
            rw [tellv_ne hab] at F12
            have hne : be4 1 ≠ id2 := fun q => hab (hid.mp q.symm)
            clear hid
            refine wpC_execs_cons (wpC_If (wpC_isTrue_BoolOp (wpC_allTrue_Or_cons (wpC_isTrue_Compare1 (callMeth_c (wpC_of_any ?_))))))
            walk_at "mine steps"
            refine spl3_c (wpC_of_any ?_)
            walk_at "mine steps"
            refine wpC_of_any ?_
            walk_at "mine steps"
            refine wpC_of_any ?_
            walk_at "mine steps"
            · walk_at "mine keep"
            dsimp only [List.cons_append, List.nil_append]
            have N14 := kst_newsOf (l' := (bi, obi) :: (ct, instObj 117 dct) :: (dct, ctDict w st bi u1 u3) :: (st, instObj 356 dst) :: (dst, stDict w hs kp s1 s3) :: (kp, okp') :: (T1, tupB b3 a1 b4) :: (T2, tupB b5 a2 b6) :: (D, listOf [Value.bytes (be4 1).toArray i1, Value.bytes id2.toArray i2].toArray n') :: (L0 + 1, oc) :: (V, listOf [Value.bytes a1.toArray t1, Value.bytes a2.toArray t2].toArray n) :: (d, od) :: (d2, od2) :: news) N12 (by walk_at "mine sub")
            have hr : ∀ q ∈ (D, listOf [Value.bytes (be4 1).toArray i1, Value.bytes id2.toArray i2].toArray n') :: (L0 + 1, oc) :: (V, listOf [Value.bytes a1.toArray t1, Value.bytes a2.toArray t2].toArray n) :: (d, od) :: (d2, od2) :: news, q.1 ≠ bi :=
              List.forall_mem_cons.mpr ⟨Nat.ne_of_lt l3, List.forall_mem_cons.mpr ⟨Nat.ne_of_lt l9, List.forall_mem_cons.mpr ⟨Nat.ne_of_lt l10, List.forall_mem_cons.mpr ⟨Nat.ne_of_lt l11, List.forall_mem_cons.mpr ⟨Nat.ne_of_lt l12, tbn_neAll l13⟩⟩⟩⟩⟩
            k_dflt (refine' pc_new ?zB ?zF ?zX ?zT ?zhk ?zhdp ?zhun N14 dB lobi (by rfl) (by rfl) hne ?zhz dK1 lokp v1 v2 ?zhl ?zhl2 (Ne.symm (Nat.ne_of_lt l1)) (Ne.symm (Nat.ne_of_lt l2)) (Ne.symm (Nat.ne_of_lt l7)) (Ne.symm (Nat.ne_of_lt l8)) (Ne.symm (Nat.ne_of_lt l6)) (Ne.symm (Nat.ne_of_lt l4)) (Ne.symm (Nat.ne_of_lt l5)) hr ?_; (case zB => k_asm); (case zF => k_asm); (case zX => k_asm); (case zT => k_asm); (case zhk => exact rfl); (case zhdp => exact Nat.le_of_ble_eq_true rfl); (case zhun => exact Nat.le_of_ble_eq_true rfl); (case zhz => exact Nat.zero_le _); (case zhl => omega); (case zhl2 => omega))
            intro x y sx obi1 h5 tk5 tz F15 N15 S1 S2 hd1
            have vx : valueAt (stored (stored [] (be4 1) (.ref x)) id2 (.ref y)) (be4 1) = some (.ref x) := by rw [valueAt_stored_ne hne.symm]; exact valueAt_stored
            have vy : valueAt (stored (stored [] (be4 1) (.ref x)) id2 (.ref y)) id2 = some (.ref y) := valueAt_stored
            obtain ⟨dx, cx, ox, x1, x2, x3, hx, hdx, hcx, hqx, lox⟩ := S1
            obtain ⟨dy, cy, oy, y1, y2, y3, hy, hdy, hcy, hqy, loy⟩ := S2
            have N16 := kst_newsOf (l' := (x, instObj 75 dx) :: (dx, spDict w (tot (cutAll a1 64)) cx x1 x2 x3) :: (cx, ox) :: (y, instObj 75 dy) :: (dy, spDict w (tot (cutAll a2 64)) cy y1 y2 y3) :: (cy, oy) :: (bi, obi1) :: (ct, instObj 117 dct) :: (dct, ctDict w st bi u1 u3) :: (st, instObj 356 dst) :: (dst, stDict w hs kp s1 s3) :: (kp, okp') :: (T1, tupB b3 a1 b4) :: (T2, tupB b5 a2 b6) :: (D, listOf [Value.bytes (be4 1).toArray i1, Value.bytes id2.toArray i2].toArray n') :: (L0 + 1, oc) :: (V, listOf [Value.bytes a1.toArray t1, Value.bytes a2.toArray t2].toArray n) :: (d, od) :: (d2, od2) :: news) N15 (List.forall_mem_cons.mpr ⟨List.mem_append_left _ hx, List.forall_mem_cons.mpr ⟨List.mem_append_left _ hdx, List.forall_mem_cons.mpr ⟨List.mem_append_left _ hcx, List.forall_mem_cons.mpr ⟨List.mem_append_left _ hy, List.forall_mem_cons.mpr ⟨List.mem_append_left _ hdy, List.forall_mem_cons.mpr ⟨List.mem_append_left _ hcy, fun p hp => List.mem_append_right _ hp⟩⟩⟩⟩⟩⟩)
            have S1 : SpAt prog w ((x, instObj 75 dx) :: (dx, spDict w (tot (cutAll a1 64)) cx x1 x2 x3) :: (cx, ox) :: []) x (cutAll a1 64) := ⟨dx, cx, ox, x1, x2, x3, by k_mem, by k_mem, by k_mem, hqx, lox⟩
            have S2 : SpAt prog w ((y, instObj 75 dy) :: (dy, spDict w (tot (cutAll a2 64)) cy y1 y2 y3) :: (cy, oy) :: []) y (cutAll a2 64) := ⟨dy, cy, oy, y1, y2, y3, by k_mem, by k_mem, by k_mem, hqy, loy⟩
            clear hx hdx hcx hqx lox hy hdy hcy hqy loy N15 N14 F12 hr N12
            have hne2 := hne.symm
            try dsimp only
            refine wpC_of_any ?_
            walk_at "mine steps"
            refine wpC_of_any ?_
            walk_at "mine steps"
            · exact absurd rfl (by assumption : told least (cutAll a1 64) (cutAll a2 64) ≠ told least (cutAll a1 64) (cutAll a2 64))
            refine wpC_allTrue_Or_cons (wpC_of_any ?_)
            walk_at "mine steps"
            · exact absurd (told_comm least a2 a1) (by assumption)
            refine wpC_allTrue_Or_nil ?_
            rw [if_neg Bool.false_ne_true]
            refine wpC_execs_nil ?_
            try dsimp only
            walk_at "mine leaf"
            have e : (tot (cutAll a1 64) == tot (cutAll a1 64)) = true := beq_self_eq_true _
            rw [e]
            exact h _ _ (by k_asm) (kst_newsOf (by k_asm) (by walk_at "mine sub"))

local macro_rules | `(tactic| walk_at "getMethod bytes") => `(tactic| (k_here; (with_reducible show wpAny _ _ (getMethod (Value.bytes _ _) (Str.ofString "join") _) _ _ _); refine FJ.join_method ?_; (try dsimp only)))
local macro_rules | `(tactic| walk_at "call builtin:bytes.join") => `(tactic| (k_here; (with_reducible show wpAny _ _ (call (Value.builtin "bytes.join") [Value.bytes _ _, Value.ref _]) _ _ _); k_dflt (refine' FJ.call_join (listAt ?N ?m) ?b ?z ?_; (case N => k_asm); (case m => k_mem); (case b => with_reducible assumption); (case z => exact small_fits (by with_reducible assumption) (by with_reducible assumption) (by decide))); intro _ _; (try dsimp only)))
local macro_rules | `(tactic| walk_at "subscriptTail Name Slice ref ref") => `(tactic| (k_here; (with_reducible show wpAny _ _ (subscriptTail _ (PySem.Expr.Slice none (some _) none _) (Value.ref _) (Value.ref _)) _ _ _); k_dflt (refine' slice_upto ?F ?N ?l ?i ?y ?z ?_ ?s ?t; walk_at "m2"; (case l | i => with_reducible assumption); (case y => decide); (case z => with_reducible assumption); walk_at "m3"); intro D' ws' h' F' N' l1 i1; (try k_lt l1); (try dsimp only)))
set_option maxRecDepth 100000 in
set_option maxHeartbeats 8000000 in
theorem law_holds : PySem.Challenge.rw_pq0518_01.Holds := by
  refine hd ⟨top_left _ _, ?_⟩
  intro w s₀ s₁ mg mb G Y fa o pm cd doc dV kV ho hd hcd hD hmg hg args vals as hpre hlay hrd hwl hlo
  have KX := kIn_of Y
  have X := (Ground.X G).1
  have V := (Ground.X G).2
  refine Ground.open G ?_
  intro T B D TE TW
  try (refine guard_noD D (by decide +kernel) ?_; clear D)
  obtain ⟨_, _, M⟩ := bmod_of_top T
  have TA := at_of_top T
  try (obtain ⟨_, _, he, B0⟩ := based_of_top T rfl hmg ho hd; have he' : cd = _ := he; subst he'; clear he)
  clear hmg
  wrow_args hpre hlay hrd hwl hlo
  rename_i c0 e0 c1 e1 sc hs0 hly0 hly1 hha0 hla0 as0 as1 SL vsc as2 hSL hra0 hwe hr0 hIA hra1 hlen hcnd
  refine any_looked ?_ ?zout
  case zout =>
    refine says_true hg (raisesW_false ?_) ?_
    · wrow_none_raised
    · wrow_post
  refine wpC_call ?_
  have K0 : Below callerA s₁.heap [] s₁.heap := below_caller (Top.heap T)
  have he := Dflts.none hD rfl
  subst he
  have he := Dflts.noKw hD
  subst he
  refine top_cells (binds := [(Str.ofString "script", Value.ref SL)]) (by decide) ho (fd_plain hd) (Top.nolimit T) hcd rfl (by rfl) (by decide) fun L0 h₁ tk₁ cells F N0 X0 => ?_
  clear hd hD TA G Y X V M TE TW B B0 ho hcd hly0 hly1 hha0 hla0 hra0 hwe hr0 hra1 hcnd hs0
  k_cells X0
  rename_i oc dc
  refine wpC_hide (h₀ := s₁.heap) (L := L0) ?zfin fun Qo hQ => ?_
  case zfin =>
    intro h' tk' m' F'
    show GoodWG _ _ _ _ _ (.ok (.ret (.bool true))) _
    refine GoodW.toG ?_
    refine goodW_bool F' hg (raisesW_false ?_) ?_
    · wrow_none_raised
    · wrow_post
  obtain ⟨m0, F', hm0⟩ : ∃ m0, Fr s₁.heap L0 h₁ m0 ∧ Has m0 [(Str.ofString "script", Value.ref SL)] := ⟨_, F, has1 rfl⟩
  replace F := kB_fr F' hm0
  clear F' hm0
  dsimp only at F N0 dc ⊢
  replace dc : oc.data = .cell none := dc
  have hlen2 : vsc.length ≤ 1000 := by rw [hIA.length]; omega
  clear hg
  generalize PySem.Challenge.rw_pq0518_01.row.prog = prog
  generalize Mine.vw = vw at T
  generalize looseW vw _ = loose at T
  generalize ExcName.means s₀.heap = mean at T
  refine leaf_cut (fun h' => ∃ m1 P C oP oC, Fr s₁.heap L0 h' m1 ∧ Has m1 [(Str.ofString "pen", Value.ref P)] ∧ News s₁.heap L0 h' [(P, oP), (C, oC), (L0 + 1, oc)] ∧ PenOk prog w C 0 oP oC ∧ @Ne Nat P C ∧ @LT.lt Nat _ (L0 + 1) P ∧ @Ne Nat C (L0 + 1)) (fun Qm hQm => ?zs1) (fun h' tk' hP => ?zr1)
  case zs1 =>
    walk_at "mine steps"
    rename_i i1 l1 k1 k2 g1 ys i2 l2 D1 h2 tk2 o1 h3 oP hD h4 F4 N4
    refine hQm _ _ ⟨_, _, _, _, _, F4, has1 rfl, kst_newsOf N4 (by walk_at "mine sub"), PenOk.of hD rfl i2 ?_ (Int.le_refl _) (Int.le_refl _) (Int.le_refl _), by k_ne, by omega, Ne.symm o1.2.2⟩
    rw [l2, List.length_map, List.length_take]
    exact Nat.min_le_left _ _
  case zr1 =>
    obtain ⟨m1, P, C, oP, oC, F1, hm1, N1, hp1, ne1, ne2, ne3⟩ := hP
    replace F1 := kB_fr F1 hm1
    clear F N0 hm1 hSL hIA
    try dsimp only
    refine leaf_cut (fun h' => ∃ m2 oP oC oc z tz, Fr s₁.heap L0 h' m2 ∧ Has m2 [(Str.ofString "pen", Value.ref P)] ∧ News s₁.heap L0 h' [(P, oP), (C, oC), (L0 + 1, oc)] ∧ PenOk prog w C 1 oP oC ∧ oc.data = .cell (some (.int z tz)) ∧ (z = 1 ∨ z = 2 ∨ z = 3 ∨ z = 64)) (fun Qm hQm => ?zs2) (fun h' tk' hP => ?zr2)
    case zs2 =>
      walk_at "mine steps"
      exact hQm _ _ ⟨_, _, _, _, _, _, by k_asm, has1 rfl, kst_newsOf (by k_asm) (by walk_at "mine sub"), by assumption, by assumption, menu4 (by assumption) (by assumption)⟩
    case zr2 =>
      obtain ⟨m2, oP2, oC2, oc2, z, tz, F2, hm2, N2, hp2, dc2, hz⟩ := hP
      replace F2 := kB_fr F2 hm2
      clear F1 N1 hm2 hp1 dc
      try dsimp only
      refine leaf_cut (fun h' => ∃ m3 oP oC R vs bs n, Fr s₁.heap L0 h' m3 ∧ Has m3 [(Str.ofString "pen", Value.ref P), (Str.ofString "pieces", Value.ref R)] ∧ News s₁.heap L0 h' [(R, listOf vs.toArray n), (P, oP), (C, oC), (L0 + 1, oc2)] ∧ PenOk prog w C 13 oP oC ∧ BytesAre vs bs ∧ bs.length ≤ 10 ∧ Small3 bs ∧ @LT.lt Nat _ P R ∧ @LT.lt Nat _ C R ∧ @LT.lt Nat _ (L0 + 1) R) (fun Qm hQm => ?zs3) (fun h' tk' hP => ?zr3)
      case zs3 =>
        walk_at "mine steps"
        exact hQm _ _ ⟨_, _, _, _, _, _, _, by k_asm, has2 rfl rfl, kst_newsOf (by k_asm) (by walk_at "mine sub"), by assumption, by assumption, by assumption, by assumption, (by assumption : _ ∧ _ ∧ _)⟩
      case zr3 =>
        obtain ⟨m3, oP3, oC3, R, vs, bs, n, F3, hm3, N3, hp3, hb, hbl, hbs, lR⟩ := hP
        replace F3 := kB_fr F3 hm3
        clear F2 N2 hm3 hp2
        try dsimp only
        refine leaf_cut (fun h' => ∃ (m4 : Str → Option Value) (oP oC : Obj) (V : Addr) (x1 x2 : List UInt8) (t1 t2 : Tok) (n : Nat), Fr s₁.heap L0 h' m4 ∧ Has m4 [(Str.ofString "pen", Value.ref P), (Str.ofString "texts", Value.ref V)] ∧ News s₁.heap L0 h' [(V, listOf [Value.bytes x1.toArray t1, Value.bytes x2.toArray t2].toArray n), (P, oP), (C, oC), (L0 + 1, oc2)] ∧ PenOk prog w C 26 oP oC ∧ x1.length ≤ 33 ∧ x2.length ≤ 33 ∧ @LT.lt Nat _ P V ∧ @LT.lt Nat _ C V ∧ @LT.lt Nat _ (L0 + 1) V) (fun Qm hQm => ?zs4) (fun h' tk' hP => ?zr4)
        case zs4 =>
          walk_at "mine steps"
          have f1 := small_flat hbs
          rename_i bs' _ _ _ _ _ _ _ hl' hs' hp' _ _ _ _ _ lV _ _ _
          have f2 := small_flat hs'
          exact hQm _ _ ⟨_, _, _, _, _, _, _, _, _, by k_asm, has2 rfl rfl, kst_newsOf (by k_asm) (by walk_at "mine sub"), hp', by omega, by omega, lV.2.2⟩
        case zr4 =>
          obtain ⟨m4, oP4, oC4, V, x1, x2, t1, t2, n4, F4, hm4, N4, hp4, z1, z2, lV⟩ := hP
          replace F4 := kB_fr F4 hm4
          clear F3 N3 hm4 hp3
          try dsimp only
          refine leaf_cut (fun h' => ∃ (m5 : Str → Option Value) (d d2 : Addr) (od od2 : Obj), Fr s₁.heap L0 h' m5 ∧ Has m5 [(Str.ofString "pen", Value.ref P), (Str.ofString "texts", Value.ref V), (Str.ofString "one", Value.ref d), (Str.ofString "other", Value.ref d2)] ∧ News s₁.heap L0 h' [(d, od), (d2, od2), (V, listOf [Value.bytes x1.toArray t1, Value.bytes x2.toArray t2].toArray n4), (P, oP4), (C, oC4), (L0 + 1, oc2)] ∧ Cnt prog w od (cutAll x1 z) ∧ Cnt prog w od2 (cutAll x2 z) ∧ (d == sysModules) = false ∧ (d2 == sysModules) = false ∧ @LT.lt Nat _ P d ∧ @LT.lt Nat _ C d ∧ @LT.lt Nat _ V d ∧ @LT.lt Nat _ (L0 + 1) d ∧ @LT.lt Nat _ d d2) (fun Qm hQm => ?zs5) (fun h' tk' hP => ?zr5)
          case zs5 =>
            walk_at "mine steps"
            rename_i d1 o1 ha tka c1 lo1 la d2 o2 hb2 tkb c2 lo2 lb D hc lc hd he hf F5 N5
            simp only [AllLt] at la lb
            exact hQm _ _ ⟨_, d1, d2, o1, o2, F5, has4 rfl rfl rfl rfl, kst_newsOf N5 (by walk_at "mine sub"), c1, c2, lo1, lo2, la.2.1, la.2.2.1, la.1, la.2.2.2.1, lb.1⟩
          case zr5 =>
            obtain ⟨m5, d, d2, od, od2, F5, hm5, N5, c1, c2, lo1, lo2, k1, k2, k3, k4, k5⟩ := hP
            replace F5 := kB_fr F5 hm5
            clear F4 N4 hm5
            try dsimp only
            refine stmt_cut (fun h' => ∃ (m6 : Str → Option Value) (x dx cx y dy cy : Addr) (i1 i2 i3 j1 j2 j3 : Tok) (ox oy : Obj), Fr s₁.heap L0 h' m6 ∧ Has m6 [(Str.ofString "pen", Value.ref P), (Str.ofString "texts", Value.ref V), (Str.ofString "one", Value.ref d), (Str.ofString "other", Value.ref d2), (Str.ofString "near", Value.ref x), (Str.ofString "far", Value.ref y)] ∧ News s₁.heap L0 h' [(dy, spDict w (tot (cutAll x2 z)) cy j1 j2 j3), (cy, oy), (y, instObj 75 dy), (dx, spDict w (tot (cutAll x1 z)) cx i1 i2 i3), (cx, ox), (x, instObj 75 dx), (d, od), (d2, od2), (V, listOf [Value.bytes x1.toArray t1, Value.bytes x2.toArray t2].toArray n4), (P, oP4), (C, oC4), (L0 + 1, oc2)] ∧ SpAt prog w [(dx, spDict w (tot (cutAll x1 z)) cx i1 i2 i3), (cx, ox), (x, instObj 75 dx)] x (cutAll x1 z) ∧ SpAt prog w [(dy, spDict w (tot (cutAll x2 z)) cy j1 j2 j3), (cy, oy), (y, instObj 75 dy)] y (cutAll x2 z) ∧ @LT.lt Nat _ d2 dx ∧ @LT.lt Nat _ dx x ∧ @LT.lt Nat _ x cx ∧ @LT.lt Nat _ cx dy ∧ @LT.lt Nat _ dy y ∧ @LT.lt Nat _ y cy) (fun Qm hQm => ?zs6) (fun h' tk' hP => ?zr6)
            case zs6 =>
              refine wpC_Assign_Tuple (list_c (cl := [(Str.ofString "longest", L0 + 1)]) (V := V) (n := n4) (vs := [Value.bytes x1.toArray t1, Value.bytes x2.toArray t2]) F5 N5 (by k_mem) (by rfl) (Nat.le_of_ble_eq_true rfl) ?zhi ?zhclos ?zhcell ?zhkind ?zhnames ?zhx ?zR)
              case zhi =>
                intro Qv hQv
                walk_at "mine steps"
                exact hQv
              case zhclos => with_unfolding_all rfl
              case zhcell => decide
              case zhkind => rfl
              case zhnames => decide
              case zhx => rfl
              case zR =>
                intro I oI C1 oC1 D m₂ h6 tk6 Qe hoC hmx F6 N6 off ne hQe
                have offM := off.mem
                clear off ne F5 N5
                have key : ∀ (x dx cx : Addr) (i1 i2 i3 : Tok) (ox : Obj) (h7 : Heap) (tk7 : Nat), Fr s₁.heap L0 h7 (kstB m5 [(Str.ofString "pen", Value.ref P), (Str.ofString "texts", Value.ref V), (Str.ofString "one", Value.ref d), (Str.ofString "other", Value.ref d2)]) → News s₁.heap L0 h7 ((dx, spDict w (tot (cutAll x1 z)) cx i1 i2 i3) :: (cx, ox) :: (x, instObj 75 dx) :: (I, oI) :: (C1, oC1) :: (D, LCg.lst []) :: (d, od) :: (d2, od2) :: (V, listOf [Value.bytes x1.toArray t1, Value.bytes x2.toArray t2].toArray n4) :: (P, oP4) :: (C, oC4) :: (L0 + 1, oc2) :: []) → SpAt prog w [(dx, spDict w (tot (cutAll x1 z)) cx i1 i2 i3), (cx, ox), (x, instObj 75 dx)] x (cutAll x1 z) → @LT.lt Nat _ dx x → @LT.lt Nat _ x cx → AllLt dx ((I, oI) :: (C1, oC1) :: (D, LCg.lst []) :: (d, od) :: (d2, od2) :: (V, listOf [Value.bytes x1.toArray t1, Value.bytes x2.toArray t2].toArray n4) :: (P, oP4) :: (C, oC4) :: (L0 + 1, oc2) :: []) → Qe (.ref x) { s₁ with heap := h7, toks := tk7 } := by
                  intro x dx cx i1 i2 i3 ox h7 tk7 F7 N7 S7 l1 l2 l3
                  simp only [AllLt] at l3
                  obtain ⟨q1, q2, q3, q4, q5, -⟩ := l3
                  refine hQe (.ref x) h7 tk7 ((dx, spDict w (tot (cutAll x1 z)) cx i1 i2 i3) :: (cx, ox) :: (x, instObj 75 dx) :: (d, od) :: (d2, od2) :: (V, listOf [Value.bytes x1.toArray t1, Value.bytes x2.toArray t2].toArray n4) :: (P, oP4) :: (C, oC4) :: (L0 + 1, oc2) :: []) F7 (kst_newsOf N7 (by walk_at "mine sub")) (LCg.Off3.of ?zoff) (by k_mem) ?znext
                  case zoff =>
                    refine List.forall_mem_cons.mpr ⟨⟨by k_ne, by k_ne, by k_ne⟩, List.forall_mem_cons.mpr ⟨⟨by k_ne, by k_ne, by k_ne⟩, List.forall_mem_cons.mpr ⟨⟨by k_ne, by k_ne, by k_ne⟩, offM⟩⟩⟩
                  case znext =>
                    clear hQe F6 N6 hoC hmx F7 N7
                    intro I2 oI2 C2 oC2 D2 m₃ h8 tk8 Qe2 hoC hmx F8 N8 off ne hQe
                    have offM2 := off.mem
                    clear off ne
                    have key : ∀ (y dy cy : Addr) (j1 j2 j3 : Tok) (oy : Obj) (h9 : Heap) (tk9 : Nat), Fr s₁.heap L0 h9 (kstB m5 [(Str.ofString "pen", Value.ref P), (Str.ofString "texts", Value.ref V), (Str.ofString "one", Value.ref d), (Str.ofString "other", Value.ref d2)]) → News s₁.heap L0 h9 ((dy, spDict w (tot (cutAll x2 z)) cy j1 j2 j3) :: (cy, oy) :: (y, instObj 75 dy) :: (I2, oI2) :: (C2, oC2) :: (D2, LCg.lst [Value.ref x]) :: (dx, spDict w (tot (cutAll x1 z)) cx i1 i2 i3) :: (cx, ox) :: (x, instObj 75 dx) :: (d, od) :: (d2, od2) :: (V, listOf [Value.bytes x1.toArray t1, Value.bytes x2.toArray t2].toArray n4) :: (P, oP4) :: (C, oC4) :: (L0 + 1, oc2) :: []) → SpAt prog w [(dy, spDict w (tot (cutAll x2 z)) cy j1 j2 j3), (cy, oy), (y, instObj 75 dy)] y (cutAll x2 z) → @LT.lt Nat _ dy y → @LT.lt Nat _ y cy → AllLt dy ((I2, oI2) :: (C2, oC2) :: (D2, LCg.lst [Value.ref x]) :: (dx, spDict w (tot (cutAll x1 z)) cx i1 i2 i3) :: (cx, ox) :: (x, instObj 75 dx) :: (d, od) :: (d2, od2) :: (V, listOf [Value.bytes x1.toArray t1, Value.bytes x2.toArray t2].toArray n4) :: (P, oP4) :: (C, oC4) :: (L0 + 1, oc2) :: []) → Qe2 (.ref y) { s₁ with heap := h9, toks := tk9 } := by
                      intro y dy cy j1 j2 j3 oy h9 tk9 F9 N9 S9 l4 l5 l6
                      simp only [AllLt] at l6
                      obtain ⟨r1, r2, r3, r4, r5, -⟩ := l6
                      refine hQe (.ref y) h9 tk9 ((dy, spDict w (tot (cutAll x2 z)) cy j1 j2 j3) :: (cy, oy) :: (y, instObj 75 dy) :: (dx, spDict w (tot (cutAll x1 z)) cx i1 i2 i3) :: (cx, ox) :: (x, instObj 75 dx) :: (d, od) :: (d2, od2) :: (V, listOf [Value.bytes x1.toArray t1, Value.bytes x2.toArray t2].toArray n4) :: (P, oP4) :: (C, oC4) :: (L0 + 1, oc2) :: []) F9 (kst_newsOf N9 (by walk_at "mine sub")) (LCg.Off3.of ?zoff) (by k_mem) ?znext
                      case zoff =>
                        refine List.forall_mem_cons.mpr ⟨⟨by k_ne, by k_ne, by k_ne⟩, List.forall_mem_cons.mpr ⟨⟨by k_ne, by k_ne, by k_ne⟩, List.forall_mem_cons.mpr ⟨⟨by k_ne, by k_ne, by k_ne⟩, offM2⟩⟩⟩
                      case znext =>
                        clear hQe F8 N8 hoC hmx F9 N9 offM offM2
                        intro D3 h10 tk10 F10 N10 off
                        clear off
                        dsimp only [List.nil_append, List.cons_append, LCg.lst] at N10
                        walk_at "mine steps"
                        rename_i ha hb' hc F11 N11
                        exact hQm _ _ ⟨_, x, dx, cx, y, dy, cy, i1, i2, i3, j1, j2, j3, ox, oy, F11, has6 rfl rfl rfl rfl rfl rfl, kst_newsOf N11 (by walk_at "mine sub"), S7, S9, q5, l1, l2, r5, l4, l5⟩
                    clear hQe
                    refine wpC_IfExp (wpC_of_any ?_)
                    walk_at "mine steps"
                    · rename (z = 64) => e64
                      subst e64
                      refine callName_c ?_
                      walk_at "mine steps"
                      refine spl1_c (wpC_of_any ?_)
                      walk_at "mine steps"
                      · walk_at "mine keep"
                      k_dflt (refine' spans_d (tz := 0) ?zB ?zF ?zX ?zT ?zhk ?zhdp ?zhun ?zN ?zzb (.inr ⟨rfl, rfl⟩) key; (case zB => k_asm); (case zF => k_asm); (case zX => k_asm); (case zT => k_asm); (case zhk => exact rfl); (case zhdp => exact Nat.le_of_ble_eq_true rfl); (case zhun => exact Nat.le_of_ble_eq_true rfl); (case zN => k_asm); (case zzb => omega))
                    · refine callName_c ?_
                      walk_at "mine steps"
                      refine spl2_c (wpC_of_any ?_)
                      walk_at "mine steps"
                      refine wpC_of_any ?_
                      walk_at "mine steps"
                      · walk_at "mine keep"
                      k_dflt (refine' spans_d ?zB ?zF ?zX ?zT ?zhk ?zhdp ?zhun ?zN ?zzb (.inl rfl) key; (case zB => k_asm); (case zF => k_asm); (case zX => k_asm); (case zT => k_asm); (case zhk => exact rfl); (case zhdp => exact Nat.le_of_ble_eq_true rfl); (case zhun => exact Nat.le_of_ble_eq_true rfl); (case zN => k_asm); (case zzb => omega))
                clear hQe hQm
                refine wpC_IfExp (wpC_of_any ?_)
                walk_at "mine steps"
                · rename (z = 64) => e64
                  subst e64
                  refine callName_c ?_
                  walk_at "mine steps"
                  refine spl1_c (wpC_of_any ?_)
                  walk_at "mine steps"
                  · walk_at "mine keep"
                  k_dflt (refine' spans_d (tz := 0) ?zB ?zF ?zX ?zT ?zhk ?zhdp ?zhun ?zN ?zzb (.inr ⟨rfl, rfl⟩) key; (case zB => k_asm); (case zF => k_asm); (case zX => k_asm); (case zT => k_asm); (case zhk => exact rfl); (case zhdp => exact Nat.le_of_ble_eq_true rfl); (case zhun => exact Nat.le_of_ble_eq_true rfl); (case zN => k_asm); (case zzb => omega))
                · refine callName_c ?_
                  walk_at "mine steps"
                  refine spl2_c (wpC_of_any ?_)
                  walk_at "mine steps"
                  refine wpC_of_any ?_
                  walk_at "mine steps"
                  · walk_at "mine keep"
                  k_dflt (refine' spans_d ?zB ?zF ?zX ?zT ?zhk ?zhdp ?zhun ?zN ?zzb (.inl rfl) key; (case zB => k_asm); (case zF => k_asm); (case zX => k_asm); (case zT => k_asm); (case zhk => exact rfl); (case zhdp => exact Nat.le_of_ble_eq_true rfl); (case zhun => exact Nat.le_of_ble_eq_true rfl); (case zN => k_asm); (case zzb => omega))
            case zr6 =>
              obtain ⟨m6, x, dx, cx, y, dy, cy, i1, i2, i3, j1, j2, j3, ox, oy, F6, hm6, N6, S1, S2, q1, q2, q3, q4, q5, q6⟩ := hP
              replace F6 := kB_fr F6 hm6
              clear F5 N5 hm6
              try dsimp only
              obtain ⟨b1, b2'⟩ := cutAll_total x1 z
              obtain ⟨b3, b4'⟩ := cutAll_total x2 z
              have b5' := cutAll_le x1 z
              have b6' := cutAll_le x2 z
              have b2 : tot (cutAll x1 z) ≤ 900 := by omega
              have b4 : tot (cutAll x2 z) ≤ 900 := by omega
              have b5 : (cutAll x1 z).length ≤ 60 := by omega
              have b6 : (cutAll x2 z).length ≤ 60 := by omega
              clear b2' b4' b5' b6'
              walk_at "mine leaf"
              try dsimp only
              clear q1 q2 q3 q4 q5 q6 S1 S2 b1 b2 b3 b4 b5 b6
              rename_i ha tka hc tkc F7 N7
              have N8 := kst_newsOf (l' := [(d, od), (d2, od2), (V, listOf [Value.bytes x1.toArray t1, Value.bytes x2.toArray t2].toArray n4), (P, oP4), (C, oC4), (L0 + 1, oc2)]) N7 (by walk_at "mine sub")
              clear N7
              refine wpC_execs_cons (wpC_Return_some (wpC_Or2 (wpC_of_any ?_)))
              walk_at "mine steps"
              refine wpC_of_any ?_
              walk_at "mine steps"
              · rename (z < 64) => lz
                have e : decide (z < 64) = true := decide_eq_true lz
                rw [e]
                exact hQ _ _ _ F7
              · rename (¬ z < 64) => lz
                have e64 : z = 64 := by omega
                clear lz hz
                subst e64
                refine callName_c ?_
                walk_at "mine steps"
                refine spl4_c (wpC_of_any ?_)
                walk_at "mine steps"
                refine wpC_of_any ?_
                walk_at "mine steps"
                refine wpC_of_any ?_
                walk_at "mine steps"
                refine wpC_of_any ?_
                walk_at "mine steps"
                · walk_at "mine keep"
                k_dflt (refine' blobs_c ?zB ?zF ?zX ?zT ?zhk ?zhdp ?zhun ?zN ?zhV ?zhd1 c1 lo1 ?zhd2 c2 lo2 ?zhl1 ?zhl2 ?_; (case zB => k_asm); (case zF => k_asm); (case zX => k_asm); (case zT => k_asm); (case zhk => exact rfl); (case zhdp => exact Nat.le_of_ble_eq_true rfl); (case zhun => exact Nat.le_of_ble_eq_true rfl); (case zN => k_asm); (case zhV => k_mem); (case zhd1 => k_mem); (case zhd2 => k_mem); (case zhl1 => omega); (case zhl2 => omega))
                intro h20 tk20 F20 N20
                exact hQ _ _ _ F20


end Mine
theorem PySem.Challenge.cw_pq0518_01_holds : PySem.Challenge.rw_pq0518_01.Holds :=
  Mine.law_holds
