import PyProof.Rows.All
import Wide.All
import OpenK.AllK
import Wide.FinOn
import HandS.ForMost
import HandS.Wide
import HandS.Walk
import HandS.SortInts
import HandS.IsInst
import HandS.More
import HandS.EndBits
import HandS.Rev
import HandS.RevTup
import KE.DataMinMax
import HandS.SortRule
import HandS.Conv
import KE.GoesZip
import KE.GoesMore
import PyProof.AutoSeq1
import HandS.TupSets
import HandS.SetFor
import KE.DatumOrd
import PySem.Challenge.RW_purse_k31_groups_found
set_option Elab.async false
set_option linter.all false
set_option maxRecDepth 100000
set_option maxHeartbeats 4000000
/-! PV: defs that reckon with plain data (numbers, truths, None, texts, lists, tuples as trees), told by their values; lists that a def changes are its own until it hands them out. -/
namespace PV
open PySem PySem.Spec PyProof.Rows L2
/-! ### list(reversed(list)) -/
section
variable {prog : Program} {w : World} {A : Around} {E : Value → Shared → Prop} {s : Shared}
theorem init_rev {R : Result → Shared → Prop} {it l : Addr} {items : Array Value} (hh : A.handled = none) (hit : s.heap.IsRevIter it l ((items.size : Int) - 1)) (hl : s.heap.IsList l items) (hne : l ≠ it) (hn : items.size ≤ sizeLine)
    (S : Addr) (hSi : S ≠ it) (hSl : S ≠ l) (hS : s.heap.get? S = some { cls := .type "list", data := .seq #[] })
    (hR : ∀ h' tk acc' c', (∀ b o, b ≠ S → b ≠ it → s.heap.get? b = some o → h'.get? b = some o) → h'.get? S = some { cls := .type "list", dict := none, data := .seq acc' c', slots := #[] } →
      ItemsOf (fun i v => items[items.size - 1 - i]? = some v) acc' items.size → R (.ok (.ret .none)) { s with heap := h', toks := tk }) :
    wpAny (model prog w) A.in1 (Builtin.«list.__init__» ⟨[.ref S, .ref it], []⟩)
      (fun fin s' => match fin with | .done f => R (.ok f) s' | .again c' => c'.quiet = true ∧ codeAny (model prog w) A c' R s') (fun e s' => R (.error e) s') s := by
  have W := (Walks.listRev (prog := prog) (w := w) (A := A.in1) hh it l hne items).toS
  have hSf : S ∉ [it, l] := by simp only [List.mem_cons, List.not_mem_nil, or_false, not_or]; exact ⟨hSi, hSl⟩
  show wpAny _ _ (do let old ← Builtin.List.listItems (.ref S); Builtin.List.listUpdate (.ref S) (fun _ => #[]); letGo old.toList.reverse; Builtin.List.listExtendWith (.ref S) (.ref it) .none) _ _ s
  refine wpAny_bind ?_
  unfold Builtin.List.listItems
  refine wpAny_bind (wpAny_seqItems hS rfl (wpAny_pure ?_))
  show wpAny _ _ (updateSeq S (fun _ => #[]) >>= fun _ => letGo (#[] : Array Value).toList.reverse >>= fun _ => Builtin.List.listExtendWith (.ref S) (.ref it) .none) _ _ s
  refine wpAny_bind (wpAny_updateSeq hS rfl ?_)
  have hS₂ := Heap.get?_update_self (Obj.mapSeq (fun _ => (#[] : Array Value))) hS rfl
  have oth : ∀ b o, b ≠ S → s.heap.get? b = some o → (s.heap.update S (Obj.mapSeq (fun _ => (#[] : Array Value)))).get? b = some o :=
    fun b o hb e => (Heap.get?_update_other _ _ (Ne.symm hb)).trans e
  refine wpAny_bind (wpAny_letGo ?_)
  have hit1 : (s.heap.update S (Obj.mapSeq (fun _ => (#[] : Array Value)))).IsRevIter it l ((items.size : Int) - 1) := hit.at fun o e => oth it o (Ne.symm hSi) e
  have hl1 : (s.heap.update S (Obj.mapSeq (fun _ => (#[] : Array Value)))).IsList l items := let ⟨o, ho, r⟩ := hl; ⟨o, oth l o (Ne.symm hSl) ho, r⟩
  have hT : ({ s with heap := s.heap.update S (Obj.mapSeq (fun _ => (#[] : Array Value))) } : Shared).TypeIs (.ref it) "list_reverseiterator" := Heap.IsRevIter.typeIs (s := { s with heap := s.heap.update S (Obj.mapSeq (fun _ => (#[] : Array Value))) }) hit1
  have h1 : Builtin.List.listSameRef (.ref S) (.ref it) = false := by simp [Builtin.List.listSameRef, hSi]
  unfold Builtin.List.listExtendWith
  refine wpAny_bind (wpAny_typeOf hT ?_)
  rw [if_neg (by rw [h1]; decide)]
  refine wpAny_bind (wpAny_pyIter_revIter (s := { s with heap := s.heap.update S (Obj.mapSeq (fun _ => (#[] : Array Value))) }) hit1 ?_)
  refine wpAny_bind (wpAny_holding ?_)
  unfold Builtin.List.listLengthHint
  refine wpAny_bind (wpAny_specialOf hT RT.nolen_lri ?_)
  show wpAny _ A.in1 (specialOf (Value.ref it) (Str.ofString "__length_hint__") >>= _) _ _ _
  refine wpAny_bind (wpAny_specialOf hT RT.hint_lri ?_)
  generalize hid : ("list_reverseiterator.__length_hint__" : String) = id0
  wp_delta
  rw [show splitId id0 = some ("list_reverseiterator", "__length_hint__") from by subst hid; decide +kernel]
  subst hid
  refine wpAny_bind (wpAny_isInstance (b := true) hT (by rw [isSubtype_type]; kernel_rfl) ?_)
  refine wpAny_pure ?_
  rw [if_neg (by decide)]
  have e0 : ((items.size : Nat) : Int) - 1 - ((0 : Nat) : Int) = (items.size : Int) - 1 := by omega
  refine wpAny_pure ⟨plainId_quiet F.plain_extend_loop _, codeAny_extend_loopS W hn _ hSf _ items.size 0 _ #[] _ rfl (Nat.zero_le _) ⟨Nat.zero_le _, by rw [e0]; exact hit1, hl1⟩ hS₂ (ItemsOf.nil _) fun s' acc' c' hm hS' hacc => ?_⟩
  rw [Moved.eq_with hm]
  refine hR s'.heap s'.toks acc' c' (fun b o hb hb2 e => hm.heap b o (fun hmem => ?_) (oth b o hb e)) hS' hacc
  rcases List.mem_cons.mp hmem with e' | hmem
  · exact hb e'
  · exact hb2 (List.mem_singleton.mp hmem)
theorem call_listRev {it l : Addr} {items : Array Value} {Q : Value → Shared → Prop} (hh : A.handled = none) (hit : s.heap.IsRevIter it l ((items.size : Int) - 1)) (hl : s.heap.IsList l items) (hne : l ≠ it) (hn : items.size ≤ sizeLine)
    (hQ : ∀ h' tk acc' c', (∀ b o, b ≠ it → s.heap.get? b = some o → h'.get? b = some o) → h'.get? s.heap.objs.size = some { cls := .type "list", dict := none, data := .seq acc' c', slots := #[] } →
      ItemsOf (fun i v => items[items.size - 1 - i]? = some v) acc' items.size → Q (.ref s.heap.objs.size) { s with heap := h', toks := tk }) :
    wpAny (model prog w) A (call (.type "list") [.ref it]) Q E s := by
  obtain ⟨oi, hoi, _⟩ := id hit
  obtain ⟨ol, hol, _⟩ := id hl
  refine callType_codes (Q₁ := fun obj s₁ => obj = .ref s.heap.objs.size ∧ s₁ = { s with heap := s.heap.push { cls := .type "list", data := .seq #[] } }) F.called_list (F.typeCall_list_1 _) F.entry_list_init
    (code_list_new _ ⟨rfl, rfl⟩) fun obj s₁ h₁ => ?_
  obtain ⟨rfl, rfl⟩ := h₁
  have hS : (s.heap.push { cls := .type "list", data := .seq #[] }).get? s.heap.objs.size = some { cls := .type "list", data := .seq #[] } := Heap.get?_push_size _ rfl
  refine ⟨⟨_, hS, rfl⟩, F.args_list_init_2 _ _, init_rev (A := A.in1) hh (hit.at fun o e => Heap.get?_push_of_some _ e) (hl.push _) hne hn _ (Nat.ne_of_gt (Heap.lt_size hoi)) (Nat.ne_of_gt (Heap.lt_size hol)) hS fun h' tk acc' c' hk hS' hacc => ?_⟩
  exact ⟨rfl, hQ h' tk acc' c' (fun b o hb e => hk b o (Nat.ne_of_lt (Heap.lt_size e)) hb (Heap.get?_push_of_some _ e)) hS' hacc⟩
end
section
variable {X : Cx}
def tListRev (K : PySem.W.Frag) (te : TE) : TE := fun σ H Q => te σ H fun v H1 => ∃ (a : Addr) (xs : List V), v = .ref a ∧ SqL K H1 a xs ∧ ∀ p, H1 p = none → Q (.ref p) (upd H1 p (.lst xs.reverse))
theorem pe_listRev {e : Expr} {te : TE} {p p2 pos pos2 : Pos} (hc : X.calm = true) (hg : Gl X "list") (hm : X.mg "list" = none) (hv : bootBuiltins "list" = some (.type "list")) (hg2 : Gl X "reversed") (hm2 : X.mg "reversed" = none) (he : PE X e te)
    (hs : starEach [e] X.env = (false, eval e X.env) :: starEach [] X.env := by rfl)
    (hs2 : starEach [.Call (.Name "reversed" p2) [e] [] pos2] X.env = (false, eval (.Call (.Name "reversed" p2) [e] [] pos2) X.env) :: starEach [] X.env := by rfl) :
    PE X (.Call (.Name "list" p) [.Call (.Name "reversed" p2) [e] [] pos2] [] pos) (tListRev X.K te) := by
  refine ⟨fun pins s σ H Q I h => ?_⟩
  refine Call_ (ld_blt I hg hm hv (PyProof.Rows.callWith_type1 (args_cons (Call_ (ld_blt I hg2 hm2 PyProof.Rows.boot_reversed (PyProof.Rows.callWith_type1 (args_cons (thn (he.run pins s σ H _ I h) fun u s1 ⟨v, H1, I1, r1, q1⟩ => args_nil ?_) hs) hs rfl))) hs2) hs2 rfl))
  obtain ⟨a, xs, ev, hq, q⟩ := q1
  subst ev
  obtain rfl : u = Value.ref a := r1
  obtain ⟨its, rv, p', hz⟩ := I1.list hq
  refine call_reversed_list p'.isList (args_nil ?_)
  have k0 : ∀ b o, s1.heap.get? b = some o → (s1.heap.push (revObj a ((its.toArray.size : Int) - 1))).get? b = some o := fun b o e => Heap.get?_push_of_some _ e
  have hl := p'.isList
  obtain ⟨ol, hol, _⟩ := id hl
  have hne : a ≠ s1.heap.objs.size := Nat.ne_of_lt (Heap.lt_size hol)
  have hn : its.toArray.size ≤ sizeLine := by rw [List.size_toArray, ← rv.length]; exact hz
  refine call_listRev (s := { s1 with heap := s1.heap.push (revObj a ((its.toArray.size : Int) - 1)) }) (I1.ok.hd hc) ⟨_, Heap.get?_push_size _ rfl, rfl, rfl⟩ (hl.push _) hne hn fun h' tk acc c' hk hS hi => ?_
  have big : s1.heap.objs.size ≤ (s1.heap.push (revObj a ((its.toArray.size : Int) - 1))).objs.size := by
    unfold Heap.push
    rw [Array.size_push]
    exact Nat.le_succ _
  refine ⟨.ref _, upd H1 _ (.lst xs.reverse), I1.laid (t' := tk) (fun b o e => hk b o (Nat.ne_of_lt (Heap.lt_size e)) (k0 b o e)) big (show ObjOk X.prog X.w _ _ _ (.lst xs.reverse) from ⟨by rw [List.length_reverse]; exact hz, acc.toList, c', RT.vals_rev rv hi, ?_⟩), rfl, q _ (I1.hok.fresh big)⟩
  rw [Array.toArray_toList]
  exact hS
end
/-! ### trees -/
abbrev D := PyData
abbrev SE := List (Option D)
/-- where the objects of a value lie: new since the def's entry; new or among what was handed in for good; anywhere -/
inductive Rl where
  | nw | od | bo
/-- a slot: a value that stays (handed in, or new), or a list of the def's own (items handed in, or new); a list of one's own that rests at its place (pd), a value known by its place (cv), what may change (tr), a list whose item j is a list of one's own (mp) -/
inductive Md where
  | od | nw | mo | mn
  | pd (r : Rl) (a : Addr)
  | cv (v : V)
  | tr
  | mp (j : Nat)
def pr : Rl → Rl
  | .nw => .nw
  | _ => .od
theorem pr_bo {r : Rl} : pr r ≠ .bo := by cases r <;> intro z <;> cases z
def Ow (own : List (Option Addr)) (a : Addr) : Prop := ∃ i : Nat, own[i]? = some (some a)
/-- not locked -/
def nf : HO → Prop
  | .frz _ _ => False
  | _ => True
/-- new, and not locked -/
def Nw (H0 : Hp) (a : Addr) (o : HO) : Prop := H0 a = none ∧ nf o
def InR (r : Rl) (G H0 : Hp) (own : List (Option Addr)) (a : Addr) (o : HO) : Prop :=
  match r with
  | .bo => True
  | .od => ¬ Ow own a ∧ (Nw H0 a o ∨ G a ≠ none)
  | .nw => ¬ Ow own a ∧ Nw H0 a o
open Classical in
noncomputable def rg (r : Rl) (G H0 : Hp) (own : List (Option Addr)) (H : Hp) : Hp := fun a => (H a).bind fun o => if InR r G H0 own a o then some o else none
section
variable {K : PySem.W.Frag} {G G' H0 H0' H H' H1 : Hp} {own own' : List (Option Addr)} {r r' : Rl} {a : Addr} {o : HO}
theorem rg_iff : rg r G H0 own H a = some o ↔ InR r G H0 own a o ∧ H a = some o := by
  unfold rg
  cases e : H a with
  | none => exact ⟨fun z => (nomatch z), fun z => (nomatch z.2)⟩
  | some o' =>
    rw [Option.bind_some]
    by_cases h : InR r G H0 own a o'
    · rw [if_pos h]
      exact ⟨fun z => by cases z; exact ⟨h, rfl⟩, fun z => z.2⟩
    · rw [if_neg h]
      exact ⟨fun z => (nomatch z), fun z => by
        have := z.2
        cases this
        exact absurd z.1 h⟩
theorem rg_sub : Same (rg r G H0 own H) H := fun _ _ e => (rg_iff.mp e).2
theorem rg_all : Same H (rg .bo G H0 own H) := fun _ _ e => rg_iff.mpr ⟨True.intro, e⟩
theorem rg_ext (e : Same H H') : Same (rg r G H0 own H) (rg r G H0 own H') := fun _ _ q => rg_iff.mpr ⟨(rg_iff.mp q).1, e _ _ (rg_iff.mp q).2⟩
inductive RLe : Rl → Rl → Prop where
  | refl (x : Rl) : RLe x x
  | no : RLe .nw .od
  | bo (x : Rl) : RLe x .bo
theorem InR.le (l : RLe r r') (h : InR r G H0 own a o) : InR r' G H0 own a o := by
  cases l with
  | refl => exact h
  | no => exact ⟨h.1, .inl h.2⟩
  | bo => trivial
theorem rg_le (l : RLe r r') : Same (rg r G H0 own H) (rg r' G H0 own H) := fun _ _ q => rg_iff.mpr ⟨(rg_iff.mp q).1.le l, (rg_iff.mp q).2⟩
/-- what isn't a list of one's own stays, and isn't made one -/
def Gr (own : List (Option Addr)) (H : Hp) (own' : List (Option Addr)) (H' : Hp) : Prop := ∀ a o, ¬ Ow own a → H a = some o → ¬ Ow own' a ∧ H' a = some o
theorem Gr.refl : Gr own H own H := fun _ _ h e => ⟨h, e⟩
theorem Gr.trans {own2 : List (Option Addr)} {H2 : Hp} (x : Gr own H own' H') (y : Gr own' H' own2 H2) : Gr own H own2 H2 := fun a o h e => let ⟨h1, e1⟩ := x a o h e; y a o h1 e1
theorem Gr.of (e : Same H H') : Gr own H own H' := fun _ _ h q => ⟨h, e _ _ q⟩
theorem InR.now (h : InR r G H0 own a o) (hr : r ≠ .bo) : ¬ Ow own a := by
  cases r with
  | bo => exact absurd rfl hr
  | od => exact h.1
  | nw => exact h.1
theorem rg_gr (g : Gr own H own' H') (hr : r ≠ .bo) : Same (rg r G H0 own H) (rg r G H0 own' H') := fun a o q => by
  obtain ⟨h, e⟩ := rg_iff.mp q
  obtain ⟨n, e'⟩ := g a o (h.now hr) e
  refine rg_iff.mpr ⟨?_, e'⟩
  cases r with
  | bo => exact absurd rfl hr
  | od => exact ⟨n, h.2⟩
  | nw => exact ⟨n, h.2⟩
theorem rg_own (h : ∀ a, Ow own' a → Ow own a) : Same (rg r G H0 own H) (rg r G H0 own' H) := fun a o q => by
  obtain ⟨h1, e⟩ := rg_iff.mp q
  refine rg_iff.mpr ⟨?_, e⟩
  cases r with
  | bo => trivial
  | od => exact ⟨fun z => h1.1 (h a z), h1.2⟩
  | nw => exact ⟨fun z => h1.1 (h a z), h1.2⟩
theorem same_t {xs : List V} (e : Same H H') (h : SqT K H a xs) : SqT K H' a xs := by
  rcases h with (h | ⟨o, h⟩) | h
  · exact .inl (.inl (e _ _ h))
  · exact .inl (.inr ⟨o, e _ _ h⟩)
  · exact .inr h
mutual
theorem dp_mono (e : Same H H') : ∀ (d : D) (v : V), Dp K H v d → Dp K H' v d
  | .none, _, h => by cases h; exact .non
  | .bool b, _, h => by cases h; exact .bl b
  | .int i, _, h => by cases h; exact .int i
  | .str x, _, h => by cases h; exact .str x
  | .list ds, _, h => by
    cases h with
    | lst hs ha => exact .lst (e.seq hs) (dps_mono e ds _ ha)
  | .tuple ds, _, h => by
    cases h with
    | tup hs ha => exact .tup (same_t e hs) (dps_mono e ds _ ha)
  | .dict _, _, h => by cases h
theorem dps_mono (e : Same H H') : ∀ (ds : List D) (vs : List V), DpAll K H vs ds → DpAll K H' vs ds
  | [], _, h => by cases h; exact .nil
  | d :: ds, _, h => by
    cases h with
    | cons h1 h2 => exact .cons (dp_mono e d _ h1) (dps_mono e ds _ h2)
end
theorem dps_len : ∀ {ds : List D} {vs : List V}, DpAll K H vs ds → vs.length = ds.length
  | [], _, h => by cases h; rfl
  | d :: ds, _, h => by
    cases h with
    | cons h1 h2 => rw [List.length_cons, List.length_cons, dps_len h2]
theorem dps_get : ∀ {ds : List D} {vs : List V} {i : Nat} {d : D}, DpAll K H vs ds → ds[i]? = some d → ∃ v, vs[i]? = some v ∧ Dp K H v d
  | [], _, _, _, _, e => by simp at e
  | x :: ds, _, 0, d, h, e => by
    cases h with
    | cons h1 h2 => simp at e; subst e; exact ⟨_, rfl, h1⟩
  | x :: ds, _, i + 1, d, h, e => by
    cases h with
    | cons h1 h2 =>
      obtain ⟨v, e1, e2⟩ := dps_get (i := i) h2 (by simpa using e)
      exact ⟨v, by simpa using e1, e2⟩
theorem dps_at : ∀ {ds : List D} {vs : List V} {i : Nat} {v : V}, DpAll K H vs ds → vs[i]? = some v → ∃ d, ds[i]? = some d ∧ Dp K H v d
  | [], _, _, _, h, e => by cases h; simp at e
  | x :: ds, _, 0, v, h, e => by
    cases h with
    | cons h1 h2 => simp at e; subst e; exact ⟨_, rfl, h1⟩
  | x :: ds, _, i + 1, v, h, e => by
    cases h with
    | cons h1 h2 =>
      obtain ⟨d, e1, e2⟩ := dps_at (i := i) h2 (by simpa using e)
      exact ⟨d, by simpa using e1, e2⟩
theorem dps_app : ∀ {ds es : List D} {vs us : List V}, DpAll K H vs ds → DpAll K H us es → DpAll K H (vs ++ us) (ds ++ es)
  | [], _, _, _, h, h' => by cases h; exact h'
  | d :: ds, _, _, _, h, h' => by
    cases h with
    | cons h1 h2 => exact .cons h1 (dps_app h2 h')
theorem dps_take : ∀ {ds : List D} {vs : List V} (n : Nat), DpAll K H vs ds → DpAll K H (vs.take n) (ds.take n)
  | [], _, n, h => by cases h; rw [List.take_nil, List.take_nil]; exact .nil
  | d :: ds, _, 0, h => by rw [List.take_zero, List.take_zero]; exact .nil
  | d :: ds, _, n + 1, h => by
    cases h with
    | cons h1 h2 => exact .cons h1 (dps_take n h2)
theorem dps_drop : ∀ {ds : List D} {vs : List V} (n : Nat), DpAll K H vs ds → DpAll K H (vs.drop n) (ds.drop n)
  | [], _, n, h => by cases h; rw [List.drop_nil, List.drop_nil]; exact .nil
  | d :: ds, _, 0, h => h
  | d :: ds, _, n + 1, h => by
    cases h with
    | cons h1 h2 => exact dps_drop n h2
theorem dps_set {d : D} {v : V} (hv : Dp K H v d) : ∀ {ds : List D} {vs : List V} (i : Nat), DpAll K H vs ds → DpAll K H (vs.set i v) (ds.set i d)
  | [], _, _, h => by cases h; exact .nil
  | x :: ds, _, 0, h => by
    cases h with
    | cons h1 h2 => exact .cons hv h2
  | x :: ds, _, i + 1, h => by
    cases h with
    | cons h1 h2 => exact .cons h1 (dps_set hv i h2)
theorem dps_rep {d : D} {v : V} (hv : Dp K H v d) : ∀ (n : Nat), DpAll K H (List.replicate n v) (List.replicate n d)
  | 0 => .nil
  | n + 1 => .cons hv (dps_rep hv n)
/-! ### numbers, truths, None, texts -/
def isSc : D → Bool
  | .none => true
  | .bool _ => true
  | .int _ => true
  | .str _ => true
  | _ => false
def sv : D → V
  | .none => .non
  | .bool b => .bl b
  | .int i => .int i
  | .str x => .str x
  | _ => .non
theorem dp_sc {d : D} {v : V} (h : isSc d = true) (p : Dp K H v d) : v = sv d := by
  cases p with
  | non => rfl
  | bl => rfl
  | int => rfl
  | str => rfl
  | lst => cases h
  | tup => cases h
theorem sc_dp {d : D} (h : isSc d = true) : Dp K H (sv d) d := by
  cases d with
  | none => exact .non
  | bool b => exact .bl b
  | int i => exact .int i
  | str x => exact .str x
  | list _ => cases h
  | tuple _ => cases h
  | dict _ => cases h
theorem dp_flat {d : D} {v : V} (h : isSc d = true) (p : Dp K H v d) : Dp K H' v d := by
  rw [dp_sc h p]; exact sc_dp h
theorem dps_flat : ∀ {ds : List D} {vs : List V}, ds.all isSc = true → DpAll K H vs ds → DpAll K H' vs ds
  | [], _, _, h => by cases h; exact .nil
  | d :: ds, _, hs, h => by
    rw [List.all_cons, Bool.and_eq_true] at hs
    cases h with
    | cons h1 h2 => exact .cons (dp_flat hs.1 h1) (dps_flat hs.2 h2)
theorem dps_sv : ∀ {ds : List D} {vs : List V}, ds.all isSc = true → DpAll K H vs ds → vs = ds.map sv
  | [], _, _, h => by cases h; rfl
  | d :: ds, _, hs, h => by
    rw [List.all_cons, Bool.and_eq_true] at hs
    cases h with
    | cons h1 h2 => rw [List.map_cons, dp_sc hs.1 h1, dps_sv hs.2 h2]
theorem sv_dps : ∀ {ds : List D}, ds.all isSc = true → DpAll K H (ds.map sv) ds
  | [], _ => .nil
  | d :: ds, hs => by
    rw [List.all_cons, Bool.and_eq_true] at hs
    exact .cons (sc_dp hs.1) (sv_dps hs.2)
end
/-! ### the frame -/
def SlotM (K : PySem.W.Frag) (r : Rl) (G H0 : Hp) (own : List (Option Addr)) (H : Hp) (i : Nat) (v : V) (d : D) : Prop :=
  ∃ a vs ds, v = .ref a ∧ own[i]? = some (some a) ∧ H a = some (.lst vs) ∧ d = .list ds ∧ DpAll K (rg r G H0 own H) vs ds
open Classical in
/-- what is there since ahead of now, not handed in and not locked -/
noncomputable def rgt (G H0 : Hp) : Hp := fun a => (H0 a).bind fun o => if G a = none ∧ nf o then some o else none
theorem rgt_iff {G H0 : Hp} {a : Addr} {o : HO} : rgt G H0 a = some o ↔ (G a = none ∧ nf o) ∧ H0 a = some o := by
  unfold rgt
  cases e : H0 a with
  | none => exact ⟨fun z => (nomatch z), fun z => (nomatch z.2)⟩
  | some o' =>
    rw [Option.bind_some]
    by_cases h : G a = none ∧ nf o'
    · rw [if_pos h]
      exact ⟨fun z => by cases z; exact ⟨h, rfl⟩, fun z => z.2⟩
    · rw [if_neg h]
      exact ⟨fun z => (nomatch z), fun z => by
        have := z.2
        cases this
        exact absurd z.1 h⟩
/-- a list whose item j is a list of one's own -/
def SlotP (K : PySem.W.Frag) (j : Nat) (G H0 : Hp) (own : List (Option Addr)) (H : Hp) (i : Nat) (v : V) (d : D) : Prop :=
  ∃ a p vs us ds es, v = .ref a ∧ rg .nw G H0 own H a = some (.lst vs) ∧ vs[j]? = some (.ref p) ∧ own[i]? = some (some p) ∧ H p = some (.lst us) ∧ DpAll K (rg .od G H0 own H) us es ∧ d = .list ds ∧ vs.length = ds.length ∧ ds[j]? = some (.list es) ∧
    ∀ m d', m ≠ j → ds[m]? = some d' → ∃ v', vs[m]? = some v' ∧ Dp K (rg .od G H0 own H) v' d'
def SlotOk (K : PySem.W.Frag) (m : Md) (G H0 : Hp) (own : List (Option Addr)) (H : Hp) (i : Nat) (v : V) (d : D) : Prop :=
  match m with
  | .od => Dp K (rg .od G H0 own H) v d
  | .nw => Dp K (rg .nw G H0 own H) v d
  | .mo => SlotM K .od G H0 own H i v d
  | .mn => SlotM K .nw G H0 own H i v d
  | .pd r a => v = .ref a ∧ ∃ vs ds, H0 a = some (.lst vs) ∧ d = .list ds ∧ DpAll K (rg (pr r) G H0 own H) vs ds
  | .cv v0 => v = v0 ∧ Dp K (rg .od G H0 own H) v d ∧ Dp K G v d
  | .tr => Dp K (rgt G H0) v d
  | .mp j => SlotP K j G H0 own H i v d
def md (Γ : List Md) (i : Nat) : Md := Γ.getD i .od
structure ER (K : PySem.W.Frag) (Γ : List Md) (G H0 : Hp) (own : List (Option Addr)) (env : SE) (σ : L2.St) (H : Hp) : Prop where
  gs : Same G H0
  ex : Same H0 H
  inj : ∀ (i j : Nat) (a : Addr), own[i]? = some (some a) → own[j]? = some (some a) → i = j
  fr : ∀ (i : Nat) (a : Addr), own[i]? = some (some a) → H0 a = none ∧ ∃ o, H a = some o
  le : env.length = σ.length
  ol : σ.length ≤ own.length
  sl : ∀ (i : Nat) (d : D), env[i]? = some (some d) → ∃ v, σ[i]? = some (some v) ∧ SlotOk K (md Γ i) G H0 own H i v d
def Md.rd : Md → Rl
  | .od => .od
  | .nw => .nw
  | .cv _ => .od
  | _ => .bo
section
variable {K : PySem.W.Frag} {Γ : List Md} {G H0 H H' : Hp} {own own' : List (Option Addr)} {env : SE} {σ : L2.St} {i : Nat} {v : V} {d : D} {m : Md} {r : Rl}
theorem SlotM.dp (h : SlotM K r G H0 own H i v d) : Dp K H v d := by
  obtain ⟨a, vs, ds, rfl, _, h2, rfl, h3⟩ := h
  exact .lst (SqL.of h2) (dps_mono rg_sub _ _ h3)
theorem rgt_sub : Same (rgt G H0) H0 := fun a o e => (rgt_iff.mp e).2
theorem dps_of_get : ∀ {ds : List D} {vs : List V}, vs.length = ds.length → (∀ (m : Nat) d', ds[m]? = some d' → ∃ v', vs[m]? = some v' ∧ Dp K H v' d') → DpAll K H vs ds
  | [], [], _, _ => .nil
  | [], _ :: _, h, _ => by cases h
  | _ :: _, [], h, _ => by cases h
  | d :: ds, v :: vs, h, k => by
    obtain ⟨v', e, hv⟩ := k 0 d rfl
    cases e
    exact .cons hv (dps_of_get (by simpa using h) fun m d' e => k (m + 1) d' e)
theorem SlotP.dp {j : Nat} (h : SlotP K j G H0 own H i v d) : Dp K H v d := by
  obtain ⟨a, p, vs, us, ds, es, rfl, h1, h2, h3, h4, h5, rfl, h6, h7, h8⟩ := h
  refine .lst (SqL.of (rg_sub _ _ h1)) (dps_of_get h6 fun m d' e => ?_)
  by_cases q : m = j
  · subst q
    rw [h7] at e
    cases e
    exact ⟨_, h2, .lst (SqL.of h4) (dps_mono rg_sub _ _ h5)⟩
  · obtain ⟨v', e1, e2⟩ := h8 m d' q e
    exact ⟨v', e1, dp_mono rg_sub _ _ e2⟩
theorem SlotOk.dp (hx : Same H0 H) (h : SlotOk K m G H0 own H i v d) : Dp K (rg m.rd G H0 own H) v d := by
  cases m with
  | od => exact h
  | nw => exact h
  | mo => exact dp_mono rg_all _ _ (SlotM.dp h)
  | mn => exact dp_mono rg_all _ _ (SlotM.dp h)
  | pd r a =>
    obtain ⟨rfl, vs, ds, h1, rfl, h2⟩ := h
    exact dp_mono rg_all _ _ (.lst (SqL.of (hx _ _ h1)) (dps_mono rg_sub _ _ h2))
  | cv v0 => exact h.2.1
  | tr => exact dp_mono ((rgt_sub.trans hx).trans rg_all) _ _ h
  | mp j => exact dp_mono rg_all _ _ (SlotP.dp h)
/-- what a slot holds stays, where its objects do -/
theorem SlotOk.step (sub : ∀ {rr : Rl}, rr ≠ .bo → Same (rg rr G H0 own H) (rg rr G H0 own' H')) (ho : ∀ a, own[i]? = some (some a) → own'[i]? = some (some a) ∧ ∀ o, H a = some o → H' a = some o) (h : SlotOk K m G H0 own H i v d) : SlotOk K m G H0 own' H' i v d := by
  have so := sub (rr := .od) (by intro z; cases z)
  have sn := sub (rr := .nw) (by intro z; cases z)
  cases m with
  | od => exact dp_mono so _ _ h
  | nw => exact dp_mono sn _ _ h
  | mo =>
    obtain ⟨a, vs, ds, h0, h1, h2, h4, h3⟩ := h
    exact ⟨a, vs, ds, h0, (ho a h1).1, (ho a h1).2 _ h2, h4, dps_mono so _ _ h3⟩
  | mn =>
    obtain ⟨a, vs, ds, h0, h1, h2, h4, h3⟩ := h
    exact ⟨a, vs, ds, h0, (ho a h1).1, (ho a h1).2 _ h2, h4, dps_mono sn _ _ h3⟩
  | pd r a =>
    obtain ⟨h0, vs, ds, h1, h2, h3⟩ := h
    exact ⟨h0, vs, ds, h1, h2, dps_mono (sub pr_bo) _ _ h3⟩
  | cv v0 => exact ⟨h.1, dp_mono so _ _ h.2.1, h.2.2⟩
  | tr => exact h
  | mp j =>
    obtain ⟨a, p, vs, us, ds, es, h0, h1, h2, h3, h4, h5, h6, h7, h8, h9⟩ := h
    exact ⟨a, p, vs, us, ds, es, h0, sn _ _ h1, h2, (ho p h3).1, (ho p h3).2 _ h4, dps_mono so _ _ h5, h6, h7, h8, fun m d' q e => let ⟨v', e1, e2⟩ := h9 m d' q e; ⟨v', e1, dp_mono so _ _ e2⟩⟩
theorem SlotM.ext (e : Same H H') (h : SlotM K r G H0 own H i v d) : SlotM K r G H0 own H' i v d := by
  obtain ⟨a, vs, ds, h0, h1, h2, h4, h3⟩ := h
  exact ⟨a, vs, ds, h0, h1, e _ _ h2, h4, dps_mono (rg_ext e) _ _ h3⟩
theorem SlotOk.ext (e : Same H H') (h : SlotOk K m G H0 own H i v d) : SlotOk K m G H0 own H' i v d := h.step (fun _ => rg_ext e) fun a q => ⟨q, fun o => e _ _⟩
theorem ER.ext (R : ER K Γ G H0 own env σ H) (e : Same H H') : ER K Γ G H0 own env σ H' :=
  ⟨R.gs, R.ex.trans e, R.inj, fun i a h => let ⟨h1, o, h2⟩ := R.fr i a h; ⟨h1, o, e _ _ h2⟩, R.le, R.ol, fun i d h => let ⟨v, h1, h2⟩ := R.sl i d h; ⟨v, h1, h2.ext e⟩⟩
/-- a value that stays goes to a slot -/
theorem ER.put (R : ER K Γ G H0 own env σ H) (i : Nat) (d : D) (v : V) (h : SlotOk K (md Γ i) G H0 own H i v d) : ER K Γ G H0 own (env.set i (some d)) (σ.set i (some v)) H := by
  refine ⟨R.gs, R.ex, R.inj, R.fr, by rw [List.length_set, List.length_set]; exact R.le, by rw [List.length_set]; exact R.ol, fun j e hj => ?_⟩
  by_cases hi : i = j
  · subst hi
    have hl : i < env.length := by
      have := (List.getElem?_eq_some_iff.mp hj).1
      rw [List.length_set] at this
      exact this
    rw [List.getElem?_set_self hl] at hj
    cases hj
    exact ⟨v, List.getElem?_set_self (by rw [← R.le]; exact hl), h⟩
  · rw [List.getElem?_set_ne hi] at hj
    rw [List.getElem?_set_ne hi]
    exact R.sl j e hj
theorem ER.forget (R : ER K Γ G H0 own env σ H) (i : Nat) : ER K Γ G H0 own (env.set i none) σ H := by
  refine ⟨R.gs, R.ex, R.inj, R.fr, by rw [List.length_set]; exact R.le, R.ol, fun j e hj => ?_⟩
  by_cases hi : i = j
  · subst hi
    by_cases hl : i < env.length
    · rw [List.getElem?_set_self hl] at hj; cases hj
    · rw [List.getElem?_eq_none (by rw [List.length_set]; omega)] at hj; cases hj
  · rw [List.getElem?_set_ne hi] at hj
    exact R.sl j e hj
/-- slots forgotten -/
def kil : List Nat → SE → SE
  | [], e => e
  | i :: is, e => (kil is e).set i none
theorem ER.kil : ∀ (ks : List Nat) {env : SE}, ER K Γ G H0 own env σ H → ER K Γ G H0 own (kil ks env) σ H
  | [], _, R => R
  | i :: is, _, R => (ER.kil is R).forget i
theorem ER.forget2 (R : ER K Γ G H0 own env σ H) (i : Nat) : ER K Γ G H0 own (env.set i none) (σ.set i none) H := by
  refine ⟨R.gs, R.ex, R.inj, R.fr, by rw [List.length_set, List.length_set]; exact R.le, by rw [List.length_set]; exact R.ol, fun j e hj => ?_⟩
  by_cases hi : i = j
  · subst hi
    by_cases hl : i < env.length
    · rw [List.getElem?_set_self hl] at hj; cases hj
    · rw [List.getElem?_eq_none (by rw [List.length_set]; omega)] at hj; cases hj
  · rw [List.getElem?_set_ne hi] at hj
    rw [List.getElem?_set_ne hi]
    exact R.sl j e hj
theorem ER.wipe : ∀ (ks : List Nat) {env : SE} {σ : L2.St}, ER K Γ G H0 own env σ H → ER K Γ G H0 own (PV.kil ks env) (L2.wipe σ ks) H
  | [], _, _, R => R
  | i :: is, _, _, R => (ER.wipe is R).forget2 i
theorem ER.live (R : ER K Γ G H0 own env σ H) {a : Addr} (h : H a = none) : ¬ Ow own a := fun ⟨i, e⟩ => by
  obtain ⟨_, o, q⟩ := R.fr i a e
  rw [h] at q; cases q
theorem ER.new (R : ER K Γ G H0 own env σ H) {a : Addr} (h : H a = none) : H0 a = none := R.ex.free h
theorem ow_snoc {a p : Addr} (h : Ow own a) : Ow (own ++ [some p]) a := by
  obtain ⟨i, e⟩ := h
  have hl := (List.getElem?_eq_some_iff.mp e).1
  exact ⟨i, by rw [List.getElem?_append_left hl]; exact e⟩
theorem ow_snoc_self {p : Addr} : Ow (own ++ [some p]) p := ⟨own.length, by simp⟩
theorem ow_of_snoc {a p : Addr} (h : Ow (own ++ [some p]) a) : Ow own a ∨ a = p := by
  obtain ⟨i, e⟩ := h
  by_cases hl : i < own.length
  · rw [List.getElem?_append_left hl] at e
    exact .inl ⟨i, e⟩
  · rw [List.getElem?_append_right (by omega)] at e
    by_cases h0 : i - own.length = 0
    · rw [h0] at e
      simp at e
      exact .inr e.symm
    · rw [List.getElem?_eq_none (by simp; omega)] at e
      cases e
theorem ow_of_set {a p : Addr} {i : Nat} (h : Ow (own.set i (some p)) a) : Ow own a ∨ a = p := by
  obtain ⟨j, e⟩ := h
  by_cases hi : i = j
  · subst hi
    by_cases hl : i < own.length
    · rw [List.getElem?_set_self hl] at e
      cases e
      exact .inr rfl
    · rw [List.getElem?_eq_none (by rw [List.length_set]; omega)] at e
      cases e
  · rw [List.getElem?_set_ne hi] at e
    exact .inl ⟨j, e⟩
end

/-! ### judgements -/
section
variable (X : Cx) (Γ : List Md)
def OkE (K : PySem.W.Frag) (Γ : List Md) (r : Rl) (f : SE → Option D) (t : TE) : Prop :=
  ∀ (G H0 : Hp) (own : List (Option Addr)) (env : SE) (σ : L2.St) (H : Hp) (Q : VK) (d : D), ER K Γ G H0 own env σ H → f env = some d → (∀ v H', Same H H' → Dp K (rg r G H0 own H') v d → Q v H') → t σ H Q
def OkT (K : PySem.W.Frag) (Γ : List Md) (f : SE → Option Bool) (t : TT) : Prop :=
  ∀ (G H0 : Hp) (own : List (Option Addr)) (env : SE) (σ : L2.St) (H : Hp) (Q : Bool → Hp → Prop) (b : Bool), ER K Γ G H0 own env σ H → f env = some b → (∀ H', Same H H' → Q b H') → t σ H Q
def OkA (K : PySem.W.Frag) (Γ : List Md) (r : Rl) (f : SE → Option (List D)) (t : TA) : Prop :=
  ∀ (G H0 : Hp) (own : List (Option Addr)) (env : SE) (σ : L2.St) (H : Hp) (Q : List V → Hp → Prop) (ds : List D), ER K Γ G H0 own env σ H → f env = some ds → (∀ vs H', Same H H' → DpAll K (rg r G H0 own H') vs ds → Q vs H') → t σ H Q
/-- a new list -/
def OkL (K : PySem.W.Frag) (Γ : List Md) (r : Rl) (f : SE → Option (List D)) (t : TE) : Prop :=
  ∀ (G H0 : Hp) (own : List (Option Addr)) (env : SE) (σ : L2.St) (H : Hp) (Q : VK) (ds : List D), ER K Γ G H0 own env σ H → f env = some ds →
    (∀ a vs H', Same H H' → H a = none → H' a = some (.lst vs) → DpAll K (rg r G H0 (own ++ [some a]) H') vs ds → Q (.ref a) H') → t σ H Q
structure VE (e : Expr) (r : Rl) (f : SE → Option D) (t : TE) : Prop where
  pe : PE X e t
  ok : OkE X.K Γ r f t
structure VT (e : Expr) (f : SE → Option Bool) (t : TT) : Prop where
  pt : PT X e t
  ok : OkT X.K Γ f t
structure VW (e : Expr) (f : SE → Option Bool) (t : TT) : Prop where
  pt : PW X e t
  ok : OkT X.K Γ f t
structure VA (es : List Expr) (r : Rl) (f : SE → Option (List D)) (t : TA) : Prop where
  pa : PA X es t
  ln : ∀ env ds, f env = some ds → ds.length = es.length
  ok : OkA X.K Γ r f t
structure VL (e : Expr) (r : Rl) (f : SE → Option (List D)) (t : TE) : Prop where
  pe : PE X e t
  ok : OkL X.K Γ r f t
end
/-! ### what expressions are worth -/
def dV (i : Nat) (e : SE) : Option D := e.getD i none
def dC (d : D) (_ : SE) : Option D := some d
def d1 (h : D → Option D) (f : SE → Option D) (e : SE) : Option D := (f e).bind h
def d2 (h : D → D → Option D) (f g : SE → Option D) (e : SE) : Option D := (f e).bind fun x => (g e).bind fun y => h x y
def dB (f : SE → Option D) (e : SE) : Option Bool := (f e).bind fun x => match x with
  | .bool b => some b
  | _ => none
def dSc (f : SE → Option D) (e : SE) : Option D := (f e).bind fun x => if isSc x = true then some x else none
def dScs (f : SE → Option (List D)) (e : SE) : Option (List D) := (f e).bind fun x => if x.all isSc = true then some x else none
def dNil (_ : SE) : Option (List D) := some []
def dCons (f : SE → Option D) (g : SE → Option (List D)) (e : SE) : Option (List D) := (f e).bind fun x => (g e).bind fun y => some (x :: y)
def dTup (f : SE → Option (List D)) (e : SE) : Option D := (f e).bind fun x => some (.tuple x)
def dLst (f : SE → Option (List D)) (e : SE) : Option D := (f e).bind fun x => some (.list x)
def dA (h : List D → Option D) (f : SE → Option (List D)) (e : SE) : Option D := (f e).bind h
def tAndD (f g : SE → Option Bool) (e : SE) : Option Bool := (f e).bind fun b => match b with
  | true => g e
  | false => some false
def tOrD (f g : SE → Option Bool) (e : SE) : Option Bool := (f e).bind fun b => match b with
  | true => some true
  | false => g e
def tNotD (f : SE → Option Bool) (e : SE) : Option Bool := (f e).bind fun b => some (!b)
def dT (f : SE → Option Bool) (e : SE) : Option D := (f e).bind fun b => some (.bool b)
section
variable {X : Cx} {Γ : List Md} {r r' ra rb : Rl} {e a b : Expr} {es : List Expr} {f g : SE → Option D} {t ta tb : TE} {pos : Pos}
theorem v_le (l : RLe r r') (h : VE X Γ e r f t) : VE X Γ e r' f t := ⟨h.pe, fun G H0 own env σ H Q d R q k => h.ok G H0 own env σ H Q d R q fun v H' s p => k v H' s (dp_mono (rg_le l) _ _ p)⟩
theorem v_sc (h : VE X Γ e r f t) : VE X Γ e .nw (dSc f) t := ⟨h.pe, fun G H0 own env σ H Q d R q k => by
  unfold dSc at q
  cases e1 : f env with
  | none => rw [e1] at q; cases q
  | some x =>
    rw [e1] at q
    simp only [Option.bind_some] at q
    by_cases hs : isSc x = true
    · rw [if_pos hs] at q
      cases q
      exact h.ok G H0 own env σ H Q d R e1 fun v H' s p => k v H' s (dp_flat hs p)
    · rw [if_neg hs] at q; cases q⟩
theorem v_name (i : Nat) {x : Str} (hN : X.N[i]? = some x := by rfl) (hv : Vis X.env.scope x := by first | exact Or.inl rfl | exact Or.inr (Or.inl rfl) | exact Or.inr (Or.inr rfl)) (hd : (x == ("__debug__" : Str)) = false := by decide)
    (hcd : (x == ("__classdict__" : Str)) = false := by decide) : VE X Γ (.Name x pos) (md Γ i).rd (dV i) (tVar i) := ⟨pe_var hN hv hd hcd, fun G H0 own env σ H Q d R q k => by
  have q' : env[i]? = some (some d) := by
    unfold dV at q
    rw [List.getD_eq_getElem?_getD] at q
    cases e1 : env[i]? with
    | none => rw [e1] at q; cases q
    | some x => rw [e1] at q; exact congrArg some q
  obtain ⟨v, h1, h2⟩ := R.sl i d q'
  exact ⟨v, h1, k v H (Same.refl H) (h2.dp R.ex)⟩⟩
theorem v_con {d : D} (hs : isSc d = true) (h : PE X e (tC (sv d))) : VE X Γ e .nw (dC d) (tC (sv d)) := ⟨h, fun G H0 own env σ H Q d' R q k => by
  cases q
  exact k _ H (Same.refl H) (sc_dp hs)⟩
theorem v_int {i : Int} {j : Nat} : VE X Γ (.Constant (.int i) j pos) .nw (dC (.int i)) (tC (.int i)) := v_con (d := .int i) rfl pe_int
theorem v_bl {i : Bool} {j : Nat} : VE X Γ (.Constant (.bool i) j pos) .nw (dC (.bool i)) (tC (.bl i)) := v_con (d := .bool i) rfl pe_bl
theorem v_non {j : Nat} : VE X Γ (.Constant .none j pos) .nw (dC .none) (tC .non) := v_con (d := .none) rfl pe_non
theorem v_str {z : Str} {j : Nat} : VE X Γ (.Constant (.str z) j pos) .nw (dC (.str z)) (tC (.str z)) := v_con (d := .str z) rfl pe_str
/-- an operation by values whose answer is a number, a truth, None or a text -/
def R2s (K : PySem.W.Frag) (rr : R2) (h : D → D → Option D) : Prop := ∀ (x y : V) (dx dy d : D) (H : Hp) (Q : VK), Dp K H x dx → Dp K H y dy → h dx dy = some d → isSc d = true ∧ (Q (sv d) H → rr x y H Q)
theorem ok_op {rr : R2} {h : D → D → Option D} {K : PySem.W.Frag} (hs : R2s K rr h) (ha : OkE K Γ ra f ta) (hb : OkE K Γ rb g tb) : OkE K Γ .nw (d2 h f g) (tOp rr ta tb) := fun G H0 own env σ H Q d R q k => by
  unfold d2 at q
  cases e1 : f env with
  | none => rw [e1] at q; cases q
  | some x =>
    cases e2 : g env with
    | none => rw [e1, e2] at q; cases q
    | some y =>
      rw [e1, e2] at q
      simp only [Option.bind_some] at q
      refine ha G H0 own env σ H _ x R e1 fun v1 H1 s1 p1 => ?_
      refine hb G H0 own env σ H1 _ y (R.ext s1) e2 fun v2 H2 s2 p2 => ?_
      obtain ⟨h1, h2⟩ := hs v1 v2 x y d H2 Q (dp_mono (rg_sub.trans s2) _ _ p1) (dp_mono rg_sub _ _ p2) q
      exact h2 (k _ H2 (s1.trans s2) (sc_dp h1))
theorem v_op {op : Operator} {rr : R2} {h : D → D → Option D} (ho : OpR X (binaryOp op) rr) (hs : R2s X.K rr h) (ha : VE X Γ a ra f ta) (hb : VE X Γ b rb g tb) : VE X Γ (.BinOp a op b pos) .nw (d2 h f g) (tOp rr ta tb) := ⟨pe_op ho ha.pe hb.pe, ok_op hs ha.ok hb.ok⟩
theorem v_cmp {op : CmpOp} {rr : R2} {h : D → D → Option D} (ho : OpR X (compareOp op) rr) (hs : R2s X.K rr h) (ha : VE X Γ a ra f ta) (hb : VE X Γ b rb g tb) (hm : behindInMarks op b = false := by first | exact nomark _ | rfl) :
    VE X Γ (.Compare a [op] [b] pos) .nw (d2 h f g) (tOp rr ta tb) := ⟨pe_cmpR ho ha.pe hb.pe hm, ok_op hs ha.ok hb.ok⟩
theorem ok_b {K : PySem.W.Frag} (h : OkE K Γ r f t) : OkT K Γ (dB f) (tB t) := fun G H0 own env σ H Q b R q k => by
  unfold dB at q
  cases e1 : f env with
  | none => rw [e1] at q; cases q
  | some x =>
    rw [e1] at q
    simp only [Option.bind_some] at q
    cases x with
    | bool c =>
      cases q
      exact h G H0 own env σ H _ _ R e1 fun v H' s p => by
        cases p
        exact ⟨b, rfl, k H' s⟩
    | _ => cases q
theorem vt_cmp {op : CmpOp} {rr : R2} {h : D → D → Option D} (ho : OpR X (compareOp op) rr) (hs : R2s X.K rr h) (ha : VE X Γ a ra f ta) (hb : VE X Γ b rb g tb) (hm : behindInMarks op b = false := by first | exact nomark _ | rfl) :
    VT X Γ (.Compare a [op] [b] pos) (dB (d2 h f g)) (tTest (tOp rr ta tb)) := ⟨pt_cmpR ho ha.pe hb.pe hm, ok_b (ok_op hs ha.ok hb.ok)⟩
theorem vt_val (h : VE X Γ e r f t) (he : ∀ whole, isTrue e X.env whole = (do let v ← whole; standAt e.pos; holding [v] (truthy v)) := by intro _; rfl) : VT X Γ e (dB f) (tB t) := ⟨pt_val h.pe he, ok_b h.ok⟩
section
variable {p q : SE → Option Bool} {tp tq : TT} {rest : List Expr}
theorem ok_and {K : PySem.W.Frag} (ha : OkT K Γ p tp) (hb : OkT K Γ q tq) : OkT K Γ (tAndD p q) (tAnd tp tq) := fun G H0 own env σ H Q b R z k => by
  unfold tAndD at z
  cases e1 : p env with
  | none => rw [e1] at z; cases z
  | some c =>
    rw [e1] at z
    simp only [Option.bind_some] at z
    refine ha G H0 own env σ H _ c R e1 fun H1 s1 => ?_
    cases c with
    | true => exact iteT (hb G H0 own env σ H1 _ b (R.ext s1) z fun H2 s2 => k H2 (s1.trans s2))
    | false => cases z; exact iteF (k H1 s1)
theorem ok_or {K : PySem.W.Frag} (ha : OkT K Γ p tp) (hb : OkT K Γ q tq) : OkT K Γ (tOrD p q) (tOr tp tq) := fun G H0 own env σ H Q b R z k => by
  unfold tOrD at z
  cases e1 : p env with
  | none => rw [e1] at z; cases z
  | some c =>
    rw [e1] at z
    simp only [Option.bind_some] at z
    refine ha G H0 own env σ H _ c R e1 fun H1 s1 => ?_
    cases c with
    | false => exact iteF (hb G H0 own env σ H1 _ b (R.ext s1) z fun H2 s2 => k H2 (s1.trans s2))
    | true => cases z; exact iteT (k H1 s1)
theorem vw_pt (h : VW X Γ e p tp) : VT X Γ e p tp := ⟨h.pt.pt, h.ok⟩
theorem vw_and1 (h : VT X Γ a p tp) : VW X Γ (.BoolOp .And [a] pos) p tp := ⟨pw_and1 h.pt, h.ok⟩
theorem vw_or1 (h : VT X Γ a p tp) : VW X Γ (.BoolOp .Or [a] pos) p tp := ⟨pw_or1 h.pt, h.ok⟩
theorem vw_and (ha : VT X Γ a p tp) (hb : VW X Γ (.BoolOp .And (b :: rest) pos) q tq) : VW X Γ (.BoolOp .And (a :: b :: rest) pos) (tAndD p q) (tAnd tp tq) := ⟨pw_and ha.pt hb.pt, ok_and ha.ok hb.ok⟩
theorem vw_or (ha : VT X Γ a p tp) (hb : VW X Γ (.BoolOp .Or (b :: rest) pos) q tq) : VW X Γ (.BoolOp .Or (a :: b :: rest) pos) (tOrD p q) (tOr tp tq) := ⟨pw_or ha.pt hb.pt, ok_or ha.ok hb.ok⟩
theorem vt_not (ha : VT X Γ a p tp) : VT X Γ (.UnaryOp .Not a pos) (tNotD p) (tNot tp) := ⟨pt_not ha.pt, fun G H0 own env σ H Q b R z k => by
  unfold tNotD at z
  cases e1 : p env with
  | none => rw [e1] at z; cases z
  | some c =>
    rw [e1] at z
    cases z
    exact ha.ok G H0 own env σ H _ c R e1 fun H1 s1 => k H1 s1⟩
end
/-! ### and, or, not of truths as values -/
theorem v_one {op : BoolOp} (h : VE X Γ a r f t) : VE X Γ (.BoolOp op [a] pos) r f t := ⟨pe_one h.pe, h.ok⟩
theorem v_and {rest : List Expr} (ha : VE X Γ a ra f ta) (hb : VE X Γ (.BoolOp .And (b :: rest) pos) rb g tb) : VE X Γ (.BoolOp .And (a :: b :: rest) pos) .nw (dT (tAndD (dB f) (dB g))) (tAndV ta tb) := ⟨pe_and ha.pe hb.pe, fun G H0 own env σ H Q d R z k => by
  unfold dT tAndD dB at z
  cases e1 : f env with
  | none => rw [e1] at z; cases z
  | some x =>
    rw [e1] at z
    simp only [Option.bind_some] at z
    cases x with
    | bool c =>
      refine ha.ok G H0 own env σ H _ _ R e1 fun v H1 s1 p1 => ?_
      cases p1
      cases c with
      | false => cases z; exact ⟨false, rfl, iteF (k _ H1 s1 (.bl false))⟩
      | true =>
        refine ⟨true, rfl, iteT ?_⟩
        cases e2 : g env with
        | none => rw [e2] at z; cases z
        | some y =>
          rw [e2] at z
          simp only [Option.bind_some] at z
          cases y with
          | bool c' =>
            cases z
            exact hb.ok G H0 own env σ H1 Q _ (R.ext s1) e2 fun v2 H2 s2 p2 => by
              cases p2
              exact k _ H2 (s1.trans s2) (.bl c')
          | _ => cases z
    | _ => cases z⟩
theorem v_or {rest : List Expr} (ha : VE X Γ a ra f ta) (hb : VE X Γ (.BoolOp .Or (b :: rest) pos) rb g tb) : VE X Γ (.BoolOp .Or (a :: b :: rest) pos) .nw (dT (tOrD (dB f) (dB g))) (tOrV ta tb) := ⟨pe_or ha.pe hb.pe, fun G H0 own env σ H Q d R z k => by
  unfold dT tOrD dB at z
  cases e1 : f env with
  | none => rw [e1] at z; cases z
  | some x =>
    rw [e1] at z
    simp only [Option.bind_some] at z
    cases x with
    | bool c =>
      refine ha.ok G H0 own env σ H _ _ R e1 fun v H1 s1 p1 => ?_
      cases p1
      cases c with
      | true => cases z; exact ⟨true, rfl, iteT (k _ H1 s1 (.bl true))⟩
      | false =>
        refine ⟨false, rfl, iteF ?_⟩
        cases e2 : g env with
        | none => rw [e2] at z; cases z
        | some y =>
          rw [e2] at z
          simp only [Option.bind_some] at z
          cases y with
          | bool c' =>
            cases z
            exact hb.ok G H0 own env σ H1 Q _ (R.ext s1) e2 fun v2 H2 s2 p2 => by
              cases p2
              exact k _ H2 (s1.trans s2) (.bl c')
          | _ => cases z
    | _ => cases z⟩
theorem v_not (ha : VE X Γ a ra f ta) : VE X Γ (.UnaryOp .Not a pos) .nw (dT (tNotD (dB f))) (tNotV ta) := ⟨pe_not ha.pe, fun G H0 own env σ H Q d R z k => by
  unfold dT tNotD dB at z
  cases e1 : f env with
  | none => rw [e1] at z; cases z
  | some x =>
    rw [e1] at z
    simp only [Option.bind_some] at z
    cases x with
    | bool c =>
      cases z
      refine ha.ok G H0 own env σ H _ _ R e1 fun v H1 s1 p1 => ?_
      cases p1
      exact ⟨c, rfl, k _ H1 s1 (.bl (!c))⟩
    | _ => cases z⟩
/-! ### rows of expressions -/
theorem va_nil : VA X Γ [] .nw dNil tNil := ⟨pa_nil, fun _ _ z => by cases z; rfl, fun G H0 own env σ H Q d R z k => by
  cases z
  exact k _ H (Same.refl H) .nil⟩
theorem va_cons {fs : SE → Option (List D)} {ts : TA} (ha : VE X Γ a r f ta) (hb : VA X Γ es r fs ts) (hs : starEach (a :: es) X.env = (false, eval a X.env) :: starEach es X.env := by rfl) : VA X Γ (a :: es) r (dCons f fs) (tCons ta ts) := ⟨pa_cons ha.pe hb.pa hs, fun env ds z => by
  unfold dCons at z
  cases e1 : f env with
  | none => rw [e1] at z; cases z
  | some x =>
    cases e2 : fs env with
    | none => rw [e1, e2] at z; cases z
    | some y =>
      rw [e1, e2] at z
      cases z
      rw [List.length_cons, List.length_cons, hb.ln env y e2], fun G H0 own env σ H Q d R z k => by
  unfold dCons at z
  cases e1 : f env with
  | none => rw [e1] at z; cases z
  | some x =>
    cases e2 : fs env with
    | none => rw [e1, e2] at z; cases z
    | some y =>
      rw [e1, e2] at z
      cases z
      refine ha.ok G H0 own env σ H _ x R e1 fun v1 H1 s1 p1 => ?_
      refine hb.ok G H0 own env σ H1 _ y (R.ext s1) e2 fun v2 H2 s2 p2 => ?_
      exact k _ H2 (s1.trans s2) (.cons (dp_mono (rg_ext s2) _ _ p1) p2)⟩
theorem va_le {fs : SE → Option (List D)} {ts : TA} (l : RLe r r') (h : VA X Γ es r fs ts) : VA X Γ es r' fs ts := ⟨h.pa, h.ln, fun G H0 own env σ H Q d R q k => h.ok G H0 own env σ H Q d R q fun v H' s p => k v H' s (dps_mono (rg_le l) _ _ p)⟩
theorem vl_le {fs : SE → Option (List D)} (l : RLe r r') (h : VL X Γ e r fs t) : VL X Γ e r' fs t := ⟨h.pe, fun G H0 own env σ H Q d R q k => h.ok G H0 own env σ H Q d R q fun v vs H' s n e p => k v vs H' s n e (dps_mono (rg_le l) _ _ p)⟩
theorem vl_sc {fs : SE → Option (List D)} (h : VL X Γ e r fs t) : VL X Γ e .nw (dScs fs) t := ⟨h.pe, fun G H0 own env σ H Q d R q k => by
  unfold dScs at q
  cases e1 : fs env with
  | none => rw [e1] at q; cases q
  | some x =>
    rw [e1] at q
    simp only [Option.bind_some] at q
    by_cases hs : x.all isSc = true
    · rw [if_pos hs] at q
      cases q
      exact h.ok G H0 own env σ H Q d R e1 fun v vs H' s n e p => k v vs H' s n e (dps_flat hs p)
    · rw [if_neg hs] at q; cases q⟩
/-- a new list as a value that stays -/
theorem new_dp {K : PySem.W.Frag} {G H0 H H' : Hp} {own : List (Option Addr)} {env : SE} {σ : L2.St} {p : Addr} {vs : List V} {ds : List D} (R : ER K Γ G H0 own env σ H) (hp : H p = none) (hv : H' p = some (.lst vs)) (h : DpAll K (rg r G H0 (own ++ [some p]) H') vs ds) :
    Dp K (rg r G H0 own H') (.ref p) (.list ds) := by
  have i : InR r G H0 own p (.lst vs) := by
    cases r with
    | bo => trivial
    | od => exact ⟨R.live hp, .inl ⟨R.new hp, trivial⟩⟩
    | nw => exact ⟨R.live hp, R.new hp, trivial⟩
  exact .lst (SqL.of (rg_iff.mpr ⟨i, hv⟩)) (dps_mono (rg_own fun a z => ow_snoc z) _ _ h)
theorem v_of_l {fs : SE → Option (List D)} (h : VL X Γ e r fs t) : VE X Γ e r (dLst fs) t := ⟨h.pe, fun G H0 own env σ H Q d R z k => by
  unfold dLst at z
  cases e1 : fs env with
  | none => rw [e1] at z; cases z
  | some x =>
    rw [e1] at z
    cases z
    exact h.ok G H0 own env σ H Q x R e1 fun p vs H' s n q c => k _ H' s (new_dp R n q c)⟩
theorem same_new {H : Hp} {p : Addr} {o : HO} (h : H p = none) : Same H (upd H p o) := fun b x e => by
  rw [upd_ne (ne_of_none e h)]
  exact e
/-- behind a new object, the values that were there are still apart from it -/
theorem rg_new {K : PySem.W.Frag} {G H0 H : Hp} {own : List (Option Addr)} {p : Addr} {o : HO} {vs : List V} {ds : List D} (hp : H p = none) (h : DpAll K (rg r G H0 own H) vs ds) : DpAll K (rg r G H0 (own ++ [some p]) (upd H p o)) vs ds := by
  refine dps_mono (fun a u q => ?_) _ _ h
  obtain ⟨i, q⟩ := rg_iff.mp q
  have na : a ≠ p := ne_of_none q hp
  refine rg_iff.mpr ⟨?_, by rw [upd_ne na]; exact q⟩
  cases r with
  | bo => trivial
  | od => exact ⟨fun z => (ow_of_snoc z).elim i.1 na, i.2⟩
  | nw => exact ⟨fun z => (ow_of_snoc z).elim i.1 na, i.2⟩
theorem vl_lst {fs : SE → Option (List D)} {ts : TA} (h : VA X Γ es r fs ts) (hl : es.length ≤ 1000 := by decide) : VL X Γ (.List es pos) r fs (tLst ts) := ⟨pe_lst h.pa, fun G H0 own env σ H Q ds R z k => by
  refine h.ok G H0 own env σ H _ ds R z fun vs H' s c => ?_
  refine ⟨by rw [dps_len c, h.ln env ds z]; exact Nat.le_trans hl (by decide), fun p hp => ?_⟩
  exact k p vs _ (s.trans (same_new hp)) (s.free hp) upd_same (rg_new hp c)⟩
theorem tup_in {G H0 : Hp} {own : List (Option Addr)} {p : Addr} {ts : List V} (h1 : ¬ Ow own p) (h2 : H0 p = none) : InR r G H0 own p (.tup ts) := by
  cases r with
  | bo => trivial
  | od => exact ⟨h1, .inl ⟨h2, trivial⟩⟩
  | nw => exact ⟨h1, h2, trivial⟩
theorem v_tup {fs : SE → Option (List D)} {ts : TA} {j : Nat} (h : VA X Γ es r fs ts) (hl : es.length ≤ 1000 := by decide) : VE X Γ (.Tuple es j pos) r (dTup fs) (tTup ts) := ⟨pe_tup h.pa, fun G H0 own env σ H Q ds R z k => by
  unfold dTup at z
  cases e1 : fs env with
  | none => rw [e1] at z; cases z
  | some x =>
    rw [e1] at z
    cases z
    refine h.ok G H0 own env σ H _ x R e1 fun vs H' s c => ?_
    refine ⟨by rw [dps_len c, h.ln env x e1]; exact Nat.le_trans hl (by decide), fun p hp => ?_⟩
    have i : InR r G H0 own p (.tup vs) := tup_in (R.live (s.free hp)) (R.new (s.free hp))
    exact k _ _ (s.trans (same_new hp)) (.tup (SqT.of (rg_iff.mpr ⟨i, upd_same⟩)) (dps_mono (rg_ext (same_new hp)) _ _ c))⟩
end

/-! ### numbers -/
def MulC (i j : Int) : Prop := Builtin.Int.intBits i ≤ 64 ∨ Builtin.Int.intBits j ≤ 64 ∨ (Builtin.Int.intBits i ≤ 67108864 ∧ Builtin.Int.intBits j ≤ 67108864)
instance (i j : Int) : Decidable (MulC i j) := by unfold MulC; infer_instance
def DivC (_ j : Int) : Prop := 0 < j ∧ j.natAbs.log2 < 9000
instance (i j : Int) : Decidable (DivC i j) := by unfold DivC; infer_instance
def PowC (i j : Int) : Prop := 0 ≤ j ∧ (Builtin.Int.intBits i : Int) * j ≤ 2 ^ 27
instance (i j : Int) : Decidable (PowC i j) := by unfold PowC; infer_instance
theorem MulC.ok {i j : Int} (h : MulC i j) : IntMulOk i j := by
  rcases h with h | h | ⟨h1, h2⟩
  · exact .of_left h
  · exact .of_right h
  · unfold IntMulOk
    intro z
    rw [Bool.and_eq_true] at z
    have z2 := z.2
    unfold Builtin.Int.intTooBig at z2
    have z3 := of_decide_eq_true z2
    have e : bitsLine = 134217728 := by decide
    rw [e] at z3
    omega
def hAdd : D → D → Option D
  | .int i, .int j => some (.int (i + j))
  | _, _ => none
def hSub : D → D → Option D
  | .int i, .int j => some (.int (i - j))
  | _, _ => none
def hMul : D → D → Option D
  | .int i, .int j => if MulC i j then some (.int (i * j)) else none
  | _, _ => none
def hDiv : D → D → Option D
  | .int i, .int j => if DivC i j then some (.int (i / j)) else none
  | _, _ => none
def hMod : D → D → Option D
  | .int i, .int j => if 0 < j then some (.int (i % j)) else none
  | _, _ => none
def hPow : D → D → Option D
  | .int i, .int j => if PowC i j then some (.int (i ^ j.toNat)) else none
  | _, _ => none
def hLt : D → D → Option D
  | .int i, .int j => some (.bool (decide (i < j)))
  | _, _ => none
def hLe : D → D → Option D
  | .int i, .int j => some (.bool (decide (i ≤ j)))
  | _, _ => none
def hGt : D → D → Option D
  | .int i, .int j => some (.bool (decide (j < i)))
  | _, _ => none
def hGe : D → D → Option D
  | .int i, .int j => some (.bool (decide (j ≤ i)))
  | _, _ => none
def hNeg : D → Option D
  | .int i => some (.int (-i))
  | _ => none
def isNone : D → Bool
  | .none => true
  | _ => false
def hIsN : D → D → Option D
  | x, .none => some (.bool (isNone x))
  | _, _ => none
def hNotN : D → D → Option D
  | x, .none => some (.bool (!isNone x))
  | _, _ => none
def hEq (x y : D) : Option D := if SeqAt.shaped x = true ∧ SeqAt.shaped y = true then some (.bool (PyData.eqv x y)) else none
def hNe (x y : D) : Option D := if SeqAt.shaped x = true ∧ SeqAt.shaped y = true then some (.bool (!PyData.eqv x y)) else none
def items? : D → Option (List D)
  | .list xs => some xs
  | .tuple xs => some xs
  | _ => none
def inD (x : D) (ys : List D) : Bool := ys.any fun y => PyData.eqv y x
def hIn (x y : D) : Option D := (items? y).bind fun ys => if isSc x = true ∧ ys.all isSc = true then some (.bool (inD x ys)) else none
def hNotIn (x y : D) : Option D := (items? y).bind fun ys => if isSc x = true ∧ ys.all isSc = true then some (.bool (!inD x ys)) else none
section
variable {X : Cx} {K : PySem.W.Frag}
theorem op_mulP : OpR X (binaryOp .Mult) (rI MulC fun i j => .int (i * j)) := opI fun _ _ _ _ _ _ _ hc q => mul_int q hc.ok
theorem op_divP : OpR X (binaryOp .FloorDiv) (rI DivC fun i j => .int (i / j)) := op_fdivW
theorem op_powP : OpR X (binaryOp .Pow) (rI PowC fun i j => .int (i ^ j.toNat)) := opI fun _ _ _ _ _ _ _ hc q => pow_int hc.1 hc.2 q
theorem r_I0 {g : Int → Int → D} {h : D → D → Option D} (hg : ∀ i j, isSc (g i j) = true) (hh : ∀ x y d, h x y = some d → ∃ i j, x = .int i ∧ y = .int j ∧ d = g i j) : R2s K (rI0 fun i j => sv (g i j)) h := fun x y dx dy d H Q px py z => by
  obtain ⟨i, j, rfl, rfl, rfl⟩ := hh dx dy d z
  cases px
  cases py
  exact ⟨hg i j, fun q => ⟨i, j, rfl, rfl, q⟩⟩
theorem r_I {C : Int → Int → Prop} {g : Int → Int → D} {h : D → D → Option D} (hg : ∀ i j, isSc (g i j) = true) (hh : ∀ x y d, h x y = some d → ∃ i j, x = .int i ∧ y = .int j ∧ C i j ∧ d = g i j) : R2s K (rI C fun i j => sv (g i j)) h := fun x y dx dy d H Q px py z => by
  obtain ⟨i, j, rfl, rfl, hc, rfl⟩ := hh dx dy d z
  cases px
  cases py
  exact ⟨hg i j, fun q => ⟨i, j, rfl, rfl, hc, q⟩⟩
theorem r_add : R2s K (rI0 fun i j => .int (i + j)) hAdd := r_I0 (g := fun i j => .int (i + j)) (fun _ _ => rfl) fun x y d z => by
  cases x <;> cases y <;> cases z
  exact ⟨_, _, rfl, rfl, rfl⟩
theorem r_sub : R2s K (rI0 fun i j => .int (i - j)) hSub := r_I0 (g := fun i j => .int (i - j)) (fun _ _ => rfl) fun x y d z => by
  cases x <;> cases y <;> cases z
  exact ⟨_, _, rfl, rfl, rfl⟩
theorem r_lt : R2s K (rI0 fun i j => .bl (decide (i < j))) hLt := r_I0 (g := fun i j => .bool (decide (i < j))) (fun _ _ => rfl) fun x y d z => by
  cases x <;> cases y <;> cases z
  exact ⟨_, _, rfl, rfl, rfl⟩
theorem r_le : R2s K (rI0 fun i j => .bl (decide (i ≤ j))) hLe := r_I0 (g := fun i j => .bool (decide (i ≤ j))) (fun _ _ => rfl) fun x y d z => by
  cases x <;> cases y <;> cases z
  exact ⟨_, _, rfl, rfl, rfl⟩
theorem r_gt : R2s K (rI0 fun i j => .bl (decide (j < i))) hGt := r_I0 (g := fun i j => .bool (decide (j < i))) (fun _ _ => rfl) fun x y d z => by
  cases x <;> cases y <;> cases z
  exact ⟨_, _, rfl, rfl, rfl⟩
theorem r_ge : R2s K (rI0 fun i j => .bl (decide (j ≤ i))) hGe := r_I0 (g := fun i j => .bool (decide (j ≤ i))) (fun _ _ => rfl) fun x y d z => by
  cases x <;> cases y <;> cases z
  exact ⟨_, _, rfl, rfl, rfl⟩
theorem ite_some {c : Prop} [Decidable c] {x d : D} (z : (if c then some x else none) = some d) : c ∧ d = x := by
  by_cases h : c
  · rw [if_pos h] at z; cases z; exact ⟨h, rfl⟩
  · rw [if_neg h] at z; cases z
theorem r_mul : R2s K (rI MulC fun i j => .int (i * j)) hMul := r_I (g := fun i j => .int (i * j)) (fun _ _ => rfl) fun x y d z => by
  cases x <;> cases y <;> first | (obtain ⟨h1, h2⟩ := ite_some z; exact ⟨_, _, rfl, rfl, h1, h2⟩) | cases z
theorem r_div : R2s K (rI DivC fun i j => .int (i / j)) hDiv := r_I (g := fun i j => .int (i / j)) (fun _ _ => rfl) fun x y d z => by
  cases x <;> cases y <;> first | (obtain ⟨h1, h2⟩ := ite_some z; exact ⟨_, _, rfl, rfl, h1, h2⟩) | cases z
theorem r_mod : R2s K (rI (fun _ j => 0 < j) fun i j => .int (i % j)) hMod := r_I (C := fun _ j => 0 < j) (g := fun i j => .int (i % j)) (fun _ _ => rfl) fun x y d z => by
  cases x <;> cases y <;> first | (obtain ⟨h1, h2⟩ := ite_some z; exact ⟨_, _, rfl, rfl, h1, h2⟩) | cases z
theorem r_pow : R2s K (rI PowC fun i j => .int (i ^ j.toNat)) hPow := r_I (g := fun i j => .int (i ^ j.toNat)) (fun _ _ => rfl) fun x y d z => by
  cases x <;> cases y <;> first | (obtain ⟨h1, h2⟩ := ite_some z; exact ⟨_, _, rfl, rfl, h1, h2⟩) | cases z
theorem dp_none {H : Hp} {v : V} {d : D} (p : Dp K H v d) : decide (v = .non) = isNone d := by
  cases p <;> first | rfl | simp [isNone]
theorem r_isN : R2s K (fun x y H Q => y = .non ∧ Q (.bl (decide (x = .non))) H) hIsN := fun x y dx dy d H Q px py z => by
  cases dy <;> cases z
  cases py
  exact ⟨rfl, fun q => ⟨rfl, by rw [dp_none px]; exact q⟩⟩
theorem r_notN : R2s K (fun x y H Q => y = .non ∧ Q (.bl (!decide (x = .non))) H) hNotN := fun x y dx dy d H Q px py z => by
  cases dy <;> cases z
  cases py
  exact ⟨rfl, fun q => ⟨rfl, by rw [dp_none px]; exact q⟩⟩
theorem r_eq : R2s K (rEqD K) hEq := fun x y dx dy d H Q px py z => by
  obtain ⟨h, rfl⟩ := ite_some z
  exact ⟨rfl, fun q => ⟨dx, dy, px, py, h.1, h.2, q⟩⟩
theorem r_ne : R2s K (rNeD K) hNe := fun x y dx dy d H Q px py z => by
  obtain ⟨h, rfl⟩ := ite_some z
  exact ⟨rfl, fun q => ⟨dx, dy, px, py, h.1, h.2, q⟩⟩
theorem sv_flat {d : D} (h : isSc d = true) : flatV (sv d) = true := by cases d <;> first | rfl | cases h
theorem sv_all : ∀ {ds : List D}, ds.all isSc = true → (ds.map sv).all flatV = true
  | [], _ => rfl
  | d :: ds, h => by
    rw [List.all_cons, Bool.and_eq_true] at h
    rw [List.map_cons, List.all_cons, sv_flat h.1, sv_all h.2]
    rfl
theorem eqV_sv {a b : D} (ha : isSc a = true) (hb : isSc b = true) : eqV (sv a) (sv b) = PyData.eqv a b := by
  cases a <;> first | (cases ha; done) | skip
  all_goals (cases b <;> first | (cases hb; done) | simp [eqV, sv, PyData.eqv])
theorem inV_sv {x : D} (hx : isSc x = true) : ∀ {ys : List D}, ys.all isSc = true → inV (sv x) (ys.map sv) = inD x ys
  | [], _ => rfl
  | y :: ys, h => by
    rw [List.all_cons, Bool.and_eq_true] at h
    have ih := inV_sv hx h.2
    unfold inV inD at ih ⊢
    rw [List.map_cons, List.any_cons, List.any_cons, eqV_sv h.1 hx, ih]
theorem items_dp {H : Hp} {v : V} {d : D} {xs : List D} (p : Dp K H v d) (h : items? d = some xs) : ∃ a vs, v = .ref a ∧ (SqL K H a vs ∨ SqT K H a vs) ∧ DpAll K H vs xs := by
  cases p with
  | lst hs ha => cases h; exact ⟨_, _, rfl, .inl hs, ha⟩
  | tup hs ha => cases h; exact ⟨_, _, rfl, .inr hs, ha⟩
  | _ => cases h
theorem r_in : R2s K (rIn K false) hIn := fun x y dx dy d H Q px py z => by
  unfold hIn at z
  cases e1 : items? dy with
  | none => rw [e1] at z; cases z
  | some ys =>
    rw [e1] at z
    obtain ⟨h, rfl⟩ := ite_some z
    obtain ⟨a, vs, rfl, hs, hd⟩ := items_dp py e1
    rw [dp_sc h.1 px]
    rw [dps_sv h.2 hd] at hs
    exact ⟨rfl, fun q => ⟨a, _, rfl, hs, sv_flat h.1, sv_all h.2, by rw [inV_sv h.1 h.2]; exact q⟩⟩
theorem r_notIn : R2s K (rIn K true) hNotIn := fun x y dx dy d H Q px py z => by
  unfold hNotIn at z
  cases e1 : items? dy with
  | none => rw [e1] at z; cases z
  | some ys =>
    rw [e1] at z
    obtain ⟨h, rfl⟩ := ite_some z
    obtain ⟨a, vs, rfl, hs, hd⟩ := items_dp py e1
    rw [dp_sc h.1 px]
    rw [dps_sv h.2 hd] at hs
    exact ⟨rfl, fun q => ⟨a, _, rfl, hs, sv_flat h.1, sv_all h.2, by rw [inV_sv h.1 h.2]; exact q⟩⟩
end
/-! ### built-ins whose answer is a number, a truth .. -/
def CaS (K : PySem.W.Frag) (rr : List V → Hp → VK → Prop) (h : List D → Option D) : Prop := ∀ (vs : List V) (ds : List D) (d : D) (H : Hp) (Q : VK), DpAll K H vs ds → h ds = some d → isSc d = true ∧ (Q (sv d) H → rr vs H Q)
def hLen : List D → Option D
  | [.list xs] => some (.int (xs.length : Int))
  | [.tuple xs] => some (.int (xs.length : Int))
  | [.str z] => if z.length ≤ 1000000 then some (.int (z.length : Int)) else none
  | _ => none
def hMin2 : List D → Option D
  | [.int i, .int j] => some (.int (if j < i then j else i))
  | _ => none
def hMax2 : List D → Option D
  | [.int i, .int j] => some (.int (if j > i then j else i))
  | _ => none
def ints? : List D → Option (List Int)
  | [] => some []
  | .int i :: r => (ints? r).map (i :: ·)
  | _ => none
def bools? : List D → Option (List Bool)
  | [] => some []
  | .bool i :: r => (bools? r).map (i :: ·)
  | _ => none
def hSum : List D → Option D
  | [.list xs] => (ints? xs).map fun ns => .int ns.sum
  | _ => none
def hAny : List D → Option D
  | [.list xs] => (bools? xs).map fun ns => .bool (ns.any id)
  | _ => none
def hInt : List D → Option D
  | [.int i] => some (.int i)
  | [.bool b] => some (.int (if b then 1 else 0))
  | _ => none
theorem ints_map : ∀ ns : List Int, ints? (ns.map PyData.int) = some ns
  | [] => rfl
  | n :: ns => by
    rw [List.map_cons, ints?, ints_map ns]
    rfl
theorem bools_map : ∀ ns : List Bool, bools? (ns.map PyData.bool) = some ns
  | [] => rfl
  | n :: ns => by
    rw [List.map_cons, bools?, bools_map ns]
    rfl
theorem ints_is : ∀ {ds : List D} {ns : List Int}, ints? ds = some ns → ds = ns.map PyData.int
  | [], _, h => by cases h; rfl
  | .int i :: r, ns, h => by
    rw [ints?] at h
    cases e : ints? r with
    | none => rw [e] at h; cases h
    | some ms =>
      rw [e] at h
      cases h
      rw [List.map_cons, ints_is e]
  | .none :: _, _, h => by cases h
  | .bool _ :: _, _, h => by cases h
  | .str _ :: _, _, h => by cases h
  | .list _ :: _, _, h => by cases h
  | .tuple _ :: _, _, h => by cases h
  | .dict _ :: _, _, h => by cases h
theorem bools_is : ∀ {ds : List D} {ns : List Bool}, bools? ds = some ns → ds = ns.map PyData.bool
  | [], _, h => by cases h; rfl
  | .bool i :: r, ns, h => by
    rw [bools?] at h
    cases e : bools? r with
    | none => rw [e] at h; cases h
    | some ms =>
      rw [e] at h
      cases h
      rw [List.map_cons, bools_is e]
  | .none :: _, _, h => by cases h
  | .int _ :: _, _, h => by cases h
  | .str _ :: _, _, h => by cases h
  | .list _ :: _, _, h => by cases h
  | .tuple _ :: _, _, h => by cases h
  | .dict _ :: _, _, h => by cases h
section
variable {X : Cx} {K : PySem.W.Frag} {Γ : List Md} {H : Hp}
theorem dps_ints : ∀ {ns : List Int} {vs : List V}, DpAll K H vs (ns.map PyData.int) → vs = ns.map V.int
  | [], _, h => by cases h; rfl
  | n :: ns, _, h => by
    cases h with
    | cons h1 h2 =>
      cases h1
      rw [List.map_cons, dps_ints h2]
theorem ints_dps : ∀ {ns : List Int}, DpAll K H (ns.map V.int) (ns.map PyData.int)
  | [] => .nil
  | n :: ns => .cons (.int n) ints_dps
theorem dps_bools : ∀ {ns : List Bool} {vs : List V}, DpAll K H vs (ns.map PyData.bool) → vs = ns.map V.bl
  | [], _, h => by cases h; rfl
  | n :: ns, _, h => by
    cases h with
    | cons h1 h2 =>
      cases h1
      rw [List.map_cons, dps_bools h2]
theorem c_len : CaS K (fun xs H Q => ∃ x n, xs = [x] ∧ LenV K x H n ∧ Q (.int n) H) hLen := fun vs ds d H Q p z => by
  match ds, p, z with
  | [.list xs], .cons (.lst hs ha) .nil, z =>
    cases z
    exact ⟨rfl, fun q => ⟨_, _, rfl, .inl ⟨_, hs, rfl⟩, by rw [dps_len ha]; exact q⟩⟩
  | [.tuple xs], .cons (.tup hs ha) .nil, z =>
    cases z
    exact ⟨rfl, fun q => ⟨_, _, rfl, .inr ⟨_, hs, rfl⟩, by rw [dps_len ha]; exact q⟩⟩
  | [.str z'], .cons (.str _) .nil, z =>
    obtain ⟨h, rfl⟩ := ite_some z
    exact ⟨rfl, fun q => ⟨_, z'.length, rfl, ⟨Nat.le_trans h (by decide), rfl⟩, q⟩⟩
theorem c_min2 : CaS K (fun xs H Q => ∃ i j, xs = [.int i, .int j] ∧ Q (.int (if j < i then j else i)) H) hMin2 := fun vs ds d H Q p z => by
  match ds, p, z with
  | [.int i, .int j], .cons (.int _) (.cons (.int _) .nil), z =>
    cases z
    exact ⟨rfl, fun q => ⟨i, j, rfl, q⟩⟩
theorem c_max2 : CaS K (fun xs H Q => ∃ i j, xs = [.int i, .int j] ∧ Q (.int (if j > i then j else i)) H) hMax2 := fun vs ds d H Q p z => by
  match ds, p, z with
  | [.int i, .int j], .cons (.int _) (.cons (.int _) .nil), z =>
    cases z
    exact ⟨rfl, fun q => ⟨i, j, rfl, q⟩⟩
theorem c_int : CaS K (fun xs H Q => (∃ i, xs = [.int i] ∧ Q (.int i) H) ∨ ∃ k, xs = [.bl k] ∧ Q (.int (if k then 1 else 0)) H) hInt := fun vs ds d H Q p z => by
  match ds, p, z with
  | [.int i], .cons (.int _) .nil, z =>
    cases z
    exact ⟨rfl, fun q => .inl ⟨i, rfl, q⟩⟩
  | [.bool b], .cons (.bl _) .nil, z =>
    cases z
    exact ⟨rfl, fun q => .inr ⟨b, rfl, q⟩⟩
theorem c_sum : CaS K (rSum K) hSum := fun vs ds d H Q p z => by
  match ds, p, z with
  | [.list xs], .cons (.lst hs ha) .nil, z =>
    have z : (ints? xs).map (fun ns => PyData.int ns.sum) = some d := z
    cases e : ints? xs with
    | none => rw [e] at z; cases z
    | some ns =>
      rw [e] at z
      cases z
      rw [ints_is e] at ha
      rw [dps_ints ha] at hs
      exact ⟨rfl, fun q => ⟨_, ns, rfl, hs, q⟩⟩
theorem c_any : CaS K (rAny K) hAny := fun vs ds d H Q p z => by
  match ds, p, z with
  | [.list xs], .cons (.lst hs ha) .nil, z =>
    have z : (bools? xs).map (fun ns => PyData.bool (ns.any id)) = some d := z
    cases e : bools? xs with
    | none => rw [e] at z; cases z
    | some ns =>
      rw [e] at z
      cases z
      rw [bools_is e] at ha
      rw [dps_bools ha] at hs
      exact ⟨rfl, fun q => ⟨_, ns, rfl, hs, q⟩⟩
end
section
variable {X : Cx} {Γ : List Md} {r ra rb : Rl} {e a b : Expr} {es : List Expr} {f g : SE → Option D} {fs : SE → Option (List D)} {ts : TA} {t ta tb : TE} {p pos : Pos} {x : Str} {id T : String} {rr : List V → Hp → VK → Prop} {h : List D → Option D}
theorem ok_cb {K : PySem.W.Frag} (hs : CaS K rr h) (ha : OkA K Γ r fs ts) : OkE K Γ .nw (dA h fs) (tCB rr ts) := fun G H0 own env σ H Q d R z k => by
  unfold dA at z
  cases e1 : fs env with
  | none => rw [e1] at z; cases z
  | some y =>
    rw [e1] at z
    simp only [Option.bind_some] at z
    refine ha G H0 own env σ H _ y R e1 fun vs H1 s1 c => ?_
    obtain ⟨h1, h2⟩ := hs vs y d H1 Q (dps_mono rg_sub _ _ c) z
    exact h2 (k _ H1 s1 (sc_dp h1))
/-- a built-in function -/
theorem v_callB (hc : CallR X (.builtin id) rr) (hs : CaS X.K rr h) (hm : X.mg x = none) (hv : bootBuiltins x = some (.builtin id)) (ha : VA X Γ (e :: es) r fs ts) (hg : Gl X x := by rfl) (hn : x ≠ "__name__" := by decide) (hdb : (x == ("__debug__" : Str)) = false := by decide)
    (he : starEach (e :: es) X.env = (false, eval e X.env) :: starEach es X.env := by rfl) (hpl : (backTo pos (starEach es X.env)).any (·.1) = false := by rfl) : VE X Γ (.Call (.Name x p) (e :: es) [] pos) .nw (dA h fs) (tCB rr ts) := ⟨pe_callB hc hg hm hv ha.pa hn hdb he hpl, ok_cb hs ha.ok⟩
/-- a built-in type -/
theorem v_callTy (hc : CallR X (.type T) rr) (hs : CaS X.K rr h) (hm : X.mg x = none) (hv : bootBuiltins x = some (.type T)) (ha : VA X Γ (e :: es) r fs ts) (hg : Gl X x := by rfl) (hn : x ≠ "__name__" := by decide) (hdb : (x == ("__debug__" : Str)) = false := by decide)
    (he : starEach (e :: es) X.env = (false, eval e X.env) :: starEach es X.env := by rfl) (hpl : (backTo pos (starEach es X.env)).any (·.1) = false := by rfl) : VE X Γ (.Call (.Name x p) (e :: es) [] pos) .nw (dA h fs) (tCB rr ts) := ⟨pe_callTy hc hg hm hv ha.pa hn hdb he hpl, ok_cb hs ha.ok⟩
/-- isinstance(e, T) -/
def tyName : D → Option String
  | .none => some "NoneType"
  | .bool _ => some "bool"
  | .int _ => some "int"
  | .str _ => some "str"
  | .list _ => some "list"
  | .tuple _ => some "tuple"
  | _ => none
def hIsi (T : String) (d : D) : Option D := (tyName d).bind fun n => (kitB n T).bind fun b => some (.bool b)
theorem dp_ty {K : PySem.W.Frag} {H : Hp} {v : V} {d : D} {n : String} (p : Dp K H v d) (h : tyName d = some n) : TyX K H v (.type n) := by
  cases p with
  | non => cases h; exact .base .non
  | bl b => cases h; exact .base (.bl b)
  | int i => cases h; exact .base (.int i)
  | str z => cases h; exact .base (.str z)
  | lst hs _ =>
    cases h
    rcases hs with (hs | ⟨o, hs⟩) | ⟨o, its, n, h1, h2, _⟩
    · exact .base (.lst hs)
    · exact .base (.frz hs)
    · exact .kList h1 h2
  | tup hs _ =>
    cases h
    rcases hs with (hs | ⟨o, hs⟩) | ⟨o, its, n, h1, h2, _⟩
    · exact .base (.tup hs)
    · exact .fTuple hs
    · exact .kTuple h1 h2
theorem v_isi {y : Str} {p2 : Pos} (hm : X.mg "isinstance" = none) (hm2 : X.mg y = none) (hv2 : bootBuiltins y = some (.type T)) (ha : VE X Γ a r f ta)
    (hg : Gl X "isinstance" := by rfl) (hg2 : Gl X y := by rfl) (hn2 : y ≠ "__name__" := by decide) (hd2 : (y == ("__debug__" : Str)) = false := by decide)
    (he : starEach (a :: [.Name y p2]) X.env = (false, eval a X.env) :: starEach [.Name y p2] X.env := by rfl) (he2 : starEach [.Name y p2] X.env = (false, eval (.Name y p2) X.env) :: starEach [] X.env := by rfl) (hpl : (backTo pos (starEach [.Name y p2] X.env)).any (·.1) = false := by rfl) :
    VE X Γ (.Call (.Name "isinstance" p) [a, .Name y p2] [] pos) .nw (d1 (hIsi T) f) (tCB (rIsi X.K) (tCons ta (tCons (tC (.ty T)) tNil))) :=
  ⟨pe_callB call_isi hg hm PyProof.Rows.boot_isinstance (pa_cons ha.pe (pa_cons (pe_bltn (v := .ty T) hg2 hm2 hv2 rfl hn2 hd2) pa_nil he2) he) (by decide) (by decide) he hpl, fun G H0 own env σ H Q d R z k => by
    unfold d1 hIsi at z
    cases e1 : f env with
    | none => rw [e1] at z; cases z
    | some y =>
      rw [e1] at z
      simp only [Option.bind_some] at z
      cases e2 : tyName y with
      | none => rw [e2] at z; cases z
      | some n =>
        rw [e2] at z
        simp only [Option.bind_some] at z
        cases e3 : kitB n T with
        | none => rw [e3] at z; cases z
        | some b =>
          rw [e3] at z
          cases z
          refine ha.ok G H0 own env σ H _ y R e1 fun v H1 s1 c => ?_
          exact ⟨v, .ty T, .type n, .type T, b, rfl, .ty T, dp_ty (dp_mono rg_sub _ _ c) e2, kit_ty e3, k _ H1 s1 (.bl b)⟩⟩
theorem v_neg (ha : VE X Γ a r f ta) : VE X Γ (.UnaryOp .USub a pos) .nw (d1 hNeg f) (tUn (rU fun i => .int (-i)) ta) := ⟨pe_un un_neg ha.pe, fun G H0 own env σ H Q d R z k => by
  unfold d1 at z
  cases e1 : f env with
  | none => rw [e1] at z; cases z
  | some y =>
    rw [e1] at z
    simp only [Option.bind_some] at z
    cases y with
    | int i =>
      cases z
      refine ha.ok G H0 own env σ H _ _ R e1 fun v H1 s1 c => ?_
      cases c
      exact ⟨i, rfl, k _ H1 s1 (.int (-i))⟩
    | _ => cases z⟩
end

/-! ### items, slices, new lists -/
def hIxL : D → D → Option D
  | .list xs, .int i => atI xs i
  | _, _ => none
def hIxT : D → D → Option D
  | .tuple xs, .int i => atI xs i
  | _, _ => none
def cutD (xs : List D) (lo hi : Option Int) : List D := (xs.drop (HT.sIx xs.length 0 lo)).take (HT.sIx xs.length xs.length hi - HT.sIx xs.length 0 lo)
def oNone (_ : SE) : Option (Option Int) := some none
def oSome (f : SE → Option D) (e : SE) : Option (Option Int) := (f e).bind fun x => match x with
  | .int i => some (some i)
  | _ => none
def lCut (f : SE → Option D) (lo hi : SE → Option (Option Int)) (e : SE) : Option (List D) := (f e).bind fun x => (lo e).bind fun a => (hi e).bind fun b => match x with
  | .list xs => some (cutD xs a b)
  | _ => none
def lOf (f : SE → Option D) (e : SE) : Option (List D) := (f e).bind items?
def list? : D → Option (List D)
  | .list xs => some xs
  | _ => none
def hCat (x y : D) : Option (List D) := (list? x).bind fun xs => (list? y).bind fun ys => if xs.length + ys.length ≤ 1000000 then some (xs ++ ys) else none
def lCat (f g : SE → Option D) (e : SE) : Option (List D) := (f e).bind fun x => (g e).bind fun y => hCat x y
def repD (k : Nat) (xs : List D) : List D := (List.replicate k xs).flatten
def hRep (xs : List D) (y : D) : Option (List D) := match y with
  | .int k => if k < 1000000 ∧ -1000000 < k ∧ xs.length * k.toNat ≤ 1000000 then some (repD k.toNat xs) else none
  | _ => none
def lRep (f : SE → Option (List D)) (g : SE → Option D) (e : SE) : Option (List D) := (f e).bind fun xs => (g e).bind fun y => hRep xs y
def sortI (ns : List Int) : List Int := ns.mergeSort (fun a b => decide (a ≤ b))
def lSortI (f : SE → Option D) (e : SE) : Option (List D) := (f e).bind fun x => (list? x).bind fun xs => (ints? xs).bind fun ns => some ((sortI ns).map PyData.int)
section
variable {K : PySem.W.Frag} {H : Hp}
theorem dps_atI {ds : List D} {vs : List V} {i : Int} {d : D} (h : DpAll K H vs ds) (e : atI ds i = some d) : ∃ v, atI vs i = some v ∧ Dp K H v d := by
  unfold atI at e ⊢
  rw [← dps_len h] at e
  cases q : ixN vs.length i with
  | none => rw [q] at e; cases e
  | some j =>
    rw [q] at e
    simp only [Option.bind_some] at e ⊢
    exact dps_get h e
theorem dps_cut {ds : List D} {vs : List V} (lo hi : Option Int) (h : DpAll K H vs ds) : DpAll K H (cutV vs lo hi) (cutD ds lo hi) := by
  unfold cutV cutD
  rw [dps_len h]
  exact dps_take _ (dps_drop _ h)
theorem dps_flat_rep {ds : List D} {vs : List V} (h : DpAll K H vs ds) : ∀ k, DpAll K H (List.replicate k vs).flatten (repD k ds)
  | 0 => .nil
  | k + 1 => by
    unfold repD
    rw [List.replicate_succ, List.replicate_succ, List.flatten_cons, List.flatten_cons]
    exact dps_app h (dps_flat_rep h k)
end
theorem sortI_unique {ns ns' : List Int} (h1 : ns'.Perm ns) (h2 : ns'.Pairwise (· ≤ ·)) : ns' = sortI ns := by
  have p : (sortI ns).Perm ns := List.mergeSort_perm _ _
  have s : (sortI ns).Pairwise (· ≤ ·) := by
    have := List.pairwise_mergeSort (le := fun (a b : Int) => decide (a ≤ b)) (fun a b c h1 h2 => by simp only [decide_eq_true_eq] at *; omega) (fun a b => by simp only [Bool.or_eq_true, decide_eq_true_eq]; omega) ns
    exact this.imp fun h => by simpa using h
  exact List.Perm.eq_of_pairwise (fun a b _ _ h1 h2 => Int.le_antisymm h1 h2) h2 s (h1.trans p.symm)
/-- list + list, whatever holds them -/
theorem op_catS {X : Cx} : OpR X (binaryOp .Add) (fun x y H Q => ∃ l b xs zs, x = .ref l ∧ y = .ref b ∧ SqL X.K H l xs ∧ SqL X.K H b zs ∧ xs.length + zs.length ≤ sizeLine ∧ ∀ p, H p = none → Q (.ref p) (upd H p (.lst (xs ++ zs)))) := by
  intro pins s σ H x y v u Q I rx ry h
  obtain ⟨l, b, xs, zs, rfl, rfl, hA, hB, hz, q⟩ := h
  cases rx
  cases ry
  obtain ⟨its, r1, p1, z1⟩ := I.list hA
  obtain ⟨its2, r2, p2, z2⟩ := I.list hB
  obtain ⟨⟨cls, dd, data, sl⟩, n, ho, hc, hdd, hd⟩ := p1
  obtain ⟨⟨cls2, dd2, data2, sl2⟩, n2, ho2, hc2, hdd2, hd2⟩ := p2
  simp only at hc hd hc2 hd2
  subst hc hd hc2 hd2
  have e : its.toArray ++ its2.toArray = (its ++ its2).toArray := by simp
  have l1 := r1.length
  have l2 := r2.length
  refine concat_meets ⟨_, ho, rfl⟩ ⟨_, ho2, rfl⟩ noFill_list_add seq_list_add PySem.F.slot_list_add PySem.F.entry_list_add (PySem.F.args_list_add_2 _ _) (list_addW l b its.toArray its2.toArray n n2 dd dd2 sl sl2 (by simp; omega)) ⟨ho, ho2, ?_⟩
  rw [e]
  exact ⟨.ref _, _, I.lnew (t' := s.toks) (r1.append r2) (by rw [List.length_append]; omega), rfl, q _ I.fresh⟩
section
variable {X : Cx} {Γ : List Md} {r ra rb : Rl} {e a b : Expr} {es : List Expr} {f g : SE → Option D} {fs : SE → Option (List D)} {ts : TA} {t ta tb : TE} {p pos : Pos} {x : Str}
theorem v_ixL (ha : VE X Γ a r f ta) (hb : VE X Γ b rb g tb) (hp : PlainIx b := by exact fun _ _ => rfl) : VE X Γ (.Subscript a b pos) r (d2 hIxL f g) (tOp (rIxL X.K) ta tb) := ⟨pe_ix ix_list ha.pe hb.pe hp, fun G H0 own env σ H Q d R z k => by
  unfold d2 at z
  cases e1 : f env with
  | none => rw [e1] at z; cases z
  | some x =>
    cases e2 : g env with
    | none => rw [e1, e2] at z; cases z
    | some y =>
      rw [e1, e2] at z
      simp only [Option.bind_some] at z
      refine ha.ok G H0 own env σ H _ x R e1 fun v1 H1 s1 p1 => ?_
      refine hb.ok G H0 own env σ H1 _ y (R.ext s1) e2 fun v2 H2 s2 p2 => ?_
      cases x with
      | list xs =>
        cases y with
        | int i =>
          cases p1 with
          | lst hs hd =>
            cases p2
            obtain ⟨w, h1, h2⟩ := dps_atI hd z
            exact ⟨_, _, _, w, rfl, rfl, (rg_sub.trans s2).seq hs, h1, k w H2 (s1.trans s2) (dp_mono (rg_ext s2) _ _ h2)⟩
        | _ => cases z
      | _ => cases z⟩
theorem v_ixT (ha : VE X Γ a r f ta) (hb : VE X Γ b rb g tb) (hp : PlainIx b := by exact fun _ _ => rfl) : VE X Γ (.Subscript a b pos) r (d2 hIxT f g) (tOp (rIxT X.K) ta tb) := ⟨pe_ix ix_tup ha.pe hb.pe hp, fun G H0 own env σ H Q d R z k => by
  unfold d2 at z
  cases e1 : f env with
  | none => rw [e1] at z; cases z
  | some x =>
    cases e2 : g env with
    | none => rw [e1, e2] at z; cases z
    | some y =>
      rw [e1, e2] at z
      simp only [Option.bind_some] at z
      refine ha.ok G H0 own env σ H _ x R e1 fun v1 H1 s1 p1 => ?_
      refine hb.ok G H0 own env σ H1 _ y (R.ext s1) e2 fun v2 H2 s2 p2 => ?_
      cases x with
      | tuple xs =>
        cases y with
        | int i =>
          cases p1 with
          | tup hs hd =>
            cases p2
            obtain ⟨w, h1, h2⟩ := dps_atI hd z
            exact ⟨_, _, _, w, rfl, rfl, same_t (rg_sub.trans s2) hs, h1, k w H2 (s1.trans s2) (dp_mono (rg_ext s2) _ _ h2)⟩
        | _ => cases z
      | _ => cases z⟩
structure VO (X : Cx) (Γ : List Md) (o : Option Expr) (f : SE → Option (Option Int)) (t : TO) : Prop where
  po : PO X o t
  ok : ∀ (G H0 : Hp) (own : List (Option Addr)) (env : SE) (σ : L2.St) (H : Hp) (Q : Option Int → Hp → Prop) (i : Option Int), ER X.K Γ G H0 own env σ H → f env = some i → (∀ H', Same H H' → Q i H') → t σ H Q
theorem vo_none : VO X Γ none oNone tNoPart := ⟨po_none, fun G H0 own env σ H Q i R z k => by cases z; exact k H (Same.refl H)⟩
theorem vo_some (h : VE X Γ e r f t) : VO X Γ (some e) (oSome f) (tPart t) := ⟨po_some h.pe, fun G H0 own env σ H Q i R z k => by
  unfold oSome at z
  cases e1 : f env with
  | none => rw [e1] at z; cases z
  | some x =>
    rw [e1] at z
    simp only [Option.bind_some] at z
    cases x with
    | int j =>
      cases z
      exact h.ok G H0 own env σ H _ _ R e1 fun v H' s c => by
        cases c
        exact ⟨j, rfl, k H' s⟩
    | _ => cases z⟩
theorem vl_cut {lo hi : Option Expr} {fl fh : SE → Option (Option Int)} {tl th : TO} {p2 : Pos} (ha : VE X Γ a r f ta) (h1 : VO X Γ lo fl tl) (h2 : VO X Γ hi fh th) : VL X Γ (.Subscript a (.Slice lo hi none p2) pos) r (lCut f fl fh) (tSl (rSlL X.K) ta tl th) := ⟨pe_slice sl_list ha.pe h1.po h2.po, fun G H0 own env σ H Q ds R z k => by
  unfold lCut at z
  cases e1 : f env with
  | none => rw [e1] at z; cases z
  | some x =>
    cases e2 : fl env with
    | none => rw [e1, e2] at z; cases z
    | some i =>
      cases e3 : fh env with
      | none => rw [e1, e2, e3] at z; cases z
      | some j =>
        rw [e1, e2, e3] at z
        simp only [Option.bind_some] at z
        cases x with
        | list xs =>
          cases z
          refine ha.ok G H0 own env σ H _ _ R e1 fun v1 H1 s1 p1 => ?_
          refine h1.ok G H0 own env σ H1 _ i (R.ext s1) e2 fun H2 s2 => ?_
          refine h2.ok G H0 own env σ H2 _ j ((R.ext s1).ext s2) e3 fun H3 s3 => ?_
          cases p1 with
          | lst hs hd =>
            have s13 := s2.trans s3
            refine ⟨_, _, rfl, (rg_sub.trans s13).seq hs, fun q hq => ?_⟩
            exact k q _ _ ((s1.trans s13).trans (same_new hq)) ((s1.trans s13).free hq) upd_same (rg_new hq (dps_mono (rg_ext s13) _ _ (dps_cut i j hd)))
        | _ => cases z⟩
/-- a tuple's slice, not the whole -/
def hCutT (x : D) (a b : Option Int) : Option D := match x with
  | .tuple xs => if HT.sIx xs.length 0 a = 0 ∧ HT.sIx xs.length xs.length b = xs.length then none else some (.tuple (cutD xs a b))
  | _ => none
def dCutT (f : SE → Option D) (lo hi : SE → Option (Option Int)) (e : SE) : Option D := (f e).bind fun x => (lo e).bind fun a => (hi e).bind fun b => hCutT x a b
theorem v_cutT {lo hi : Option Expr} {fl fh : SE → Option (Option Int)} {tl th : TO} {p2 : Pos} (ha : VE X Γ a r f ta) (h1 : VO X Γ lo fl tl) (h2 : VO X Γ hi fh th) : VE X Γ (.Subscript a (.Slice lo hi none p2) pos) r (dCutT f fl fh) (tSl (rSlT X.K) ta tl th) := ⟨pe_slice sl_tup ha.pe h1.po h2.po, fun G H0 own env σ H Q ds R z k => by
  unfold dCutT at z
  cases e1 : f env with
  | none => rw [e1] at z; cases z
  | some x =>
    cases e2 : fl env with
    | none => rw [e1, e2] at z; cases z
    | some i =>
      cases e3 : fh env with
      | none => rw [e1, e2, e3] at z; cases z
      | some j =>
        rw [e1, e2, e3] at z
        simp only [Option.bind_some] at z
        cases x with
        | tuple xs =>
          simp only [hCutT] at z
          by_cases q0 : HT.sIx xs.length 0 i = 0 ∧ HT.sIx xs.length xs.length j = xs.length
          · rw [if_pos q0] at z; cases z
          · rw [if_neg q0] at z
            cases z
            refine ha.ok G H0 own env σ H _ _ R e1 fun v1 H1 s1 p1 => ?_
            refine h1.ok G H0 own env σ H1 _ i (R.ext s1) e2 fun H2 s2 => ?_
            refine h2.ok G H0 own env σ H2 _ j ((R.ext s1).ext s2) e3 fun H3 s3 => ?_
            cases p1 with
            | tup hs hd =>
              have s13 := s2.trans s3
              refine ⟨_, _, rfl, same_t (rg_sub.trans s13) hs, by rw [dps_len hd]; exact q0, fun p hp => ?_⟩
              exact k _ _ ((s1.trans s13).trans (same_new hp)) (.tup (SqT.of (rg_iff.mpr ⟨tup_in (R.live ((s1.trans s13).free hp)) (R.new ((s1.trans s13).free hp)), upd_same⟩)) (dps_mono (rg_ext (s13.trans (same_new hp))) _ _ (dps_cut i j hd)))
        | _ => cases z⟩
/-- list(x) -/
theorem vl_of (hm : X.mg "list" = none) (ha : VE X Γ a r f ta) (hg : Gl X "list" := by rfl) (he : starEach [a] X.env = (false, eval a X.env) :: starEach [] X.env := by rfl) (hpl : (backTo pos (starEach [] X.env)).any (·.1) = false := by rfl) :
    VL X Γ (.Call (.Name "list" p) [a] [] pos) r (lOf f) (tCB (fun xs H Q => ∃ p ys, xs = [.ref p] ∧ (SqL X.K H p ys ∨ SqT X.K H p ys) ∧ ∀ l, H l = none → Q (.ref l) (upd H l (.lst ys))) (tCons ta tNil)) :=
  ⟨pe_callTy call_list_of hg hm (by decide +kernel) (pa_cons ha.pe pa_nil he) (by decide) (by decide) he hpl, fun G H0 own env σ H Q ds R z k => by
    unfold lOf at z
    cases e1 : f env with
    | none => rw [e1] at z; cases z
    | some x =>
      rw [e1] at z
      simp only [Option.bind_some] at z
      refine ha.ok G H0 own env σ H _ x R e1 fun v1 H1 s1 p1 => ?_
      obtain ⟨q, vs, rfl, hs, hd⟩ := items_dp p1 z
      have hs' : SqL X.K H1 q vs ∨ SqT X.K H1 q vs := hs.imp (fun h => rg_sub.seq h) (fun h => same_t rg_sub h)
      exact ⟨q, vs, rfl, hs', fun l hl => k l vs _ (s1.trans (same_new hl)) (s1.free hl) upd_same (rg_new hl hd)⟩⟩
def lRev (f : SE → Option D) (e : SE) : Option (List D) := (f e).bind fun x => (list? x).map List.reverse
theorem dps_reverse {K : PySem.W.Frag} {H : Hp} : ∀ {xs : List D} {vs : List V}, DpAll K H vs xs → DpAll K H vs.reverse xs.reverse
  | [], _, h => by cases h; exact .nil
  | x :: xs, _, h => by
    cases h with
    | cons h1 h2 =>
      rw [List.reverse_cons, List.reverse_cons]
      exact dps_app (dps_reverse h2) (.cons h1 .nil)
theorem vl_rev {p2 pos2 : Pos} (hc : X.calm = true) (hm : X.mg "list" = none) (hm2 : X.mg "reversed" = none) (ha : VE X Γ a r f ta) (hg : Gl X "list" := by rfl) (hg2 : Gl X "reversed" := by rfl)
    (hs : starEach [a] X.env = (false, eval a X.env) :: starEach [] X.env := by rfl)
    (hs2 : starEach [.Call (.Name "reversed" p2) [a] [] pos2] X.env = (false, eval (.Call (.Name "reversed" p2) [a] [] pos2) X.env) :: starEach [] X.env := by rfl) :
    VL X Γ (.Call (.Name "list" p) [.Call (.Name "reversed" p2) [a] [] pos2] [] pos) r (lRev f) (tListRev X.K ta) :=
  ⟨pe_listRev hc hg hm (by decide +kernel) hg2 hm2 ha.pe hs hs2, fun G H0 own env σ H Q ds R z k => by
    unfold lRev at z
    cases e1 : f env with
    | none => rw [e1] at z; cases z
    | some x =>
      rw [e1] at z
      simp only [Option.bind_some] at z
      cases x with
      | list xs =>
        cases z
        refine ha.ok G H0 own env σ H _ _ R e1 fun v1 H1 s1 p1 => ?_
        cases p1 with
        | lst hs hd =>
          refine ⟨_, _, rfl, rg_sub.seq hs, fun q hq => ?_⟩
          exact k q _ _ (s1.trans (same_new hq)) (s1.free hq) upd_same (rg_new hq (dps_reverse hd))
      | _ => cases z⟩
/-- xs + ys -/
theorem vl_cat (ha : VE X Γ a r f ta) (hb : VE X Γ b r g tb) : VL X Γ (.BinOp a .Add b pos) r (lCat f g) (tOp (fun x y H Q => ∃ l b xs zs, x = .ref l ∧ y = .ref b ∧ SqL X.K H l xs ∧ SqL X.K H b zs ∧ xs.length + zs.length ≤ sizeLine ∧ ∀ p, H p = none → Q (.ref p) (upd H p (.lst (xs ++ zs)))) ta tb) := ⟨pe_op op_catS ha.pe hb.pe, fun G H0 own env σ H Q ds R z k => by
  unfold lCat at z
  cases e1 : f env with
  | none => rw [e1] at z; cases z
  | some x =>
    cases e2 : g env with
    | none => rw [e1, e2] at z; cases z
    | some y =>
      rw [e1, e2] at z
      simp only [Option.bind_some] at z
      cases x with
      | list xs =>
        cases y with
        | list ys =>
          simp only [hCat, list?, Option.bind_some] at z
          by_cases hz : xs.length + ys.length ≤ 1000000
          · rw [if_pos hz] at z
            cases z
            refine ha.ok G H0 own env σ H _ _ R e1 fun v1 H1 s1 p1 => ?_
            refine hb.ok G H0 own env σ H1 _ _ (R.ext s1) e2 fun v2 H2 s2 p2 => ?_
            cases p1 with
            | lst hs hd =>
              cases p2 with
              | lst hs2 hd2 =>
                refine ⟨_, _, _, _, rfl, rfl, (rg_sub.trans s2).seq hs, rg_sub.seq hs2, by rw [dps_len hd, dps_len hd2]; exact Nat.le_trans hz (by decide), fun q hq => ?_⟩
                exact k q _ _ ((s1.trans s2).trans (same_new hq)) ((s1.trans s2).free hq) upd_same (rg_new hq (dps_app (dps_mono (rg_ext s2) _ _ hd) hd2))
          · rw [if_neg hz] at z; cases z
        | _ => cases z
      | _ => cases z⟩
/-- [..] * k -/
theorem vl_rep (ha : VL X Γ a r fs ta) (hb : VE X Γ b rb g tb) : VL X Γ (.BinOp a .Mult b pos) r (lRep fs g) (tOp rRep ta tb) := ⟨pe_op op_rep ha.pe hb.pe, fun G H0 own env σ H Q ds R z k => by
  unfold lRep at z
  cases e1 : fs env with
  | none => rw [e1] at z; cases z
  | some xs =>
    cases e2 : g env with
    | none => rw [e1, e2] at z; cases z
    | some y =>
      rw [e1, e2] at z
      simp only [Option.bind_some] at z
      cases y with
      | int n =>
        simp only [hRep] at z
        by_cases hz : n < 1000000 ∧ -1000000 < n ∧ xs.length * n.toNat ≤ 1000000
        · rw [if_pos hz] at z
          cases z
          refine ha.ok G H0 own env σ H _ _ R e1 fun q vs H1 s1 n1 h1 d1 => ?_
          refine hb.ok G H0 own env σ H1 _ _ (R.ext s1) e2 fun v2 H2 s2 p2 => ?_
          cases p2
          refine ⟨q, n, vs, rfl, rfl, s2 _ _ h1, by omega, by omega, by rw [dps_len d1]; exact Nat.le_trans hz.2.2 (by decide), fun w hw => ?_⟩
          exact k w _ _ ((s1.trans s2).trans (same_new hw)) ((s1.trans s2).free hw) upd_same (rg_new hw (dps_flat_rep (dps_mono ((rg_own fun a z => ow_snoc z).trans (rg_ext s2)) _ _ d1) _))
        · rw [if_neg hz] at z; cases z
      | _ => cases z⟩
theorem rmulS (a : Int) (t : Tok) (l : Addr) (items : Array Value) (n : Nat) (sl : Array (Option Value)) :
    Meets (Builtin.«int.__rmul__» ⟨[.int a t, .ref l], []⟩) (fun _ R s => s.heap.get? l = some { cls := .type "list", dict := none, data := .seq items n, slots := sl } ∧ R (.ok (.ret Value.notImplemented)) s) :=
  .of_wp fun prog w A R s h => by obtain ⟨hp, g, d, tk, os⟩ := s; obtain ⟨hl, h⟩ := h; wp_walk; exact ⟨_, rfl, h⟩
theorem lmulS (l : Addr) (items : Array Value) (n : Nat) (sl : Array (Option Value)) (x : Int) (u : Tok) (hc0 : ¬(!Builtin.List.listFitsIndex x) = true) (hc1 : ¬items.size * x.toNat > (2 ^ 63 - 1) / 8) (hc2 : ¬Builtin.List.listTooLong (items.size * x.toNat) = true) :
    Meets (Builtin.«list.__mul__» ⟨[.ref l, .int x u], []⟩) (fun _ R s => s.heap.get? l = some { cls := .type "list", dict := none, data := .seq items n, slots := sl } ∧ R (.ok (.ret (Value.ref s.heap.objs.size))) { s with heap := s.heap.push { cls := Value.type "list", data := Data.seq (List.foldl (fun x1 x2 => x1 ++ x2) #[] (List.replicate (if items.isEmpty = true then 0 else x.toNat) items)) }, toks := s.toks }) :=
  .of_wp fun prog w A R s h => by
    obtain ⟨hp, g, d, tk, os⟩ := s; obtain ⟨hl, h⟩ := h
    have hsz := AutoListH.joined_fits hc2
    wp_walk; refine wpAny_ite_false (decide_eq_false (Nat.not_lt.mpr hsz)) ?_; wp_walk; exact ⟨_, rfl, h⟩
def rRepS (K : PySem.W.Frag) : R2 := fun x y H Q => ∃ l k xs, x = .ref l ∧ y = .int k ∧ SqL K H l xs ∧ -(2 ^ 63) ≤ k ∧ k < 2 ^ 63 ∧ xs.length * k.toNat ≤ sizeLine ∧
  ∀ p, H p = none → Q (.ref p) (upd H p (.lst (List.replicate k.toNat xs).flatten))
theorem op_repS : OpR X (binaryOp .Mult) (rRepS X.K) := by
  intro pins s σ H x y v u Q I rx ry h
  obtain ⟨l, k, xs, rfl, rfl, hH, h1, h2, hz, q⟩ := h
  cases rx
  obtain ⟨t, rfl⟩ := ry
  obtain ⟨its, r, ⟨o, n, e, hc, hd, hs⟩, z⟩ := I.list hH
  have hl := r.length
  obtain ⟨oc, odict, od, osl⟩ := o
  simp only at hc hd hs
  subst hc hd hs
  have hlen : its.toArray.size * k.toNat ≤ sizeLine := by rw [List.size_toArray, ← hl]; exact hz
  have hcap : ¬ its.toArray.size * k.toNat > (2 ^ 63 - 1) / 8 := by
    have : (sizeLine : Nat) ≤ (2 ^ 63 - 1) / 8 := by decide
    omega
  have hfit : ¬ (!Builtin.List.listFitsIndex k) = true := by
    rw [fitsIndex_both h1 h2]
    exact Bool.false_ne_true
  have hlong : ¬ Builtin.List.listTooLong (its.toArray.size * k.toNat) = true := by
    rw [notLongL hlen]
    exact Bool.false_ne_true
  have hnew : List.foldl (fun x1 x2 => x1 ++ x2) #[] (List.replicate (if its.toArray.isEmpty = true then 0 else k.toNat) its.toArray) = (List.replicate k.toNat its).flatten.toArray := by
    have f0 : ∀ m : Nat, List.foldl (fun x1 x2 => x1 ++ x2) #[] (List.replicate m its.toArray) = (List.replicate m its).flatten.toArray := fun m => by
      have := foldl_rep its m []
      rw [List.nil_append] at this
      exact this
    rw [f0]
    cases its with
    | nil => simp
    | cons a r' => rw [if_neg (by simp)]
  refine wpAny_binaryOp_repeat_ref (T := "list") (U := "int") (by decide) ⟨_, e, rfl⟩ (fun s' => typeIs_int s' k t) noFill_list_mul F.fills_int_mul F.slot_int_rmul repeat_list F.slot_int_index.lookup
    (call_meets F.slot_int_rmul (typeIs_int s k t) F.entry_int_rmul (F.args_int_rmul_2 _ _) (rmulS k t l its.toArray n osl)
      ⟨e, rfl, ⟨_, e, rfl⟩, call_meets F.slot_list_mul ⟨_, e, rfl⟩ F.entry_list_mul (F.args_list_mul_2 _ _) (lmulS l its.toArray n osl k t hfit hcap hlong) ⟨e, ?_⟩⟩)
  rw [hnew]
  exact ⟨.ref _, _, I.lnew (t' := s.toks) (r.rep k.toNat) (by rw [PyProof.Rows.lm_len_rep_flat, Nat.mul_comm]; exact hz), rfl, q _ I.fresh⟩
def lRepE (f : SE → Option D) (g : SE → Option D) (e : SE) : Option (List D) := (f e).bind fun x => (list? x).bind fun xs => (g e).bind fun y => hRep xs y
theorem vl_repE (ha : VE X Γ a r f ta) (hb : VE X Γ b rb g tb) : VL X Γ (.BinOp a .Mult b pos) r (lRepE f g) (tOp (rRepS X.K) ta tb) := ⟨pe_op op_repS ha.pe hb.pe, fun G H0 own env σ H Q ds R z k => by
  unfold lRepE at z
  cases e1 : f env with
  | none => rw [e1] at z; cases z
  | some x =>
    rw [e1] at z
    simp only [Option.bind_some] at z
    cases x with
    | list xs =>
      simp only [list?, Option.bind_some] at z
      cases e2 : g env with
      | none => rw [e2] at z; cases z
      | some y =>
        rw [e2] at z
        simp only [Option.bind_some] at z
        cases y with
        | int n =>
          simp only [hRep] at z
          by_cases hz : n < 1000000 ∧ -1000000 < n ∧ xs.length * n.toNat ≤ 1000000
          · rw [if_pos hz] at z
            cases z
            refine ha.ok G H0 own env σ H _ _ R e1 fun v1 H1 s1 p1 => ?_
            refine hb.ok G H0 own env σ H1 _ _ (R.ext s1) e2 fun v2 H2 s2 p2 => ?_
            cases p2
            cases p1 with
            | lst hs hd =>
              refine ⟨_, n, _, rfl, rfl, (rg_sub.trans s2).seq hs, by omega, by omega, by rw [dps_len hd]; exact Nat.le_trans hz.2.2 (by decide), fun w hw => ?_⟩
              exact k w _ _ ((s1.trans s2).trans (same_new hw)) ((s1.trans s2).free hw) upd_same (rg_new hw (dps_flat_rep (dps_mono (rg_ext s2) _ _ hd) _))
          · rw [if_neg hz] at z; cases z
        | _ => cases z
    | _ => cases z⟩
/-- sorted(numbers) -/
theorem vl_sortI (hm : X.mg "sorted" = none) (ha : VE X Γ a r f ta) (hg : Gl X "sorted" := by rfl) (he : starEach [a] X.env = (false, eval a X.env) :: starEach [] X.env := by rfl) (hpl : (backTo pos (starEach [] X.env)).any (·.1) = false := by rfl) :
    VL X Γ (.Call (.Name "sorted" p) [a] [] pos) .nw (lSortI f) (tCB (rSortedI X.K) (tCons ta tNil)) :=
  ⟨pe_callB cr_sortedI hg hm (by decide +kernel) (pa_cons ha.pe pa_nil he) (by decide) (by decide) he hpl, fun G H0 own env σ H Q ds R z k => by
    unfold lSortI at z
    cases e1 : f env with
    | none => rw [e1] at z; cases z
    | some x =>
      rw [e1] at z
      simp only [Option.bind_some] at z
      cases x with
      | list xs =>
        simp only [list?, Option.bind_some] at z
        cases e2 : ints? xs with
        | none => rw [e2] at z; cases z
        | some ns =>
          rw [e2] at z
          cases z
          refine ha.ok G H0 own env σ H _ _ R e1 fun v1 H1 s1 p1 => ?_
          cases p1 with
          | lst hs hd =>
            rw [ints_is e2] at hd
            rw [dps_ints hd] at hs
            refine ⟨_, ns, rfl, rg_sub.seq hs, fun ns' q h1 h2 hq => ?_⟩
            rw [sortI_unique h1 h2]
            exact k q _ _ (s1.trans (same_new hq)) (s1.free hq) upd_same ints_dps
      | _ => cases z⟩
end

/-! ### statements -/
inductive Rs where
  | nx (e : SE) | rt (d : D) | bk (e : SE) | ct (e : SE)
/-- what is handed out: a new list (u), or a value -/
def RetOk (K : PySem.W.Frag) (u : Bool) (r : Rl) (G H0 H : Hp) (v : V) (d : D) : Prop :=
  match u with
  | true => ∃ a vs ds, v = .ref a ∧ d = .list ds ∧ H0 a = none ∧ H a = some (.lst vs) ∧ DpAll K (rg r G H0 [some a] H) vs ds
  | false => Dp K (rg r G H0 [] H) v d
def Pst (K : PySem.W.Frag) (Γ : List Md) (u : Bool) (r : Rl) (G H0 : Hp) (own : List (Option Addr)) (H : Hp) (D : Ends) : Rs → Prop
  | .nx e => ∀ own' σ' H', ER K Γ G H0 own' e σ' H' → Gr own H own' H' → D.nx σ' H'
  | .bk e => ∀ own' σ' H', ER K Γ G H0 own' e σ' H' → Gr own H own' H' → D.bk σ' H'
  | .ct e => ∀ own' σ' H', ER K Γ G H0 own' e σ' H' → Gr own H own' H' → D.ct σ' H'
  | .rt d => ∀ v H', Same H0 H' → RetOk K u r G H0 H' v d → D.rt v H'
def OkS (K : PySem.W.Frag) (Γ : List Md) (u : Bool) (r : Rl) (g : SE → Option Rs) (t : TS) : Prop :=
  ∀ (G H0 : Hp) (own : List (Option Addr)) (env : SE) (σ : L2.St) (H : Hp) (D : Ends) (res : Rs), ER K Γ G H0 own env σ H → g env = some res → Pst K Γ u r G H0 own H D res → t D σ H
structure VS (X : Cx) (Γ : List Md) (u : Bool) (r : Rl) (st : Stmt) (g : SE → Option Rs) (t : TS) : Prop where
  ps : PS X st t
  ok : OkS X.K Γ u r g t
structure VSs (X : Cx) (Γ : List Md) (u : Bool) (r : Rl) (st : List Stmt) (g : SE → Option Rs) (t : TS) : Prop where
  ps : PSs X st t
  ok : OkS X.K Γ u r g t
def acc : Rl → Md → Bool
  | .nw, .od => true
  | .nw, .nw => true
  | .od, .od => true
  | _, _ => false
def accL : Rl → Md → Bool
  | .nw, .mo => true
  | .nw, .mn => true
  | .od, .mo => true
  | _, _ => false
def sNx (e : SE) : Option Rs := some (.nx e)
def sBk (e : SE) : Option Rs := some (.bk e)
def sCt (e : SE) : Option Rs := some (.ct e)
def sSeq (f g : SE → Option Rs) (e : SE) : Option Rs := (f e).bind fun x => match x with
  | .nx e' => g e'
  | .rt d => some (.rt d)
  | .bk e' => some (.bk e')
  | .ct e' => some (.ct e')
def sSet (i : Nat) (f : SE → Option D) (e : SE) : Option Rs := (f e).bind fun x => some (.nx (e.set i (some x)))
def sSetL (i : Nat) (f : SE → Option (List D)) (e : SE) : Option Rs := (f e).bind fun x => some (.nx (e.set i (some (.list x))))
def sDrop (f : SE → Option D) (e : SE) : Option Rs := (f e).bind fun _ => some (.nx e)
def sRet (f : SE → Option D) (e : SE) : Option Rs := (f e).bind fun x => some (.rt x)
def sRetL (f : SE → Option (List D)) (e : SE) : Option Rs := (f e).bind fun x => some (.rt (.list x))
def sRetN (_ : SE) : Option Rs := some (.rt .none)
def sIf (c : SE → Option Bool) (f g : SE → Option Rs) (e : SE) : Option Rs := (c e).bind fun b => match b with
  | true => f e
  | false => g e
section
variable {K : PySem.W.Frag} {Γ : List Md} {u : Bool} {r re rb : Rl} {f g : SE → Option Rs} {h : SE → Option D} {hl : SE → Option (List D)} {t v : TS} {te : TE} {i : Nat}
theorem rg_od (h : r ≠ .bo) : RLe .nw r := by
  cases r with
  | nw => exact .refl _
  | od => exact .no
  | bo => exact .bo _
theorem Pst.mono {G H0 H H1 : Hp} {own own1 : List (Option Addr)} {D : Ends} {res : Rs} (p : Pst K Γ u r G H0 own H D res) (gr : Gr own H own1 H1) : Pst K Γ u r G H0 own1 H1 D res := by
  cases res with
  | nx e => exact fun own' σ' H' R g => p own' σ' H' R (gr.trans g)
  | bk e => exact fun own' σ' H' R g => p own' σ' H' R (gr.trans g)
  | ct e => exact fun own' σ' H' R g => p own' σ' H' R (gr.trans g)
  | rt d => exact p
theorem acc_ok {G H0 H : Hp} {own : List (Option Addr)} {m : Md} {x : V} {d : D} (ha : acc re m = true) (p : Dp K (rg re G H0 own H) x d) : SlotOk K m G H0 own H i x d := by
  cases m with
  | od =>
    cases re with
    | nw => exact dp_mono (rg_le .no) _ _ p
    | od => exact p
    | bo => cases ha
  | nw =>
    cases re with
    | nw => exact p
    | od => cases ha
    | bo => cases ha
  | _ => cases re <;> cases ha
theorem ok_set (ha : acc re (md Γ i) = true) (he : OkE K Γ re h te) : OkS K Γ u r (sSet i h) (tAsg te (gName i)) := fun G H0 own env σ H D res R z p => by
  unfold sSet at z
  cases e1 : h env with
  | none => rw [e1] at z; cases z
  | some x =>
    rw [e1] at z
    cases z
    refine he G H0 own env σ H _ x R e1 fun w H1 s1 c => ?_
    exact p own _ H1 ((R.ext s1).put i x w (acc_ok ha c)) (Gr.of s1)
theorem accL_ok {G H0 H : Hp} {own : List (Option Addr)} {m : Md} {a : Addr} {vs : List V} {ds : List D} (ha : accL re m = true) (ho : own[i]? = some (some a)) (hv : H a = some (.lst vs)) (p : DpAll K (rg re G H0 own H) vs ds) : SlotOk K m G H0 own H i (.ref a) (.list ds) := by
  cases m with
  | mo =>
    cases re with
    | nw => exact ⟨a, vs, ds, rfl, ho, hv, rfl, dps_mono (rg_le .no) _ _ p⟩
    | od => exact ⟨a, vs, ds, rfl, ho, hv, rfl, p⟩
    | bo => cases ha
  | mn =>
    cases re with
    | nw => exact ⟨a, vs, ds, rfl, ho, hv, rfl, p⟩
    | od => cases ha
    | bo => cases ha
  | _ => cases re <;> cases ha
/-- a new list goes to a slot of one's own -/
theorem ER.own {G H0 H H1 : Hp} {own : List (Option Addr)} {env : SE} {σ : L2.St} {a : Addr} {vs : List V} {ds : List D} (R : ER K Γ G H0 own env σ H) (ha : accL re (md Γ i) = true) (hi : i < σ.length) (s : Same H H1) (n : H a = none) (hv : H1 a = some (.lst vs))
    (c : DpAll K (rg re G H0 (own ++ [some a]) H1) vs ds) : ER K Γ G H0 (own.set i (some a)) (env.set i (some (.list ds))) (σ.set i (some (.ref a))) H1 ∧ Gr own H (own.set i (some a)) H1 := by
  have hl : i < own.length := Nat.lt_of_lt_of_le hi R.ol
  have n0 : H0 a = none := R.new n
  have nO : ¬ Ow own a := R.live n
  have ow1 : ∀ b, Ow (own.set i (some a)) b → Ow (own ++ [some a]) b := fun b z => (ow_of_set z).elim ow_snoc fun e => by rw [e]; exact ow_snoc_self
  refine ⟨⟨R.gs, R.ex.trans s, fun j k b hj hk => ?_, fun j b hj => ?_, by rw [List.length_set, List.length_set]; exact R.le, by rw [List.length_set, List.length_set]; exact R.ol, fun j d hj => ?_⟩, fun b o nb e => ⟨fun z => (ow_of_set z).elim nb fun q => ?_, s _ _ e⟩⟩
  · have key : ∀ j, (own.set i (some a))[j]? = some (some b) → (j = i ∧ b = a) ∨ (j ≠ i ∧ own[j]? = some (some b)) := fun j hj => by
      by_cases q : i = j
      · subst q
        rw [List.getElem?_set_self hl] at hj
        cases hj
        exact .inl ⟨rfl, rfl⟩
      · rw [List.getElem?_set_ne q] at hj
        exact .inr ⟨fun z => q z.symm, hj⟩
    rcases key j hj with ⟨j1, b1⟩ | ⟨j1, b1⟩ <;> rcases key k hk with ⟨k1, c1⟩ | ⟨k1, c1⟩
    · rw [j1, k1]
    · subst b1
      exact absurd ⟨k, c1⟩ nO
    · subst c1
      exact absurd ⟨j, b1⟩ nO
    · exact R.inj j k b b1 c1
  · by_cases q : i = j
    · subst q
      rw [List.getElem?_set_self hl] at hj
      cases hj
      exact ⟨n0, _, hv⟩
    · rw [List.getElem?_set_ne q] at hj
      obtain ⟨h1, o, h2⟩ := R.fr j b hj
      exact ⟨h1, o, s _ _ h2⟩
  · by_cases q : i = j
    · subst q
      rw [List.getElem?_set_self (by rw [R.le]; exact hi)] at hj
      cases hj
      exact ⟨.ref a, List.getElem?_set_self hi, accL_ok ha (List.getElem?_set_self hl) hv (dps_mono (rg_own ow1) _ _ c)⟩
    · rw [List.getElem?_set_ne q] at hj
      rw [List.getElem?_set_ne q]
      obtain ⟨w, h1, h2⟩ := R.sl j d hj
      refine ⟨w, h1, ?_⟩
      have sub : ∀ {rr : Rl}, rr ≠ .bo → Same (rg rr G H0 own H) (rg rr G H0 (own.set i (some a)) H1) := fun {rr} hr => rg_gr (fun b o nb e => ⟨fun z => (ow_of_set z).elim nb fun q => (by rw [q, n] at e; cases e), s _ _ e⟩) hr
      exact h2.step sub fun b hb => ⟨by rw [List.getElem?_set_ne q]; exact hb, fun o => s _ _⟩
  · rw [q, n] at e; cases e
theorem ok_setL (ha : accL re (md Γ i) = true) (hi : ∀ env : SE, (hl env).isSome → i < env.length) (he : OkL K Γ re hl te) : OkS K Γ u r (sSetL i hl) (tAsg te (gName i)) := fun G H0 own env σ H D res R z p => by
  unfold sSetL at z
  cases e1 : hl env with
  | none => rw [e1] at z; cases z
  | some x =>
    rw [e1] at z
    cases z
    refine he G H0 own env σ H _ x R e1 fun a vs H1 s1 n1 q1 c => ?_
    obtain ⟨R1, g1⟩ := R.own ha (by rw [← R.le]; exact hi env (by rw [e1]; rfl)) s1 n1 q1 c
    exact p _ _ H1 R1 g1
theorem ok_seq (hf : OkS K Γ u r f t) (hg : OkS K Γ u r g v) : OkS K Γ u r (sSeq f g) (tSeq t v) := fun G H0 own env σ H D res R z p => by
  unfold sSeq at z
  cases e1 : f env with
  | none => rw [e1] at z; cases z
  | some x =>
    rw [e1] at z
    simp only [Option.bind_some] at z
    refine hf G H0 own env σ H _ x R e1 ?_
    cases x with
    | nx e => exact fun own' σ' H' R' gr => hg G H0 own' e σ' H' D res R' z (p.mono gr)
    | rt d => cases z; exact p
    | bk e => cases z; exact p
    | ct e => cases z; exact p
theorem ok_if {c : SE → Option Bool} {tc : TT} (hc : OkT K Γ c tc) (hf : OkS K Γ u r f t) (hg : OkS K Γ u r g v) : OkS K Γ u r (sIf c f g) (tIfS tc t v) := fun G H0 own env σ H D res R z p => by
  unfold sIf at z
  cases e1 : c env with
  | none => rw [e1] at z; cases z
  | some b =>
    rw [e1] at z
    simp only [Option.bind_some] at z
    refine hc G H0 own env σ H _ b R e1 fun H1 s1 => ?_
    cases b with
    | true => exact iteT (hf G H0 own env σ H1 D res (R.ext s1) z (p.mono (Gr.of s1)))
    | false => exact iteF (hg G H0 own env σ H1 D res (R.ext s1) z (p.mono (Gr.of s1)))
theorem ok_ret (hr : re ≠ .bo) (l : RLe re r) (he : OkE K Γ re h te) : OkS K Γ false r (sRet h) (tRet te) := fun G H0 own env σ H D res R z p => by
  unfold sRet at z
  cases e1 : h env with
  | none => rw [e1] at z; cases z
  | some x =>
    rw [e1] at z
    cases z
    refine he G H0 own env σ H _ x R e1 fun w H1 s1 c => p w H1 (R.ex.trans s1) ?_
    exact dp_mono (rg_le l) _ _ (dp_mono (rg_own (own' := []) fun a ⟨j, q⟩ => by simp at q) _ _ c)
theorem ok_retL (l : RLe re r) (he : OkL K Γ re hl te) : OkS K Γ true r (sRetL hl) (tRet te) := fun G H0 own env σ H D res R z p => by
  unfold sRetL at z
  cases e1 : hl env with
  | none => rw [e1] at z; cases z
  | some x =>
    rw [e1] at z
    cases z
    refine he G H0 own env σ H _ x R e1 fun a vs H1 s1 n1 q1 c => p _ H1 (R.ex.trans s1) ?_
    refine ⟨a, vs, x, rfl, rfl, R.new n1, q1, dps_mono (rg_le l) _ _ (dps_mono (rg_own fun b ⟨j, q⟩ => ?_) _ _ c)⟩
    have e : b = a := by
      cases j with
      | zero => simp at q; exact q.symm
      | succ j => simp at q
    rw [e]
    exact ow_snoc_self
/-- a list of one's own is handed out -/
def moR : Md → Rl
  | .mn => .nw
  | _ => .od
def isM : Md → Bool
  | .mo => true
  | .mn => true
  | _ => false
theorem ok_retM (hm : isM (md Γ i) = true) (l : RLe (moR (md Γ i)) r) : OkS K Γ true r (sRet (dV i)) (tRet (tVar i)) := fun G H0 own env σ H D res R z p => by
  unfold sRet at z
  cases e1 : dV i env with
  | none => rw [e1] at z; cases z
  | some x =>
    rw [e1] at z
    cases z
    have q' : env[i]? = some (some x) := by
      unfold dV at e1
      rw [List.getD_eq_getElem?_getD] at e1
      cases e2 : env[i]? with
      | none => rw [e2] at e1; cases e1
      | some y => rw [e2] at e1; exact congrArg some e1
    obtain ⟨w, h1, h2⟩ := R.sl i x q'
    refine ⟨w, h1, p w H R.ex ?_⟩
    have fin : ∀ {rr : Rl}, RLe rr r → SlotM K rr G H0 own H i w x → RetOk K true r G H0 H w x := fun {rr} l ⟨a, vs, ds, g0, g1, g2, g3, g4⟩ => by
      refine ⟨a, vs, ds, g0, g3, (R.fr i a g1).1, g2, dps_mono (rg_le l) _ _ (dps_mono (rg_own fun b ⟨j, q⟩ => ?_) _ _ g4)⟩
      have e : b = a := by
        cases j with
        | zero => simp at q; exact q.symm
        | succ j => simp at q
      rw [e]
      exact ⟨i, g1⟩
    cases hh : md Γ i with
    | mo => rw [hh] at h2 l; exact fin l h2
    | mn => rw [hh] at h2 l; exact fin l h2
    | _ => rw [hh] at hm; cases hm
theorem ok_retN : OkS K Γ false r sRetN tRetN := fun G H0 own env σ H D res R z p => by
  cases z
  exact p _ H R.ex .non
theorem ok_nx : OkS K Γ u r sNx tNext := fun G H0 own env σ H D res R z p => by
  cases z
  exact p own σ H R Gr.refl
theorem ok_bk : OkS K Γ u r sBk tBreak := fun G H0 own env σ H D res R z p => by
  cases z
  exact p own σ H R Gr.refl
theorem ok_ct : OkS K Γ u r sCt tCont := fun G H0 own env σ H D res R z p => by
  cases z
  exact p own σ H R Gr.refl
end
section
variable {X : Cx} {Γ : List Md} {u : Bool} {r re rb : Rl} {st : Stmt} {rest sa sb : List Stmt} {f g : SE → Option Rs} {h : SE → Option D} {hl : SE → Option (List D)} {t v : TS} {te : TE} {i : Nat} {x : Str} {e c : Expr} {pos pos' : Pos}
theorem vs_set (i : Nat) (hN : X.N.Nodup) (he : VE X Γ e re h te) (ha : acc re (md Γ i) = true := by rfl) (hi : X.N[i]? = some x := by rfl) (hx : Loc X.env.scope x := by first | exact Or.inl rfl | exact Or.inr rfl) (hs : swapsWith e (some (.Name x pos')) pos.line X.env = pure false := by rfl)
    (hf : X.fn x = true ∨ X.env.scope.names.lookup x = some .local := by first | exact .inl rfl | exact .inr rfl) : VS X Γ u r (.Assign [.Name x pos'] e pos) (sSet i h) (tAsg te (gName i)) := ⟨ps_set hN hi hx he.pe hs hf, ok_set ha he.ok⟩
theorem bind_some_of {α β : Type} {o : Option α} {k : α → Option β} (h : (o.bind k).isSome) : o.isSome := by
  cases o with
  | none => cases h
  | some _ => rfl
theorem vs_setL (i : Nat) (hN : X.N.Nodup) (he : VL X Γ e re hl te) (ha : accL re (md Γ i) = true := by rfl) (hi : X.N[i]? = some x := by rfl) (hx : Loc X.env.scope x := by first | exact Or.inl rfl | exact Or.inr rfl) (hs : swapsWith e (some (.Name x pos')) pos.line X.env = pure false := by rfl)
    (hf : X.fn x = true ∨ X.env.scope.names.lookup x = some .local := by first | exact .inl rfl | exact .inr rfl) : VS X Γ u r (.Assign [.Name x pos'] e pos) (sSetL i fun e => if i < e.length then hl e else none) (tAsg te (gName i)) := ⟨ps_set hN hi hx he.pe hs hf, ok_setL ha (fun env q => by
      by_cases z : i < env.length
      · exact z
      · rw [if_neg z] at q; cases q) fun G H0 own env σ H Q ds R z k => by
        by_cases q : i < env.length
        · rw [if_pos q] at z; exact he.ok G H0 own env σ H Q ds R z k
        · rw [if_neg q] at z; cases z⟩
theorem vs_ret (he : VE X Γ e re h te) (hr : re ≠ .bo := by intro z; cases z) (l : RLe re r := by first | exact .refl _ | exact .no) : VS X Γ false r (.Return (some e) pos) (sRet h) (tRet te) := ⟨ps_ret he.pe, ok_ret hr l he.ok⟩
theorem vs_retL (he : VL X Γ e re hl te) (l : RLe re r := by first | exact .refl _ | exact .no) : VS X Γ true r (.Return (some e) pos) (sRetL hl) (tRet te) := ⟨ps_ret he.pe, ok_retL l he.ok⟩
theorem vs_retM (i : Nat) {p2 : Pos} (hm : isM (md Γ i) = true := by rfl) (l : RLe (moR (md Γ i)) r := by first | exact .refl _ | exact .no) (hN : X.N[i]? = some x := by rfl) (hv : Vis X.env.scope x := by first | exact Or.inl rfl | exact Or.inr (Or.inl rfl) | exact Or.inr (Or.inr rfl))
    (hd : (x == ("__debug__" : Str)) = false := by decide) (hcd : (x == ("__classdict__" : Str)) = false := by decide) : VS X Γ true r (.Return (some (.Name x p2)) pos) (sRet (dV i)) (tRet (tVar i)) := ⟨ps_ret (pe_var hN hv hd hcd), ok_retM hm l⟩
theorem vs_retN : VS X Γ false r (.Return none pos) sRetN tRetN := ⟨ps_retN, ok_retN⟩
theorem vs_pass : VS X Γ u r (.Pass pos) sNx tNext := ⟨ps_pass, ok_nx⟩
theorem vs_break : VS X Γ u r (.Break pos) sBk tBreak := ⟨ps_break, ok_bk⟩
theorem vs_cont : VS X Γ u r (.Continue pos) sCt tCont := ⟨ps_continue, ok_ct⟩
theorem vss_nil : VSs X Γ u r [] sNx tNext := ⟨pss_nil, ok_nx⟩
theorem vss_one (h : VS X Γ u r st f t) : VSs X Γ u r [st] f t := ⟨pss_one h.ps, h.ok⟩
theorem vss_cons (h : VS X Γ u r st f t) (hr : VSs X Γ u r rest g v) : VSs X Γ u r (st :: rest) (sSeq f g) (tSeq t v) := ⟨pss_cons h.ps hr.ps, ok_seq h.ok hr.ok⟩
def frz : Md → Md → Bool
  | .mo, .od => true
  | .mn, .nw => true
  | .mn, .od => true
  | _, _ => false
def sRt (g : SE → Option Rs) (e : SE) : Option Rs := (g e).bind fun x => match x with
  | .rt d => some (.rt d)
  | _ => none
theorem ow_unset {own : List (Option Addr)} {i : Nat} {a : Addr} (h : Ow (own.set i none) a) : ∃ j : Nat, j ≠ i ∧ own[j]? = some (some a) := by
  obtain ⟨j, e⟩ := h
  by_cases hj : i = j
  · subst hj
    by_cases hl : i < own.length
    · rw [List.getElem?_set_self hl] at e; cases e
    · rw [List.getElem?_eq_none (by rw [List.length_set]; omega)] at e; cases e
  · rw [List.getElem?_set_ne hj] at e
    exact ⟨j, fun z => hj z.symm, e⟩
theorem ER.freeze {K : PySem.W.Frag} {G H0 H : Hp} {own : List (Option Addr)} {env : SE} {σ : L2.St} (R : ER K Γ G H0 own env σ H) (i : Nat) (m' : Md) (hm : frz (md Γ i) m' = true) : ER K (Γ.set i m') G H0 (own.set i none) env σ H := by
  have sub : ∀ a, Ow (own.set i none) a → Ow own a := fun a h => let ⟨j, _, e⟩ := ow_unset h; ⟨j, e⟩
  have hi : i < Γ.length := by
    by_cases z : i < Γ.length
    · exact z
    · unfold md at hm
      rw [List.getD_eq_getElem?_getD, List.getElem?_eq_none (by omega)] at hm
      cases hm
  have mi : md (Γ.set i m') i = m' := by
    unfold md
    rw [List.getD_eq_getElem?_getD, List.getElem?_set_self hi]
    rfl
  have mj : ∀ j, i ≠ j → md (Γ.set i m') j = md Γ j := fun j hj => by
    unfold md
    rw [List.getD_eq_getElem?_getD, List.getD_eq_getElem?_getD, List.getElem?_set_ne hj]
  refine ⟨R.gs, R.ex, fun j k a hj hk => ?_, fun j a hj => ?_, R.le, by rw [List.length_set]; exact R.ol, fun j d hj => ?_⟩
  · by_cases z : i = j
    · subst z
      by_cases hl : i < own.length
      · rw [List.getElem?_set_self hl] at hj; cases hj
      · rw [List.getElem?_eq_none (by rw [List.length_set]; omega)] at hj; cases hj
    · by_cases z2 : i = k
      · subst z2
        by_cases hl : i < own.length
        · rw [List.getElem?_set_self hl] at hk; cases hk
        · rw [List.getElem?_eq_none (by rw [List.length_set]; omega)] at hk; cases hk
      · rw [List.getElem?_set_ne z] at hj
        rw [List.getElem?_set_ne z2] at hk
        exact R.inj j k a hj hk
  · by_cases z : i = j
    · subst z
      by_cases hl : i < own.length
      · rw [List.getElem?_set_self hl] at hj; cases hj
      · rw [List.getElem?_eq_none (by rw [List.length_set]; omega)] at hj; cases hj
    · rw [List.getElem?_set_ne z] at hj
      exact R.fr j a hj
  · obtain ⟨v, hv, so⟩ := R.sl j d hj
    refine ⟨v, hv, ?_⟩
    by_cases z : i = j
    · subst z
      rw [mi]
      have main : ∀ r, SlotM K r G H0 own H i v d → ∀ r', r' = .nw ∨ r' = .od → RLe r r' → Dp K (rg r' G H0 (own.set i none) H) v d := fun r ⟨a, vs, ds, e0, e1, e2, e3, e4⟩ r' hr' le => by
        subst e0 e3
        have no : ¬ Ow (own.set i none) a := fun h => by
          obtain ⟨k, k1, k2⟩ := ow_unset h
          exact k1 (R.inj k i a k2 e1)
        have n0 := (R.fr i a e1).1
        have ir : InR r' G H0 (own.set i none) a (.lst vs) := by
          rcases hr' with rfl | rfl
          · exact ⟨no, n0, trivial⟩
          · exact ⟨no, .inl ⟨n0, trivial⟩⟩
        exact .lst (SqL.of (rg_iff.mpr ⟨ir, e2⟩)) (dps_mono ((rg_le le).trans (rg_own sub)) _ _ e4)
      cases e : md Γ i with
      | mo =>
        rw [e] at hm so
        cases m' with
        | od => exact main .od so .od (.inr rfl) (.refl _)
        | _ => cases hm
      | mn =>
        rw [e] at hm so
        cases m' with
        | od => exact main .nw so .od (.inr rfl) .no
        | nw => exact main .nw so .nw (.inl rfl) (.refl _)
        | _ => cases hm
      | _ => rw [e] at hm; cases hm
    · rw [mj j z]
      exact so.step (fun _ => rg_own sub) fun a h => ⟨by rw [List.getElem?_set_ne z]; exact h, fun o q => q⟩
/-- an own list that is changed no more: from here on a value that stays (the rest must hand out) -/
theorem vss_freeze {st : List Stmt} (i : Nat) (m' : Md) (h : VSs X (Γ.set i m') u r st g t) (hm : frz (md Γ i) m' = true := by rfl) : VSs X Γ u r st (sRt g) t := ⟨h.ps, fun G H0 own env σ H D res R z p => by
  unfold sRt at z
  cases e : g env with
  | none => rw [e] at z; cases z
  | some x =>
    rw [e] at z
    simp only [Option.bind_some] at z
    cases x with
    | rt d =>
      cases z
      exact h.ok G H0 (own.set i none) env σ H D (.rt d) (R.freeze i m' hm) e p
    | nx _ => cases z
    | bk _ => cases z
    | ct _ => cases z⟩
theorem vs_if {p : SE → Option Bool} {tc : TT} (hc : VT X Γ c p tc) (ha : VSs X Γ u r sa f t) (hb : VSs X Γ u r sb g v) : VS X Γ u r (.If c sa sb pos) (sIf p f g) (tIfS tc t v) := ⟨ps_if hc.pt ha.ps hb.ps, ok_if hc.ok ha.ok hb.ok⟩
end

/-! ### targets -/
structure VG (X : Cx) (Γ : List Md) (tg : Expr) (r : Rl) (is : List Nat) (set : D → SE → Option SE) (g : TG) : Prop where
  pg : PG X tg g
  ok : ∀ (G H0 : Hp) (own : List (Option Addr)) (env : SE) (σ : L2.St) (H : Hp) (v : V) (d : D) (env' : SE) (Q : L2.St → Hp → Prop), ER X.K Γ G H0 own env σ H → Dp X.K (rg r G H0 own H) v d → set d env = some env' →
    (∀ σ' : L2.St, ER X.K Γ G H0 own env' σ' H → σ'.length = σ.length → (∀ j : Nat, j ∉ is → σ'[j]? = σ[j]?) → Q σ' H) → g v σ H Q
structure VGs (X : Cx) (Γ : List Md) (es : List Expr) (r : Rl) (is : List Nat) (set : List D → SE → Option SE) (g : TGs) : Prop where
  pg : PGs X es g
  ln : ∀ ds e e', set ds e = some e' → ds.length = es.length
  ok : ∀ (G H0 : Hp) (own : List (Option Addr)) (env : SE) (σ : L2.St) (H : Hp) (vs : List V) (ds : List D) (env' : SE) (Q : L2.St → Hp → Prop), ER X.K Γ G H0 own env σ H → DpAll X.K (rg r G H0 own H) vs ds → set ds env = some env' →
    (∀ σ' : L2.St, ER X.K Γ G H0 own env' σ' H → σ'.length = σ.length → (∀ j : Nat, j ∉ is → σ'[j]? = σ[j]?) → Q σ' H) → g vs σ H Q
def gSet (i : Nat) (d : D) (e : SE) : Option SE := some (e.set i (some d))
def gsNil (ds : List D) (e : SE) : Option SE := match ds with
  | [] => some e
  | _ => none
def gsCons (s : D → SE → Option SE) (ss : List D → SE → Option SE) (ds : List D) (e : SE) : Option SE := match ds with
  | d :: ds => (s d e).bind fun e' => ss ds e'
  | _ => none
def gTupD (ss : List D → SE → Option SE) (d : D) (e : SE) : Option SE := match d with
  | .tuple ds => ss ds e
  | _ => none
section
variable {X : Cx} {Γ : List Md} {r : Rl} {is js : List Nat} {e : Expr} {es : List Expr} {s : D → SE → Option SE} {ss : List D → SE → Option SE} {g : TG} {gs : TGs} {x : Str} {pos : Pos}
theorem vg_name (i : Nat) (hN : X.N.Nodup) (ha : acc r (md Γ i) = true := by rfl) (hi : X.N[i]? = some x := by rfl) (hx : Loc X.env.scope x := by first | exact Or.inl rfl | exact Or.inr rfl)
    (hf : X.fn x = true ∨ X.env.scope.names.lookup x = some .local := by first | exact .inl rfl | exact .inr rfl) : VG X Γ (.Name x pos) r [i] (gSet i) (gName i) := ⟨pg_name hN hi hx hf, fun G H0 own env σ H v d env' Q R p z k => by
  cases z
  refine k _ (R.put i d v (acc_ok ha p)) (by rw [List.length_set]) fun j hj => ?_
  rw [List.getElem?_set_ne (fun z => hj (by simp [z]))]⟩
theorem vgs_nil : VGs X Γ [] r [] gsNil gNil := ⟨pgs_nil, fun ds e e' z => (by cases ds <;> first | rfl | cases z), fun G H0 own env σ H vs ds env' Q R p z k => by
  cases p with
  | nil => cases z; exact ⟨rfl, k σ R rfl fun _ _ => rfl⟩
  | cons => cases z⟩
theorem vgs_cons (h : VG X Γ e r is s g) (hr : VGs X Γ es r js ss gs) (hs : (assignEach (e :: es) X.env).map (·.2) = assign e X.env :: (assignEach es X.env).map (·.2) := by rfl) : VGs X Γ (e :: es) r (is ++ js) (gsCons s ss) (gCons g gs) := ⟨pgs_cons h.pg hr.pg hs, fun ds e e' z => by
  cases ds with
  | nil => cases z
  | cons d ds =>
    unfold gsCons at z
    cases q : s d e with
    | none => simp only [q, Option.bind_none] at z; cases z
    | some e1 => simp only [q, Option.bind_some] at z; rw [List.length_cons, List.length_cons, hr.ln ds e1 e' z], fun G H0 own env σ H vs ds env' Q R p z k => by
  cases p with
  | nil => cases z
  | cons p1 p2 =>
    rename_i v vs d ds
    unfold gsCons at z
    cases q : s d env with
    | none => simp only [q, Option.bind_none] at z; cases z
    | some e1 =>
      simp only [q, Option.bind_some] at z
      refine ⟨_, _, rfl, h.ok G H0 own env σ H _ d e1 _ R p1 q fun σ1 R1 l1 k1 => ?_⟩
      refine hr.ok G H0 own e1 σ1 H _ ds env' Q R1 p2 z fun σ2 R2 l2 k2 => k σ2 R2 (l2.trans l1) fun j hj => ?_
      rw [k2 j (fun z => hj (List.mem_append_right _ z)), k1 j (fun z => hj (List.mem_append_left _ z))]⟩
theorem vg_tup {j : Nat} (hc : X.calm = true) (h : VGs X Γ es r is ss gs) (hn : (assignEach es X.env).length = es.length := by rfl) (hst : (assignEach es X.env).findIdx? (·.1) = none := by rfl) : VG X Γ (.Tuple es j pos) r is (gTupD ss) (gTup X.K es.length gs) := ⟨pg_tup hc h.pg hn hst, fun G H0 own env σ H v d env' Q R p z k => by
  cases p with
  | tup hs hd => exact ⟨_, _, rfl, same_t rg_sub hs, by rw [dps_len hd]; exact h.ln _ _ _ z, h.ok G H0 own env σ H _ _ env' Q R hd z k⟩
  | _ => cases z⟩
end
/-! ### what is walked -/
def ItOk (K : PySem.W.Frag) (r : Rl) (G H0 : Hp) (own : List (Option Addr)) (H1 : Hp) (J : It) (ds : List D) : Prop :=
  ∀ own2 H2, Gr own H1 own2 H2 → Same H0 H2 → (∀ a, Ow own2 a → ∃ o, H2 a = some o) →
    (∀ i d, ds[i]? = some d → J.go i H2 ∧ ∀ x H', J.yld i H2 x H' → Same H2 H' ∧ Dp K (rg r G H0 own2 H') x d) ∧ J.stop ds.length H2
structure VI (X : Cx) (Γ : List Md) (tg iter : Expr) (r : Rl) (f : SE → Option (List D)) (wi : TI) : Prop where
  pi : PI X tg iter wi
  ok : ∀ (G H0 : Hp) (own : List (Option Addr)) (env : SE) (σ : L2.St) (H : Hp) (R : It → Hp → Prop) (ds : List D), ER X.K Γ G H0 own env σ H → f env = some ds → (∀ J H1, Same H H1 → ItOk X.K r G H0 own H1 J ds → R J H1) → wi σ H R
def iL (f : SE → Option D) (e : SE) : Option (List D) := (f e).bind list?
def rangeD (lo : Int) (n : Nat) : List D := (List.range n).map fun k => .int (lo + (k : Nat))
def hR1 (x : List D) : Option (List D) := match x with
  | [.int j] => if -1000000 < j ∧ j < 1000000 then some (rangeD 0 j.toNat) else none
  | _ => none
def iR1 (f : SE → Option (List D)) (e : SE) : Option (List D) := (f e).bind hR1
def hR2 (x : List D) : Option (List D) := match x with
  | [.int i, .int j] => if (-1000000 < i ∧ i < 1000000) ∧ (-1000000 < j ∧ j < 1000000) then some (rangeD i (j - i).toNat) else none
  | _ => none
def iR2 (f : SE → Option (List D)) (e : SE) : Option (List D) := (f e).bind hR2
def enumD (xs : List D) : List D := xs.zipIdx.map fun p => .tuple [.int (p.2 : Nat), p.1]
def zipD (xs ys : List D) : List D := List.zipWith (fun x y => .tuple [x, y]) xs ys
def iEn (f : SE → Option (List D)) (e : SE) : Option (List D) := (f e).bind fun x => match x with
  | [.list xs] => some (enumD xs)
  | _ => none
def iZp (f : SE → Option (List D)) (e : SE) : Option (List D) := (f e).bind fun x => match x with
  | [.list xs, .list ys] => some (zipD xs ys)
  | _ => none
section
variable {X : Cx} {Γ : List Md} {r ra rb : Rl} {a b tg : Expr} {es elts : List Expr} {f g : SE → Option D} {fs : SE → Option (List D)} {ts : TA} {t ta tb : TE} {p pos tpos : Pos} {kk : Nat}
theorem vi_list (ha : VE X Γ a r f ta) (hr : r ≠ .bo := by intro z; cases z) : VI X Γ tg a r (iL f) (iList X.K ta) := ⟨pi_list ha.pe, fun G H0 own env σ H R ds E z k => by
  unfold iL at z
  cases e1 : f env with
  | none => rw [e1] at z; cases z
  | some x =>
    rw [e1] at z
    simp only [Option.bind_some] at z
    cases x with
    | list xs =>
      cases z
      refine ha.ok G H0 own env σ H _ _ E e1 fun v H1 s1 c => ?_
      cases c with
      | lst hs hd =>
        refine ⟨_, rfl, ⟨_, rg_sub.seq hs⟩, k _ H1 s1 fun own2 H2 gr _ _ => ?_⟩
        have hs2 := (rg_gr gr hr).seq hs
        have hd2 := dps_mono (rg_gr gr hr) _ _ hd
        refine ⟨fun i d hi => ?_, ⟨_, rg_sub.seq hs2, by rw [dps_len hd2]; exact Nat.le_refl _⟩⟩
        obtain ⟨w, h1, h2⟩ := dps_get hd2 hi
        refine ⟨⟨_, w, rg_sub.seq hs2, h1⟩, fun y H' hy => ?_⟩
        obtain ⟨rfl, hy⟩ := hy
        have e : y = w := Option.some.inj ((hy _ (rg_sub.seq hs2)).symm.trans h1)
        rw [e]
        exact ⟨Same.refl _, h2⟩
    | _ => cases z⟩
theorem range_it_ok {K : PySem.W.Frag} {G H0 H1 : Hp} {own : List (Option Addr)} {lo : Int} {n : Nat} : ItOk K .nw G H0 own H1 (Itr lo n) (rangeD lo n) := fun own2 H2 _ _ _ => by
  refine ⟨fun i d hi => ?_, by show n ≤ (rangeD lo n).length; unfold rangeD; simp⟩
  unfold rangeD at hi
  rw [List.getElem?_map] at hi
  cases e : (List.range n)[i]? with
  | none => rw [e] at hi; cases hi
  | some j =>
    rw [e] at hi
    cases hi
    obtain ⟨h1, h2⟩ := List.getElem?_eq_some_iff.mp e
    rw [List.getElem_range] at h2
    subst h2
    rw [List.length_range] at h1
    refine ⟨h1, fun x H' hy => ?_⟩
    obtain ⟨rfl, rfl⟩ := hy
    exact ⟨Same.refl _, .int _⟩
theorem vi_range1 (hm : X.mg "range" = none) (ha : VA X Γ [a] r fs ts) (hg : Gl X "range" := by rfl) (hs : starEach [a] X.env = [(false, eval a X.env)] := by rfl) : VI X Γ tg (.Call (.Name "range" p) [a] [] pos) .nw (iR1 fs) (iRng1 ts) := ⟨pi_range1 hg hm ha.pa hs, fun G H0 own env σ H R ds E z k => by
  unfold iR1 at z
  cases e1 : fs env with
  | none => rw [e1] at z; cases z
  | some x =>
    rw [e1] at z
    simp only [Option.bind_some] at z
    match x, e1, z with
    | [.int j], e1, z =>
      simp only [hR1] at z
      by_cases q : -1000000 < j ∧ j < 1000000
      · rw [if_pos q] at z
        cases z
        refine ha.ok G H0 own env σ H _ _ E e1 fun v H1 s1 c => ?_
        match v, c with
        | _, .cons (.int _) .nil => exact ⟨j, rfl, by omega, by omega, k _ H1 s1 range_it_ok⟩
      · rw [if_neg q] at z; cases z⟩
theorem vi_range2 (hm : X.mg "range" = none) (ha : VA X Γ [a, b] r fs ts) (hg : Gl X "range" := by rfl) (hs : starEach [a, b] X.env = [(false, eval a X.env), (false, eval b X.env)] := by rfl) (hs2 : starEach [b] X.env = [(false, eval b X.env)] := by rfl) :
    VI X Γ tg (.Call (.Name "range" p) [a, b] [] pos) .nw (iR2 fs) (iRng2 ts) := ⟨pi_range2 hg hm ha.pa hs hs2, fun G H0 own env σ H R ds E z k => by
  unfold iR2 at z
  cases e1 : fs env with
  | none => rw [e1] at z; cases z
  | some x =>
    rw [e1] at z
    simp only [Option.bind_some] at z
    match x, e1, z with
    | [.int i, .int j], e1, z =>
      simp only [hR2] at z
      by_cases q : (-1000000 < i ∧ i < 1000000) ∧ (-1000000 < j ∧ j < 1000000)
      · rw [if_pos q] at z
        cases z
        refine ha.ok G H0 own env σ H _ _ E e1 fun v H1 s1 c => ?_
        match v, c with
        | _, .cons (.int _) (.cons (.int _) .nil) => exact ⟨i, j, rfl, ⟨by omega, by omega, by omega, by omega⟩, k _ H1 s1 range_it_ok⟩
      · rw [if_neg q] at z; cases z⟩
def rangeC (lo c : Int) (n : Nat) : List D := (List.range n).map fun k => .int (lo + (k : Nat) * c)
def rngN (i j c : Int) : Nat := if i < j then ((j - i - 1) / c + 1).toNat else 0
def hR3 (x : List D) : Option (List D) := match x with
  | [.int i, .int j, .int c] => if ((-1000000 < i ∧ i < 1000000) ∧ (-1000000 < j ∧ j < 1000000)) ∧ (0 < c ∧ c < 1000000) then some (rangeC i c (rngN i j c)) else none
  | _ => none
def iR3 (f : SE → Option (List D)) (e : SE) : Option (List D) := (f e).bind hR3
theorem rgc_pos {i j c : Int} (h1 : -1000000 < i) (h2 : i < 1000000) (h3 : -1000000 < j) (h4 : j < 1000000) (h5 : 0 < c) (h6 : c < 1000000) : RgC i j c (rngN i j c) := by
  have e : Builtin.Range.rangeSize i j c = (rngN i j c : Int) := by
    unfold Builtin.Range.rangeSize rngN
    rw [if_pos h5]
    split
    · have := Int.ediv_nonneg (show 0 ≤ j - i - 1 by omega) (show 0 ≤ c by omega)
      omega
    · rfl
  have b : (rngN i j c : Int) ≤ 2000000 := by
    unfold rngN
    split
    · have := Int.ediv_nonneg (show 0 ≤ j - i - 1 by omega) (show 0 ≤ c by omega)
      have := Int.ediv_le_self c (show 0 ≤ j - i - 1 by omega)
      omega
    · omega
  refine ⟨by omega, by omega, ?_, e⟩
  unfold Builtin.Range.small
  rw [e]
  have h : c > 0 := h5
  simp only [Builtin.Range.rangeFitsLong, Bool.and_eq_true, Bool.or_eq_true, decide_eq_true_eq, beq_iff_eq, h, if_true]
  omega
theorem rangeC_it_ok {K : PySem.W.Frag} {G H0 H1 : Hp} {own : List (Option Addr)} {lo c : Int} {n : Nat} : ItOk K .nw G H0 own H1 (Itc lo c n) (rangeC lo c n) := fun own2 H2 _ _ _ => by
  refine ⟨fun i d hi => ?_, by show n ≤ (rangeC lo c n).length; unfold rangeC; simp⟩
  unfold rangeC at hi
  rw [List.getElem?_map] at hi
  cases e : (List.range n)[i]? with
  | none => rw [e] at hi; cases hi
  | some j =>
    rw [e] at hi
    cases hi
    obtain ⟨h1, h2⟩ := List.getElem?_eq_some_iff.mp e
    rw [List.getElem_range] at h2
    subst h2
    rw [List.length_range] at h1
    refine ⟨h1, fun x H' hy => ?_⟩
    obtain ⟨rfl, rfl⟩ := hy
    exact ⟨Same.refl _, .int _⟩
theorem vi_range3 {c : Expr} (hm : X.mg "range" = none) (ha : VA X Γ [a, b, c] r fs ts) (hg : Gl X "range" := by rfl) (hs : starEach [a, b, c] X.env = (false, eval a X.env) :: starEach [b, c] X.env := by rfl) (hpl : (backTo pos (starEach [b, c] X.env)).any (·.1) = false := by rfl) :
    VI X Γ tg (.Call (.Name "range" p) [a, b, c] [] pos) .nw (iR3 fs) (iRng3 ts) := ⟨pi_range3 hg hm ha.pa hs hpl, fun G H0 own env σ H R ds E z k => by
  unfold iR3 at z
  cases e1 : fs env with
  | none => rw [e1] at z; cases z
  | some x =>
    rw [e1] at z
    simp only [Option.bind_some] at z
    match x, e1, z with
    | [.int i, .int j, .int c], e1, z =>
      simp only [hR3] at z
      by_cases q : ((-1000000 < i ∧ i < 1000000) ∧ (-1000000 < j ∧ j < 1000000)) ∧ (0 < c ∧ c < 1000000)
      · rw [if_pos q] at z
        cases z
        refine ha.ok G H0 own env σ H _ _ E e1 fun v H1 s1 c => ?_
        match v, c with
        | _, .cons (.int _) (.cons (.int _) (.cons (.int _) .nil)) => exact ⟨i, j, _, _, rfl, rgc_pos q.1.1.1 q.1.1.2 q.1.2.1 q.1.2.2 q.2.1 q.2.2, k _ H1 s1 rangeC_it_ok⟩
      · rw [if_neg q] at z; cases z⟩
theorem pair_in {K : PySem.W.Frag} {G H0 H2 : Hp} {own2 : List (Option Addr)} {T : Addr} {x y : V} {d e : D} (s0 : Same H0 H2) (al : ∀ a, Ow own2 a → ∃ o, H2 a = some o) (n : H2 T = none) (h1 : Dp K (rg r G H0 own2 H2) x d) (h2 : Dp K (rg r G H0 own2 H2) y e) :
    Dp K (rg r G H0 own2 (upd H2 T (.tup [x, y]))) (.ref T) (.tuple [d, e]) := by
  have nO : ¬ Ow own2 T := fun z => by
    obtain ⟨o, q⟩ := al T z
    rw [n] at q; cases q
  exact .tup (SqT.of (rg_iff.mpr ⟨tup_in nO (s0.free n), upd_same⟩)) (.cons (dp_mono (rg_ext (same_new n)) _ _ h1) (.cons (dp_mono (rg_ext (same_new n)) _ _ h2) .nil))
theorem vi_enum (hm : X.mg "enumerate" = none) (ha : VA X Γ [a] r fs ts) (hr : r ≠ .bo := by intro z; cases z) (hg : Gl X "enumerate" := by rfl) (hs : starEach [a] X.env = [(false, eval a X.env)] := by rfl) :
    VI X Γ (.Tuple elts kk tpos) (.Call (.Name "enumerate" p) [a] [] pos) r (iEn fs) (iEnum X.K ts) := ⟨pi_enum hg hm ha.pa hs, fun G H0 own env σ H R ds E z k => by
  unfold iEn at z
  cases e1 : fs env with
  | none => rw [e1] at z; cases z
  | some x =>
    rw [e1] at z
    simp only [Option.bind_some] at z
    match x, e1, z with
    | [.list xs], e1, z =>
      cases z
      refine ha.ok G H0 own env σ H _ _ E e1 fun v H1 s1 c => ?_
      match v, c with
      | _, .cons (.lst hs hd) .nil =>
        refine ⟨_, _, rfl, rg_sub.seq hs, k _ H1 s1 fun own2 H2 gr s0 al => ?_⟩
        have hs2 := (rg_gr gr hr).seq hs
        have hd2 := dps_mono (rg_gr gr hr) _ _ hd
        refine ⟨fun i d hi => ?_, ⟨_, rg_sub.seq hs2, by rw [dps_len hd2]; unfold enumD; simp⟩⟩
        unfold enumD at hi
        rw [List.getElem?_map, List.getElem?_zipIdx] at hi
        cases e2 : xs[i]? with
        | none => rw [e2] at hi; cases hi
        | some d2 =>
          rw [e2] at hi
          simp only [Option.map_some, Nat.zero_add] at hi
          cases hi
          obtain ⟨w, h1, h2⟩ := dps_get hd2 e2
          refine ⟨⟨_, w, rg_sub.seq hs2, h1⟩, fun y H' hy => ?_⟩
          obtain ⟨T, y', rfl, nT, rfl, hy⟩ := hy
          have e : y' = w := Option.some.inj ((hy _ (rg_sub.seq hs2)).symm.trans h1)
          subst e
          exact ⟨same_new nT, pair_in s0 al nT (.int _) h2⟩⟩
theorem vi_zip (hm : X.mg "zip" = none) (ha : VA X Γ [a, b] r fs ts) (hr : r ≠ .bo := by intro z; cases z) (hg : Gl X "zip" := by rfl) (hs : starEach [a, b] X.env = (false, eval a X.env) :: starEach [b] X.env := by rfl) (hpl : (backTo pos (starEach [b] X.env)).any (·.1) = false := by rfl) :
    VI X Γ (.Tuple elts kk tpos) (.Call (.Name "zip" p) [a, b] [] pos) r (iZp fs) (iZip X.K ts) := ⟨pi_zip hg hm ha.pa hs hpl, fun G H0 own env σ H R ds E z k => by
  unfold iZp at z
  cases e1 : fs env with
  | none => rw [e1] at z; cases z
  | some x =>
    rw [e1] at z
    simp only [Option.bind_some] at z
    match x, e1, z with
    | [.list xs, .list ys], e1, z =>
      cases z
      refine ha.ok G H0 own env σ H _ _ E e1 fun v H1 s1 c => ?_
      match v, c with
      | _, .cons (.lst hs hd) (.cons (.lst hs' hd') .nil) =>
        refine ⟨_, _, _, _, rfl, rg_sub.seq hs, rg_sub.seq hs', k _ H1 s1 fun own2 H2 gr s0 al => ?_⟩
        have hs2 := (rg_gr gr hr).seq hs
        have hd2 := dps_mono (rg_gr gr hr) _ _ hd
        have hs2' := (rg_gr gr hr).seq hs'
        have hd2' := dps_mono (rg_gr gr hr) _ _ hd'
        refine ⟨fun i d hi => ?_, ⟨_, _, rg_sub.seq hs2, rg_sub.seq hs2', by rw [dps_len hd2, dps_len hd2']; unfold zipD; rw [List.length_zipWith]; omega⟩⟩
        unfold zipD at hi
        rw [List.getElem?_zipWith] at hi
        cases e2 : xs[i]? with
        | none => rw [e2] at hi; cases hi
        | some d2 =>
          cases e3 : ys[i]? with
          | none => rw [e2, e3] at hi; cases hi
          | some d3 =>
            rw [e2, e3] at hi
            cases hi
            obtain ⟨w, h1, h2⟩ := dps_get hd2 e2
            obtain ⟨w', h1', h2'⟩ := dps_get hd2' e3
            refine ⟨⟨_, _, w, w', rg_sub.seq hs2, rg_sub.seq hs2', h1, h1'⟩, fun y H' hy => ?_⟩
            obtain ⟨T, y1, y2, rfl, nT, rfl, hy1, hy2⟩ := hy
            have e : y1 = w := Option.some.inj ((hy1 _ (rg_sub.seq hs2)).symm.trans h1)
            have e' : y2 = w' := Option.some.inj ((hy2 _ (rg_sub.seq hs2')).symm.trans h1')
            subst e e'
            exact ⟨same_new nT, pair_in s0 al nT h2 h2'⟩⟩
end
/-! ### for, while -/
def forL (set : D → SE → Option SE) (g : SE → Option Rs) (kl : List Nat) : List D → SE → Option Rs
  | [], e => some (.nx e)
  | x :: xs, e => (set x e).bind fun e1 => (g e1).bind fun r => match r with
    | .nx e' => forL set g kl xs (kil kl e')
    | .ct e' => forL set g kl xs (kil kl e')
    | .bk e' => some (.nx (kil kl e'))
    | .rt d => some (.rt d)
def sFor (set : D → SE → Option SE) (g : SE → Option Rs) (kl : List Nat) (f : SE → Option (List D)) (e : SE) : Option Rs := (f e).bind fun ds => forL set g kl ds (kil kl e)
def whN (c : SE → Option Bool) (g : SE → Option Rs) (kl : List Nat) : Nat → SE → Option Rs
  | 0, _ => none
  | n + 1, e => (c e).bind fun b => match b with
    | false => some (.nx e)
    | true => (g e).bind fun r => match r with
      | .nx e' => whN c g kl n (kil kl e')
      | .ct e' => whN c g kl n (kil kl e')
      | .bk e' => some (.nx e')
      | .rt d => some (.rt d)
open Classical in
noncomputable def sWhile (c : SE → Option Bool) (g : SE → Option Rs) (kl : List Nat) (e : SE) : Option Rs := if h : ∃ n r, whN c g kl n (kil kl e) = some r then some (choose (choose_spec h)) else none
section
variable {c : SE → Option Bool} {g : SE → Option Rs} {kl : List Nat}
theorem whN_succ : ∀ {n : Nat} {e : SE} {r : Rs}, whN c g kl n e = some r → whN c g kl (n + 1) e = some r
  | 0, _, _, h => by cases h
  | n + 1, e, r, h => by
    unfold whN at h ⊢
    cases e1 : c e with
    | none => rw [e1] at h; cases h
    | some b =>
      rw [e1] at h
      simp only [Option.bind_some] at h ⊢
      cases b with
      | false => exact h
      | true =>
        simp only at h ⊢
        cases e2 : g e with
        | none => rw [e2] at h; cases h
        | some q =>
          rw [e2] at h
          simp only [Option.bind_some] at h ⊢
          cases q with
          | nx e' => exact whN_succ h
          | ct e' => exact whN_succ h
          | bk e' => exact h
          | rt d => exact h
theorem whN_add {n : Nat} {e : SE} {r : Rs} (h : whN c g kl n e = some r) : ∀ m, whN c g kl (n + m) e = some r
  | 0 => h
  | m + 1 => whN_succ (whN_add h m)
theorem whN_det {n m : Nat} {e : SE} {r q : Rs} (h : whN c g kl n e = some r) (h' : whN c g kl m e = some q) : r = q := by
  have a := whN_add h m
  have b := whN_add h' n
  rw [Nat.add_comm m n, a] at b
  exact Option.some.inj b
theorem sWhile_of {n : Nat} {e : SE} {r : Rs} (h : whN c g kl n (kil kl e) = some r) : sWhile c g kl e = some r := by
  unfold sWhile
  have hh : ∃ n r, whN c g kl n (kil kl e) = some r := ⟨n, r, h⟩
  rw [dif_pos hh]
  exact congrArg some (whN_det (Classical.choose_spec (Classical.choose_spec hh)) h)
theorem sWhile_ex {e : SE} {r : Rs} (h : sWhile c g kl e = some r) : ∃ n, whN c g kl n (kil kl e) = some r := by
  unfold sWhile at h
  by_cases hh : ∃ n r, whN c g kl n (kil kl e) = some r
  · rw [dif_pos hh] at h
    cases h
    exact ⟨_, Classical.choose_spec (Classical.choose_spec hh)⟩
  · rw [dif_neg hh] at h; cases h
end
section
variable {X : Cx} {Γ : List Md} {u : Bool} {r ri : Rl} {tg iter cd : Expr} {is : List Nat} {set : D → SE → Option SE} {g : SE → Option Rs} {f : SE → Option (List D)} {c : SE → Option Bool} {wi : TI} {gt : TG} {tb : TS} {tc : TT} {body : List Stmt} {pos : Pos}
theorem vs_for (kl : List Nat) (hp : PassesOwn (model X.prog X.w) X.A X.env X.xe) (hc : X.calm = true) (hi : VI X Γ tg iter ri f wi) (hg : VG X Γ tg ri is set gt) (hb : VSs X Γ u r body g tb) (hs : ∀ x, foldedSetIterable iter X.env x = pure x := by intro _; rfl) :
    VS X Γ u r (.For tg iter body [] pos) (sFor set g kl f) (tFor wi gt tb) := ⟨ps_for hp hc hi.pi hg.pg hb.ps hs, fun G H0 own env σ H D res R z p => by
  unfold sFor at z
  cases e1 : f env with
  | none => rw [e1] at z; cases z
  | some ds =>
    rw [e1] at z
    simp only [Option.bind_some] at z
    refine hi.ok G H0 own env σ H _ ds R e1 fun J H1 s1 it => ?_
    refine ⟨fun i m σ' H' => ∃ own' env' rest, ER X.K Γ G H0 own' env' σ' H' ∧ Gr own H1 own' H' ∧ ds.drop i = rest ∧ m = rest.length ∧ i + rest.length = ds.length ∧ forL set g kl rest env' = some res,
      ⟨ds.length, own, _, ds, ER.kil kl (R.ext s1), Gr.refl, rfl, rfl, Nat.zero_add _, z⟩, ?_⟩
    rintro i m σ' H' ⟨own', env', rest, R', gr, hd, rfl, hl, hf⟩
    obtain ⟨go, stop⟩ := it own' H' gr R'.ex fun a ⟨j, q⟩ => (R'.fr j a q).2
    cases rest with
    | nil =>
      simp only [List.length_nil, Nat.add_zero] at hl
      subst hl
      cases hf
      exact .inl ⟨stop, p own' σ' H' R' ((Gr.of s1).trans gr)⟩
    | cons x xs =>
      have hx : ds[i]? = some x := by
        have := congrArg (fun l => l[0]?) hd
        simpa using this
      have hd2 : ds.drop (i + 1) = xs := by
        have := congrArg List.tail hd
        simpa [List.tail_drop] using this
      obtain ⟨hgo, hy⟩ := go i x hx
      unfold forL at hf
      cases e2 : set x env' with
      | none => rw [e2] at hf; cases hf
      | some e3 =>
        rw [e2] at hf
        simp only [Option.bind_some] at hf
        cases e4 : g e3 with
        | none => rw [e4] at hf; cases hf
        | some q =>
          rw [e4] at hf
          simp only [Option.bind_some] at hf
          refine .inr ⟨hgo, fun σ2 H2 => ∃ own2 env2, ER X.K Γ G H0 own2 env2 σ2 H2 ∧ Gr own H1 own2 H2 ∧ forL set g kl xs env2 = some res, fun σ2 H2 ⟨own2, env2, h1, h2, h3⟩ => ⟨xs.length, by simp, own2, env2, xs, h1, h2, hd2, rfl, by rw [List.length_cons] at hl; omega, h3⟩, fun y H2 yl => ?_⟩
          obtain ⟨s2, dp⟩ := hy y H2 yl
          have gr2 : Gr own H1 own' H2 := gr.trans (Gr.of s2)
          refine hg.ok G H0 own' env' σ' H2 y x e3 _ (R'.ext s2) dp e2 fun σ3 R3 _ _ => ?_
          refine hb.ok G H0 own' e3 σ3 H2 _ q R3 e4 ?_
          cases q with
          | nx e5 => exact fun own5 σ5 H5 R5 g5 => ⟨own5, _, ER.kil kl R5, gr2.trans g5, hf⟩
          | ct e5 => exact fun own5 σ5 H5 R5 g5 => ⟨own5, _, ER.kil kl R5, gr2.trans g5, hf⟩
          | bk e5 => cases hf; exact fun own5 σ5 H5 R5 g5 => p own5 σ5 H5 (ER.kil kl R5) (((Gr.of s1).trans gr2).trans g5)
          | rt d => cases hf; exact p⟩
theorem vs_while (kl : List Nat) (hp : PassesOwn (model X.prog X.w) X.A X.env X.xe) (hc : VT X Γ cd c tc) (hb : VSs X Γ u r body g tb) : VS X Γ u r (.While cd body [] pos) (sWhile c g kl) (tWhile tc tb) := ⟨ps_while hp hc.pt hb.ps, fun G H0 own env σ H D res R z p => by
  obtain ⟨n, hn⟩ := sWhile_ex z
  refine ⟨fun m σ' H' => ∃ own' env', ER X.K Γ G H0 own' env' σ' H' ∧ Gr own H own' H' ∧ whN c g kl m env' = some res, ⟨n, own, _, ER.kil kl R, Gr.refl, hn⟩, ?_⟩
  rintro m σ' H' ⟨own', env', R', gr, hw⟩
  cases m with
  | zero => cases hw
  | succ m =>
    unfold whN at hw
    cases e1 : c env' with
    | none => rw [e1] at hw; cases hw
    | some b =>
      rw [e1] at hw
      simp only [Option.bind_some] at hw
      refine hc.ok G H0 own' env' σ' H' _ b R' e1 fun H1 s1 => ?_
      cases b with
      | false => cases hw; exact iteF (p own' σ' H1 (R'.ext s1) (gr.trans (Gr.of s1)))
      | true =>
        refine iteT ?_
        simp only at hw
        cases e2 : g env' with
        | none => rw [e2] at hw; cases hw
        | some q =>
          rw [e2] at hw
          simp only [Option.bind_some] at hw
          refine ⟨fun σ2 H2 => ∃ own2 env2, ER X.K Γ G H0 own2 env2 σ2 H2 ∧ Gr own H own2 H2 ∧ whN c g kl m env2 = some res, fun σ2 H2 h => ⟨m, Nat.lt_succ_self _, h⟩, ?_⟩
          have gr1 := gr.trans (Gr.of (own := own') s1)
          refine hb.ok G H0 own' env' σ' H1 _ q (R'.ext s1) e2 ?_
          cases q with
          | nx e5 => exact fun own5 σ5 H5 R5 g5 => ⟨own5, _, ER.kil kl R5, gr1.trans g5, hw⟩
          | ct e5 => exact fun own5 σ5 H5 R5 g5 => ⟨own5, _, ER.kil kl R5, gr1.trans g5, hw⟩
          | bk e5 => cases hw; exact fun own5 σ5 H5 R5 g5 => p own5 σ5 H5 R5 (gr1.trans g5)
          | rt d => cases hw; exact p⟩
end

/-! ### comprehensions -/
def dComp (set : D → SE → Option SE) (c : SE → Option Bool) (h : SE → Option D) (e : SE) : List D → Option (List D)
  | [] => some []
  | x :: xs => (set x e).bind fun e1 => (c e1).bind fun b => match b with
    | true => (h e1).bind fun y => (dComp set c h e xs).bind fun ys => some (y :: ys)
    | false => dComp set c h e xs
def dCompG (set : D → SE → Option SE) (c : SE → Option Bool) (h : SE → Option D) (e : SE) (ds : List D) : Option (List D) := if ds.length ≤ 1000000 then dComp set c h e ds else none
def lComp (ws : List Nat) (set : D → SE → Option SE) (c : SE → Option Bool) (h : SE → Option D) (f : SE → Option (List D)) (e : SE) : Option (List D) := (f e).bind fun ds => dCompG set c h (kil ws e) ds
def cYes (_ : SE) : Option Bool := some true
structure VTs (X : Cx) (Γ : List Md) (es : List Expr) (f : SE → Option Bool) (t : TT) : Prop where
  pt : PTs X es t
  ok : OkT X.K Γ f t
theorem wipe_getElem {σ : L2.St} : ∀ {ws : List Nat} {j : Nat}, j ∉ ws → (wipe σ ws)[j]? = σ[j]?
  | [], _, _ => rfl
  | w :: ws, j, h => by
    unfold wipe
    rw [List.getElem?_set_ne (fun z => h (by simp [z])), wipe_getElem fun z => h (List.mem_cons_of_mem _ z)]
theorem wipe_in {σ : L2.St} : ∀ {ws : List Nat} {j : Nat}, j ∈ ws → (wipe σ ws)[j]? = if j < σ.length then some none else none
  | [], _, h => nomatch h
  | w :: ws, j, h => by
    unfold wipe
    by_cases e : w = j
    · subst e
      by_cases hl : w < σ.length
      · rw [List.getElem?_set_self (by rw [wipe_length]; exact hl), if_pos hl]
      · rw [List.getElem?_eq_none (by rw [List.length_set, wipe_length]; omega), if_neg hl]
    · rw [List.getElem?_set_ne e]
      exact wipe_in ((List.mem_cons.mp h).resolve_left fun z => e z.symm)
theorem wipe_same {σ σ' : L2.St} {ws : List Nat} (hl : σ'.length = σ.length) (h : ∀ j : Nat, j ∉ ws → σ'[j]? = σ[j]?) : wipe σ' ws = wipe σ ws := by
  apply List.ext_getElem?
  intro j
  by_cases hj : j ∈ ws
  · rw [wipe_in hj, wipe_in hj, hl]
  · rw [wipe_getElem hj, wipe_getElem hj, h j hj]
theorem wipe_wipe {σ : L2.St} {ws : List Nat} : wipe (wipe σ ws) ws = wipe σ ws := wipe_same (wipe_length σ ws) fun j hj => wipe_getElem hj
theorem ER.snoc {K : PySem.W.Frag} {Γ : List Md} {G H0 H : Hp} {own : List (Option Addr)} {env : SE} {σ : L2.St} {p : Addr} {o : HO} (R : ER K Γ G H0 own env σ H) (n : H p = none) : ER K Γ G H0 (own ++ [some p]) env σ (upd H p o) := by
  have s := same_new (o := o) n
  refine ⟨R.gs, R.ex.trans s, fun i j a hi hj => ?_, fun i a hi => ?_, R.le, by rw [List.length_append]; exact Nat.le_trans R.ol (Nat.le_add_right _ _), fun i d hi => ?_⟩
  · have key : ∀ i : Nat, (own ++ [some p])[i]? = some (some a) → (i < own.length ∧ own[i]? = some (some a)) ∨ (i = own.length ∧ a = p) := fun i hi => by
      by_cases hl : i < own.length
      · rw [List.getElem?_append_left hl] at hi
        exact .inl ⟨hl, hi⟩
      · rw [List.getElem?_append_right (by omega)] at hi
        by_cases h0 : i - own.length = 0
        · rw [h0] at hi
          simp at hi
          exact .inr ⟨by omega, hi.symm⟩
        · rw [List.getElem?_eq_none (by simp; omega)] at hi
          cases hi
    rcases key i hi with ⟨a1, b1⟩ | ⟨a1, b1⟩ <;> rcases key j hj with ⟨a2, b2⟩ | ⟨a2, b2⟩
    · exact R.inj i j a b1 b2
    · subst b2; exact absurd ⟨i, b1⟩ (R.live n)
    · subst b1; exact absurd ⟨j, b2⟩ (R.live n)
    · omega
  · by_cases hl : i < own.length
    · rw [List.getElem?_append_left hl] at hi
      obtain ⟨h1, o', h2⟩ := R.fr i a hi
      exact ⟨h1, o', s _ _ h2⟩
    · rw [List.getElem?_append_right (by omega)] at hi
      by_cases h0 : i - own.length = 0
      · rw [h0] at hi
        simp at hi
        subst hi
        exact ⟨R.new n, _, upd_same⟩
      · rw [List.getElem?_eq_none (by simp; omega)] at hi
        cases hi
  · obtain ⟨w, h1, h2⟩ := R.sl i d hi
    refine ⟨w, h1, ?_⟩
    have sub : ∀ {rr : Rl}, rr ≠ .bo → Same (rg rr G H0 own H) (rg rr G H0 (own ++ [some p]) (upd H p o)) := fun {rr} hr => rg_gr (fun b q nb e => ⟨fun z => (ow_of_snoc z).elim nb fun y => (by rw [y, n] at e; cases e), s _ _ e⟩) hr
    exact h2.step sub fun b g1 => ⟨by rw [List.getElem?_append_left (List.getElem?_eq_some_iff.mp g1).1]; exact g1, fun o => s _ _⟩
/-- a list of one's own at p changed: what the slots hold but the one at p stays -/
theorem ER.chg {K : PySem.W.Frag} {Γ : List Md} {G H0 H : Hp} {own : List (Option Addr)} {env : SE} {σ : L2.St} {p : Addr} {o : HO} {k : Nat} (R : ER K Γ G H0 own env σ H) (hp : own[k]? = some (some p)) (hk : ∀ d, env[k]? ≠ some (some d)) : ER K Γ G H0 own env σ (upd H p o) := by
  have n0 : H0 p = none := (R.fr k p hp).1
  refine ⟨R.gs, fun b q e => by rw [upd_ne (ne_of_none e n0)]; exact R.ex b q e, R.inj, fun i a hi => ?_, R.le, R.ol, fun i d hi => ?_⟩
  · obtain ⟨h1, o', h2⟩ := R.fr i a hi
    refine ⟨h1, ?_⟩
    by_cases e : a = p
    · subst e; exact ⟨_, upd_same⟩
    · exact ⟨o', by rw [upd_ne e]; exact h2⟩
  · obtain ⟨w, h1, h2⟩ := R.sl i d hi
    refine ⟨w, h1, ?_⟩
    have sub : ∀ {rr : Rl}, rr ≠ .bo → Same (rg rr G H0 own H) (rg rr G H0 own (upd H p o)) := fun {rr} hr => rg_gr (fun b q nb e => ⟨nb, by rw [upd_ne (fun z => nb ⟨k, by rw [z]; exact hp⟩)]; exact e⟩) hr
    refine h2.step sub fun b g1 => ⟨g1, fun o g2 => ?_⟩
    have e : b ≠ p := fun z => by
      subst z
      have := R.inj i k b g1 hp
      subst this
      exact hk d hi
    rw [upd_ne e]
    exact g2
theorem Gr.chg {H : Hp} {own : List (Option Addr)} {p : Addr} {o : HO} (hp : Ow own p) : Gr own H own (upd H p o) := fun b q nb e => ⟨nb, by rw [upd_ne (fun z => nb (by rw [z]; exact hp))]; exact e⟩
section
variable {X : Cx} {Γ : List Md} {ri re : Rl} {tg iter elt : Expr} {ifs : List Expr} {is : List Nat} {set : D → SE → Option SE} {c : SE → Option Bool} {h : SE → Option D} {f : SE → Option (List D)} {wi : TI} {g : TG} {tt : TT} {te : TE} {scope : Scope} {own : List (Str × Nat)} {pos : Pos}
theorem vts_nil : VTs X Γ [] cYes tYes := ⟨pts_nil, fun G H0 own env σ H Q b R z k => by cases z; exact k H (Same.refl H)⟩
theorem vts_one {e : Expr} (h : VT X Γ e c tt) : VTs X Γ [e] c tt := ⟨pts_one h.pt, h.ok⟩
theorem ok_comp {K : PySem.W.Frag} {ws : List Nat} (hre : re ≠ .bo)
    (hi : ∀ (G H0 : Hp) (own : List (Option Addr)) (env : SE) (σ : L2.St) (H : Hp) (R : It → Hp → Prop) (ds : List D), ER K Γ G H0 own env σ H → f env = some ds → (∀ J H1, Same H H1 → ItOk K ri G H0 own H1 J ds → R J H1) → wi σ H R)
    (hg : ∀ (G H0 : Hp) (own : List (Option Addr)) (env : SE) (σ : L2.St) (H : Hp) (v : V) (d : D) (env' : SE) (Q : L2.St → Hp → Prop), ER K Γ G H0 own env σ H → Dp K (rg ri G H0 own H) v d → set d env = some env' →
      (∀ σ' : L2.St, ER K Γ G H0 own env' σ' H → σ'.length = σ.length → (∀ j : Nat, j ∉ is → σ'[j]? = σ[j]?) → Q σ' H) → g v σ H Q)
    (his : ∀ j ∈ is, j ∈ ws) (hc : OkT K Γ c tt) (he : OkE K Γ re h te) : OkL K Γ re (lComp ws set c h f) (tLc wi g tt te ws) := fun G H0 own env σ H Q ds R z k => by
  unfold lComp at z
  cases e1 : f env with
  | none => rw [e1] at z; cases z
  | some xs =>
    rw [e1] at z
    simp only [Option.bind_some, dCompG] at z
    by_cases hz : xs.length ≤ 1000000
    · rw [if_pos hz] at z
      refine hi G H0 own env σ H _ xs R e1 fun J H1 s1 it Dn hD => ?_
      have nD : H Dn = none := s1.free hD
      refine ⟨fun i m H' => ∃ acc accD rest ys, H' Dn = some (.lst acc) ∧ DpAll K (rg re G H0 (own ++ [some Dn]) H') acc accD ∧ ER K Γ G H0 (own ++ [some Dn]) (kil ws env) (wipe σ ws) H' ∧ Same H1 H' ∧ xs.drop i = rest ∧ m = rest.length ∧ i + rest.length = xs.length ∧
          dComp set c h (kil ws env) rest = some ys ∧ accD ++ ys = ds ∧ accD.length ≤ i,
        ⟨xs.length, [], [], xs, ds, upd_same, .nil, ER.wipe ws ((R.ext s1).snoc hD), same_new hD, rfl, rfl, Nat.zero_add _, z, rfl, Nat.le_refl _⟩, ?_⟩
      rintro i m H' ⟨acc, accD, rest, ys, hH, hA, R', s', hd, rfl, hl, hq, hy, hn⟩
      have gr : Gr own H1 (own ++ [some Dn]) H' := fun b q nb e => ⟨fun y => (ow_of_snoc y).elim nb fun w => (by rw [w, hD] at e; cases e), s' _ _ e⟩
      obtain ⟨go, stop⟩ := it _ H' gr R'.ex fun a ⟨j, q⟩ => (R'.fr j a q).2
      cases rest with
      | nil =>
        simp only [List.length_nil, Nat.add_zero] at hl
        subst hl
        cases hq
        rw [List.append_nil] at hy
        subst hy
        exact .inl ⟨stop, k Dn acc H' (s1.trans s') nD hH hA⟩
      | cons x rest =>
        have hx : xs[i]? = some x := by
          have := congrArg (fun l => l[0]?) hd
          simpa using this
        have hd2 : xs.drop (i + 1) = rest := by
          have := congrArg List.tail hd
          simpa [List.tail_drop] using this
        obtain ⟨hgo, hyl⟩ := go i x hx
        unfold dComp at hq
        cases e2 : set x (kil ws env) with
        | none => rw [e2] at hq; cases hq
        | some e3 =>
          rw [e2] at hq
          simp only [Option.bind_some] at hq
          cases e4 : c e3 with
          | none => rw [e4] at hq; cases hq
          | some b =>
            rw [e4] at hq
            simp only [Option.bind_some] at hq
            refine .inr ⟨hgo, fun H' => ∃ acc accD ys, H' Dn = some (.lst acc) ∧ DpAll K (rg re G H0 (own ++ [some Dn]) H') acc accD ∧ ER K Γ G H0 (own ++ [some Dn]) (kil ws env) (wipe σ ws) H' ∧ Same H1 H' ∧
              dComp set c h (kil ws env) rest = some ys ∧ accD ++ ys = ds ∧ accD.length ≤ i + 1, fun H2 ⟨a2, d2, y2, q1, q2, q3, q4, q5, q6, q7⟩ => ⟨rest.length, by simp, a2, d2, rest, y2, q1, q2, q3, q4, hd2, rfl, by rw [List.length_cons] at hl; omega, q5, q6, q7⟩, fun y H2 yl => ?_⟩
            obtain ⟨s2, dp⟩ := hyl y H2 yl
            refine hg G H0 _ _ _ H2 y x e3 _ (R'.ext s2) dp e2 fun σ3 R3 l3 k3 => ?_
            refine ⟨(wipe_same l3 fun j hj => k3 j fun w => hj (his j w)).trans wipe_wipe, ?_⟩
            refine hc G H0 _ e3 σ3 H2 _ b R3 e4 fun H3 s3 => ?_
            cases b with
            | false =>
              refine iteF ⟨acc, accD, ys, s3 _ _ (s2 _ _ hH), dps_mono (rg_ext (s2.trans s3)) _ _ hA, (R'.ext s2).ext s3, s'.trans (s2.trans s3), hq, hy, by omega⟩
            | true =>
              refine iteT ?_
              simp only at hq
              cases e5 : h e3 with
              | none => rw [e5] at hq; cases hq
              | some w =>
                rw [e5] at hq
                simp only [Option.bind_some] at hq
                cases e6 : dComp set c h (kil ws env) rest with
                | none => rw [e6] at hq; cases hq
                | some zs =>
                  rw [e6] at hq
                  cases hq
                  refine he G H0 _ e3 σ3 H3 _ w (R3.ext s3) e5 fun v H4 s4 p4 => ?_
                  have s24 := s2.trans (s3.trans s4)
                  have hH4 : H4 Dn = some (.lst acc) := s24 _ _ hH
                  have ka : (own ++ [some Dn])[own.length]? = some (some Dn) := by simp
                  have kb : ∀ d, (kil ws env)[own.length]? ≠ some (some d) := fun d e => by
                    have := (List.getElem?_eq_some_iff.mp e).1
                    have h1 := R'.le
                    rw [wipe_length] at h1
                    have h2 := R.ol
                    omega
                  have R4 := ((R'.ext s24).chg (o := .lst (acc ++ [v])) ka kb)
                  have sub : Same (rg re G H0 (own ++ [some Dn]) H4) (rg re G H0 (own ++ [some Dn]) (upd H4 Dn (.lst (acc ++ [v])))) := rg_gr (Gr.chg ow_snoc_self) hre
                  refine ⟨acc, hH4, ?_, acc ++ [v], accD ++ [w], zs, upd_same, dps_app (dps_mono sub _ _ (dps_mono (rg_ext s24) _ _ hA)) (.cons (dp_mono sub _ _ p4) .nil), R4, fun b q e => ?_, rfl, by rw [List.append_assoc]; exact hy, by rw [List.length_append, List.length_singleton]; omega⟩
                  · have := dps_len hA
                    have : xs.length < sizeLine := Nat.lt_of_le_of_lt hz (by decide)
                    rw [List.length_cons] at hl
                    omega
                  · rw [upd_ne (ne_of_none e hD)]
                    exact s24 _ _ (s' _ _ e)
    · rw [if_neg hz] at z; cases z
theorem vl_comp {ws : List Nat} (hcalm : X.calm = true) (hN : X.N.Nodup) (hi : VI X Γ tg iter ri f wi) (ok : BlkOk X.N X.env.scope scope own)
    (hg : ∀ (s : Shared) (H : Hp) (C : Addr) (cl : List (Str × Addr)) (fp : List Addr), VG (X.blk s H scope (compEnvC scope cl C X.env) fp) Γ tg ri is set g)
    (ht : ∀ (s : Shared) (H : Hp) (C : Addr) (cl : List (Str × Addr)) (fp : List Addr), VTs (X.blk s H scope (compEnvC scope cl C X.env) fp) Γ ifs c tt)
    (he : ∀ (s : Shared) (H : Hp) (C : Addr) (cl : List (Str × Addr)) (fp : List Addr), VE (X.blk s H scope (compEnvC scope cl C X.env) fp) Γ elt re h te) (hre : re ≠ .bo := by intro z; cases z) (hws : own.map (·.2) = ws := by rfl) (his : ∀ j ∈ is, j ∈ ws := by decide)
    (hs : ∀ x, foldedSetIterable iter X.env x = pure x := by intro _; rfl) : VL X Γ (.ListComp elt [⟨tg, iter, ifs, 0⟩] scope pos) re (lComp ws set c h f) (tLc wi g tt te ws) := by
  subst hws
  exact ⟨pe_lc hcalm hN hi.pi ok (fun s H C cl fp => (hg s H C cl fp).pg) (fun s H C cl fp => (ht s H C cl fp).pt) (fun s H C cl fp => (he s H C cl fp).pe) hs,
    ok_comp hre hi.ok (hg ({} : Shared) (fun _ => none) 0 [] []).ok his (ht ({} : Shared) (fun _ => none) 0 [] []).ok (he ({} : Shared) (fun _ => none) 0 [] []).ok⟩
/-- a family of worths, one for each block: together they are one -/
abbrev Fam (T : Type) := Shared → Hp → Addr → List (Str × Addr) → List Addr → T
def allE (t : Fam TE) : TE := fun σ H Q => ∀ s H' C cl fp, t s H' C cl fp σ H Q
def allT (t : Fam TT) : TT := fun σ H Q => ∀ s H' C cl fp, t s H' C cl fp σ H Q
def allG (t : Fam TG) : TG := fun v σ H Q => ∀ s H' C cl fp, t s H' C cl fp v σ H Q
theorem fam_e {te : Fam TE} (he : ∀ s H C cl fp, VE (X.blk s H scope (compEnvC scope cl C X.env) fp) Γ elt re h (te s H C cl fp)) (s : Shared) (H : Hp) (C : Addr) (cl : List (Str × Addr)) (fp : List Addr) :
    VE (X.blk s H scope (compEnvC scope cl C X.env) fp) Γ elt re h (allE te) :=
  ⟨⟨fun pins s1 σ H1 Q I w => (he s H C cl fp).pe.run pins s1 σ H1 Q I (w s H C cl fp)⟩, fun G H0 own env σ H1 Q d R q k s' H' C' cl' fp' => (he s' H' C' cl' fp').ok G H0 own env σ H1 Q d R q k⟩
theorem fam_t {tt : Fam TT} (he : ∀ s H C cl fp, VTs (X.blk s H scope (compEnvC scope cl C X.env) fp) Γ ifs c (tt s H C cl fp)) (s : Shared) (H : Hp) (C : Addr) (cl : List (Str × Addr)) (fp : List Addr) :
    VTs (X.blk s H scope (compEnvC scope cl C X.env) fp) Γ ifs c (allT tt) :=
  ⟨⟨fun pins s1 σ H1 Q I w => (he s H C cl fp).pt.run pins s1 σ H1 Q I (w s H C cl fp)⟩, fun G H0 own env σ H1 Q d R q k s' H' C' cl' fp' => (he s' H' C' cl' fp').ok G H0 own env σ H1 Q d R q k⟩
theorem fam_g {g : Fam TG} (he : ∀ s H C cl fp, VG (X.blk s H scope (compEnvC scope cl C X.env) fp) Γ tg ri is set (g s H C cl fp)) (s : Shared) (H : Hp) (C : Addr) (cl : List (Str × Addr)) (fp : List Addr) :
    VG (X.blk s H scope (compEnvC scope cl C X.env) fp) Γ tg ri is set (allG g) :=
  ⟨⟨fun pins s1 σ H1 v u Q I rv w => (he s H C cl fp).pg.run pins s1 σ H1 v u Q I rv (w s H C cl fp)⟩, fun G H0 own env σ H1 v d env' Q R q q' k s' H' C' cl' fp' => (he s' H' C' cl' fp').ok G H0 own env σ H1 v d env' Q R q q' k⟩
theorem vl_compF {ws : List Nat} {te : Fam TE} {tt : Fam TT} {g : Fam TG} (hcalm : X.calm = true) (hN : X.N.Nodup) (hi : VI X Γ tg iter ri f wi) (ok : BlkOk X.N X.env.scope scope own)
    (hg : ∀ s H C cl fp, VG (X.blk s H scope (compEnvC scope cl C X.env) fp) Γ tg ri is set (g s H C cl fp))
    (ht : ∀ s H C cl fp, VTs (X.blk s H scope (compEnvC scope cl C X.env) fp) Γ ifs c (tt s H C cl fp))
    (he : ∀ s H C cl fp, VE (X.blk s H scope (compEnvC scope cl C X.env) fp) Γ elt re h (te s H C cl fp)) (hre : re ≠ .bo := by intro z; cases z) (hws : own.map (·.2) = ws := by rfl) (his : ∀ j ∈ is, j ∈ ws := by decide)
    (hs : ∀ x, foldedSetIterable iter X.env x = pure x := by intro _; rfl) : VL X Γ (.ListComp elt [⟨tg, iter, ifs, 0⟩] scope pos) re (lComp ws set c h f) (tLc wi (allG g) (allT tt) (allE te) ws) :=
  vl_comp hcalm hN hi ok (fam_g hg) (fam_t ht) (fam_e he) hre hws his hs
end
end PV

namespace PV
open PySem PySem.Spec PyProof.Rows L2
/-! ### a def's promise, calls -/
def spV (K : PySem.W.Frag) (u : Bool) (r : Rl) (F : List D → Option D) : Sp := fun vs H Q _ => ∃ G ds d, Same G H ∧ DpAll K G vs ds ∧ F ds = some d ∧ ∀ v H', Same H H' → RetOk K u r G H H' v d → Q v H'
def runF (u : Bool) (n np : Nat) (g : SE → Option Rs) (ds : List D) : Option D := if ds.length = np then (g (ds.map some ++ List.replicate (n - ds.length) none)).bind fun x => match x with
  | .rt d => some d
  | .nx _ => match u with
    | true => none
    | false => some .none
  | _ => none
  else none
theorem er_start {K : PySem.W.Frag} {Γ : List Md} {G H : Hp} {vs : List V} {ds : List D} {N : List Str} (hG : Same G H) (hd : DpAll K G vs ds) (hΓ : ∀ i, i < ds.length → md Γ i = .od) (hl : ds.length ≤ N.length) :
    ER K Γ G H (List.replicate N.length none) (ds.map some ++ List.replicate (N.length - ds.length) none) (L2.start N vs) H := by
  have lv := dps_len hd
  have no : ∀ (i : Nat) (a : Addr), (List.replicate N.length (none : Option Addr))[i]? = some (some a) → False := fun i a h => by
    rw [List.getElem?_replicate] at h
    split at h <;> cases h
  refine ⟨hG, Same.refl H, fun i j a h => (no i a h).elim, fun i a h => (no i a h).elim, ?_, ?_, fun i d hi => ?_⟩
  · unfold L2.start
    simp only [List.length_append, List.length_map, List.length_replicate, lv]
  · unfold L2.start
    simp only [List.length_append, List.length_map, List.length_replicate]
    omega
  · have hl' : i < ds.length := by
      by_cases q : i < ds.length
      · exact q
      · rw [List.getElem?_append_right (by rw [List.length_map]; omega), List.getElem?_replicate] at hi
        split at hi <;> cases hi
    rw [List.getElem?_append_left (by rw [List.length_map]; exact hl'), List.getElem?_map] at hi
    cases e : ds[i]? with
    | none => rw [e] at hi; cases hi
    | some d' =>
      rw [e] at hi
      cases hi
      obtain ⟨v, h1, h2⟩ := dps_get hd e
      refine ⟨v, ?_, ?_⟩
      · unfold L2.start
        rw [List.getElem?_append_left (by rw [List.length_map]; omega), List.getElem?_map, h1]
        rfl
      · rw [hΓ i hl']
        refine dp_mono (fun a o q => (rg_iff (r := .od)).mpr ⟨⟨fun ⟨j, z⟩ => no j a z, .inr (by rw [q]; intro z; cases z)⟩, hG a o q⟩) _ _ h2
section
variable {P : Program} {w : World} {K : PySem.W.Frag} {mg : Str → Option Value} {base : Heap}
def isOd : Md → Bool
  | .od => true
  | _ => false
theorem fn_v {x qual : Str} {st : Stmt} {f : Addr} {fd : FuncData} {N ps : List Str} {k : Nat} (u : Bool) (r : Rl) (Γ : List Md) {g : SE → Option Rs} (Fu : Fun K x qual st f fd) (S : FnScope N ps (defScope st))
    (hb : ∀ (cdv : Value) (A : Around) (outer : List Env) (s : Shared) (H : Hp) (E : XK), Room k (A.deeper (envOfC qual (defScope st) s.heap.objs.size f cdv)) → ∃ t, VSs (cxOf CX0 P w K mg base N qual (defScope st) f cdv A outer s H E).nox Γ u r (defBody st) g t)
    (hΓ : (List.range ps.length).all (fun i => isOd (md Γ i)) = true := by decide) (hn : ps.length ≤ N.length := by decide) : FnOk P w K mg base CX0 (k + 1) f fd ps (spV K u r (runF u N.length ps.length g)) := by
  refine Fu.ok S (fun vs H Q E h => ?_) (fun cdv A outer s H vs Q E hr h => ?_)
  · obtain ⟨G, ds, d, h1, h2, h3, _⟩ := h
    unfold runF at h3
    by_cases q : ds.length = ps.length
    · rw [dps_len h2, q]
    · rw [if_neg q] at h3; cases h3
  · obtain ⟨G, ds, d, h1, h2, h3, k⟩ := h
    unfold runF at h3
    by_cases q : ds.length = ps.length
    · rw [if_pos q] at h3
      obtain ⟨t, T⟩ := hb cdv A outer s H E hr
      cases e1 : g (ds.map some ++ List.replicate (N.length - ds.length) none) with
      | none => rw [e1] at h3; cases h3
      | some res =>
        rw [e1] at h3
        simp only [Option.bind_some] at h3
        refine ⟨t, T.ps, ?_⟩
        have R := er_start (K := K) (Γ := Γ) (N := N) h1 h2 (fun i hi => by
          rw [q] at hi
          have := List.all_eq_true.mp hΓ i (List.mem_range.mpr hi)
          revert this
          cases md Γ i <;> intro z <;> first | rfl | cases z) (by omega)
        refine T.ok G H _ _ _ H _ res R e1 ?_
        cases res with
        | nx e =>
          cases u with
          | true => cases h3
          | false => cases h3; exact fun own' σ' H' R' _ => k _ H' R'.ex .non
        | rt d' => cases h3; exact fun v H' s' p => k v H' s' p
        | bk e => cases h3
        | ct e => cases h3
    · rw [if_neg q] at h3; cases h3
end
def callR (r ra : Rl) : Rl := match r with
  | .nw => .nw
  | _ => ra
theorem le_nw : ∀ r : Rl, RLe .nw r
  | .nw => .refl _
  | .od => .no
  | .bo => .bo _
/-- what a callee hands out, in the caller's words -/
theorem call_rg {K : PySem.W.Frag} {Γ : List Md} {G H0 H1 H' : Hp} {own : List (Option Addr)} {env : SE} {σ : L2.St} {r ra : Rl} {ex : List (Option Addr)} (R : ER K Γ G H0 own env σ H1) (hr : r ≠ .bo) (hx : ∀ a, Ow ex a → H1 a = none) (hs : Same H1 H') :
    Same (rg r (rg ra G H0 own H1) H1 ex H') (rg (callR r ra) G H0 (own ++ ex) H') := fun a o q => by
  obtain ⟨i, e⟩ := rg_iff.mp q
  refine rg_iff.mpr ⟨?_, e⟩
  have snoc : ∀ {b}, Ow (own ++ ex) b → Ow own b ∨ Ow ex b := fun {b} ⟨j, z⟩ => by
    by_cases hl : j < own.length
    · rw [List.getElem?_append_left hl] at z; exact .inl ⟨j, z⟩
    · rw [List.getElem?_append_right (by omega)] at z; exact .inr ⟨_, z⟩
  have new : ¬ Ow ex a → Nw H1 a o → InR .nw G H0 (own ++ ex) a o := fun nx h => ⟨fun z => (snoc z).elim (R.live h.1) nx, R.new h.1, h.2⟩
  cases r with
  | bo => exact absurd rfl hr
  | nw => exact new i.1 i.2
  | od =>
    rcases i.2 with h | h
    · exact (new i.1 h).le (le_nw ra)
    · show InR ra G H0 (own ++ ex) a o
      cases e2 : rg ra G H0 own H1 a with
      | none => exact absurd e2 h
      | some o2 =>
        obtain ⟨i2, e3⟩ := rg_iff.mp e2
        have e4 := hs _ _ e3
        rw [e] at e4
        cases e4
        cases ra with
        | bo => trivial
        | od => exact ⟨fun z => (snoc z).elim i2.1 i.1, i2.2⟩
        | nw => exact ⟨fun z => (snoc z).elim i2.1 i.1, i2.2⟩
def dAL (F : List D → Option D) (fs : SE → Option (List D)) (e : SE) : Option (List D) := (fs e).bind fun x => (F x).bind list?
section
variable {X : Cx} {Γ : List Md} {r ra : Rl} {e : Expr} {es : List Expr} {fs : SE → Option (List D)} {ts : TA} {p pos : Pos} {x : Str} {k : Nat} {f : Addr} {fd : FuncData} {ps : List Str} {F : List D → Option D}
theorem ok_call {K : PySem.W.Frag} (hr : r ≠ .bo) (ha : OkA K Γ ra fs ts) : OkE K Γ (callR r ra) (dA F fs) (tCall (spV K false r F) [] E0 ts) := fun G H0 own env σ H Q d R z k => by
  unfold dA at z
  cases e1 : fs env with
  | none => rw [e1] at z; cases z
  | some ds =>
    rw [e1] at z
    simp only [Option.bind_some] at z
    refine ha G H0 own env σ H _ ds R e1 fun vs H1 s1 c => ?_
    refine ⟨rg ra G H0 own H1, ds, d, rg_sub, by rw [List.append_nil]; exact c, z, fun v H' s' q => k v H' (s1.trans s') ?_⟩
    have := call_rg (ex := []) (ra := ra) (H' := H') (R.ext s1) hr (fun a ⟨j, q⟩ => by simp at q) s'
    rw [List.append_nil] at this
    exact dp_mono this _ _ q
theorem ok_callL {K : PySem.W.Frag} (hr : r ≠ .bo) (ha : OkA K Γ ra fs ts) : OkL K Γ (callR r ra) (dAL F fs) (tCall (spV K true r F) [] E0 ts) := fun G H0 own env σ H Q d R z k => by
  unfold dAL at z
  cases e1 : fs env with
  | none => rw [e1] at z; cases z
  | some ds =>
    rw [e1] at z
    simp only [Option.bind_some] at z
    cases e2 : F ds with
    | none => rw [e2] at z; cases z
    | some d' =>
      rw [e2] at z
      simp only [Option.bind_some] at z
      refine ha G H0 own env σ H _ ds R e1 fun vs H1 s1 c => ?_
      refine ⟨rg ra G H0 own H1, ds, d', rg_sub, by rw [List.append_nil]; exact c, e2, fun v H' s' q => ?_⟩
      obtain ⟨a, us, es, rfl, rfl, n1, q1, q2⟩ := q
      cases z
      refine k a us H' (s1.trans s') (s1.free n1) q1 (dps_mono (call_rg (R.ext s1) hr (fun b ⟨j, q⟩ => ?_) s') _ _ q2)
      have e : b = a := by
        cases j with
        | zero => simp at q; exact q.symm
        | succ j => simp at q
      rw [e]; exact n1
theorem v_call (Fo : FnOk X.prog X.w X.K X.mg X.base CX0 k f fd ps (spV X.K false r F)) (hr : Room k X.A) (hm : X.mg x = some (.ref f)) (hk : PySem.W.keepIn X.K (.ref f) = true) (hb : Binds X.K fd ps []) (ha : VA X Γ (e :: es) ra fs ts) (hnb : r ≠ .bo := by intro z; cases z)
    (hg : Gl X x := by rfl) (hdb : (x == ("__debug__" : Str)) = false := by decide) (he : starEach (e :: es) X.env = (false, eval e X.env) :: starEach es X.env := by rfl) (hpl : (backTo pos (starEach es X.env)).any (·.1) = false := by rfl) :
    VE X Γ (.Call (.Name x p) (e :: es) [] pos) (callR r ra) (dA F fs) (tCall (spV X.K false r F) [] E0 ts) := ⟨pe_call Fo hr hg hm hk hb .nil pass0 ha.pa hdb he hpl, ok_call hnb ha.ok⟩
theorem vl_call (Fo : FnOk X.prog X.w X.K X.mg X.base CX0 k f fd ps (spV X.K true r F)) (hr : Room k X.A) (hm : X.mg x = some (.ref f)) (hk : PySem.W.keepIn X.K (.ref f) = true) (hb : Binds X.K fd ps []) (ha : VA X Γ (e :: es) ra fs ts) (hnb : r ≠ .bo := by intro z; cases z)
    (hg : Gl X x := by rfl) (hdb : (x == ("__debug__" : Str)) = false := by decide) (he : starEach (e :: es) X.env = (false, eval e X.env) :: starEach es X.env := by rfl) (hpl : (backTo pos (starEach es X.env)).any (·.1) = false := by rfl) :
    VL X Γ (.Call (.Name x p) (e :: es) [] pos) (callR r ra) (dAL F fs) (tCall (spV X.K true r F) [] E0 ts) := ⟨pe_call Fo hr hg hm hk hb .nil pass0 ha.pa hdb he hpl, ok_callL hnb ha.ok⟩
end
/-! ### further statements -/
def sPar (i j : Nat) (fs : SE → Option (List D)) (e : SE) : Option Rs := (fs e).bind fun x => match x with
  | [a, b] => some (.nx ((e.set i (some a)).set j (some b)))
  | _ => none
def sAug (i : Nat) (h : D → D → Option D) (f : SE → Option D) (e : SE) : Option Rs := (dV i e).bind fun x => (f e).bind fun y => (h x y).bind fun z => some (.nx (e.set i (some z)))
def sTgt (set : D → SE → Option SE) (f : SE → Option D) (e : SE) : Option Rs := (f e).bind fun x => (set x e).bind fun e' => some (.nx e')
def sSub (k : Nat) (fi fe : SE → Option D) (e : SE) : Option Rs := (fe e).bind fun v => (dV k e).bind fun x => (list? x).bind fun xs => (fi e).bind fun i => match i with
  | .int z => (ixN xs.length z).bind fun j => some (.nx (e.set k (some (.list (xs.set j v)))))
  | _ => none
def sMut (k : Nat) (h : List D → List D → Option (List D)) (fs : SE → Option (List D)) (e : SE) : Option Rs := (dV k e).bind fun x => (list? x).bind fun xs => (fs e).bind fun as => (h xs as).bind fun ys => some (.nx (e.set k (some (.list ys))))
def hApp (xs as : List D) : Option (List D) := match as with
  | [d] => if xs.length < 1000000 then some (xs ++ [d]) else none
  | _ => none
def hIns (xs as : List D) : Option (List D) := match as with
  | [.int i, d] => if (0 ≤ i ∧ i < 1000000) ∧ xs.length < 1000000 then some (xs.take i.toNat ++ [d] ++ xs.drop i.toNat) else none
  | _ => none
def hClr (_ as : List D) : Option (List D) := match as with
  | [] => some []
  | _ => none
theorem dV_get {i : Nat} {env : SE} {d : D} (h : dV i env = some d) : env[i]? = some (some d) := by
  unfold dV at h
  rw [List.getD_eq_getElem?_getD] at h
  cases e1 : env[i]? with
  | none => rw [e1] at h; cases h
  | some x => rw [e1] at h; exact congrArg some h
section
variable {K : PySem.W.Frag} {Γ : List Md} {u : Bool} {r re ra rb : Rl}
/-- a list of one's own at slot k is changed -/
theorem ER.mutd {G H0 H : Hp} {own : List (Option Addr)} {env : SE} {σ : L2.St} {k : Nat} {a : Addr} {vs : List V} {ds : List D} (R : ER K Γ G H0 own env σ H) (hm : isM (md Γ k) = true) (ho : own[k]? = some (some a)) (hs : σ[k]? = some (some (.ref a)))
    (hd : DpAll K (rg (moR (md Γ k)) G H0 own H) vs ds) : ER K Γ G H0 own (env.set k (some (.list ds))) σ (upd H a (.lst vs)) ∧ Gr own H own (upd H a (.lst vs)) := by
  have hk : k < σ.length := (List.getElem?_eq_some_iff.mp hs).1
  have gr : Gr own H own (upd H a (.lst vs)) := Gr.chg ⟨k, ho⟩
  refine ⟨?_, gr⟩
  have R1 := (R.forget k).chg (o := .lst vs) ho fun d e => by
    rw [List.getElem?_set_self (by rw [R.le]; exact hk)] at e; cases e
  have ok : SlotOk K (md Γ k) G H0 own (upd H a (.lst vs)) k (.ref a) (.list ds) := by
    have nb : moR (md Γ k) ≠ .bo := by cases md Γ k <;> intro z <;> cases z
    have hd2 := dps_mono (rg_gr gr nb) _ _ hd
    cases hh : md Γ k with
    | mo => rw [hh] at hd2; exact ⟨a, vs, ds, rfl, ho, upd_same, rfl, hd2⟩
    | mn => rw [hh] at hd2; exact ⟨a, vs, ds, rfl, ho, upd_same, rfl, hd2⟩
    | _ => rw [hh] at hm; cases hm
  have R2 := R1.put k (.list ds) (.ref a) ok
  rw [List.set_set] at R2
  have e : σ.set k (some (.ref a)) = σ := by
    apply List.ext_getElem?
    intro j
    by_cases q : k = j
    · subst q; rw [List.getElem?_set_self hk, hs]
    · rw [List.getElem?_set_ne q]
  rw [e] at R2
  exact R2
theorem slotM_of {G H0 H : Hp} {own : List (Option Addr)} {k : Nat} {v : V} {d : D} (hm : isM (md Γ k) = true) (h : SlotOk K (md Γ k) G H0 own H k v d) : SlotM K (moR (md Γ k)) G H0 own H k v d := by
  cases hh : md Γ k with
  | mo => rw [hh] at h; exact h
  | mn => rw [hh] at h; exact h
  | _ => rw [hh] at hm; cases hm
theorem ok_par {i j : Nat} {fs : SE → Option (List D)} {ts : TA} (ha : OkA K Γ ra fs ts) (hi : acc ra (md Γ i) = true) (hj : acc ra (md Γ j) = true) : OkS K Γ u r (sPar i j fs) (tPar i j ts) := fun G H0 own env σ H D' res R z p => by
  unfold sPar at z
  cases e1 : fs env with
  | none => rw [e1] at z; cases z
  | some ds =>
    rw [e1] at z
    simp only [Option.bind_some] at z
    match ds, e1, z with
    | [a, b], e1, z =>
      cases z
      refine ha G H0 own env σ H _ _ R e1 fun vs H1 s1 c => ?_
      cases c with
      | cons c1 c2 =>
        cases c2 with
        | cons c2 c3 =>
          cases c3
          refine ⟨_, _, rfl, p own _ H1 (((R.ext s1).put i a _ (acc_ok hi c1)).put j b _ (acc_ok hj c2)) (Gr.of s1)⟩
theorem ok_aug {i : Nat} {f : SE → Option D} {te : TE} {fi : Int → Int → Int} {h : D → D → Option D} (he : OkE K Γ re f te) (hi : acc .nw (md Γ i) = true) (hh : ∀ x y d, h x y = some d → ∃ a b, x = .int a ∧ y = .int b ∧ d = .int (fi a b)) : OkS K Γ u r (sAug i h f) (tAug i te (ipI fi)) := fun G H0 own env σ H D' res R z p => by
  unfold sAug at z
  cases e1 : dV i env with
  | none => rw [e1] at z; cases z
  | some x =>
    cases e2 : f env with
    | none => rw [e1, e2] at z; cases z
    | some y =>
      cases e3 : h x y with
      | none =>
        rw [e1, e2] at z
        simp only [Option.bind_some] at z
        rw [e3] at z; cases z
      | some d =>
        rw [e1, e2] at z
        simp only [Option.bind_some] at z
        rw [e3] at z
        cases z
        obtain ⟨a, b, rfl, rfl, rfl⟩ := hh x y d e3
        obtain ⟨v, h1, h2⟩ := R.sl i _ (dV_get e1)
        have h3 := h2.dp R.ex
        cases h3
        refine ⟨_, h1, he G H0 own env σ H _ _ R e2 fun w H1 s1 c => ?_⟩
        cases c
        exact ⟨a, b, rfl, rfl, p own _ H1 ((R.ext s1).put i _ _ (acc_ok hi (.int _))) (Gr.of s1)⟩
theorem ok_tgt {f : SE → Option D} {te : TE} {is : List Nat} {set : D → SE → Option SE} {g : TG} (he : OkE K Γ re f te)
    (hg : ∀ (G H0 : Hp) (own : List (Option Addr)) (env : SE) (σ : L2.St) (H : Hp) (v : V) (d : D) (env' : SE) (Q : L2.St → Hp → Prop), ER K Γ G H0 own env σ H → Dp K (rg re G H0 own H) v d → set d env = some env' →
      (∀ σ' : L2.St, ER K Γ G H0 own env' σ' H → σ'.length = σ.length → (∀ j : Nat, j ∉ is → σ'[j]? = σ[j]?) → Q σ' H) → g v σ H Q) : OkS K Γ u r (sTgt set f) (tAsg te g) := fun G H0 own env σ H D' res R z p => by
  unfold sTgt at z
  cases e1 : f env with
  | none => rw [e1] at z; cases z
  | some x =>
    rw [e1] at z
    simp only [Option.bind_some] at z
    cases e2 : set x env with
    | none => rw [e2] at z; cases z
    | some e3 =>
      rw [e2] at z
      cases z
      refine he G H0 own env σ H _ x R e1 fun w H1 s1 c => ?_
      exact hg G H0 own env σ H1 w x e3 _ (R.ext s1) c e2 fun σ' R' _ _ => p own σ' H1 R' (Gr.of s1)
def accE : Rl → Rl → Bool
  | .nw, .nw => true
  | .nw, .od => true
  | .od, .od => true
  | _, _ => false
theorem accE_le {x y : Rl} (h : accE x y = true) : RLe x y := by
  cases x <;> cases y <;> first | exact .refl _ | exact .no | cases h
theorem ok_sub {k : Nat} {fi fe : SE → Option D} {te ti : TE} (he : OkE K Γ re fe te) (hi : OkE K Γ rb fi ti) (hm : isM (md Γ k) = true) (ha : accE re (moR (md Γ k)) = true) : OkS K Γ u r (sSub k fi fe) (tAsg te (gSub (tVar k) ti rSetL)) := fun G H0 own env σ H D' res R z p => by
  unfold sSub at z
  cases e1 : fe env with
  | none => rw [e1] at z; cases z
  | some x =>
    cases e2 : dV k env with
    | none => rw [e1, e2] at z; cases z
    | some y =>
      rw [e1, e2] at z
      simp only [Option.bind_some] at z
      cases e3 : list? y with
      | none => rw [e3] at z; cases z
      | some xs =>
        cases e4 : fi env with
        | none => rw [e3, e4] at z; cases z
        | some i =>
          rw [e3, e4] at z
          simp only [Option.bind_some] at z
          cases i with
          | int n =>
            simp only at z
            cases e5 : ixN xs.length n with
            | none => rw [e5] at z; cases z
            | some j =>
              rw [e5] at z
              cases z
              refine he G H0 own env σ H _ x R e1 fun v H1 s1 c => ?_
              have R1 := R.ext s1
              obtain ⟨w, h1, h2⟩ := R1.sl k y (dV_get e2)
              refine ⟨w, h1, hi G H0 own env σ H1 _ _ R1 e4 fun iv H2 s2 c2 => ?_⟩
              cases c2
              have R2 := R1.ext s2
              obtain ⟨w', h1', h2'⟩ := R2.sl k y (dV_get e2)
              rw [h1] at h1'
              cases h1'
              obtain ⟨a, vs, ds, rfl, ho, hH, rfl, hd⟩ := slotM_of hm h2'
              cases e3
              refine ⟨a, vs, n, j, rfl, rfl, hH, by rw [dps_len hd]; exact e5, ?_⟩
              obtain ⟨R3, g3⟩ := R2.mutd hm ho h1 (dps_set (dp_mono ((rg_le (accE_le ha)).trans (rg_ext s2)) _ _ c) j hd)
              exact p own σ _ R3 ((Gr.of (s1.trans s2)).trans g3)
          | _ => cases z
/-- a method that changes its list -/
def MuR (rr : V → List V → Hp → VK → Prop) (h : List D → List D → Option (List D)) : Prop := ∀ (K : PySem.W.Frag) (H H' : Hp) (Q : VK) (a : Addr) (vs us : List V) (xs as ys : List D), H a = some (.lst vs) → DpAll K H' vs xs → DpAll K H' us as → h xs as = some ys →
  ∃ vs', DpAll K H' vs' ys ∧ (Q .non (upd H a (.lst vs')) → rr (.ref a) us H Q)
theorem mu_app : MuR rAppend hApp := fun K H H' Q a vs us xs as ys hH hv hu z => by
  match as, hu, z with
  | [d], .cons h1 .nil, z =>
    unfold hApp at z
    by_cases q : xs.length < 1000000
    · simp only [if_pos q] at z
      cases z
      refine ⟨vs ++ [_], dps_app hv (.cons h1 .nil), fun k => ⟨a, vs, _, rfl, rfl, hH, ?_, k⟩⟩
      rw [dps_len hv]
      exact Nat.lt_of_lt_of_le q (by decide)
    · simp only [if_neg q] at z; cases z
theorem mu_ins : MuR (fun x vs H Q => ∃ (l : Addr) (xs : List V) (i : Int) (y : V), x = .ref l ∧ vs = [.int i, y] ∧ H l = some (.lst xs) ∧ xs.length < sizeLine ∧ 0 ≤ i ∧ i < 2 ^ 63 ∧
    Q .non (upd H l (.lst (xs.take i.toNat ++ [y] ++ xs.drop i.toNat)))) hIns := fun K H H' Q a vs us xs as ys hH hv hu z => by
  match as, hu, z with
  | [.int i, d], .cons (.int _) (.cons h1 .nil), z =>
    unfold hIns at z
    by_cases q : (0 ≤ i ∧ i < 1000000) ∧ xs.length < 1000000
    · simp only [if_pos q] at z
      cases z
      refine ⟨_, dps_app (dps_app (dps_take i.toNat hv) (.cons h1 .nil)) (dps_drop i.toNat hv), fun k => ⟨a, vs, i, _, rfl, rfl, hH, ?_, q.1.1, by omega, k⟩⟩
      rw [dps_len hv]
      exact Nat.lt_of_lt_of_le q.2 (by decide)
    · simp only [if_neg q] at z; cases z
theorem mu_clr : MuR rClear hClr := fun K H H' Q a vs us xs as ys hH hv hu z => by
  match as, hu, z with
  | [], .nil, z => cases z; exact ⟨[], .nil, fun k => ⟨a, vs, rfl, rfl, hH, k⟩⟩
theorem ok_mut {k : Nat} {h : List D → List D → Option (List D)} {rr : V → List V → Hp → VK → Prop} {fs : SE → Option (List D)} {ts : TA} (hmu : MuR rr h) (ha : OkA K Γ ra fs ts) (hm : isM (md Γ k) = true) (hc : accE ra (moR (md Γ k)) = true) :
    OkS K Γ u r (sMut k h fs) (fun D σ H => (tBM K "list" rr (tVar k) ts) σ H fun _ H1 => D.nx σ H1) := fun G H0 own env σ H D' res R z p => by
  unfold sMut at z
  cases e1 : dV k env with
  | none => rw [e1] at z; cases z
  | some y =>
    rw [e1] at z
    simp only [Option.bind_some] at z
    cases e2 : list? y with
    | none => rw [e2] at z; cases z
    | some xs =>
      rw [e2] at z
      simp only [Option.bind_some] at z
      cases e3 : fs env with
      | none => rw [e3] at z; cases z
      | some as =>
        rw [e3] at z
        simp only [Option.bind_some] at z
        cases e4 : h xs as with
        | none => rw [e4] at z; cases z
        | some ys =>
          rw [e4] at z
          cases z
          obtain ⟨w, h1, h2⟩ := R.sl k y (dV_get e1)
          obtain ⟨a, vs, ds, rfl, ho, hH, rfl, hd⟩ := slotM_of hm h2
          cases e2
          refine ⟨_, h1, .inl ⟨rfl, vs, SqL.of hH⟩, ha G H0 own env σ H _ as R e3 fun us H1 s1 c => ?_⟩
          have R1 := R.ext s1
          obtain ⟨vs', q1, q2⟩ := hmu K H1 _ (fun _ H1 => D'.nx σ H1) a vs us xs as ys (s1 _ _ hH) (dps_mono (rg_ext s1) _ _ hd) (dps_mono (rg_le (accE_le hc)) _ _ c) e4
          obtain ⟨R3, g3⟩ := R1.mutd hm ho h1 q1
          exact q2 (p own σ _ R3 ((Gr.of s1).trans g3))
theorem ok_mut0 {k : Nat} {h : List D → List D → Option (List D)} {rr : V → List V → Hp → VK → Prop} (hmu : MuR rr h) (hm : isM (md Γ k) = true) :
    OkS K Γ u r (sMut k h dNil) (fun D σ H => (tBM0 K "list" rr (tVar k)) σ H fun _ H1 => D.nx σ H1) := fun G H0 own env σ H D' res R z p => by
  have q := ok_mut (K := K) (Γ := Γ) (u := u) (r := r) (ra := .nw) (fs := dNil) (ts := tNil) hmu (fun G H0 own env σ H Q ds R z k => by cases z; exact k _ H (Same.refl H) .nil) hm (by cases md Γ k <;> rfl)
  exact q G H0 own env σ H D' res R z p
end
section
variable {X : Cx} {Γ : List Md} {u : Bool} {r re ra rb : Rl} {e e2 b : Expr} {es : List Expr} {f fi : SE → Option D} {fs : SE → Option (List D)} {ts : TA} {te ti : TE} {x y : Str} {pos pos' px py pt pt2 p2 apos cpos tpos : Pos} {kt k2 : Nat}
theorem vs_par (i j : Nat) (hc : X.calm = true) (hN : X.N.Nodup) (ha : VA X Γ [e, e2] ra fs ts) (hw : swappedStores [.Tuple [.Name x px, .Name y py] kt pt] (.Tuple [e, e2] k2 pt2) X.env = pure (some [x, y]) := by rfl) (hij : i ≠ j := by decide)
    (ai : acc ra (md Γ i) = true := by rfl) (aj : acc ra (md Γ j) = true := by rfl) (hi : X.N[i]? = some x := by rfl) (hj : X.N[j]? = some y := by rfl) (hx : X.env.scope.names.lookup x = some .local := by rfl) (hy : X.env.scope.names.lookup y = some .local := by rfl)
    (hs : swapsWithSole [.Tuple [.Name x px, .Name y py] kt pt] (.Tuple [e, e2] k2 pt2) pos.line X.env = pure false := by rfl) : VS X Γ u r (.Assign [.Tuple [.Name x px, .Name y py] kt pt] (.Tuple [e, e2] k2 pt2) pos) (sPar i j fs) (tPar i j ts) :=
  ⟨ps_par hc hN hi hj hij hx hy ha.pa hw hs, ok_par ha.ok ai aj⟩
theorem vs_augA (i : Nat) (hN : X.N.Nodup) (he : VE X Γ e re f te) (ai : acc .nw (md Γ i) = true := by rfl) (hi : X.N[i]? = some x := by rfl) (hx : Loc X.env.scope x := by first | exact Or.inl rfl | exact Or.inr rfl)
    (hf : X.fn x = true ∨ X.env.scope.names.lookup x = some .local := by first | exact .inl rfl | exact .inr rfl) : VS X Γ u r (.AugAssign (.Name x pos') .Add e pos) (sAug i hAdd f) (tAug i te (ipI fun i j => i + j)) :=
  ⟨ps_aug hN hi hx he.pe ip_add hf, ok_aug he.ok ai fun x y d z => by cases x <;> cases y <;> cases z; exact ⟨_, _, rfl, rfl, rfl⟩⟩
theorem vs_augS (i : Nat) (hN : X.N.Nodup) (he : VE X Γ e re f te) (ai : acc .nw (md Γ i) = true := by rfl) (hi : X.N[i]? = some x := by rfl) (hx : Loc X.env.scope x := by first | exact Or.inl rfl | exact Or.inr rfl)
    (hf : X.fn x = true ∨ X.env.scope.names.lookup x = some .local := by first | exact .inl rfl | exact .inr rfl) : VS X Γ u r (.AugAssign (.Name x pos') .Sub e pos) (sAug i hSub f) (tAug i te (ipI fun i j => i - j)) :=
  ⟨ps_aug hN hi hx he.pe ip_sub hf, ok_aug he.ok ai fun x y d z => by cases x <;> cases y <;> cases z; exact ⟨_, _, rfl, rfl, rfl⟩⟩
theorem vs_tgt {tg : Expr} {is : List Nat} {set : D → SE → Option SE} {g : TG} (he : VE X Γ e re f te) (hg : VG X Γ tg re is set g) (hs : swapsWithSole [tg] e pos.line X.env = pure false := by rfl) (hw : swappedStores [tg] e X.env = pure none := by rfl)
    (h1 : (assignEach [tg] X.env).map (·.2) = [assign tg X.env] := by rfl) : VS X Γ u r (.Assign [tg] e pos) (sTgt set f) (tAsg te g) := ⟨ps_asg he.pe hg.pg hs hw h1, ok_tgt he.ok hg.ok⟩
theorem vs_sub (k : Nat) (he : VE X Γ e re f te) (hi : VE X Γ b rb fi ti) (hm : isM (md Γ k) = true := by rfl) (ha : accE re (moR (md Γ k)) = true := by rfl) (hN : X.N[k]? = some x := by rfl) (hv : Vis X.env.scope x := by first | exact Or.inl rfl | exact Or.inr (Or.inl rfl) | exact Or.inr (Or.inr rfl))
    (hd : (x == ("__debug__" : Str)) = false := by decide) (hcd : (x == ("__classdict__" : Str)) = false := by decide)
    (has : ∀ v, assign (.Subscript (.Name x px) b tpos) X.env v = (do
      let ov ← holding [v] (eval (.Name x px) X.env)
      let iv ← holding [v, ov] (eval b X.env)
      standAt tpos
      holding [v, ov, iv] (setItem ov iv v)
      release [v, ov, iv] []) := by intro _; rfl)
    (hs : swapsWithSole [.Subscript (.Name x px) b tpos] e pos.line X.env = pure false := by rfl) (hw : swappedStores [.Subscript (.Name x px) b tpos] e X.env = pure none := by rfl)
    (h1 : (assignEach [.Subscript (.Name x px) b tpos] X.env).map (·.2) = [assign (.Subscript (.Name x px) b tpos) X.env] := by rfl) : VS X Γ u r (.Assign [.Subscript (.Name x px) b tpos] e pos) (sSub k fi f) (tAsg te (gSub (tVar k) ti rSetL)) :=
  ⟨ps_asg he.pe (pg_sub (pe_var hN hv hd hcd) hi.pe set_list has) hs hw h1, ok_sub he.ok hi.ok hm ha⟩
theorem tDrop_eq {te : TE} : tDrop te = fun D σ H => te σ H fun _ H1 => D.nx σ H1 := rfl
/-- the first place of a number -/
def posI (n : Int) : List Int → Option Nat
  | [] => none
  | x :: xs => if x = n then some 0 else (posI n xs).map (· + 1)
theorem posI_spec {n : Int} : ∀ {ns : List Int} {j : Nat}, posI n ns = some j → ns[j]? = some n ∧ ∀ (m : Nat) (z : Int), m < j → ns[m]? = some z → z ≠ n
  | [], _, h => by cases h
  | x :: xs, j, h => by
    rw [posI] at h
    by_cases e : x = n
    · rw [if_pos e] at h
      cases h
      exact ⟨by rw [e]; rfl, fun m z hm => absurd hm (Nat.not_lt_zero m)⟩
    · rw [if_neg e] at h
      cases q : posI n xs with
      | none => rw [q] at h; cases h
      | some i =>
        rw [q] at h
        cases h
        obtain ⟨h1, h2⟩ := posI_spec q
        refine ⟨h1, fun m z hm hz => ?_⟩
        cases m with
        | zero =>
          have : x = z := Option.some.inj hz
          exact this ▸ e
        | succ m => exact h2 m z (Nat.lt_of_succ_lt_succ hm) hz
def hIdx (x : D) (as : List D) : Option D := match as with
  | [.int n] => (list? x).bind fun xs => (ints? xs).bind fun ns => (posI n ns).map fun j => .int (j : Nat)
  | _ => none
def dIdx (f : SE → Option D) (fs : SE → Option (List D)) (e : SE) : Option D := (f e).bind fun x => (fs e).bind (hIdx x)
theorem v_index {o : Expr} {ro : Rl} {to : TE} (ho : VE X Γ o ro f to) (ha : VA X Γ [e] ra fs ts)
    (hb : attributeBase o "index" X.env (eval o X.env) = eval o X.env := by rfl)
    (h1 : ((((backTo cpos (starEach [e] X.env)).all fun x => !x.fst) && (backToKw cpos (keywordEach [] X.env)).all fun x => x.fst.isSome) && decide (([e].length + ([] : List Keyword).length + if ([] : List Keyword).isEmpty = true then 0 else 1) < 30)) = true := by rfl)
    (h2 : (apos.endLine == cpos.line) = true := by rfl) (h3 : starEach [e] X.env = (false, eval e X.env) :: starEach [] X.env := by rfl) (h4 : ((backTo cpos (starEach [] X.env)).any fun x => x.fst) = false := by rfl) :
    VE X Γ (.Call (.Attribute o "index" apos) [e] [] cpos) .nw (dIdx f fs) (tBM X.K "list" (rIndex X.K) to ts) :=
  ⟨pe_bm PySem.F.plainAttrs_list PySem.F.slot_list_index PySem.F.type_list_index mt_index ho.pe ha.pa hb h1 h2 h3 h4, fun G H0 own env σ H Q d R z k => by
    unfold dIdx at z
    cases e1 : f env with
    | none => rw [e1] at z; cases z
    | some x =>
      cases e2 : fs env with
      | none => rw [e1, e2] at z; cases z
      | some as =>
        rw [e1, e2] at z
        simp only [Option.bind_some] at z
        match as, e2, z with
        | [.int n], e2, z =>
          simp only [hIdx] at z
          cases x with
          | list xs =>
            simp only [list?, Option.bind_some] at z
            cases e3 : ints? xs with
            | none => rw [e3] at z; cases z
            | some ns =>
              rw [e3] at z
              simp only [Option.bind_some] at z
              cases e4 : posI n ns with
              | none => rw [e4] at z; cases z
              | some j =>
                rw [e4] at z
                cases z
                refine ho.ok G H0 own env σ H _ _ R e1 fun v1 H1 s1 p1 => ?_
                cases p1 with
                | lst hs hd =>
                  refine ⟨.inl ⟨rfl, _, rg_sub.seq hs⟩, ha.ok G H0 own env σ H1 _ _ (R.ext s1) e2 fun us H2 s2 c => ?_⟩
                  rw [ints_is e3] at hd
                  rw [dps_ints hd] at hs
                  obtain ⟨q1, q2⟩ := posI_spec e4
                  match us, c with
                  | _, .cons (.int _) .nil =>
                    refine ⟨_, _, .int n, j, .int n, rfl, rfl, s2.seq (rg_sub.seq hs), rfl, ?_, by rw [List.getElem?_map, q1]; rfl, by simp [eqV], fun m z' hm hz' => ?_, k _ H2 (s1.trans s2) (.int _)⟩
                    · rw [List.all_eq_true]
                      intro y hy
                      obtain ⟨i, _, rfl⟩ := List.mem_map.mp hy
                      rfl
                    · rw [List.getElem?_map] at hz'
                      cases q : ns[m]? with
                      | none => rw [q] at hz'; cases hz'
                      | some w =>
                        rw [q] at hz'
                        cases hz'
                        have := q2 m w hm q
                        simp [eqV, this]
          | _ => cases z⟩
theorem vs_app (k : Nat) (ha : VA X Γ [e] ra fs ts) (hm : isM (md Γ k) = true := by rfl) (hc : accE ra (moR (md Γ k)) = true := by rfl) (hN : X.N[k]? = some x := by rfl) (hv : Vis X.env.scope x := by first | exact Or.inl rfl | exact Or.inr (Or.inl rfl) | exact Or.inr (Or.inr rfl))
    (hd : (x == ("__debug__" : Str)) = false := by decide) (hcd : (x == ("__classdict__" : Str)) = false := by decide)
    (hb : attributeBase (.Name x px) "append" X.env (eval (.Name x px) X.env) = eval (.Name x px) X.env := by rfl)
    (h1 : ((((backTo cpos (starEach [e] X.env)).all fun x => !x.fst) && (backToKw cpos (keywordEach [] X.env)).all fun x => x.fst.isSome) && decide (([e].length + ([] : List Keyword).length + if ([] : List Keyword).isEmpty = true then 0 else 1) < 30)) = true := by rfl)
    (h2 : (apos.endLine == cpos.line) = true := by rfl) (h3 : starEach [e] X.env = (false, eval e X.env) :: starEach [] X.env := by rfl) (h4 : ((backTo cpos (starEach [] X.env)).any fun x => x.fst) = false := by rfl)
    (hs : swapsWith (.Call (.Attribute (.Name x px) "append" apos) [e] [] cpos) none pos.line X.env = pure false := by rfl) :
    VS X Γ u r (.Expr (.Call (.Attribute (.Name x px) "append" apos) [e] [] cpos) pos) (sMut k hApp fs) (fun D σ H => (tBM X.K "list" rAppend (tVar k) ts) σ H fun _ H1 => D.nx σ H1) :=
  ⟨ps_expr (pe_bm PySem.F.plainAttrs_list PySem.F.slot_list_append PySem.F.type_list_append mt_append (pe_var hN hv hd hcd) ha.pa hb h1 h2 h3 h4) hs, ok_mut mu_app ha.ok hm hc⟩
theorem vs_ins (k : Nat) (ha : VA X Γ [e, e2] ra fs ts) (hm : isM (md Γ k) = true := by rfl) (hc : accE ra (moR (md Γ k)) = true := by rfl) (hN : X.N[k]? = some x := by rfl) (hv : Vis X.env.scope x := by first | exact Or.inl rfl | exact Or.inr (Or.inl rfl) | exact Or.inr (Or.inr rfl))
    (hd : (x == ("__debug__" : Str)) = false := by decide) (hcd : (x == ("__classdict__" : Str)) = false := by decide)
    (hb : attributeBase (.Name x px) "insert" X.env (eval (.Name x px) X.env) = eval (.Name x px) X.env := by rfl)
    (h1 : ((((backTo cpos (starEach [e, e2] X.env)).all fun x => !x.fst) && (backToKw cpos (keywordEach [] X.env)).all fun x => x.fst.isSome) && decide (([e, e2].length + ([] : List Keyword).length + if ([] : List Keyword).isEmpty = true then 0 else 1) < 30)) = true := by rfl)
    (h2 : (apos.endLine == cpos.line) = true := by rfl) (h3 : starEach [e, e2] X.env = (false, eval e X.env) :: starEach [e2] X.env := by rfl) (h4 : ((backTo cpos (starEach [e2] X.env)).any fun x => x.fst) = false := by rfl)
    (hs : swapsWith (.Call (.Attribute (.Name x px) "insert" apos) [e, e2] [] cpos) none pos.line X.env = pure false := by rfl) :
    VS X Γ u r (.Expr (.Call (.Attribute (.Name x px) "insert" apos) [e, e2] [] cpos) pos) (sMut k hIns fs) (fun D σ H => (tBM X.K "list" (fun x vs H Q => ∃ (l : Addr) (xs : List V) (i : Int) (y : V), x = .ref l ∧ vs = [.int i, y] ∧ H l = some (.lst xs) ∧ xs.length < sizeLine ∧ 0 ≤ i ∧ i < 2 ^ 63 ∧
    Q .non (upd H l (.lst (xs.take i.toNat ++ [y] ++ xs.drop i.toNat)))) (tVar k) ts) σ H fun _ H1 => D.nx σ H1) :=
  ⟨ps_expr (pe_bm PySem.F.plainAttrs_list PySem.F.slot_list_insert PySem.F.type_list_insert mt_insert (pe_var hN hv hd hcd) ha.pa hb h1 h2 h3 h4) hs, ok_mut mu_ins ha.ok hm hc⟩
theorem vs_clr (k : Nat) (hm : isM (md Γ k) = true := by rfl) (hN : X.N[k]? = some x := by rfl) (hv : Vis X.env.scope x := by first | exact Or.inl rfl | exact Or.inr (Or.inl rfl) | exact Or.inr (Or.inr rfl))
    (hd : (x == ("__debug__" : Str)) = false := by decide) (hcd : (x == ("__classdict__" : Str)) = false := by decide)
    (hb : attributeBase (.Name x px) "clear" X.env (eval (.Name x px) X.env) = eval (.Name x px) X.env := by rfl)
    (h2 : (apos.endLine == cpos.line) = true := by rfl)
    (hs : swapsWith (.Call (.Attribute (.Name x px) "clear" apos) [] [] cpos) none pos.line X.env = pure false := by rfl) :
    VS X Γ u r (.Expr (.Call (.Attribute (.Name x px) "clear" apos) [] [] cpos) pos) (sMut k hClr dNil) (fun D σ H => (tBM0 X.K "list" rClear (tVar k)) σ H fun _ H1 => D.nx σ H1) :=
  ⟨ps_expr (pe_bm0 PySem.F.plainAttrs_list PySem.F.slot_list_clear PySem.F.type_list_clear mt_clear (pe_var hN hv hd hcd) hb h2) hs, ok_mut0 mu_clr hm⟩
end

section
variable {X : Cx} {Γ : List Md} {u : Bool} {r ri re : Rl} {tg iter elt : Expr} {ifs : List Expr} {is : List Nat} {set : D → SE → Option SE} {c : SE → Option Bool} {h : SE → Option D} {f : SE → Option (List D)} {wi : TI} {g : TG} {tt : TT} {te : TE} {scope : Scope} {own : List (Str × Nat)} {pos spos py : Pos} {y : Str}
theorem ok_ofL {K : PySem.W.Frag} (h : OkL K Γ re f te) : OkE K Γ re (dLst f) te := fun G H0 own env σ H Q d R z k => by
  unfold dLst at z
  cases e1 : f env with
  | none => rw [e1] at z; cases z
  | some x =>
    rw [e1] at z
    cases z
    exact h G H0 own env σ H Q x R e1 fun p vs H' s n q c => k _ H' s (new_dp R n q c)
/-- y = [.. for ..] on one row, y a local -/
theorem vs_setC {ws : List Nat} (i : Nat) (hcalm : X.calm = true) (hN : X.N.Nodup) (hsw : swapsWith (.ListComp elt [⟨tg, iter, ifs, 0⟩] scope pos) (some (.Name y py)) spos.line X.env = pure true) (hi : VI X Γ tg iter ri f wi) (ok : BlkOk X.N X.env.scope scope own)
    (hg : ∀ (s : Shared) (H : Hp) (C : Addr) (cl : List (Str × Addr)) (fp : List Addr), VG (X.blk s H scope (compEnvC scope cl C X.env) fp) Γ tg ri is set g)
    (ht : ∀ (s : Shared) (H : Hp) (C : Addr) (cl : List (Str × Addr)) (fp : List Addr), VTs (X.blk s H scope (compEnvC scope cl C X.env) fp) Γ ifs c tt)
    (he : ∀ (s : Shared) (H : Hp) (C : Addr) (cl : List (Str × Addr)) (fp : List Addr), VE (X.blk s H scope (compEnvC scope cl C X.env) fp) Γ elt re h te) (hre : re ≠ .bo := by intro z; cases z) (hws : own.map (·.2) = ws := by rfl) (his : ∀ j ∈ is, j ∈ ws := by decide)
    (ha : acc re (md Γ i) = true := by rfl) (hyi : X.N[i]? = some y := by rfl) (hyl : X.env.scope.names.lookup y = some .local := by rfl)
    (hs : ∀ x, foldedSetIterable iter X.env x = pure x := by intro _; rfl) : VS X Γ u r (.Assign [.Name y py] (.ListComp elt [⟨tg, iter, ifs, 0⟩] scope pos) spos) (sSet i (dLst (lComp ws set c h f))) (tAsg (tLc wi g tt te ws) (gName i)) := by
  subst hws
  exact ⟨ps_setLc hcalm hN hyi hyl hsw hi.pi ok (fun s H C cl fp => (hg s H C cl fp).pg) (fun s H C cl fp => (ht s H C cl fp).pt) (fun s H C cl fp => (he s H C cl fp).pe) hs,
    ok_set ha (ok_ofL (ok_comp hre hi.ok (hg ({} : Shared) (fun _ => none) 0 [] []).ok his (ht ({} : Shared) (fun _ => none) 0 [] []).ok (he ({} : Shared) (fun _ => none) 0 [] []).ok))⟩
theorem vs_setCL {ws : List Nat} (i : Nat) (hcalm : X.calm = true) (hN : X.N.Nodup) (hsw : swapsWith (.ListComp elt [⟨tg, iter, ifs, 0⟩] scope pos) (some (.Name y py)) spos.line X.env = pure true) (hi : VI X Γ tg iter ri f wi) (ok : BlkOk X.N X.env.scope scope own)
    (hg : ∀ (s : Shared) (H : Hp) (C : Addr) (cl : List (Str × Addr)) (fp : List Addr), VG (X.blk s H scope (compEnvC scope cl C X.env) fp) Γ tg ri is set g)
    (ht : ∀ (s : Shared) (H : Hp) (C : Addr) (cl : List (Str × Addr)) (fp : List Addr), VTs (X.blk s H scope (compEnvC scope cl C X.env) fp) Γ ifs c tt)
    (he : ∀ (s : Shared) (H : Hp) (C : Addr) (cl : List (Str × Addr)) (fp : List Addr), VE (X.blk s H scope (compEnvC scope cl C X.env) fp) Γ elt re h te) (hre : re ≠ .bo := by intro z; cases z) (hws : own.map (·.2) = ws := by rfl) (his : ∀ j ∈ is, j ∈ ws := by decide)
    (ha : accL re (md Γ i) = true := by rfl) (hyi : X.N[i]? = some y := by rfl) (hyl : X.env.scope.names.lookup y = some .local := by rfl)
    (hs : ∀ x, foldedSetIterable iter X.env x = pure x := by intro _; rfl) : VS X Γ u r (.Assign [.Name y py] (.ListComp elt [⟨tg, iter, ifs, 0⟩] scope pos) spos) (sSetL i fun e => if i < e.length then lComp ws set c h f e else none) (tAsg (tLc wi g tt te ws) (gName i)) := by
  subst hws
  exact ⟨ps_setLc hcalm hN hyi hyl hsw hi.pi ok (fun s H C cl fp => (hg s H C cl fp).pg) (fun s H C cl fp => (ht s H C cl fp).pt) (fun s H C cl fp => (he s H C cl fp).pe) hs,
    ok_setL ha (fun env q => by
      by_cases z : i < env.length
      · exact z
      · rw [if_neg z] at q; cases q) fun G H0 own' env σ H Q ds R z k => by
        by_cases q : i < env.length
        · rw [if_pos q] at z; exact ok_comp hre hi.ok (hg ({} : Shared) (fun _ => none) 0 [] []).ok his (ht ({} : Shared) (fun _ => none) 0 [] []).ok (he ({} : Shared) (fun _ => none) 0 [] []).ok G H0 own' env σ H Q ds R z k
        · rw [if_neg q] at z; cases z⟩
theorem vs_setCF {ws : List Nat} {te : Fam TE} {tt : Fam TT} {g : Fam TG} (i : Nat) (hcalm : X.calm = true) (hN : X.N.Nodup) (hsw : swapsWith (.ListComp elt [⟨tg, iter, ifs, 0⟩] scope pos) (some (.Name y py)) spos.line X.env = pure true) (hi : VI X Γ tg iter ri f wi) (ok : BlkOk X.N X.env.scope scope own)
    (hg : ∀ s H C cl fp, VG (X.blk s H scope (compEnvC scope cl C X.env) fp) Γ tg ri is set (g s H C cl fp))
    (ht : ∀ s H C cl fp, VTs (X.blk s H scope (compEnvC scope cl C X.env) fp) Γ ifs c (tt s H C cl fp))
    (he : ∀ s H C cl fp, VE (X.blk s H scope (compEnvC scope cl C X.env) fp) Γ elt re h (te s H C cl fp)) (hre : re ≠ .bo := by intro z; cases z) (hws : own.map (·.2) = ws := by rfl) (his : ∀ j ∈ is, j ∈ ws := by decide)
    (ha : acc re (md Γ i) = true := by rfl) (hyi : X.N[i]? = some y := by rfl) (hyl : X.env.scope.names.lookup y = some .local := by rfl)
    (hs : ∀ x, foldedSetIterable iter X.env x = pure x := by intro _; rfl) : VS X Γ u r (.Assign [.Name y py] (.ListComp elt [⟨tg, iter, ifs, 0⟩] scope pos) spos) (sSet i (dLst (lComp ws set c h f))) (tAsg (tLc wi (allG g) (allT tt) (allE te) ws) (gName i)) :=
  vs_setC i hcalm hN hsw hi ok (fam_g hg) (fam_t ht) (fam_e he) hre hws his ha hyi hyl hs
theorem vs_setCLF {ws : List Nat} {te : Fam TE} {tt : Fam TT} {g : Fam TG} (i : Nat) (hcalm : X.calm = true) (hN : X.N.Nodup) (hsw : swapsWith (.ListComp elt [⟨tg, iter, ifs, 0⟩] scope pos) (some (.Name y py)) spos.line X.env = pure true) (hi : VI X Γ tg iter ri f wi) (ok : BlkOk X.N X.env.scope scope own)
    (hg : ∀ s H C cl fp, VG (X.blk s H scope (compEnvC scope cl C X.env) fp) Γ tg ri is set (g s H C cl fp))
    (ht : ∀ s H C cl fp, VTs (X.blk s H scope (compEnvC scope cl C X.env) fp) Γ ifs c (tt s H C cl fp))
    (he : ∀ s H C cl fp, VE (X.blk s H scope (compEnvC scope cl C X.env) fp) Γ elt re h (te s H C cl fp)) (hre : re ≠ .bo := by intro z; cases z) (hws : own.map (·.2) = ws := by rfl) (his : ∀ j ∈ is, j ∈ ws := by decide)
    (ha : accL re (md Γ i) = true := by rfl) (hyi : X.N[i]? = some y := by rfl) (hyl : X.env.scope.names.lookup y = some .local := by rfl)
    (hs : ∀ x, foldedSetIterable iter X.env x = pure x := by intro _; rfl) : VS X Γ u r (.Assign [.Name y py] (.ListComp elt [⟨tg, iter, ifs, 0⟩] scope pos) spos) (sSetL i fun e => if i < e.length then lComp ws set c h f e else none) (tAsg (tLc wi (allG g) (allT tt) (allE te) ws) (gName i)) :=
  vs_setCL i hcalm hN hsw hi ok (fam_g hg) (fam_t ht) (fam_e he) hre hws his ha hyi hyl hs
end
/-! ### a constant of the module; a < b < c -/
section
variable {X : Cx} {Γ : List Md} {ra rb rc : Rl} {a b c : Expr} {f g q : SE → Option D} {ta tb tc : TE} {pos : Pos} {x : Str}
theorem v_glob {n : Int} {t : Tok} (hm : X.mg x = some (.int n t)) (hg : Gl X x := by rfl) (hd : (x == ("__debug__" : Str)) = false := by decide) : VE X Γ (.Name x pos) .nw (dC (.int n)) (tC (.int n)) := v_con (d := .int n) rfl (pe_glob (v := .int n) hg hm ⟨t, rfl⟩ hd)
def d3c (h h' : D → D → Option D) (f g q : SE → Option D) (e : SE) : Option D := (f e).bind fun x => (g e).bind fun y => (h x y).bind fun z => match z with
  | .bool true => (q e).bind fun w => h' y w
  | .bool false => some (.bool false)
  | _ => none
theorem ok_chain {K : PySem.W.Frag} {rr rr' : R2} {h h' : D → D → Option D} (hs : R2s K rr h) (hs' : R2s K rr' h') (ha : OkE K Γ ra f ta) (hb : OkE K Γ rb g tb) (hc : OkE K Γ rc q tc) : OkE K Γ .nw (d3c h h' f g q) (tChain rr rr' ta tb tc) := fun G H0 own env σ H Q d R z k => by
  unfold d3c at z
  cases e1 : f env with
  | none => rw [e1] at z; cases z
  | some x =>
    cases e2 : g env with
    | none => rw [e1, e2] at z; cases z
    | some y =>
      rw [e1, e2] at z
      simp only [Option.bind_some] at z
      cases e3 : h x y with
      | none => rw [e3] at z; cases z
      | some b1 =>
        rw [e3] at z
        simp only [Option.bind_some] at z
        refine ha G H0 own env σ H _ x R e1 fun v1 H1 s1 p1 => ?_
        refine hb G H0 own env σ H1 _ y (R.ext s1) e2 fun v2 H2 s2 p2 => ?_
        obtain ⟨h1, h2⟩ := hs v1 v2 x y b1 H2 _ (dp_mono (rg_sub.trans s2) _ _ p1) (dp_mono rg_sub _ _ p2) e3
        refine h2 ?_
        cases b1 with
        | bool bb =>
          cases bb with
          | false => cases z; exact ⟨false, rfl, iteF (k _ H2 (s1.trans s2) (.bl false))⟩
          | true =>
            refine ⟨true, rfl, iteT ?_⟩
            simp only at z
            cases e4 : q env with
            | none => rw [e4] at z; cases z
            | some w =>
              rw [e4] at z
              simp only [Option.bind_some] at z
              refine hc G H0 own env σ H2 _ w ((R.ext s1).ext s2) e4 fun v3 H3 s3 p3 => ?_
              obtain ⟨h3, h4⟩ := hs' v2 v3 y w d H3 Q (dp_mono (rg_sub.trans s3) _ _ p2) (dp_mono rg_sub _ _ p3) z
              exact h4 (k _ H3 ((s1.trans s2).trans s3) (sc_dp h3))
        | _ => cases z
theorem v_chain {op op' : CmpOp} {rr rr' : R2} {h h' : D → D → Option D} (ho : OpR X (compareOp op) rr) (hs : R2s X.K rr h) (ho' : OpR X (compareOp op') rr') (hs' : R2s X.K rr' h') (ha : VE X Γ a ra f ta) (hb : VE X Γ b rb g tb) (hc : VE X Γ c rc q tc)
    (hm : lastMarks [op, op'] [b, c] = false := by with_unfolding_all rfl) : VE X Γ (.Compare a [op, op'] [b, c] pos) .nw (d3c h h' f g q) (tChain rr rr' ta tb tc) := ⟨pe_chain ho ho' ha.pe hb.pe hc.pe hm, ok_chain hs hs' ha.ok hb.ok hc.ok⟩
theorem vt_chain {op op' : CmpOp} {rr rr' : R2} {h h' : D → D → Option D} (ho : OpR X (compareOp op) rr) (hs : R2s X.K rr h) (ho' : OpR X (compareOp op') rr') (hs' : R2s X.K rr' h') (ha : VE X Γ a ra f ta) (hb : VE X Γ b rb g tb) (hc : VE X Γ c rc q tc)
    (hm : lastMarks [op, op'] [b, c] = false := by with_unfolding_all rfl) : VT X Γ (.Compare a [op, op'] [b, c] pos) (dB (d3c h h' f g q)) (tTest (tChain rr rr' ta tb tc)) := ⟨pt_chain ho ho' ha.pe hb.pe hc.pe hm, ok_b (ok_chain hs hs' ha.ok hb.ok hc.ok)⟩
end
/-! ### the end -/
section
variable {K : PySem.W.Frag}
theorem law_end {F : List D → Option D} {H : Hp} {a : Addr} {ns : List Int} {r : Rl} (hS : SqL K H a (ns.map V.int)) (h : F [.list (ns.map PyData.int)] = some (.bool true)) : spV K false r F [.ref a] H (fun v _ => v = .bl true) fun _ _ _ => False :=
  ⟨H, _, _, Same.refl H, .cons (.lst hS ints_dps) .nil, h, fun v H' s q => by cases q; rfl⟩
end

/-- a def of the module, as its callers need it -/
structure Cal (P : Program) (w : World) (K : PySem.W.Frag) (mg : Str → Option Value) (base : Heap) (x : Str) (k : Nat) (ps : List Str) (u : Bool) (r : Rl) (F : List D → Option D) : Prop where
  ex : ∃ f fd, FnOk P w K mg base CX0 k f fd ps (spV K u r F) ∧ mg x = some (.ref f) ∧ PySem.W.keepIn K (.ref f) = true ∧ Binds K fd ps []
section
variable {X : Cx} {Γ : List Md} {r ra : Rl} {e : Expr} {es : List Expr} {fs : SE → Option (List D)} {ts : TA} {p pos : Pos} {x : Str} {k : Nat} {ps : List Str} {F : List D → Option D}
theorem v_callC (C : Cal X.prog X.w X.K X.mg X.base x k ps false r F) (hr : Room k X.A) (ha : VA X Γ (e :: es) ra fs ts) (hnb : r ≠ .bo := by intro z; cases z)
    (hg : Gl X x := by rfl) (hdb : (x == ("__debug__" : Str)) = false := by decide) (he : starEach (e :: es) X.env = (false, eval e X.env) :: starEach es X.env := by rfl) (hpl : (backTo pos (starEach es X.env)).any (·.1) = false := by rfl) :
    VE X Γ (.Call (.Name x p) (e :: es) [] pos) (callR r ra) (dA F fs) (tCall (spV X.K false r F) [] E0 ts) := by
  obtain ⟨f, fd, h1, h2, h3, h4⟩ := C.ex
  exact v_call h1 hr h2 h3 h4 ha hnb hg hdb he hpl
theorem vl_callC (C : Cal X.prog X.w X.K X.mg X.base x k ps true r F) (hr : Room k X.A) (ha : VA X Γ (e :: es) ra fs ts) (hnb : r ≠ .bo := by intro z; cases z)
    (hg : Gl X x := by rfl) (hdb : (x == ("__debug__" : Str)) = false := by decide) (he : starEach (e :: es) X.env = (false, eval e X.env) :: starEach es X.env := by rfl) (hpl : (backTo pos (starEach es X.env)).any (·.1) = false := by rfl) :
    VL X Γ (.Call (.Name x p) (e :: es) [] pos) (callR r ra) (dAL F fs) (tCall (spV X.K true r F) [] E0 ts) := by
  obtain ⟨f, fd, h1, h2, h3, h4⟩ := C.ex
  exact vl_call h1 hr h2 h3 h4 ha hnb hg hdb he hpl
theorem v_globE {n : Int} (hm : ∃ t, X.mg x = some (.int n t)) (hg : Gl X x := by rfl) (hd : (x == ("__debug__" : Str)) = false := by decide) : VE X Γ (.Name x pos) .nw (dC (.int n)) (tC (.int n)) := by
  obtain ⟨t, h⟩ := hm
  exact v_glob h hg hd
theorem v_is {e : Expr} {r r' : Rl} {f : SE → Option D} {t : TE} (h : VE X Γ e r f t) (hr : r = r' := by rfl) : VE X Γ e r' f t := hr ▸ h
theorem vl_is {e : Expr} {r r' : Rl} {f : SE → Option (List D)} {t : TE} (h : VL X Γ e r f t) (hr : r = r' := by rfl) : VL X Γ e r' f t := hr ▸ h
end
end PV

namespace PV
open PySem PySem.Spec PyProof.Rows L2
/-! ### reckoning from the left, nothing ahead of its turn -/
def seqK (g : SE → Option Rs) : Rs → Option Rs
  | .nx e => g e
  | .rt d => some (.rt d)
  | .bk e => some (.bk e)
  | .ct e => some (.ct e)
def setK (i : Nat) (e : SE) (x : D) : Option Rs := some (.nx (e.set i (some x)))
def setLK (i : Nat) (e : SE) (x : List D) : Option Rs := some (.nx (e.set i (some (.list x))))
def retK (x : D) : Option Rs := some (.rt x)
def retLK (x : List D) : Option Rs := some (.rt (.list x))
def ifK (f g : SE → Option Rs) (e : SE) : Bool → Option Rs
  | true => f e
  | false => g e
def forK (set : D → SE → Option SE) (g : SE → Option Rs) (kl : List Nat) (e : SE) (ds : List D) : Option Rs := forL set g kl ds (kil kl e)
def parK (i j : Nat) (e : SE) : List D → Option Rs
  | [a, b] => some (.nx ((e.set i (some a)).set j (some b)))
  | _ => none
def augK (i : Nat) (h : D → D → Option D) (f : SE → Option D) (e : SE) (x : D) : Option Rs := (f e).bind fun y => (h x y).bind (setK i e)
def augK2 (i : Nat) (h : D → D → Option D) (e : SE) (x y : D) : Option Rs := (h x y).bind (setK i e)
def tgtK2 (e : SE) : Option Rs := some (.nx e)
def tgtK (set : D → SE → Option SE) (e : SE) (x : D) : Option Rs := (set x e).bind tgtK2
def subK3 (k : Nat) (e : SE) (v : D) (xs : List D) : D → Option Rs
  | .int z => (ixN xs.length z).bind fun j => some (.nx (e.set k (some (.list (xs.set j v)))))
  | _ => none
def subK2 (k : Nat) (fi : SE → Option D) (e : SE) (v : D) (xs : List D) : Option Rs := (fi e).bind (subK3 k e v xs)
def subK1 (k : Nat) (fi : SE → Option D) (e : SE) (v : D) (x : D) : Option Rs := (list? x).bind (subK2 k fi e v)
def subK (k : Nat) (fi : SE → Option D) (e : SE) (v : D) : Option Rs := (dV k e).bind (subK1 k fi e v)
def mutK2 (k : Nat) (h : List D → List D → Option (List D)) (e : SE) (xs as : List D) : Option Rs := (h xs as).bind (setLK k e)
def mutK1 (k : Nat) (h : List D → List D → Option (List D)) (fs : SE → Option (List D)) (e : SE) (xs : List D) : Option Rs := (fs e).bind (mutK2 k h e xs)
def mutK (k : Nat) (h : List D → List D → Option (List D)) (fs : SE → Option (List D)) (e : SE) (x : D) : Option Rs := (list? x).bind (mutK1 k h fs e)
def d2K (h : D → D → Option D) (g : SE → Option D) (e : SE) (x : D) : Option D := (g e).bind (h x)
def d3K2 (h' : D → D → Option D) (q : SE → Option D) (e : SE) (y : D) : D → Option D
  | .bool true => (q e).bind (h' y)
  | .bool false => some (.bool false)
  | _ => none
def d3K1 (h h' : D → D → Option D) (q : SE → Option D) (e : SE) (x y : D) : Option D := (h x y).bind (d3K2 h' q e y)
def d3K (h h' : D → D → Option D) (g q : SE → Option D) (e : SE) (x : D) : Option D := (g e).bind (d3K1 h h' q e x)
def boolK : D → Option Bool
  | .bool b => some b
  | _ => none
def scK (x : D) : Option D := if isSc x = true then some x else none
def scsK (x : List D) : Option (List D) := if x.all isSc = true then some x else none
def consK2 (x : D) (y : List D) : Option (List D) := some (x :: y)
def consK (g : SE → Option (List D)) (e : SE) (x : D) : Option (List D) := (g e).bind (consK2 x)
def tupK (x : List D) : Option D := some (.tuple x)
def lstK (x : List D) : Option D := some (.list x)
def alK (F : List D → Option D) (x : List D) : Option (List D) := (F x).bind list?
def andK (g : SE → Option Bool) (e : SE) : Bool → Option Bool
  | true => g e
  | false => some false
def orK (g : SE → Option Bool) (e : SE) : Bool → Option Bool
  | true => some true
  | false => g e
def notK (b : Bool) : Option Bool := some (!b)
def dtK (b : Bool) : Option D := some (.bool b)
def enK : List D → Option (List D)
  | [.list xs] => some (enumD xs)
  | _ => none
def zpK : List D → Option (List D)
  | [.list xs, .list ys] => some (zipD xs ys)
  | _ => none
def cutK2 (x : D) (a b : Option Int) : Option (List D) := match x with
  | .list xs => some (cutD xs a b)
  | _ => none
def cutK1 (hi : SE → Option (Option Int)) (e : SE) (x : D) (a : Option Int) : Option (List D) := (hi e).bind (cutK2 x a)
def cutK (lo hi : SE → Option (Option Int)) (e : SE) (x : D) : Option (List D) := (lo e).bind (cutK1 hi e x)
def osK : D → Option (Option Int)
  | .int i => some (some i)
  | _ => none
def catK (g : SE → Option D) (e : SE) (x : D) : Option (List D) := (g e).bind (hCat x)
def repK (g : SE → Option D) (e : SE) (xs : List D) : Option (List D) := (g e).bind (hRep xs)
def srtK (xs : List D) : Option (List D) := (ints? xs).bind fun ns => some ((sortI ns).map PyData.int)
def srtK0 (x : D) : Option (List D) := (list? x).bind srtK
def compK (ws : List Nat) (set : D → SE → Option SE) (c : SE → Option Bool) (h : SE → Option D) (e : SE) (ds : List D) : Option (List D) := dCompG set c h (kil ws e) ds
def runK (u : Bool) : Rs → Option D
  | .rt d => some d
  | .nx _ => match u with
    | true => none
    | false => some .none
  | _ => none
/-- one turn of a loop that goes on -/
def goK (kl : List Nat) : Rs → Option SE
  | .nx e => some (kil kl e)
  | .ct e => some (kil kl e)
  | _ => none
def turnW (g : SE → Option Rs) (kl : List Nat) (e : SE) : Option SE := (g e).bind (goK kl)
def turnR (set : D → SE → Option SE) (g : SE → Option Rs) (kl : List Nat) (d : D) (e : SE) : Option SE := (set d e).bind (turnW g kl)
def turn (set : D → SE → Option SE) (g : SE → Option Rs) (kl : List Nat) (d : D) (e e' : SE) : Prop := turnR set g kl d e = some e'
section
variable {u : Bool} {n np i j k : Nat} {ds : List D} {e : SE} {set : D → SE → Option SE} {g f2 : SE → Option Rs} {kl ws : List Nat} {c c2 : SE → Option Bool} {f h q : SE → Option D} {fs : SE → Option (List D)} {hh hh' : D → D → Option D} {mm : List D → List D → Option (List D)} {F : List D → Option D} {lo hi : SE → Option (Option Int)}
theorem v_run (hl : ds.length = np) : runF u n np g ds = (g (ds.map some ++ List.replicate (n - ds.length) none)).bind (runK u) := by
  unfold runF
  rw [if_pos hl]
  rfl
theorem v_seq : sSeq f2 g e = (f2 e).bind (seqK g) := rfl
theorem v_set' : sSet i f e = (f e).bind (setK i e) := rfl
theorem v_setL' : sSetL i fs e = (fs e).bind (setLK i e) := rfl
theorem v_ret' : sRet f e = (f e).bind retK := rfl
theorem v_retL' : sRetL fs e = (fs e).bind retLK := rfl
theorem v_if' : sIf c f2 g e = (c e).bind (ifK f2 g e) := rfl
theorem v_for' {fi : SE → Option (List D)} : sFor set g kl fi e = (fi e).bind (forK set g kl e) := rfl
theorem v_par' : sPar i j fs e = (fs e).bind (parK i j e) := rfl
theorem v_aug' : sAug i hh f e = (dV i e).bind (augK i hh f e) := rfl
theorem v_augK {x : D} : augK i hh f e x = (f e).bind (augK2 i hh e x) := rfl
theorem v_tgt' : sTgt set f e = (f e).bind (tgtK set e) := rfl
theorem v_sub' : sSub k f h e = (h e).bind (subK k f e) := rfl
theorem v_mut' : sMut k mm fs e = (dV k e).bind (mutK k mm fs e) := rfl
theorem v_d1 {h1 : D → Option D} : d1 h1 f e = (f e).bind h1 := rfl
theorem v_d2 : d2 hh f h e = (f e).bind (d2K hh h e) := rfl
theorem v_d3 : d3c hh hh' f h q e = (f e).bind (d3K hh hh' h q e) := rfl
theorem v_dB : dB f e = (f e).bind boolK := rfl
theorem v_dSc : dSc f e = (f e).bind scK := rfl
theorem v_dScs : dScs fs e = (fs e).bind scsK := rfl
theorem v_cons : dCons f fs e = (f e).bind (consK fs e) := rfl
theorem v_tup' : dTup fs e = (fs e).bind tupK := rfl
theorem v_lst' : dLst fs e = (fs e).bind lstK := rfl
theorem v_dA : dA F fs e = (fs e).bind F := rfl
theorem v_dAL : dAL F fs e = (fs e).bind (alK F) := rfl
theorem v_and' : tAndD c c2 e = (c e).bind (andK c2 e) := rfl
theorem v_or' : tOrD c c2 e = (c e).bind (orK c2 e) := rfl
theorem v_not' : tNotD c e = (c e).bind notK := rfl
theorem v_dT : dT c e = (c e).bind dtK := rfl
theorem v_iL : iL f e = (f e).bind list? := rfl
theorem v_iR1 : iR1 fs e = (fs e).bind hR1 := rfl
theorem v_iR2 : iR2 fs e = (fs e).bind hR2 := rfl
theorem v_iR3 : iR3 fs e = (fs e).bind hR3 := rfl
theorem v_iEn : iEn fs e = (fs e).bind enK := rfl
theorem v_iZp : iZp fs e = (fs e).bind zpK := rfl
theorem v_lCut : lCut f lo hi e = (f e).bind (cutK lo hi e) := rfl
theorem v_lOf : lOf f e = (f e).bind items? := rfl
theorem v_lCat : lCat f h e = (f e).bind (catK h e) := rfl
theorem v_lRep : lRep fs f e = (fs e).bind (repK f e) := rfl
theorem v_lSortI : lSortI f e = (f e).bind srtK0 := rfl
theorem v_lComp : lComp ws set c h fs e = (fs e).bind (compK ws set c h e) := rfl
theorem v_oS : oSome f e = (f e).bind osK := rfl
def cmpK {α β γ : Type} (f : α → Option β) (g : β → Option γ) (a : α) : Option γ := (f a).bind g
theorem b_assoc {α β γ : Type} {x : Option α} {f : α → Option β} {g : β → Option γ} : (x.bind f).bind g = x.bind (cmpK f g) := Option.bind_assoc x f g
theorem k_cmp {α β γ : Type} {f : α → Option β} {g : β → Option γ} {a : α} : cmpK f g a = (f a).bind g := rfl
theorem k_seq1 : seqK g (.nx e) = g e := rfl
theorem k_seq2 {d : D} : seqK g (.rt d) = some (.rt d) := rfl
theorem k_seq3 : seqK g (.bk e) = some (.bk e) := rfl
theorem k_seq4 : seqK g (.ct e) = some (.ct e) := rfl
theorem k_set {x : D} : setK i e x = some (.nx (e.set i (some x))) := rfl
theorem k_setL {x : List D} : setLK i e x = some (.nx (e.set i (some (.list x)))) := rfl
theorem k_ret {x : D} : retK x = some (.rt x) := rfl
theorem k_retL {x : List D} : retLK x = some (.rt (.list x)) := rfl
theorem k_if1 : ifK f2 g e true = f2 e := rfl
theorem k_if2 : ifK f2 g e false = g e := rfl
theorem k_for : forK set g kl e ds = forL set g kl ds (kil kl e) := rfl
theorem k_par {a b : D} : parK i j e [a, b] = some (.nx ((e.set i (some a)).set j (some b))) := rfl
theorem k_aug2 {x y : D} : augK2 i hh e x y = (hh x y).bind (setK i e) := rfl
theorem k_tgt {x : D} : tgtK set e x = (set x e).bind tgtK2 := rfl
theorem k_tgt2 : tgtK2 e = some (.nx e) := rfl
theorem k_sub {v : D} : subK k f e v = (dV k e).bind (subK1 k f e v) := rfl
theorem k_sub1 {v x : D} : subK1 k f e v x = (list? x).bind (subK2 k f e v) := rfl
theorem k_sub2 {v : D} {xs : List D} : subK2 k f e v xs = (f e).bind (subK3 k e v xs) := rfl
theorem k_sub3 {v : D} {xs : List D} {z : Int} : subK3 k e v xs (.int z) = (ixN xs.length z).bind fun j => some (.nx (e.set k (some (.list (xs.set j v))))) := rfl
theorem k_mut {x : D} : mutK k mm fs e x = (list? x).bind (mutK1 k mm fs e) := rfl
theorem k_mut1 {xs : List D} : mutK1 k mm fs e xs = (fs e).bind (mutK2 k mm e xs) := rfl
theorem k_mut2 {xs as : List D} : mutK2 k mm e xs as = (mm xs as).bind (setLK k e) := rfl
theorem k_d2 {x : D} : d2K hh f e x = (f e).bind (hh x) := rfl
theorem k_d3 {x : D} : d3K hh hh' f q e x = (f e).bind (d3K1 hh hh' q e x) := rfl
theorem k_d31 {x y : D} : d3K1 hh hh' q e x y = (hh x y).bind (d3K2 hh' q e y) := rfl
theorem k_d321 {y : D} : d3K2 hh' q e y (.bool true) = (q e).bind (hh' y) := rfl
theorem k_d322 {y : D} : d3K2 hh' q e y (.bool false) = some (.bool false) := rfl
theorem k_bool {b : Bool} : boolK (.bool b) = some b := rfl
theorem k_cons {x : D} : consK fs e x = (fs e).bind (consK2 x) := rfl
theorem k_cons2 {x : D} {y : List D} : consK2 x y = some (x :: y) := rfl
theorem k_tup {x : List D} : tupK x = some (.tuple x) := rfl
theorem k_lst {x : List D} : lstK x = some (.list x) := rfl
theorem k_al {x : List D} : alK F x = (F x).bind list? := rfl
theorem k_and1 : andK c e true = c e := rfl
theorem k_and2 : andK c e false = some false := rfl
theorem k_or1 : orK c e true = some true := rfl
theorem k_or2 : orK c e false = c e := rfl
theorem k_not {b : Bool} : notK b = some (!b) := rfl
theorem k_dt {b : Bool} : dtK b = some (.bool b) := rfl
theorem k_en {xs : List D} : enK [.list xs] = some (enumD xs) := rfl
theorem k_zp {xs ys : List D} : zpK [.list xs, .list ys] = some (zipD xs ys) := rfl
theorem k_cut {x : D} : cutK lo hi e x = (lo e).bind (cutK1 hi e x) := rfl
theorem k_cut1 {x : D} {a : Option Int} : cutK1 hi e x a = (hi e).bind (cutK2 x a) := rfl
theorem k_cut2 {xs : List D} {a b : Option Int} : cutK2 (.list xs) a b = some (cutD xs a b) := rfl
theorem k_os {z : Int} : osK (.int z) = some (some z) := rfl
theorem k_cat {x : D} : catK f e x = (f e).bind (hCat x) := rfl
theorem k_rep {xs : List D} : repK f e xs = (f e).bind (hRep xs) := rfl
def repEK (f : SE → Option D) (e : SE) (x : D) : Option (List D) := (list? x).bind (repK f e)
theorem k_rep0 {f : SE → Option D} {e : SE} {x : D} : repEK f e x = (list? x).bind (repK f e) := rfl
theorem v_lRepE {f h : SE → Option D} {e : SE} : lRepE f h e = (f e).bind (repEK h e) := rfl
def rtK : Rs → Option Rs
  | .rt d => some (.rt d)
  | _ => none
theorem v_rt' {g : SE → Option Rs} {e : SE} : sRt g e = (g e).bind rtK := by
  unfold sRt
  congr 1
theorem k_rt {d : D} : rtK (.rt d) = some (.rt d) := rfl
def idxK (fs : SE → Option (List D)) (e : SE) (x : D) : Option D := (fs e).bind (hIdx x)
theorem v_idx {f : SE → Option D} {fs : SE → Option (List D)} {e : SE} : dIdx f fs e = (f e).bind (idxK fs e) := rfl
theorem k_idx {fs : SE → Option (List D)} {e : SE} {x : D} : idxK fs e x = (fs e).bind (hIdx x) := rfl
def revK (x : D) : Option (List D) := (list? x).map List.reverse
theorem v_lRev {f : SE → Option D} {e : SE} : lRev f e = (f e).bind revK := rfl
theorem k_rev {xs : List D} : revK (.list xs) = some xs.reverse := rfl
theorem k_srt0 {x : D} : srtK0 x = (list? x).bind srtK := rfl
theorem k_srt (ns : List Int) : srtK (ns.map PyData.int) = some ((sortI ns).map PyData.int) := by
  unfold srtK
  rw [ints_map]
  rfl
theorem k_comp : compK ws set c f e ds = dCompG set c f (kil ws e) ds := rfl
theorem k_run1 {d : D} : runK u (.rt d) = some d := rfl
theorem k_run2 : runK false (.nx e) = some .none := rfl
theorem k_go1 : goK kl (.nx e) = some (kil kl e) := rfl
theorem k_go2 : goK kl (.ct e) = some (kil kl e) := rfl
theorem w_turn {d : D} {e' : SE} : turn set g kl d e e' = ((set d e).bind (turnW g kl) = some e') := rfl
theorem w_turnR {d : D} : turnR set g kl d e = (set d e).bind (turnW g kl) := rfl
theorem w_turnW : turnW g kl e = (g e).bind (goK kl) := rfl
theorem w_nx : sNx e = some (.nx e) := rfl
theorem w_bk : sBk e = some (.bk e) := rfl
theorem w_ct : sCt e = some (.ct e) := rfl
theorem w_rN : sRetN e = some (.rt .none) := rfl
theorem w_V : dV i e = e.getD i none := rfl
theorem w_C {d : D} : dC d e = some d := rfl
theorem w_nil : dNil e = some [] := rfl
theorem w_oN : oNone e = some none := rfl
theorem w_yes : cYes e = some true := rfl
theorem w_gSet {d : D} : gSet i d e = some (e.set i (some d)) := rfl
theorem w_gTup {ss : List D → SE → Option SE} : gTupD ss (.tuple ds) e = ss ds e := rfl
theorem w_gsCons {s1 : D → SE → Option SE} {ss : List D → SE → Option SE} {d : D} : gsCons s1 ss (d :: ds) e = (s1 d e).bind (ss ds) := rfl
theorem w_gsNil : gsNil [] e = some e := rfl
theorem w_add {a b : Int} : hAdd (.int a) (.int b) = some (.int (a + b)) := rfl
theorem w_subI {a b : Int} : hSub (.int a) (.int b) = some (.int (a - b)) := rfl
theorem w_lt {a b : Int} : hLt (.int a) (.int b) = some (.bool (decide (a < b))) := rfl
theorem w_le {a b : Int} : hLe (.int a) (.int b) = some (.bool (decide (a ≤ b))) := rfl
theorem w_gt {a b : Int} : hGt (.int a) (.int b) = some (.bool (decide (b < a))) := rfl
theorem w_ge {a b : Int} : hGe (.int a) (.int b) = some (.bool (decide (b ≤ a))) := rfl
theorem w_neg {a : Int} : hNeg (.int a) = some (.int (-a)) := rfl
theorem w_isN {x : D} : hIsN x .none = some (.bool (isNone x)) := rfl
theorem w_notN {x : D} : hNotN x .none = some (.bool (!isNone x)) := rfl
theorem w_n0 : isNone .none = true := rfl
theorem w_n1 {a : Int} : isNone (.int a) = false := rfl
theorem w_n2 {a : Bool} : isNone (.bool a) = false := rfl
theorem w_n3 : isNone (.list ds) = false := rfl
theorem w_n4 : isNone (.tuple ds) = false := rfl
theorem w_len1 : hLen [.list ds] = some (.int (ds.length : Int)) := rfl
theorem w_len2 : hLen [.tuple ds] = some (.int (ds.length : Int)) := rfl
theorem w_min2 {a b : Int} : hMin2 [.int a, .int b] = some (.int (if b < a then b else a)) := rfl
theorem w_max2 {a b : Int} : hMax2 [.int a, .int b] = some (.int (if b > a then b else a)) := rfl
theorem w_int1 {a : Int} : hInt [.int a] = some (.int a) := rfl
theorem w_int2 {a : Bool} : hInt [.bool a] = some (.int (if a then 1 else 0)) := rfl
theorem w_clr : hClr ds [] = some [] := rfl
theorem w_ixL {a : Int} : hIxL (.list ds) (.int a) = atI ds a := rfl
theorem w_ixT {a : Int} : hIxT (.tuple ds) (.int a) = atI ds a := rfl
theorem w_sum (ns : List Int) : hSum [.list (ns.map PyData.int)] = some (.int ns.sum) := by
  show (ints? (ns.map PyData.int)).map _ = _
  rw [ints_map]
  rfl
theorem w_any (ns : List Bool) : hAny [.list (ns.map PyData.bool)] = some (.bool (ns.any id)) := by
  show (bools? (ns.map PyData.bool)).map _ = _
  rw [bools_map]
  rfl
theorem w_kil0 : kil [] e = e := rfl
theorem w_kil1 : kil (i :: kl) e = (kil kl e).set i none := rfl
theorem k_sc_int (i : Int) : scK (.int i) = some (.int i) := rfl
theorem k_sc_bool (i : Bool) : scK (.bool i) = some (.bool i) := rfl
theorem k_sc_none : scK .none = some .none := rfl
theorem k_sc_str (i : Str) : scK (.str i) = some (.str i) := rfl
theorem k_sc_of {x : D} (h : isSc x = true) : scK x = some x := if_pos h
theorem k_scs_of {x : List D} (h : x.all isSc = true) : scsK x = some x := if_pos h
end
/-! ### plain laws about loops -/
section
variable {set : D → SE → Option SE} {g : SE → Option Rs} {kl : List Nat} {c : SE → Option Bool} {α σ : Type}
theorem forL_turn {d : D} {ds : List D} {e e' : SE} (h : turn set g kl d e e') : forL set g kl (d :: ds) e = forL set g kl ds e' := by
  unfold turn turnR turnW at h
  rw [forL]
  cases h1 : set d e with
  | none => rw [h1] at h; cases h
  | some e1 =>
    rw [h1] at h
    simp only [Option.bind_some] at h ⊢
    cases h2 : g e1 with
    | none => rw [h2] at h; cases h
    | some r =>
      rw [h2] at h
      simp only [Option.bind_some] at h ⊢
      cases r with
      | nx e2 => cases h; rfl
      | ct e2 => cases h; rfl
      | bk e2 => cases h
      | rt d => cases h
/-- a loop that goes through, by a state -/
theorem forL_fold {enc : σ → SE} {cv : α → D} {step : σ → α → σ} (I : σ → Prop) : ∀ (xs : List α) (s : σ), I s → (∀ s x, x ∈ xs → I s → turn set g kl (cv x) (enc s) (enc (step s x)) ∧ I (step s x)) →
    forL set g kl (xs.map cv) (enc s) = some (.nx (enc (xs.foldl step s))) ∧ I (xs.foldl step s)
  | [], s, hi, _ => ⟨rfl, hi⟩
  | x :: xs, s, hi, h => by
    obtain ⟨h1, h2⟩ := h s x List.mem_cons_self hi
    rw [List.map_cons, forL_turn h1, List.foldl_cons]
    exact forL_fold I xs _ h2 fun s y hy => h s y (List.mem_cons_of_mem _ hy)
/-- .. by a word over the part that was walked -/
theorem forL_word' {enc : σ → SE} {cv : α → D} (W : List α → σ → Prop) : ∀ (xs pre : List α) (s : σ), W pre s → (∀ p x q s, p ++ x :: q = pre ++ xs → W p s → ∃ s', turn set g kl (cv x) (enc s) (enc s') ∧ W (p ++ [x]) s') →
    ∃ s', forL set g kl (xs.map cv) (enc s) = some (.nx (enc s')) ∧ W (pre ++ xs) s'
  | [], pre, s, hi, _ => ⟨s, rfl, by rw [List.append_nil]; exact hi⟩
  | x :: xs, pre, s, hi, h => by
    obtain ⟨s1, h1, h2⟩ := h pre x xs s rfl hi
    obtain ⟨s2, h3, h4⟩ := forL_word' W xs (pre ++ [x]) s1 h2 fun p y q s e => h p y q s (by rw [e, List.append_assoc]; rfl)
    refine ⟨s2, ?_, by rw [List.append_assoc] at h4; exact h4⟩
    rw [List.map_cons, forL_turn h1]
    exact h3
theorem forL_word {enc : σ → SE} {cv : α → D} (W : List α → σ → Prop) (xs : List α) (s : σ) (h0 : W [] s) (h : ∀ p x q s, p ++ x :: q = xs → W p s → ∃ s', turn set g kl (cv x) (enc s) (enc s') ∧ W (p ++ [x]) s') :
    ∃ s', forL set g kl (xs.map cv) (enc s) = some (.nx (enc s')) ∧ W xs s' := forL_word' W xs [] s h0 h
/-- a loop that changes nothing that is kept -/
theorem forL_same {cv : α → D} (e : SE) : ∀ (xs : List α), (∀ x, x ∈ xs → turn set g kl (cv x) e e) → forL set g kl (xs.map cv) e = some (.nx e)
  | [], _ => rfl
  | x :: xs, h => by
    rw [List.map_cons, forL_turn (h x List.mem_cons_self)]
    exact forL_same e xs fun y hy => h y (List.mem_cons_of_mem _ hy)
/-- a search: the first item at which it hands out -/
theorem forL_find {cv : α → D} (e : SE) (p : α → Option D) : ∀ (xs : List α), (∀ x, x ∈ xs → p x = none → turn set g kl (cv x) e e) → (∀ x d, x ∈ xs → p x = some d → (set (cv x) e).bind g = some (.rt d)) →
    forL set g kl (xs.map cv) e = some (match xs.findSome? p with | some d => .rt d | none => .nx e)
  | [], _, _ => rfl
  | x :: xs, h, h' => by
    rw [List.map_cons, List.findSome?_cons]
    cases q : p x with
    | none =>
      rw [forL_turn (h x List.mem_cons_self q)]
      exact forL_find e p xs (fun y hy => h y (List.mem_cons_of_mem _ hy)) fun y d hy => h' y d (List.mem_cons_of_mem _ hy)
    | some d =>
      have := h' x d List.mem_cons_self q
      rw [forL]
      cases q1 : set (cv x) e with
      | none => rw [q1] at this; cases this
      | some e1 =>
        rw [q1] at this
        simp only [Option.bind_some] at this ⊢
        rw [this]
        rfl
theorem whN_turn {e e' : SE} {n : Nat} (hc : c e = some true) (h : turnW g kl e = some e') : whN c g kl (n + 1) e = whN c g kl n e' := by
  unfold turnW at h
  rw [whN, hc]
  simp only [Option.bind_some]
  cases h2 : g e with
  | none => rw [h2] at h; cases h
  | some r =>
    rw [h2] at h
    simp only [Option.bind_some] at h ⊢
    cases r with
    | nx e2 => cases h; rfl
    | ct e2 => cases h; rfl
    | bk e2 => cases h
    | rt d => cases h
def whI (cond : σ → Bool) (step : σ → σ) : Nat → σ → σ
  | 0, s => s
  | n + 1, s => if cond s = true then whI cond step n (step s) else s
theorem whN_iter {enc : σ → SE} {cond : σ → Bool} {step : σ → σ} (I : σ → Prop) (μ : σ → Nat) (hc : ∀ s, I s → c (enc s) = some (cond s))
    (hs : ∀ s, I s → cond s = true → turnW g kl (enc s) = some (enc (step s)) ∧ I (step s) ∧ μ (step s) < μ s) : ∀ (n : Nat) (s : σ), I s → μ s ≤ n →
    whN c g kl (n + 1) (enc s) = some (.nx (enc (whI cond step n s))) ∧ I (whI cond step n s) ∧ cond (whI cond step n s) = false
  | 0, s, hi, hm => by
    have h0 : cond s = false := by
      cases q : cond s with
      | false => rfl
      | true => have := (hs s hi q).2.2; omega
    refine ⟨?_, hi, h0⟩
    rw [whN, hc s hi, h0]
    rfl
  | n + 1, s, hi, hm => by
    cases q : cond s with
    | false =>
      have e : whI cond step (n + 1) s = s := by rw [whI, q]; rfl
      rw [e]
      refine ⟨?_, hi, q⟩
      rw [whN, hc s hi, q]
      rfl
    | true =>
      obtain ⟨h2, h3, h4⟩ := hs s hi q
      have e' : whI cond step (n + 1) s = whI cond step n (step s) := by rw [whI, q]; rfl
      rw [e', whN_turn (by rw [hc s hi, q]) h2]
      exact whN_iter I μ hc hs n (step s) h3 (by omega)
/-- a while, by a state and a measure -/
theorem sWhile_iter {enc : σ → SE} {cond : σ → Bool} {step : σ → σ} (I : σ → Prop) (μ : σ → Nat) (s : σ) (hk : kil kl (enc s) = enc s) (hi : I s) (hc : ∀ s, I s → c (enc s) = some (cond s))
    (hs : ∀ s, I s → cond s = true → turnW g kl (enc s) = some (enc (step s)) ∧ I (step s) ∧ μ (step s) < μ s) (n : Nat) (hn : μ s ≤ n) :
    sWhile c g kl (enc s) = some (.nx (enc (whI cond step n s))) ∧ I (whI cond step n s) ∧ cond (whI cond step n s) = false := by
  obtain ⟨h1, h2, h3⟩ := whN_iter I μ hc hs n s hi hn
  rw [← hk] at h1
  exact ⟨sWhile_of h1, h2, h3⟩
/-- a while, by a word and a measure: some end is reached at which the word holds and the test doesn't -/
theorem whN_word {enc : σ → SE} {cond : σ → Bool} (I : σ → Prop) (μ : σ → Nat) (hc : ∀ s, I s → c (enc s) = some (cond s))
    (hs : ∀ s, I s → cond s = true → ∃ s', turnW g kl (enc s) = some (enc s') ∧ I s' ∧ μ s' < μ s) : ∀ (n : Nat) (s : σ), μ s ≤ n → I s →
    ∃ s', whN c g kl (n + 1) (enc s) = some (.nx (enc s')) ∧ I s' ∧ cond s' = false
  | n, s, hm, hi => by
    cases q : cond s with
    | false => exact ⟨s, by rw [whN, hc s hi, q]; rfl, hi, q⟩
    | true =>
      obtain ⟨s', h2, h3, h4⟩ := hs s hi q
      cases n with
      | zero => omega
      | succ n =>
        obtain ⟨s2, h5, h6, h7⟩ := whN_word I μ hc hs n s' (by omega) h3
        refine ⟨s2, ?_, h6, h7⟩
        rw [whN_turn (by rw [hc s hi, q]) h2]
        exact h5
theorem sWhile_word {enc : σ → SE} {cond : σ → Bool} (I : σ → Prop) (μ : σ → Nat) (s : σ) (hk : kil kl (enc s) = enc s) (hi : I s) (hc : ∀ s, I s → c (enc s) = some (cond s))
    (hs : ∀ s, I s → cond s = true → ∃ s', turnW g kl (enc s) = some (enc s') ∧ I s' ∧ μ s' < μ s) : ∃ s', sWhile c g kl (enc s) = some (.nx (enc s')) ∧ I s' ∧ cond s' = false := by
  obtain ⟨s', h1, h2, h3⟩ := whN_word I μ hc hs _ s (Nat.le_refl _) hi
  rw [← hk] at h1
  exact ⟨s', sWhile_of h1, h2, h3⟩
end
theorem range_split {p q : List Nat} {x n : Nat} (h : p ++ x :: q = List.range n) : x = p.length ∧ p = List.range p.length ∧ p.length < n := by
  have hl := congrArg List.length h
  simp only [List.length_append, List.length_cons, List.length_range] at hl
  have hx : (List.range n)[p.length]? = some x := by rw [← h]; simp
  have hp : p = (List.range n).take p.length := by rw [← h]; simp
  refine ⟨?_, ?_, by omega⟩
  · rw [List.getElem?_range (by omega)] at hx
    exact (Option.some.inj hx).symm
  · rw [List.take_range, Nat.min_eq_left (by omega)] at hp
    exact hp
/-! ### comprehensions -/
section
variable {set : D → SE → Option SE} {c : SE → Option Bool} {h : SE → Option D} {e : SE} {α β : Type}
theorem dComp_map {cv : α → D} {f : α → D} : ∀ (xs : List α), (∀ x, x ∈ xs → ∃ e1, set (cv x) e = some e1 ∧ c e1 = some true ∧ h e1 = some (f x)) → dComp set c h e (xs.map cv) = some (xs.map f)
  | [], _ => rfl
  | x :: xs, hh => by
    obtain ⟨e1, h1, h2, h3⟩ := hh x List.mem_cons_self
    rw [List.map_cons, dComp, h1]
    simp only [Option.bind_some]
    rw [h2]
    simp only [Option.bind_some]
    rw [h3]
    simp only [Option.bind_some]
    rw [dComp_map xs fun y hy => hh y (List.mem_cons_of_mem _ hy)]
    rfl
theorem dComp_filter {cv : α → D} {f : α → D} {p : α → Bool} : ∀ (xs : List α), (∀ x, x ∈ xs → ∃ e1, set (cv x) e = some e1 ∧ c e1 = some (p x) ∧ (p x = true → h e1 = some (f x))) → dComp set c h e (xs.map cv) = some ((xs.filter p).map f)
  | [], _ => rfl
  | x :: xs, hh => by
    obtain ⟨e1, h1, h2, h3⟩ := hh x List.mem_cons_self
    rw [List.map_cons, dComp, h1]
    simp only [Option.bind_some]
    rw [h2]
    simp only [Option.bind_some]
    have ih := dComp_filter xs fun y hy => hh y (List.mem_cons_of_mem _ hy)
    cases q : p x with
    | false =>
      simp only [List.filter_cons, q]
      exact ih
    | true =>
      rw [h3 q]
      simp only [Option.bind_some]
      rw [ih]
      simp only [List.filter_cons, q]
      rfl
end
/-! ### data -/
@[simp] theorem eqv_int (a b : Int) : PyData.eqv (.int a) (.int b) = (a == b) := by simp [PyData.eqv]
@[simp] theorem eqv_bool (a b : Bool) : PyData.eqv (.bool a) (.bool b) = (a == b) := by simp [PyData.eqv]
@[simp] theorem eqv_none : PyData.eqv .none .none = true := by simp [PyData.eqv]
def isNb : D → Bool
  | .none => true
  | .bool _ => true
  | .int _ => true
  | _ => false
theorem shaped_sc {d : D} (h : isNb d = true) : SeqAt.shaped d = true := by
  cases d <;> first | (cases h; done) | simp [SeqAt.shaped, PyData.canLay0, PyData.depth]
/-- data of a known depth, without dicts -/
def okD (n : Nat) (d : D) : Prop := d.canLay0 = true ∧ d.depth ≤ n
theorem okD.shaped {n : Nat} {d : D} (h : okD n d) (hn : n ≤ 64) : SeqAt.shaped d = true := by
  unfold SeqAt.shaped
  rw [h.1, Bool.true_and]
  exact decide_eq_true (Nat.le_trans h.2 hn)
theorem okD_sc {d : D} (h : isNb d = true) : okD 0 d := by
  cases d <;> first | (cases h; done) | exact ⟨by simp [PyData.canLay0], by simp [PyData.depth]⟩
theorem okAll : ∀ {n : Nat} {ds : List D}, (∀ d ∈ ds, okD n d) → PyData.canLayAll0 ds = true ∧ PyData.depthAll ds ≤ n
  | _, [], _ => ⟨by simp [PyData.canLayAll0], by simp [PyData.depthAll]⟩
  | n, d :: ds, h => by
    obtain ⟨h1, h2⟩ := h d List.mem_cons_self
    obtain ⟨h3, h4⟩ := okAll (n := n) (ds := ds) fun x hx => h x (List.mem_cons_of_mem _ hx)
    refine ⟨by simp [PyData.canLayAll0, h1, h3], ?_⟩
    simp only [PyData.depthAll]
    omega
theorem okD_list {n : Nat} {ds : List D} (h : ∀ d ∈ ds, okD n d) : okD (n + 1) (.list ds) := by
  obtain ⟨h1, h2⟩ := okAll h
  exact ⟨by simp [PyData.canLay0, h1], by simp only [PyData.depth]; omega⟩
theorem okD_tuple {n : Nat} {ds : List D} (h : ∀ d ∈ ds, okD n d) : okD (n + 1) (.tuple ds) := by
  obtain ⟨h1, h2⟩ := okAll h
  exact ⟨by simp [PyData.canLay0, h1], by simp only [PyData.depth]; omega⟩
theorem okD_mono {n m : Nat} {d : D} (h : okD n d) (l : n ≤ m) : okD m d := ⟨h.1, Nat.le_trans h.2 l⟩
theorem eqv_self {d : D} (h : d.canLay0 = true) : PyData.eqv d d = true := SeqAt.eqv_refl d h
theorem hEq_int (a b : Int) : hEq (.int a) (.int b) = some (.bool (a == b)) := by
  unfold hEq
  rw [if_pos ⟨shaped_sc rfl, shaped_sc rfl⟩, eqv_int]
theorem hNe_int (a b : Int) : hNe (.int a) (.int b) = some (.bool (!(a == b))) := by
  unfold hNe
  rw [if_pos ⟨shaped_sc rfl, shaped_sc rfl⟩, eqv_int]
theorem hEq_bool (a b : Bool) : hEq (.bool a) (.bool b) = some (.bool (a == b)) := by
  unfold hEq
  rw [if_pos ⟨shaped_sc rfl, shaped_sc rfl⟩, eqv_bool]
theorem eqv_ints : ∀ (xs ys : List Int), PyData.eqvAll (xs.map PyData.int) (ys.map PyData.int) = (xs == ys)
  | [], [] => by simp [PyData.eqvAll]
  | [], _ :: _ => by simp [PyData.eqvAll]
  | _ :: _, [] => by simp [PyData.eqvAll]
  | x :: xs, y :: ys => by
    rw [List.map_cons, List.map_cons, PyData.eqvAll, eqv_int, eqv_ints xs ys]
    rfl
theorem ok_ints (xs : List Int) : okD 1 (.list (xs.map PyData.int)) := okD_list fun d hd => by
  obtain ⟨x, _, rfl⟩ := List.mem_map.mp hd
  exact okD_sc rfl
theorem hEq_ints (xs ys : List Int) : hEq (.list (xs.map PyData.int)) (.list (ys.map PyData.int)) = some (.bool (xs == ys)) := by
  unfold hEq
  rw [if_pos ⟨(ok_ints xs).shaped (by decide), (ok_ints ys).shaped (by decide)⟩]
  simp only [PyData.eqv, eqv_ints]
theorem hNe_ints (xs ys : List Int) : hNe (.list (xs.map PyData.int)) (.list (ys.map PyData.int)) = some (.bool (!(xs == ys))) := by
  unfold hNe
  rw [if_pos ⟨(ok_ints xs).shaped (by decide), (ok_ints ys).shaped (by decide)⟩]
  simp only [PyData.eqv, eqv_ints]
/-! ### numbers -/
theorem bits_lt {i : Int} {n : Nat} (h : i.natAbs < 2 ^ n) : Builtin.Int.intBits i ≤ n := by
  unfold Builtin.Int.intBits
  split
  · exact Nat.zero_le _
  · rename_i h0
    have h1 : i.natAbs ≠ 0 := by
      intro z
      apply h0
      simp
      omega
    have := (Nat.log2_lt h1).mpr h
    omega
theorem mulC_small {i j : Int} (h : i.natAbs < 2 ^ 64) : MulC i j := .inl (bits_lt h)
theorem mulC_smallR {i j : Int} (h : j.natAbs < 2 ^ 64) : MulC i j := .inr (.inl (bits_lt h))
theorem mulC_wide {i j : Int} {a b : Nat} (h : i.natAbs < 2 ^ a) (h' : j.natAbs < 2 ^ b) (ha : a ≤ 67108864) (hb : b ≤ 67108864) : MulC i j := .inr (.inr ⟨Nat.le_trans (bits_lt h) ha, Nat.le_trans (bits_lt h') hb⟩)
theorem divC_of {i j : Int} {b : Nat} (h : 0 < j) (hb : j.natAbs < 2 ^ b) (h9 : b ≤ 9000) : DivC i j := by
  refine ⟨h, ?_⟩
  have : j.natAbs ≠ 0 := by omega
  exact Nat.lt_of_lt_of_le ((Nat.log2_lt this).mpr hb) h9
theorem divC_small {i j : Int} (h : 0 < j) (hb : j < 18446744073709551616) : DivC i j := divC_of (b := 64) h (by omega) (by decide)
theorem powC_small {i j : Int} (h0 : 0 ≤ j) (h1 : j ≤ 1000000) (h : i.natAbs < 2 ^ 64) : PowC i j := by
  have b := bits_lt h
  have : (Builtin.Int.intBits i : Int) * j ≤ 64 * 1000000 := Int.mul_le_mul (by omega) h1 h0 (by omega)
  exact ⟨h0, by omega⟩
theorem hMul_of {i j : Int} (h : MulC i j) : hMul (.int i) (.int j) = some (.int (i * j)) := by
  show (if MulC i j then _ else _) = _
  rw [if_pos h]
theorem hDiv_of {i j : Int} (h : DivC i j) : hDiv (.int i) (.int j) = some (.int (i / j)) := by
  show (if DivC i j then _ else _) = _
  rw [if_pos h]
theorem hMod_of {i j : Int} (h : 0 < j) : hMod (.int i) (.int j) = some (.int (i % j)) := by
  show (if 0 < j then _ else _) = _
  rw [if_pos h]
theorem hPow_of {i j : Int} (h : PowC i j) : hPow (.int i) (.int j) = some (.int (i ^ j.toNat)) := by
  show (if PowC i j then _ else _) = _
  rw [if_pos h]
theorem p10_3 : hPow (.int 10) (.int 3) = some (.int 1000) := by rw [hPow_of (by decide +kernel)]; rfl
theorem p10_4 : hPow (.int 10) (.int 4) = some (.int 10000) := by rw [hPow_of (by decide +kernel)]; rfl
theorem p10_5 : hPow (.int 10) (.int 5) = some (.int 100000) := by rw [hPow_of (by decide +kernel)]; rfl
theorem p10_6 : hPow (.int 10) (.int 6) = some (.int 1000000) := by rw [hPow_of (by decide +kernel)]; rfl
theorem p10_7 : hPow (.int 10) (.int 7) = some (.int 10000000) := by rw [hPow_of (by decide +kernel)]; rfl
theorem p10_8 : hPow (.int 10) (.int 8) = some (.int 100000000) := by rw [hPow_of (by decide +kernel)]; rfl
theorem p10_9 : hPow (.int 10) (.int 9) = some (.int 1000000000) := by rw [hPow_of (by decide +kernel)]; rfl
theorem p10_12 : hPow (.int 10) (.int 12) = some (.int 1000000000000) := by rw [hPow_of (by decide +kernel)]; rfl
theorem p10_50 : hPow (.int 10) (.int 50) = some (.int 100000000000000000000000000000000000000000000000000) := by rw [hPow_of (by decide +kernel)]; rfl
theorem p50_3 : hPow (.int 100000000000000000000000000000000000000000000000000) (.int 3) = some (.int 1000000000000000000000000000000000000000000000000000000000000000000000000000000000000000000000000000000000000000000000000000000000000000000000000000000) := by rw [hPow_of (by decide +kernel)]; rfl
theorem p50_4 : hPow (.int 100000000000000000000000000000000000000000000000000) (.int 4) = some (.int 100000000000000000000000000000000000000000000000000000000000000000000000000000000000000000000000000000000000000000000000000000000000000000000000000000000000000000000000000000000000000000000000000000000) := by rw [hPow_of (by decide +kernel)]; rfl
theorem hIsi_int_int (i : Int) : hIsi "int" (.int i) = some (.bool true) := by
  have h : kitB "int" "int" = some true := by decide +kernel
  simp only [hIsi, tyName, Option.bind_some, h]
theorem hIsi_int_bool (i : Int) : hIsi "bool" (.int i) = some (.bool false) := by
  have h : kitB "int" "bool" = some false := by decide +kernel
  simp only [hIsi, tyName, Option.bind_some, h]
theorem hIsi_int_list (i : Int) : hIsi "list" (.int i) = some (.bool false) := by
  have h : kitB "int" "list" = some false := by decide +kernel
  simp only [hIsi, tyName, Option.bind_some, h]
theorem hIsi_int_tuple (i : Int) : hIsi "tuple" (.int i) = some (.bool false) := by
  have h : kitB "int" "tuple" = some false := by decide +kernel
  simp only [hIsi, tyName, Option.bind_some, h]
theorem hIsi_int_str (i : Int) : hIsi "str" (.int i) = some (.bool false) := by
  have h : kitB "int" "str" = some false := by decide +kernel
  simp only [hIsi, tyName, Option.bind_some, h]
theorem hIsi_bool_int (i : Bool) : hIsi "int" (.bool i) = some (.bool true) := by
  have h : kitB "bool" "int" = some true := by decide +kernel
  simp only [hIsi, tyName, Option.bind_some, h]
theorem hIsi_bool_bool (i : Bool) : hIsi "bool" (.bool i) = some (.bool true) := by
  have h : kitB "bool" "bool" = some true := by decide +kernel
  simp only [hIsi, tyName, Option.bind_some, h]
theorem hIsi_bool_list (i : Bool) : hIsi "list" (.bool i) = some (.bool false) := by
  have h : kitB "bool" "list" = some false := by decide +kernel
  simp only [hIsi, tyName, Option.bind_some, h]
theorem hIsi_bool_tuple (i : Bool) : hIsi "tuple" (.bool i) = some (.bool false) := by
  have h : kitB "bool" "tuple" = some false := by decide +kernel
  simp only [hIsi, tyName, Option.bind_some, h]
theorem hIsi_bool_str (i : Bool) : hIsi "str" (.bool i) = some (.bool false) := by
  have h : kitB "bool" "str" = some false := by decide +kernel
  simp only [hIsi, tyName, Option.bind_some, h]
theorem hIsi_none_int  : hIsi "int" (.none) = some (.bool false) := by
  have h : kitB "NoneType" "int" = some false := by decide +kernel
  simp only [hIsi, tyName, Option.bind_some, h]
theorem hIsi_none_bool  : hIsi "bool" (.none) = some (.bool false) := by
  have h : kitB "NoneType" "bool" = some false := by decide +kernel
  simp only [hIsi, tyName, Option.bind_some, h]
theorem hIsi_none_list  : hIsi "list" (.none) = some (.bool false) := by
  have h : kitB "NoneType" "list" = some false := by decide +kernel
  simp only [hIsi, tyName, Option.bind_some, h]
theorem hIsi_none_tuple  : hIsi "tuple" (.none) = some (.bool false) := by
  have h : kitB "NoneType" "tuple" = some false := by decide +kernel
  simp only [hIsi, tyName, Option.bind_some, h]
theorem hIsi_none_str  : hIsi "str" (.none) = some (.bool false) := by
  have h : kitB "NoneType" "str" = some false := by decide +kernel
  simp only [hIsi, tyName, Option.bind_some, h]
theorem hIsi_list_int (i : List D) : hIsi "int" (.list i) = some (.bool false) := by
  have h : kitB "list" "int" = some false := by decide +kernel
  simp only [hIsi, tyName, Option.bind_some, h]
theorem hIsi_list_bool (i : List D) : hIsi "bool" (.list i) = some (.bool false) := by
  have h : kitB "list" "bool" = some false := by decide +kernel
  simp only [hIsi, tyName, Option.bind_some, h]
theorem hIsi_list_list (i : List D) : hIsi "list" (.list i) = some (.bool true) := by
  have h : kitB "list" "list" = some true := by decide +kernel
  simp only [hIsi, tyName, Option.bind_some, h]
theorem hIsi_list_tuple (i : List D) : hIsi "tuple" (.list i) = some (.bool false) := by
  have h : kitB "list" "tuple" = some false := by decide +kernel
  simp only [hIsi, tyName, Option.bind_some, h]
theorem hIsi_list_str (i : List D) : hIsi "str" (.list i) = some (.bool false) := by
  have h : kitB "list" "str" = some false := by decide +kernel
  simp only [hIsi, tyName, Option.bind_some, h]
theorem hIsi_tuple_int (i : List D) : hIsi "int" (.tuple i) = some (.bool false) := by
  have h : kitB "tuple" "int" = some false := by decide +kernel
  simp only [hIsi, tyName, Option.bind_some, h]
theorem hIsi_tuple_bool (i : List D) : hIsi "bool" (.tuple i) = some (.bool false) := by
  have h : kitB "tuple" "bool" = some false := by decide +kernel
  simp only [hIsi, tyName, Option.bind_some, h]
theorem hIsi_tuple_list (i : List D) : hIsi "list" (.tuple i) = some (.bool false) := by
  have h : kitB "tuple" "list" = some false := by decide +kernel
  simp only [hIsi, tyName, Option.bind_some, h]
theorem hIsi_tuple_tuple (i : List D) : hIsi "tuple" (.tuple i) = some (.bool true) := by
  have h : kitB "tuple" "tuple" = some true := by decide +kernel
  simp only [hIsi, tyName, Option.bind_some, h]
theorem hIsi_tuple_str (i : List D) : hIsi "str" (.tuple i) = some (.bool false) := by
  have h : kitB "tuple" "str" = some false := by decide +kernel
  simp only [hIsi, tyName, Option.bind_some, h]
theorem hIsi_str_int (i : Str) : hIsi "int" (.str i) = some (.bool false) := by
  have h : kitB "str" "int" = some false := by decide +kernel
  simp only [hIsi, tyName, Option.bind_some, h]
theorem hIsi_str_bool (i : Str) : hIsi "bool" (.str i) = some (.bool false) := by
  have h : kitB "str" "bool" = some false := by decide +kernel
  simp only [hIsi, tyName, Option.bind_some, h]
theorem hIsi_str_list (i : Str) : hIsi "list" (.str i) = some (.bool false) := by
  have h : kitB "str" "list" = some false := by decide +kernel
  simp only [hIsi, tyName, Option.bind_some, h]
theorem hIsi_str_tuple (i : Str) : hIsi "tuple" (.str i) = some (.bool false) := by
  have h : kitB "str" "tuple" = some false := by decide +kernel
  simp only [hIsi, tyName, Option.bind_some, h]
theorem hIsi_str_str (i : Str) : hIsi "str" (.str i) = some (.bool true) := by
  have h : kitB "str" "str" = some true := by decide +kernel
  simp only [hIsi, tyName, Option.bind_some, h]

/-! ### lists of data -/
theorem list?_list (xs : List D) : list? (.list xs) = some xs := rfl
theorem items?_list (xs : List D) : items? (.list xs) = some xs := rfl
theorem items?_tuple (xs : List D) : items? (.tuple xs) = some xs := rfl
def cutL {α : Type} (xs : List α) (lo hi : Option Int) : List α := (xs.drop (HT.sIx xs.length 0 lo)).take (HT.sIx xs.length xs.length hi - HT.sIx xs.length 0 lo)
theorem cutD_map {α : Type} (f : α → D) (xs : List α) (lo hi : Option Int) : cutD (xs.map f) lo hi = (cutL xs lo hi).map f := by
  unfold cutD cutL
  rw [List.length_map, List.map_take, List.map_drop]
theorem all_int {α : Type} (f : α → Int) (xs : List α) : (xs.map fun x => PyData.int (f x)).all isSc = true := by
  rw [List.all_map, List.all_eq_true]
  intro x _
  rfl
theorem all_int' (xs : List Int) : (xs.map PyData.int).all isSc = true := all_int (fun x => x) xs
theorem mem_cutL {α : Type} {xs : List α} {lo hi : Option Int} {x : α} (h : x ∈ cutL xs lo hi) : x ∈ xs := List.mem_of_mem_drop (List.mem_of_mem_take h)
theorem len_cutL {α : Type} {xs : List α} {lo hi : Option Int} : (cutL xs lo hi).length ≤ xs.length := by
  unfold cutL
  rw [List.length_take, List.length_drop]
  omega
theorem cutL_nat {α : Type} (xs : List α) (a b : Nat) (h : a ≤ b) : cutL xs (some (a : Int)) (some (b : Int)) = (xs.drop a).take (b - a) := by
  unfold cutL HT.sIx
  simp only [show ¬ ((a : Int) < 0) by omega, show ¬ ((b : Int) < 0) by omega, if_false, Int.toNat_natCast]
  by_cases h1 : a ≤ xs.length
  · rw [Nat.min_eq_left h1]
    by_cases h2 : b ≤ xs.length
    · rw [Nat.min_eq_left h2]
    · rw [Nat.min_eq_right (by omega), List.take_of_length_le (by rw [List.length_drop]; omega), List.take_of_length_le (by rw [List.length_drop]; omega)]
  · rw [Nat.min_eq_right (by omega), Nat.min_eq_right (by omega), List.drop_eq_nil_of_le (by omega), List.drop_eq_nil_of_le (by omega), List.take_nil, List.take_nil]
theorem cutL_pre {α : Type} (xs : List α) (b : Nat) : cutL xs none (some (b : Int)) = xs.take b := by
  have := cutL_nat xs 0 b (Nat.zero_le _)
  unfold cutL HT.sIx at this ⊢
  simp only [Int.ofNat_zero, Nat.sub_zero, List.drop_zero, Int.toNat_zero, Nat.zero_min, show ¬ ((0 : Int) < 0) by omega, show ¬ ((b : Int) < 0) by omega, if_false, Int.toNat_natCast] at this ⊢
  exact this
theorem k_scs_int (ns : List Int) : scsK (ns.map PyData.int) = some (ns.map PyData.int) := k_scs_of (all_int' ns)
theorem rangeD_map (lo : Int) (n : Nat) : rangeD lo n = (List.range n).map fun (k : Nat) => PyData.int (lo + (k : Int)) := rfl

/-! ### reckoned where a bound holds -/
theorem hCat_of {xs ys : List D} (h : xs.length + ys.length ≤ 1000000) : hCat (.list xs) (.list ys) = some (xs ++ ys) := by
  simp only [hCat, list?, Option.bind_some, if_pos h]
theorem hRep_of {xs : List D} {k : Int} (h1 : k < 1000000) (h2 : -1000000 < k) (h : xs.length * k.toNat ≤ 1000000) : hRep xs (.int k) = some (repD k.toNat xs) := by
  simp only [hRep, if_pos (And.intro h1 (And.intro h2 h))]
theorem hR1_of {j : Int} (h1 : -1000000 < j) (h2 : j < 1000000) : hR1 [.int j] = some (rangeD 0 j.toNat) := by
  simp only [hR1, if_pos (And.intro h1 h2)]
theorem hR2_of {i j : Int} (h1 : -1000000 < i) (h2 : i < 1000000) (h3 : -1000000 < j) (h4 : j < 1000000) : hR2 [.int i, .int j] = some (rangeD i (j - i).toNat) := by
  simp only [hR2, if_pos (And.intro (And.intro h1 h2) (And.intro h3 h4))]
theorem hR3_of {i j c : Int} (h1 : -1000000 < i) (h2 : i < 1000000) (h3 : -1000000 < j) (h4 : j < 1000000) (h5 : 0 < c) (h6 : c < 1000000) : hR3 [.int i, .int j, .int c] = some (rangeC i c (rngN i j c)) := by
  simp only [hR3, if_pos (show ((-1000000 < i ∧ i < 1000000) ∧ (-1000000 < j ∧ j < 1000000)) ∧ (0 < c ∧ c < 1000000) from ⟨⟨⟨h1, h2⟩, h3, h4⟩, h5, h6⟩)]
theorem hApp_of {xs : List D} {d : D} (h : xs.length < 1000000) : hApp xs [d] = some (xs ++ [d]) := by
  simp only [hApp, if_pos h]
theorem hIns_of {xs : List D} {d : D} {i : Int} (h0 : 0 ≤ i) (h1 : i < 1000000) (h : xs.length < 1000000) : hIns xs [.int i, d] = some (xs.take i.toNat ++ [d] ++ xs.drop i.toNat) := by
  simp only [hIns, if_pos (And.intro (And.intro h0 h1) h)]
theorem dCompG_of {set : D → SE → Option SE} {c : SE → Option Bool} {h : SE → Option D} {e : SE} {ds : List D} (hl : ds.length ≤ 1000000) : dCompG set c h e ds = dComp set c h e ds := if_pos hl
theorem atI_in {α : Type} {xs : List α} {i : Int} (h0 : 0 ≤ i) (h : i < xs.length) : atI xs i = xs[i.toNat]? := by
  unfold atI ixN
  rw [if_pos h0, if_pos h]
  rfl
theorem atI_map {α : Type} (f : α → D) (xs : List α) (i : Int) : atI (xs.map f) i = (atI xs i).map f := by
  unfold atI
  rw [List.length_map]
  cases ixN xs.length i with
  | none => rfl
  | some j => simp
theorem sIx_0 {n : Nat} : HT.sIx n 0 none = 0 := rfl
/-! ### loops and comprehensions within a row of steps -/
section
variable {set : D → SE → Option SE} {g : SE → Option Rs} {kl : List Nat} {c : SE → Option Bool} {h : SE → Option D} {α σ β : Type} {k : Rs → Option β} {kk : List D → Option β} {r : Option β}
theorem b_word {enc : σ → SE} {cv : α → D} (W : List α → σ → Prop) (xs : List α) (s : σ) (h0 : W [] s) (h : ∀ p x q s, p ++ x :: q = xs → W p s → ∃ s', turn set g kl (cv x) (enc s) (enc s') ∧ W (p ++ [x]) s')
    (hk : ∀ s', W xs s' → k (.nx (enc s')) = r) : (forL set g kl (xs.map cv) (enc s)).bind k = r := by
  obtain ⟨s', h1, h2⟩ := forL_word W xs s h0 h
  rw [h1]
  exact hk s' h2
theorem b_fold {enc : σ → SE} {cv : α → D} {step : σ → α → σ} (I : σ → Prop) (xs : List α) (s : σ) (h0 : I s) (h : ∀ s x, x ∈ xs → I s → turn set g kl (cv x) (enc s) (enc (step s x)) ∧ I (step s x))
    (hk : I (xs.foldl step s) → k (.nx (enc (xs.foldl step s))) = r) : (forL set g kl (xs.map cv) (enc s)).bind k = r := by
  obtain ⟨h1, h2⟩ := forL_fold I xs s h0 h
  rw [h1]
  exact hk h2
theorem b_same {cv : α → D} {e : SE} (xs : List α) (h : ∀ x, x ∈ xs → turn set g kl (cv x) e e) (hk : k (.nx e) = r) : (forL set g kl (xs.map cv) e).bind k = r := by
  rw [forL_same e xs h]
  exact hk
theorem b_find {cv : α → D} {e : SE} (p : α → Option D) (xs : List α) (h : ∀ x, x ∈ xs → p x = none → turn set g kl (cv x) e e) (h' : ∀ x d, x ∈ xs → p x = some d → (set (cv x) e).bind g = some (.rt d))
    (hk : k (match xs.findSome? p with | some d => .rt d | none => .nx e) = r) : (forL set g kl (xs.map cv) e).bind k = r := by
  rw [forL_find e p xs h h']
  exact hk
theorem b_while {enc : σ → SE} {cond : σ → Bool} (I : σ → Prop) (μ : σ → Nat) (s : σ) (hk : kil kl (enc s) = enc s) (hi : I s) (hc : ∀ s, I s → c (enc s) = some (cond s))
    (hs : ∀ s, I s → cond s = true → ∃ s', turnW g kl (enc s) = some (enc s') ∧ I s' ∧ μ s' < μ s) (hk2 : ∀ s', I s' → cond s' = false → k (.nx (enc s')) = r) : (sWhile c g kl (enc s)).bind k = r := by
  obtain ⟨s', h1, h2, h3⟩ := sWhile_word I μ s hk hi hc hs
  rw [h1]
  exact hk2 s' h2 h3
theorem b_map {cv : α → D} {e : SE} (f : α → D) (xs : List α) (hl : xs.length ≤ 1000000) (hh : ∀ x, x ∈ xs → ∃ e1, set (cv x) e = some e1 ∧ c e1 = some true ∧ h e1 = some (f x)) (hk : kk (xs.map f) = r) : (dCompG set c h e (xs.map cv)).bind kk = r := by
  rw [dCompG_of (by rw [List.length_map]; exact hl), dComp_map xs hh]
  exact hk
theorem b_filter {cv : α → D} {e : SE} (f : α → D) (p : α → Bool) (xs : List α) (hl : xs.length ≤ 1000000) (hh : ∀ x, x ∈ xs → ∃ e1, set (cv x) e = some e1 ∧ c e1 = some (p x) ∧ (p x = true → h e1 = some (f x))) (hk : kk ((xs.filter p).map f) = r) : (dCompG set c h e (xs.map cv)).bind kk = r := by
  rw [dCompG_of (by rw [List.length_map]; exact hl), dComp_filter xs hh]
  exact hk
theorem g_map {cv : α → D} {e : SE} (f : α → D) (xs : List α) (hl : xs.length ≤ 1000000) (hh : ∀ x, x ∈ xs → ∃ e1, set (cv x) e = some e1 ∧ c e1 = some true ∧ h e1 = some (f x)) : dCompG set c h e (xs.map cv) = some (xs.map f) := by
  rw [dCompG_of (by rw [List.length_map]; exact hl), dComp_map xs hh]
theorem g_filter {cv : α → D} {e : SE} (f : α → D) (p : α → Bool) (xs : List α) (hl : xs.length ≤ 1000000) (hh : ∀ x, x ∈ xs → ∃ e1, set (cv x) e = some e1 ∧ c e1 = some (p x) ∧ (p x = true → h e1 = some (f x))) : dCompG set c h e (xs.map cv) = some ((xs.filter p).map f) := by
  rw [dCompG_of (by rw [List.length_map]; exact hl), dComp_filter xs hh]
end
end PV

namespace PV
open PySem PySem.Spec PyProof.Rows L2
/-! ### a list of one's own that rests while it is walked -/
section
variable {K : PySem.W.Frag} {Γ : List Md} {G H0 H0' H H' : Hp} {own own' : List (Option Addr)} {env : SE} {σ : L2.St} {i k : Nat} {v : V} {d : D} {m : Md} {r : Rl}
theorem rg_base (h : Same H0 H0') : Same (rg r G H0' own H) (rg r G H0 own H) := fun a o q => by
  obtain ⟨i, e⟩ := rg_iff.mp q
  refine rg_iff.mpr ⟨?_, e⟩
  cases r with
  | bo => trivial
  | nw => exact ⟨i.1, h.free i.2.1, i.2.2⟩
  | od => exact ⟨i.1, i.2.imp (fun z => ⟨h.free z.1, z.2⟩) id⟩
theorem SlotOk.step2 (sub : ∀ {rr : Rl}, rr ≠ .bo → Same (rg rr G H0 own H) (rg rr G H0' own' H')) (h0 : Same H0 H0') (ho : ∀ a, own[i]? = some (some a) → own'[i]? = some (some a) ∧ ∀ o, H a = some o → H' a = some o) (h : SlotOk K m G H0 own H i v d) : SlotOk K m G H0' own' H' i v d := by
  have so := sub (rr := .od) (by intro z; cases z)
  have sn := sub (rr := .nw) (by intro z; cases z)
  cases m with
  | od => exact dp_mono so _ _ h
  | nw => exact dp_mono sn _ _ h
  | mo =>
    obtain ⟨a, vs, ds, h0, h1, h2, h4, h3⟩ := h
    exact ⟨a, vs, ds, h0, (ho a h1).1, (ho a h1).2 _ h2, h4, dps_mono so _ _ h3⟩
  | mn =>
    obtain ⟨a, vs, ds, h0, h1, h2, h4, h3⟩ := h
    exact ⟨a, vs, ds, h0, (ho a h1).1, (ho a h1).2 _ h2, h4, dps_mono sn _ _ h3⟩
  | pd r a =>
    obtain ⟨q0, vs, ds, h1, h2, h3⟩ := h
    exact ⟨q0, vs, ds, h0 _ _ h1, h2, dps_mono (sub pr_bo) _ _ h3⟩
  | cv v0 => exact ⟨h.1, dp_mono so _ _ h.2.1, h.2.2⟩
  | tr => exact dp_mono (fun a o e => rgt_iff.mpr ⟨(rgt_iff.mp e).1, h0 _ _ (rgt_iff.mp e).2⟩) _ _ h
  | mp j =>
    obtain ⟨a, p, vs, us, ds, es, q0, h1, h2, h3, h4, h5, h6, h7, h8, h9⟩ := h
    exact ⟨a, p, vs, us, ds, es, q0, sn _ _ h1, h2, (ho p h3).1, (ho p h3).2 _ h4, dps_mono so _ _ h5, h6, h7, h8, fun m d' q e => let ⟨v', e1, e2⟩ := h9 m d' q e; ⟨v', e1, dp_mono so _ _ e2⟩⟩
def flat : Md → Bool
  | .pd _ _ => false
  | .tr => false
  | _ => true
theorem SlotOk.step3 (sub : ∀ {rr : Rl}, rr ≠ .bo → Same (rg rr G H0 own H) (rg rr G H0' own' H')) (hf : flat m = true) (ho : ∀ a, own[i]? = some (some a) → own'[i]? = some (some a) ∧ ∀ o, H a = some o → H' a = some o) (h : SlotOk K m G H0 own H i v d) : SlotOk K m G H0' own' H' i v d := by
  have so := sub (rr := .od) (by intro z; cases z)
  have sn := sub (rr := .nw) (by intro z; cases z)
  cases m with
  | od => exact dp_mono so _ _ h
  | nw => exact dp_mono sn _ _ h
  | mo =>
    obtain ⟨a, vs, ds, h0, h1, h2, h4, h3⟩ := h
    exact ⟨a, vs, ds, h0, (ho a h1).1, (ho a h1).2 _ h2, h4, dps_mono so _ _ h3⟩
  | mn =>
    obtain ⟨a, vs, ds, h0, h1, h2, h4, h3⟩ := h
    exact ⟨a, vs, ds, h0, (ho a h1).1, (ho a h1).2 _ h2, h4, dps_mono sn _ _ h3⟩
  | pd r a => cases hf
  | cv v0 => exact ⟨h.1, dp_mono so _ _ h.2.1, h.2.2⟩
  | tr => cases hf
  | mp j =>
    obtain ⟨a, p, vs, us, ds, es, q0, h1, h2, h3, h4, h5, h6, h7, h8, h9⟩ := h
    exact ⟨a, p, vs, us, ds, es, q0, sn _ _ h1, h2, (ho p h3).1, (ho p h3).2 _ h4, dps_mono so _ _ h5, h6, h7, h8, fun m d' q e => let ⟨v', e1, e2⟩ := h9 m d' q e; ⟨v', e1, dp_mono so _ _ e2⟩⟩
theorem md_self {m' : Md} (h : k < Γ.length) : md (Γ.set k m') k = m' := by
  unfold md
  rw [List.getD_eq_getElem?_getD, List.getElem?_set_self h]
  rfl
theorem md_ne {m' : Md} {j : Nat} (h : k ≠ j) : md (Γ.set k m') j = md Γ j := by
  unfold md
  rw [List.getD_eq_getElem?_getD, List.getD_eq_getElem?_getD, List.getElem?_set_ne h]
theorem isM_lt (hm : isM (md Γ k) = true) : k < Γ.length := by
  by_cases z : k < Γ.length
  · exact z
  · unfold md at hm
    rw [List.getD_eq_getElem?_getD, List.getElem?_eq_none (by omega)] at hm
    cases hm
theorem pr_mo {m : Md} : pr (moR m) = moR m := by cases m <;> rfl
/-- behind the pin, what is apart from all lists of one's own stays so -/
theorem pin_sub {a : Addr} {vs : List V} (R : ER K Γ G H0 own env σ H) (ho : own[k]? = some (some a)) (hr : r ≠ .bo) : Same (rg r G H0 own H') (rg r G (upd H0 a (.lst vs)) (own.set k none) H') := fun b o q => by
  obtain ⟨i, e⟩ := rg_iff.mp q
  have nb : ¬ Ow own b := i.now hr
  have ne : b ≠ a := fun z => nb (z ▸ ⟨k, ho⟩)
  have nb' : ¬ Ow (own.set k none) b := fun z => by
    obtain ⟨j, _, e⟩ := ow_unset z
    exact nb ⟨j, e⟩
  refine rg_iff.mpr ⟨?_, e⟩
  cases r with
  | bo => trivial
  | nw => exact ⟨nb', by unfold Nw; rw [upd_ne ne]; exact i.2⟩
  | od => exact ⟨nb', by unfold Nw; rw [upd_ne ne]; exact i.2⟩
/-- .. and back -/
theorem pin_back {a : Addr} {vs : List V} {ex : List (Option Addr)} (gs : Same G H0) (n0 : H0 a = none) (ho : own[k]? = some (some a)) (inj : ∀ (i j : Nat) (a : Addr), own[i]? = some (some a) → own[j]? = some (some a) → i = j) :
    Same (rg r G (upd H0 a (.lst vs)) (own.set k none ++ ex) H') (rg r G H0 (own ++ ex) H') := fun b o q => by
  obtain ⟨i, e⟩ := rg_iff.mp q
  refine rg_iff.mpr ⟨?_, e⟩
  have ga : G a = none := by
    cases q : G a with
    | none => rfl
    | some o => have := gs _ _ q; rw [n0] at this; cases this
  have now : b ≠ a → ¬ Ow (own.set k none ++ ex) b → ¬ Ow (own ++ ex) b := fun ne h ⟨j, z⟩ => by
    by_cases hl : j < own.length
    · rw [List.getElem?_append_left hl] at z
      by_cases hj : k = j
      · subst hj; rw [ho] at z; cases z; exact ne rfl
      · exact h ⟨j, by rw [List.getElem?_append_left (by rw [List.length_set]; exact hl), List.getElem?_set_ne hj]; exact z⟩
    · rw [List.getElem?_append_right (by omega)] at z
      exact h ⟨j, by rw [List.getElem?_append_right (by rw [List.length_set]; omega), List.length_set]; exact z⟩
  cases r with
  | bo => trivial
  | nw =>
    have ne : b ≠ a := fun z => by have := i.2.1; rw [z, upd_same] at this; cases this
    exact ⟨now ne i.1, by have := i.2; unfold Nw at this ⊢; rw [upd_ne ne] at this; exact this⟩
  | od =>
    have ne : b ≠ a := fun z => by
      rcases i.2 with h | h
      · have h := h.1; rw [z, upd_same] at h; cases h
      · rw [z] at h; exact h ga
    exact ⟨now ne i.1, by have := i.2; unfold Nw at this ⊢; rw [upd_ne ne] at this; exact this⟩
theorem ER.pin (R : ER K Γ G H0 own env σ H) (hm : isM (md Γ k) = true) (hd : dV k env = some d) : ∃ a vs, H0 a = none ∧ own[k]? = some (some a) ∧ H a = some (.lst vs) ∧
    ER K (Γ.set k (.pd (moR (md Γ k)) a)) G (upd H0 a (.lst vs)) (own.set k none) env σ H := by
  obtain ⟨v, hv, so⟩ := R.sl k d (dV_get hd)
  obtain ⟨a, vs, ds, rfl, ho, hH, rfl, hds⟩ := slotM_of hm so
  have n0 := (R.fr k a ho).1
  have key : ∀ (j : Nat) (b : Addr), (own.set k none)[j]? = some (some b) → j ≠ k ∧ own[j]? = some (some b) := fun j b h => by
    by_cases hj : k = j
    · subst hj
      rw [List.getElem?_set_self (List.getElem?_eq_some_iff.mp ho).1] at h
      cases h
    · rw [List.getElem?_set_ne hj] at h
      exact ⟨fun z => hj z.symm, h⟩
  have s0 : Same H0 (upd H0 a (.lst vs)) := same_new n0
  refine ⟨a, vs, n0, ho, hH, R.gs.trans s0, fun b o e => ?_, fun i j b hi hj => R.inj i j b (key i b hi).2 (key j b hj).2, fun i b hi => ?_, R.le, by rw [List.length_set]; exact R.ol, fun j d hj => ?_⟩
  · by_cases z : b = a
    · subst z; rw [upd_same] at e; cases e; exact hH
    · rw [upd_ne z] at e; exact R.ex _ _ e
  · obtain ⟨ne, hi⟩ := key i b hi
    obtain ⟨h1, o, h2⟩ := R.fr i b hi
    refine ⟨?_, o, h2⟩
    have nb : b ≠ a := fun z => by subst z; exact ne (R.inj i k b hi ho)
    rw [upd_ne nb]
    exact h1
  · obtain ⟨w, hw, so'⟩ := R.sl j d hj
    refine ⟨w, hw, ?_⟩
    by_cases z : k = j
    · subst z
      rw [md_self (isM_lt hm)]
      rw [hv] at hw
      cases hw
      obtain ⟨a', vs', ds', e1, e2, e3, rfl, e4⟩ := slotM_of hm so'
      cases e1
      rw [hH] at e3
      cases e3
      refine ⟨rfl, vs, _, upd_same, rfl, ?_⟩
      rw [pr_mo]
      exact dps_mono (pin_sub R ho (by cases md Γ k <;> intro z <;> cases z)) _ _ e4
    · rw [md_ne z]
      exact so'.step2 (fun hr => pin_sub R ho hr) s0 fun b hb => ⟨by rw [List.getElem?_set_ne z]; exact hb, fun o q => q⟩
theorem unpin_sub {a : Addr} {vs : List V} (gs : Same G H0) (n0 : H0 a = none) (hr : r ≠ .bo) : Same (rg r G (upd H0 a (.lst vs)) own H) (rg r G H0 (own.set k (some a)) H) := fun b o q => by
  obtain ⟨i, e⟩ := rg_iff.mp q
  refine rg_iff.mpr ⟨?_, e⟩
  have ga : G a = none := by
    cases q : G a with
    | none => rfl
    | some o => have := gs _ _ q; rw [n0] at this; cases this
  have now : b ≠ a → ¬ Ow own b → ¬ Ow (own.set k (some a)) b := fun ne h z => (ow_of_set z).elim h ne
  cases r with
  | bo => exact absurd rfl hr
  | nw =>
    have ne : b ≠ a := fun z => by have := i.2.1; rw [z, upd_same] at this; cases this
    exact ⟨now ne i.1, by have := i.2; unfold Nw at this ⊢; rw [upd_ne ne] at this; exact this⟩
  | od =>
    have ne : b ≠ a := fun z => by
      rcases i.2 with h | h
      · have h := h.1; rw [z, upd_same] at h; cases h
      · rw [z] at h; exact h ga
    exact ⟨now ne i.1, by have := i.2; unfold Nw at this ⊢; rw [upd_ne ne] at this; exact this⟩
theorem ER.unpin {a : Addr} {vs : List V} (gs : Same G H0) (n0 : H0 a = none) (hm : isM (md Γ k) = true) (hf : Γ.all flat = true) (R : ER K (Γ.set k (.pd (moR (md Γ k)) a)) G (upd H0 a (.lst vs)) own env σ H) : ER K Γ G H0 (own.set k (some a)) env σ H := by
  have key : ∀ (j : Nat) (b : Addr), (own.set k (some a))[j]? = some (some b) → (j = k ∧ b = a) ∨ (j ≠ k ∧ b ≠ a ∧ own[j]? = some (some b)) := fun j b h => by
    by_cases hj : k = j
    · subst hj
      by_cases hl : k < own.length
      · rw [List.getElem?_set_self hl] at h; cases h; exact .inl ⟨rfl, rfl⟩
      · rw [List.getElem?_eq_none (by rw [List.length_set]; omega)] at h; cases h
    · rw [List.getElem?_set_ne hj] at h
      refine .inr ⟨fun z => hj z.symm, fun z => ?_, h⟩
      have := (R.fr j b h).1
      rw [z, upd_same] at this
      cases this
  have s0 : Same H0 (upd H0 a (.lst vs)) := same_new n0
  refine ⟨gs, s0.trans R.ex, fun i j b hi hj => ?_, fun i b hi => ?_, R.le, by rw [List.length_set]; exact R.ol, fun j d hj => ?_⟩
  · rcases key i b hi with ⟨i1, b1⟩ | ⟨i1, b1, i2⟩ <;> rcases key j b hj with ⟨j1, c1⟩ | ⟨j1, c1, j2⟩
    · rw [i1, j1]
    · exact absurd b1 c1
    · exact absurd c1 b1
    · exact R.inj i j b i2 j2
  · rcases key i b hi with ⟨i1, rfl⟩ | ⟨i1, b1, i2⟩
    · exact ⟨n0, _, R.ex _ _ upd_same⟩
    · obtain ⟨h1, o, h2⟩ := R.fr i b i2
      exact ⟨s0.free h1, o, h2⟩
  · obtain ⟨w, hw, so⟩ := R.sl j d hj
    refine ⟨w, hw, ?_⟩
    by_cases z : k = j
    · subst z
      rw [md_self (isM_lt hm)] at so
      obtain ⟨rfl, us, ds, h1, rfl, h2⟩ := so
      rw [upd_same] at h1
      cases h1
      have hk : k < own.length := by
        have := (List.getElem?_eq_some_iff.mp hw).1
        exact Nat.lt_of_lt_of_le this R.ol
      rw [pr_mo] at h2
      have fin : SlotM K (moR (md Γ k)) G H0 (own.set k (some a)) H k (.ref a) (.list ds) := ⟨a, vs, ds, rfl, List.getElem?_set_self hk, R.ex _ _ upd_same, rfl, dps_mono (unpin_sub gs n0 (by cases md Γ k <;> intro z <;> cases z)) _ _ h2⟩
      cases hh : md Γ k with
      | mo => rw [hh] at fin; exact fin
      | mn => rw [hh] at fin; exact fin
      | _ => rw [hh] at hm; cases hm
    · rw [md_ne z] at so
      have fl : flat (md Γ j) = true := by
        unfold md
        rw [List.getD_eq_getElem?_getD]
        cases e : Γ[j]? with
        | none => rfl
        | some m => exact List.all_eq_true.mp hf m (List.mem_of_getElem? e)
      exact so.step3 (fun hr => unpin_sub gs n0 hr) fl fun b hb => ⟨by rw [List.getElem?_set_ne z]; exact hb, fun o q => q⟩
end
/-- reckoned only where slot k holds something -/
def pinF {α : Type} (k : Nat) (f : SE → Option α) (e : SE) : Option α := (dV k e).bind fun _ => f e
def pinK {α : Type} (f : SE → Option α) (e : SE) (_ : D) : Option α := f e
theorem v_pinF {α : Type} {k : Nat} {f : SE → Option α} {e : SE} : pinF k f e = (dV k e).bind (pinK f e) := rfl
theorem k_pin {α : Type} {f : SE → Option α} {e : SE} {d : D} : pinK f e d = f e := rfl
theorem pinF_ok {α : Type} {k : Nat} {f : SE → Option α} {e : SE} {x : α} (h : pinF k f e = some x) : (∃ d, dV k e = some d) ∧ f e = some x := by
  unfold pinF at h
  cases q : dV k e with
  | none => rw [q] at h; cases h
  | some d => rw [q] at h; exact ⟨⟨d, rfl⟩, h⟩
section
variable {K : PySem.W.Frag} {Γ : List Md} {k : Nat} {u : Bool} {r : Rl}
theorem ok_pinE {f : SE → Option D} {t : TE} (hm : isM (md Γ k) = true) (h : ∀ a, OkE K (Γ.set k (.pd (moR (md Γ k)) a)) r f t) : OkE K Γ r (pinF k f) t := fun G H0 own env σ H Q d R q c => by
  obtain ⟨⟨x, e1⟩, q⟩ := pinF_ok q
  obtain ⟨a, vs, n0, ho, hH, R'⟩ := R.pin hm e1
  refine h a G _ _ env σ H Q d R' q fun v H' s p => c v H' s ?_
  have := pin_back (r := r) (vs := vs) (ex := []) (H' := H') R.gs n0 ho R.inj
  rw [List.append_nil, List.append_nil] at this
  exact dp_mono this _ _ p
theorem ok_pinT {f : SE → Option Bool} {t : TT} (hm : isM (md Γ k) = true) (h : ∀ a, OkT K (Γ.set k (.pd (moR (md Γ k)) a)) f t) : OkT K Γ (pinF k f) t := fun G H0 own env σ H Q d R q c => by
  obtain ⟨⟨x, e1⟩, q⟩ := pinF_ok q
  obtain ⟨a, vs, n0, ho, hH, R'⟩ := R.pin hm e1
  exact h a G _ _ env σ H Q d R' q c
theorem ok_pinL {f : SE → Option (List D)} {t : TE} (hm : isM (md Γ k) = true) (h : ∀ a, OkL K (Γ.set k (.pd (moR (md Γ k)) a)) r f t) : OkL K Γ r (pinF k f) t := fun G H0 own env σ H Q d R q c => by
  obtain ⟨⟨x, e1⟩, q⟩ := pinF_ok q
  obtain ⟨a, vs, n0, ho, hH, R'⟩ := R.pin hm e1
  refine h a G _ _ env σ H Q d R' q fun v us H' s n e p => c v us H' s n e ?_
  exact dps_mono (pin_back R.gs n0 ho R.inj) _ _ p
theorem ret_base {G H0 H0' H : Hp} {v : V} {d : D} (s : Same H0 H0') (p : RetOk K u r G H0' H v d) : RetOk K u r G H0 H v d := by
  cases u with
  | true =>
    obtain ⟨a, vs, ds, h1, h2, h3, h4, h5⟩ := p
    exact ⟨a, vs, ds, h1, h2, s.free h3, h4, dps_mono (rg_base s) _ _ h5⟩
  | false => exact dp_mono (rg_base s) _ _ p
theorem ok_pinS {g : SE → Option Rs} {t : TS} (hm : isM (md Γ k) = true) (hf : Γ.all flat = true) (h : ∀ a, OkS K (Γ.set k (.pd (moR (md Γ k)) a)) u r g t) : OkS K Γ u r (pinF k g) t := fun G H0 own env σ H D res R z p => by
  obtain ⟨⟨x, e1⟩, z⟩ := pinF_ok z
  obtain ⟨a, vs, n0, ho, hH, R'⟩ := R.pin hm e1
  refine h a G _ _ env σ H D res R' z ?_
  have gr : ∀ own' H', Gr (own.set k none) H own' H' → Same (upd H0 a (.lst vs)) H' → (∀ (i : Nat) (b : Addr), own'[i]? = some (some b) → upd H0 a (.lst vs) b = none) → Gr own H (own'.set k (some a)) H' := fun own' H' g s fr b o nb e => by
    obtain ⟨h1, h2⟩ := g b o (fun z => nb (let ⟨j, _, q⟩ := ow_unset z; ⟨j, q⟩)) e
    exact ⟨fun z => (ow_of_set z).elim h1 fun q => nb (q ▸ ⟨k, ho⟩), h2⟩
  cases res with
  | nx e => exact fun own' σ' H' R2 g => p _ σ' H' (R2.unpin R.gs n0 hm hf) (gr own' H' g R2.ex fun i b q => (R2.fr i b q).1)
  | bk e => exact fun own' σ' H' R2 g => p _ σ' H' (R2.unpin R.gs n0 hm hf) (gr own' H' g R2.ex fun i b q => (R2.fr i b q).1)
  | ct e => exact fun own' σ' H' R2 g => p _ σ' H' (R2.unpin R.gs n0 hm hf) (gr own' H' g R2.ex fun i b q => (R2.fr i b q).1)
  | rt d => exact fun v H' s q => p v H' ((same_new n0).trans s) (ret_base (same_new n0) q)
end
section
variable {X : Cx} {Γ : List Md} {u : Bool} {r : Rl} {e tg : Expr} {st : Stmt} {x : Str} {pos : Pos}
theorem v_pin (k : Nat) {f : SE → Option D} {t : TE} (h : ∀ a, VE X (Γ.set k (.pd (moR (md Γ k)) a)) e r f t) (hm : isM (md Γ k) = true := by rfl) : VE X Γ e r (pinF k f) t := ⟨(h 0).pe, ok_pinE hm fun a => (h a).ok⟩
theorem vt_pin (k : Nat) {f : SE → Option Bool} {t : TT} (h : ∀ a, VT X (Γ.set k (.pd (moR (md Γ k)) a)) e f t) (hm : isM (md Γ k) = true := by rfl) : VT X Γ e (pinF k f) t := ⟨(h 0).pt, ok_pinT hm fun a => (h a).ok⟩
theorem vl_pin (k : Nat) {f : SE → Option (List D)} {t : TE} (h : ∀ a, VL X (Γ.set k (.pd (moR (md Γ k)) a)) e r f t) (hm : isM (md Γ k) = true := by rfl) : VL X Γ e r (pinF k f) t := ⟨(h 0).pe, ok_pinL hm fun a => (h a).ok⟩
theorem vs_pin (k : Nat) {g : SE → Option Rs} {t : TS} (h : ∀ a, VS X (Γ.set k (.pd (moR (md Γ k)) a)) u r st g t) (hm : isM (md Γ k) = true := by rfl) (hf : Γ.all flat = true := by rfl) : VS X Γ u r st (pinF k g) t := ⟨(h 0).ps, ok_pinS hm hf fun a => (h a).ok⟩
theorem vi_listB (k : Nat) {a : Addr} (hm : md Γ k = .pd r a := by rfl) (hN : X.N[k]? = some x := by rfl) (hv : Vis X.env.scope x := by first | exact Or.inl rfl | exact Or.inr (Or.inl rfl) | exact Or.inr (Or.inr rfl)) (hd : (x == ("__debug__" : Str)) = false := by decide)
    (hcd : (x == ("__classdict__" : Str)) = false := by decide) : VI X Γ tg (.Name x pos) (pr r) (iL (dV k)) (iList X.K (tVar k)) := ⟨pi_list (pe_var hN hv hd hcd), fun G H0 own env σ H R ds E z c => by
  unfold iL at z
  cases e1 : dV k env with
  | none => rw [e1] at z; cases z
  | some x =>
    rw [e1] at z
    simp only [Option.bind_some] at z
    obtain ⟨v, h1, h2⟩ := E.sl k _ (dV_get e1)
    rw [hm] at h2
    obtain ⟨rfl, vs, es, h3, rfl, hd⟩ := h2
    cases z
    refine ⟨_, h1, _, rfl, ⟨_, SqL.of (E.ex _ _ h3)⟩, c _ H (Same.refl H) fun own2 H2 gr s0 _ => ?_⟩
    have hs2 := SqL.of (K := X.K) (s0 _ _ h3)
    have hd2 := dps_mono (rg_gr gr pr_bo) _ _ hd
    refine ⟨fun i d hi => ?_, ⟨_, hs2, by rw [dps_len hd2]; exact Nat.le_refl _⟩⟩
    obtain ⟨w, g1, g2⟩ := dps_get hd2 hi
    refine ⟨⟨_, w, hs2, g1⟩, fun y H' hy => ?_⟩
    obtain ⟨rfl, hy⟩ := hy
    have e : y = w := Option.some.inj ((hy _ hs2).symm.trans g1)
    rw [e]
    exact ⟨Same.refl _, g2⟩⟩
/-- a statement that is not come to -/
theorem vs_never : VS X Γ u r st (fun _ => none) (fun _ _ _ => False) := ⟨⟨fun pins s σ H D I h => h.elim⟩, fun G H0 own env σ H D res R z p => by cases z⟩
end

/-! ### min of a list of alike data -/
section
open PySem.W PySem.SeqAt
variable {prog : Program} {w : World} {A : Around} {E : Value → Shared → Prop} {s : Shared}
theorem min_at {l : Addr} {vs : Array Value} {x : PyData} {xs : List PyData} {as : List Addr} {Q : Value → Shared → Prop} (hh : A.handled = none) (hl : s.heap.IsList l vs) (hr : ReadsAll s.heap vs.toList (x :: xs) as) (ha : AlikeAll (x :: xs)) (hu : A.units + 1 + PyData.depthAll (x :: xs) < cLine)
    (h : ∀ (i : Nat) v h' tk, vs[i]? = some v → (x :: xs).getD i .none = minD x xs → (∀ b o, s.heap.get? b = some o → h'.get? b = some o) → Q v { s with heap := h', toks := tk }) :
    wpAny (model prog w) A (call (.builtin "min") [.ref l]) Q E s := by
  have hn : vs.size = xs.length + 1 := readsAll_len hr
  refine call_min_walkH (iter_listW (A := A.in1) hh hl fun s₂ e W st hfp hw hk => ?_)
  refine ⟨_, _, _, _, _, _, _, s.heap, _, rfl, W, st, hfp, by omega, hw, hk, cmpIn_lt (A := A.in1) hr ha (by show A.units + 1 + _ < _; exact hu), fun v s' hP m => ?_⟩
  obtain ⟨h', tk, rfl, hk'⟩ := moved_old e rfl m
  have e1 : vs.size - 1 = xs.length := by omega
  have e2 := (argBest_fold dataLt PyData.none x xs xs.length (Nat.le_refl _)).2
  rw [List.take_length] at e2
  rw [e1] at hP
  exact h _ v h' tk hP (by unfold minD; rw [← e2]) hk'
end
def alB (xs : List D) : Bool := xs.all (fun x => xs.all fun y => PySem.W.alike x y) && xs.all (fun x => !isNone x) && decide (PyData.depthAll xs ≤ 32)
def hMinL : List D → Option D
  | [.list (x :: xs)] => if alB (x :: xs) = true then some (PySem.W.minD x xs) else none
  | _ => none
section
variable {X : Cx}
def rMinD (K : PySem.W.Frag) : List V → Hp → VK → Prop := fun vs H Q => ∃ (a : Addr) (us : List V) (x : D) (xs : List D), vs = [V.ref a] ∧ SqL K H a us ∧ DpAll K H us (x :: xs) ∧ alB (x :: xs) = true ∧ ∀ (i : Nat) v, us[i]? = some v → (x :: xs)[i]? = some (PySem.W.minD x xs) → Q v H
theorem cr_minD (hc : X.calm = true) (hu : X.A.units + 64 < cLine) : CallR X (.builtin "min") (rMinD X.K) := by
  intro pins s σ H vs us Q I r h
  obtain ⟨a, ws, x, xs, rfl, hs, hd, hal, q⟩ := h
  obtain ⟨its, rv, hl, _⟩ := I.list hs
  rw [Vals.ref1 r]
  obtain ⟨as, hr⟩ := Dp.readsAll I _ _ its hd rv
  unfold alB at hal
  rw [Bool.and_eq_true, Bool.and_eq_true, decide_eq_true_eq] at hal
  have hA : PySem.W.AlikeAll (x :: xs) := ⟨fun u hu v hv => List.all_eq_true.mp (List.all_eq_true.mp hal.1.1 u hu) v hv, fun u hu e => by
    have := List.all_eq_true.mp hal.1.2 u hu
    rw [e] at this
    cases this⟩
  refine min_at (I.ok.hd hc) hl.isList (show ReadsAll s.heap its.toArray.toList (x :: xs) as from hr) hA (by omega) fun i v h' tk hv hi hk => ?_
  have hv' : its[i]? = some v := by rw [← hv]; simp
  have hlen : its.length = (x :: xs).length := by rw [← rv.length, dps_len hd]
  have hi1 : i < (x :: xs).length := by rw [← hlen]; exact (List.getElem?_eq_some_iff.mp hv').1
  have hw1 : i < ws.length := by rw [rv.length, hlen]; exact hi1
  obtain ⟨u, hu1, ru⟩ := rv.get (List.getElem?_eq_getElem hw1)
  rw [hv'] at hu1
  cases hu1
  refine ⟨_, H, I.kept hk, ru, q i _ (List.getElem?_eq_getElem hw1) ?_⟩
  rw [← hi, List.getD_eq_getElem?_getD, List.getElem?_eq_getElem hi1]
  rfl
end
section
variable {X : Cx} {Γ : List Md} {r rb : Rl} {e a b : Expr} {es : List Expr} {f g : SE → Option D} {fs : SE → Option (List D)} {ts : TA} {t ta tb : TE} {p pos : Pos} {x : Str}
theorem v_minD (hc : X.calm = true) (hu : X.A.units + 64 < cLine) (hm : X.mg "min" = none) (ha : VA X Γ [a] r fs ts) (hg : Gl X "min" := by rfl)
    (he : starEach [a] X.env = (false, eval a X.env) :: starEach [] X.env := by rfl) (hpl : (backTo pos (starEach [] X.env)).any (·.1) = false := by rfl) : VE X Γ (.Call (.Name "min" p) [a] [] pos) r (dA hMinL fs) (tCB (rMinD X.K) ts) :=
  ⟨pe_callB (cr_minD hc hu) hg hm (by decide +kernel) ha.pa (by decide) (by decide) he hpl, fun G H0 own env σ H Q d R z k => by
    unfold dA at z
    cases e1 : fs env with
    | none => rw [e1] at z; cases z
    | some y =>
      rw [e1] at z
      simp only [Option.bind_some] at z
      match y, e1, z with
      | [.list (x :: xs)], e1, z =>
        have z : (if alB (x :: xs) = true then some (PySem.W.minD x xs) else none) = some d := z
        obtain ⟨hal, rfl⟩ := ite_some z
        refine ha.ok G H0 own env σ H _ _ R e1 fun vs H1 s1 c => ?_
        match vs, c with
        | _, .cons (.lst hs hd) .nil =>
          refine ⟨_, _, x, xs, rfl, rg_sub.seq hs, dps_mono rg_sub _ _ hd, hal, fun i v hv hi => k v H1 s1 ?_⟩
          obtain ⟨v', e1, e2⟩ := dps_get hd hi
          rw [hv] at e1
          cases e1
          exact e2⟩
end
/-! ### list(range(..)) -/
def rgD (i j : Int) : List D := rangeD i (j - i).toNat
def hRg1 (x : List D) : Option (List D) := match x with
  | [.int j] => if -1000000 < j ∧ j < 1000000 then some (rangeD 0 j.toNat) else none
  | _ => none
theorem rgV_dps {K : PySem.W.Frag} {H : Hp} (j : Int) : DpAll K H (rgV 0 j) (rangeD 0 j.toNat) := by
  refine dps_of_get (by rw [rgV_length]; unfold rangeD; simp) fun m d' e => ?_
  unfold rangeD at e
  rw [List.getElem?_map] at e
  cases q : (List.range j.toNat)[m]? with
  | none => rw [q] at e; cases e
  | some k =>
    rw [q] at e
    cases e
    obtain ⟨h1, h2⟩ := List.getElem?_eq_some_iff.mp q
    rw [List.getElem_range] at h2
    subst h2
    rw [List.length_range] at h1
    refine ⟨.int (0 + (m : Nat)), ?_, .int _⟩
    unfold rgV
    rw [List.getElem?_map, List.getElem?_range (by omega)]
    rfl
section
variable {X : Cx} {Γ : List Md} {r rb : Rl} {e a b : Expr} {f g : SE → Option D} {fs : SE → Option (List D)} {ts : TA} {t ta tb : TE} {p p2 pos pos2 : Pos} {x : Str}
def lRng (f : SE → Option D) (e : SE) : Option (List D) := (f e).bind fun x => hRg1 [x]
theorem vl_rng (hc : X.calm = true) (hm : X.mg "list" = none) (hm2 : X.mg "range" = none) (ha : VE X Γ a r f ta) (hg : Gl X "list" := by rfl) (hg2 : Gl X "range" := by rfl) (na : starEach [a] X.env = (false, eval a X.env) :: starEach [] X.env := by rfl)
    (na2 : starEach [.Call (.Name "range" p2) [a] [] pos2] X.env = (false, eval (.Call (.Name "range" p2) [a] [] pos2) X.env) :: starEach [] X.env := by rfl) :
    VL X Γ (.Call (.Name "list" p) [.Call (.Name "range" p2) [a] [] pos2] [] pos) .nw (lRng f) (tLstRg (tRg1 ta)) := ⟨pe_listRg hc hg hm (prg_1 hg2 hm2 ha.pe na) na2, fun G H0 own env σ H Q ds R z k => by
  unfold lRng at z
  cases e1 : f env with
  | none => rw [e1] at z; cases z
  | some y =>
    rw [e1] at z
    simp only [Option.bind_some] at z
    cases y with
    | int j =>
      simp only [hRg1] at z
      by_cases q : -1000000 < j ∧ j < 1000000
      · rw [if_pos q] at z
        cases z
        refine ha.ok G H0 own env σ H _ _ R e1 fun v H1 s1 c => ?_
        cases c
        refine ⟨j, rfl, ⟨by omega, by omega, by omega, by omega, by omega⟩, fun w hw => k w _ _ (s1.trans (same_new hw)) (s1.free hw) upd_same (rgV_dps j)⟩
      · rw [if_neg q] at z; cases z
    | _ => cases z⟩
end
/-! ### sorted of pairs of numbers -/
def pairs? : List D → Option (List (Int × Int))
  | [] => some []
  | .tuple [.int a, .int b] :: r => (pairs? r).map ((a, b) :: ·)
  | _ => none
def pD (p : Int × Int) : D := .tuple [.int p.1, .int p.2]
theorem pairs_is : ∀ {ds : List D} {ps : List (Int × Int)}, pairs? ds = some ps → ds = ps.map pD
  | [], _, h => by cases h; rfl
  | d :: r, ps, h => by
    unfold pairs? at h
    split at h
    · rename_i h1; cases h1
    · rename_i a b r' h1
      cases h1
      cases e : pairs? r with
      | none => rw [e] at h; cases h
      | some qs =>
        rw [e] at h
        cases h
        rw [List.map_cons, pairs_is e]
        rfl
    · cases h
theorem pairs_map : ∀ ps : List (Int × Int), pairs? (ps.map pD) = some ps
  | [] => rfl
  | p :: ps => by
    rw [List.map_cons]
    show (pairs? (ps.map pD)).map ((p.1, p.2) :: ·) = _
    rw [pairs_map ps]
    rfl
def leP (p q : Int × Int) : Bool := decide (p.1 < q.1 ∨ (p.1 = q.1 ∧ p.2 ≤ q.2))
def sortP (ps : List (Int × Int)) : List (Int × Int) := ps.mergeSort leP
theorem sortP_unique {ps qs : List (Int × Int)} (h1 : qs.Perm ps) (h2 : qs.Pairwise (fun p q => leP p q = true)) : qs = sortP ps := by
  have p : (sortP ps).Perm ps := List.mergeSort_perm _ _
  have s : (sortP ps).Pairwise (fun p q => leP p q = true) := List.pairwise_mergeSort (le := leP) (fun a b c h1 h2 => by unfold leP at *; simp only [decide_eq_true_eq] at *; omega) (fun a b => by unfold leP; simp only [Bool.or_eq_true, decide_eq_true_eq]; omega) ps
  refine List.Perm.eq_of_pairwise (fun a b _ _ h1 h2 => ?_) h2 s (h1.trans p.symm)
  unfold leP at h1 h2
  simp only [decide_eq_true_eq] at h1 h2
  exact Prod.ext (by omega) (by omega)
def rSortedPQ (K : PySem.W.Frag) : List V → Hp → VK → Prop := fun vs H Q => ∃ (a : Addr) (xs : List V) (ps : List (Int × Int)), vs = [V.ref a] ∧ SqL K H a xs ∧ xs.length = ps.length ∧ (∀ (i : Nat) x q, xs[i]? = some x → ps[i]? = some q → ∃ t, x = V.ref t ∧ SqT K H t [.int q.1, .int q.2]) ∧
  ∀ ys p, ys.length = ps.length → (∀ (m : Nat) y, ys[m]? = some y → ∃ i : Nat, xs[i]? = some y ∧ ps[i]? = (sortP ps)[m]?) → H p = none → Q (.ref p) (upd H p (.lst ys))
open Classical in
theorem cr_sortedPQ {X : Cx} : CallR X (.builtin "sorted") (rSortedPQ X.K) := by
  intro pins s σ H vs us Q I r h
  obtain ⟨a, xs, ps, rfl, hs, hlen, hx, q⟩ := h
  let k : V → Int × Int := fun v => if h : ∃ q : Int × Int, ∃ t, v = V.ref t ∧ SqT X.K H t [.int q.1, .int q.2] then Classical.choose h else (0, 0)
  have hk : ∀ (i : Nat) x q, xs[i]? = some x → ps[i]? = some q → k x = q := fun i x q h1 h2 => by
    obtain ⟨t, rfl, ht⟩ := hx i x q h1 h2
    have h : ∃ q : Int × Int, ∃ t', V.ref t = V.ref t' ∧ SqT X.K H t' [.int q.1, .int q.2] := ⟨q, t, rfl, ht⟩
    show (if h : ∃ q : Int × Int, ∃ t', V.ref t = V.ref t' ∧ SqT X.K H t' [.int q.1, .int q.2] then Classical.choose h else (0, 0)) = q
    rw [dif_pos h]
    obtain ⟨t', e, h3⟩ := Classical.choose_spec h
    cases e
    have e2 := I.tuple_inj ht h3
    generalize Classical.choose h = q' at e2
    simp only [List.cons.injEq, V.int.injEq] at e2
    exact Prod.ext e2.1.symm e2.2.1.symm
  have at' : ∀ (i : Nat) x, xs[i]? = some x → ∃ q, ps[i]? = some q := fun i x h1 => by
    have := (List.getElem?_eq_some_iff.mp h1).1
    exact ⟨ps[i], List.getElem?_eq_getElem (by omega)⟩
  have hx' : ∀ x ∈ xs, ∃ t, x = V.ref t ∧ SqT X.K H t [.int (k x).1, .int (k x).2] := fun x hm => by
    obtain ⟨i, hi⟩ := List.getElem?_of_mem hm
    obtain ⟨q, hq⟩ := at' i x hi
    rw [hk i x q hi hq]
    exact hx i x q hi hq
  have hmap : xs.map k = ps := by
    refine List.ext_getElem? fun i => ?_
    rw [List.getElem?_map]
    cases e : xs[i]? with
    | none =>
      have := List.getElem?_eq_none_iff.mp e
      rw [List.getElem?_eq_none (by omega)]
      rfl
    | some x =>
      obtain ⟨q, hq⟩ := at' i x e
      rw [hq, ← hk i x q e hq]
      rfl
  obtain ⟨its, rv, hl, hz⟩ := I.list hs
  obtain ⟨u, rfl, ru⟩ := vals1 r
  obtain rfl : u = Value.ref a := ru
  obtain ⟨e1, e2⟩ := refs_back rv fun x m => by
    obtain ⟨t, e, _⟩ := hx' x m
    exact ⟨t, e⟩
  refine SrtO.sorted_pairsO (k := fun u => k (backV u)) hl.isList (by rw [← rv.length]; exact hz) (fun v hv => ?_) fun h' d out h1 h2 kp hd hn => ?_
  · obtain ⟨t, rfl⟩ := e2 v hv
    have hm : V.ref t ∈ xs := by rw [e1]; exact List.mem_map.mpr ⟨_, hv, rfl⟩
    obtain ⟨t', e, ht⟩ := hx' _ hm
    cases e
    obtain ⟨its2, r2, ⟨o, ho, hc, n, hd⟩, _⟩ := I.tuple ht
    obtain ⟨u1, u2, rfl, ri, rj⟩ := vals2 r2
    obtain ⟨t1, rfl⟩ := ri
    obtain ⟨t2, rfl⟩ := rj
    exact ⟨t, o, t1, t2, n, rfl, ho, hc, hd⟩
  · have h3 : ∀ u ∈ out, ∃ a, u = Value.ref a := fun u hu => e2 u (h2.perm.mem_iff.mp hu)
    obtain ⟨n, hn⟩ := hn
    have hb : SrtO.Stb (ltP k) (out.map backV) xs := by
      rw [e1]
      exact SrtO.Stb.map (ltP_swo k) backV h2
    have hsd : SrtO.Srtd (ltP k) (out.map backV) := SrtO.srtd_map h1
    have hq : (out.map backV).map k = sortP ps := by
      refine sortP_unique ?_ ?_
      · rw [← hmap]
        exact hb.perm.map k
      · refine List.pairwise_map.mpr (List.Pairwise.imp ?_ hsd)
        intro x y hxy
        have := SrtO.lexB_no.mp hxy
        unfold leP
        rw [decide_eq_true_eq]
        omega
    refine ⟨.ref d, upd H d (.lst (out.map backV)), I.laid (t' := s.toks) kp hd ⟨?_, out, n, vals_back h3, hn⟩, rfl, q _ d (by rw [hb.len, hlen]) (fun m y hy => ?_) (I.hok.fresh hd)⟩
    · rw [hb.len]
      exact hz
    · obtain ⟨i, hi⟩ := List.getElem?_of_mem (hb.perm.mem_iff.mp (List.mem_of_getElem? hy))
      obtain ⟨p, hp⟩ := at' i y hi
      refine ⟨i, hi, ?_⟩
      rw [← hq, List.getElem?_map, hy, hp, ← hk i y p hi hp]
      rfl
def lSortP (f : SE → Option D) (e : SE) : Option (List D) := (f e).bind fun x => (list? x).bind fun xs => (pairs? xs).bind fun ps => some ((sortP ps).map pD)
section
variable {X : Cx} {Γ : List Md} {r : Rl} {a : Expr} {f : SE → Option D} {ta : TE} {p pos : Pos}
open Classical in
theorem vl_sortP (hm : X.mg "sorted" = none) (ha : VE X Γ a r f ta) (hg : Gl X "sorted" := by rfl) (he : starEach [a] X.env = (false, eval a X.env) :: starEach [] X.env := by rfl) (hpl : (backTo pos (starEach [] X.env)).any (·.1) = false := by rfl) :
    VL X Γ (.Call (.Name "sorted" p) [a] [] pos) r (lSortP f) (tCB (rSortedPQ X.K) (tCons ta tNil)) :=
  ⟨pe_callB cr_sortedPQ hg hm (by decide +kernel) (pa_cons ha.pe pa_nil he) (by decide) (by decide) he hpl, fun G H0 own env σ H Q ds R z c => by
    unfold lSortP at z
    cases e1 : f env with
    | none => rw [e1] at z; cases z
    | some x =>
      rw [e1] at z
      simp only [Option.bind_some] at z
      cases x with
      | list xs =>
        simp only [list?, Option.bind_some] at z
        cases e2 : pairs? xs with
        | none => rw [e2] at z; cases z
        | some ps =>
          rw [e2] at z
          cases z
          refine ha.ok G H0 own env σ H _ _ R e1 fun v H1 s1 p1 => ?_
          cases p1 with
          | lst hs hd =>
            rename_i a0 vs0
            rw [pairs_is e2] at hd
            have hl := dps_len hd
            rw [List.length_map] at hl
            refine ⟨a0, vs0, ps, rfl, rg_sub.seq hs, hl, fun i x q hx hq => ?_, fun ys q h1 h2 hq => ?_⟩
            · obtain ⟨d, g1, g2⟩ := dps_at hd hx
              rw [List.getElem?_map, hq] at g1
              cases g1
              cases g2 with
              | tup hs2 hd2 =>
                cases hd2 with
                | cons h1 h2 =>
                  cases h1
                  cases h2 with
                  | cons h3 h4 =>
                    cases h3
                    cases h4
                    exact ⟨_, rfl, same_t rg_sub hs2⟩
            · have hs3 : (sortP ps).length = ps.length := (List.mergeSort_perm _ _).length_eq
              refine c q ys _ (s1.trans (same_new hq)) (s1.free hq) upd_same (rg_new hq (dps_of_get (by rw [List.length_map, h1, hs3]) fun m d' e => ?_))
              rw [List.getElem?_map] at e
              cases q2 : (sortP ps)[m]? with
              | none => rw [q2] at e; cases e
              | some w =>
                rw [q2] at e
                cases e
                have hm : m < ys.length := by rw [h1, ← hs3]; exact (List.getElem?_eq_some_iff.mp q2).1
                obtain ⟨i, hi1, hi2⟩ := h2 m _ (List.getElem?_eq_getElem hm)
                rw [q2] at hi2
                obtain ⟨v', g1, g2⟩ := dps_get hd (i := i) (d := pD w) (by rw [List.getElem?_map, hi2]; rfl)
                rw [hi1] at g1
                cases g1
                exact ⟨_, List.getElem?_eq_getElem hm, g2⟩
      | _ => cases z⟩
end
/-! ### a list whose last item is a list of one's own -/
section
variable {K : PySem.W.Frag} {Γ : List Md} {G H0 H H' : Hp} {own own' : List (Option Addr)} {env : SE} {σ : L2.St} {i k : Nat} {v : V} {d : D} {m : Md} {r : Rl}
/-- a new list at slot i's place among one's own; the slot holds nothing yet -/
theorem ER.renew {p : Addr} {o : HO} (R : ER K Γ G H0 own env σ H) (hi : i < σ.length) (n : H p = none) : ER K Γ G H0 (own.set i (some p)) (env.set i none) σ (upd H p o) ∧ Gr own H (own.set i (some p)) (upd H p o) := by
  have s : Same H (upd H p o) := same_new n
  have hl : i < own.length := Nat.lt_of_lt_of_le hi R.ol
  have n0 : H0 p = none := R.new n
  have nO : ¬ Ow own p := R.live n
  refine ⟨⟨R.gs, R.ex.trans s, fun j k b hj hk => ?_, fun j b hj => ?_, by rw [List.length_set]; exact R.le, by rw [List.length_set]; exact R.ol, fun j d hj => ?_⟩, fun b o nb e => ⟨fun z => (ow_of_set z).elim nb fun q => ?_, s _ _ e⟩⟩
  · have key : ∀ j, (own.set i (some p))[j]? = some (some b) → (j = i ∧ b = p) ∨ (j ≠ i ∧ own[j]? = some (some b)) := fun j hj => by
      by_cases q : i = j
      · subst q
        rw [List.getElem?_set_self hl] at hj
        cases hj
        exact .inl ⟨rfl, rfl⟩
      · rw [List.getElem?_set_ne q] at hj
        exact .inr ⟨fun z => q z.symm, hj⟩
    rcases key j hj with ⟨j1, b1⟩ | ⟨j1, b1⟩ <;> rcases key k hk with ⟨k1, c1⟩ | ⟨k1, c1⟩
    · rw [j1, k1]
    · subst b1
      exact absurd ⟨k, c1⟩ nO
    · subst c1
      exact absurd ⟨j, b1⟩ nO
    · exact R.inj j k b b1 c1
  · by_cases q : i = j
    · subst q
      rw [List.getElem?_set_self hl] at hj
      cases hj
      exact ⟨n0, _, upd_same⟩
    · rw [List.getElem?_set_ne q] at hj
      obtain ⟨h1, o, h2⟩ := R.fr j b hj
      exact ⟨h1, o, s _ _ h2⟩
  · by_cases q : i = j
    · subst q
      by_cases hl2 : i < env.length
      · rw [List.getElem?_set_self hl2] at hj; cases hj
      · rw [List.getElem?_eq_none (by rw [List.length_set]; omega)] at hj; cases hj
    · rw [List.getElem?_set_ne q] at hj
      obtain ⟨w, h1, h2⟩ := R.sl j d hj
      refine ⟨w, h1, ?_⟩
      have sub : ∀ {rr : Rl}, rr ≠ .bo → Same (rg rr G H0 own H) (rg rr G H0 (own.set i (some p)) (upd H p o)) := fun {rr} hr => rg_gr (fun b o nb e => ⟨fun z => (ow_of_set z).elim nb fun q => (by rw [q, n] at e; cases e), s _ _ e⟩) hr
      exact h2.step sub fun b hb => ⟨by rw [List.getElem?_set_ne q]; exact hb, fun o => s _ _⟩
  · rw [q, n] at e; cases e
theorem rg_set {p : Addr} {o : HO} (n : H p = none) (hr : r ≠ .bo) : Same (rg r G H0 own H) (rg r G H0 (own.set i (some p)) (upd H p o)) := rg_gr (fun b o nb e => ⟨fun z => (ow_of_set z).elim nb fun q => (by rw [q, n] at e; cases e), same_new n _ _ e⟩) hr
end
def OkP (K : PySem.W.Frag) (Γ : List Md) (f : SE → Option (List D)) (t : TA) : Prop :=
  ∀ (G H0 : Hp) (own : List (Option Addr)) (env : SE) (σ : L2.St) (H : Hp) (Q : List V → Hp → Prop) (ds : List D), ER K Γ G H0 own env σ H → f env = some ds →
    (∀ vs H1 p, Same H H1 → DpAll K (rg .od G H0 own H1) vs ds → H1 p = none → Q (vs ++ [.ref p]) (upd H1 p (.lst []))) → t σ H Q
structure VP (X : Cx) (Γ : List Md) (es : List Expr) (f : SE → Option (List D)) (t : TA) : Prop where
  pa : PA X es t
  ln : ∀ env ds, f env = some ds → ds.length + 1 = es.length
  ok : OkP X.K Γ f t
def sSetP (i n : Nat) (f : SE → Option (List D)) (e : SE) : Option Rs := (f e).bind fun ds => if ds.length = n ∧ i < e.length then some (.nx (e.set i (some (.list (ds ++ [.list []]))))) else none
def setPK (i n : Nat) (e : SE) (ds : List D) : Option Rs := if ds.length = n ∧ i < e.length then some (.nx (e.set i (some (.list (ds ++ [.list []]))))) else none
def isMp : Md → Nat → Bool
  | .mp j, n => j == n
  | _, _ => false
theorem isMp_is {m : Md} {n : Nat} (h : isMp m n = true) : m = .mp n := by
  cases m with
  | mp j => exact congrArg Md.mp (beq_iff_eq.mp h)
  | _ => cases h
section
variable {X : Cx} {Γ : List Md} {u : Bool} {r ra re : Rl} {a e : Expr} {es : List Expr} {f : SE → Option D} {fs : SE → Option (List D)} {t te : TE} {ts : TA} {x : Str} {pos pos' px apos cpos spos ipos : Pos}
theorem vp_one : VP X Γ [.List [] pos] dNil (tCons (tLst tNil) tNil) := ⟨pa_cons (pe_lst pa_nil) pa_nil, fun env ds z => by cases z; rfl, fun G H0 own env σ H Q ds R z k => by
  cases z
  exact ⟨Nat.zero_le _, fun p hp => k [] H p (Same.refl H) .nil hp⟩⟩
theorem vp_cons (ha : VE X Γ a .od f t) (hb : VP X Γ es fs ts) (hs : starEach (a :: es) X.env = (false, eval a X.env) :: starEach es X.env := by rfl) : VP X Γ (a :: es) (dCons f fs) (tCons t ts) := ⟨pa_cons ha.pe hb.pa hs, fun env ds z => by
  unfold dCons at z
  cases e1 : f env with
  | none => rw [e1] at z; cases z
  | some x =>
    cases e2 : fs env with
    | none => rw [e1, e2] at z; cases z
    | some y =>
      rw [e1, e2] at z
      cases z
      rw [List.length_cons, List.length_cons, ← hb.ln env y e2], fun G H0 own env σ H Q d R z k => by
  unfold dCons at z
  cases e1 : f env with
  | none => rw [e1] at z; cases z
  | some x =>
    cases e2 : fs env with
    | none => rw [e1, e2] at z; cases z
    | some y =>
      rw [e1, e2] at z
      cases z
      refine ha.ok G H0 own env σ H _ x R e1 fun v1 H1 s1 p1 => ?_
      refine hb.ok G H0 own env σ H1 _ y (R.ext s1) e2 fun vs H2 p s2 p2 n => ?_
      exact k (v1 :: vs) H2 p (s1.trans s2) (.cons (dp_mono (rg_ext s2) _ _ p1) p2) n⟩
theorem ok_setP {K : PySem.W.Frag} {i n : Nat} (hm : isMp (md Γ i) n = true) (hn : n + 1 ≤ 1000) (ha : OkP K Γ fs ts) : OkS K Γ u r (sSetP i n fs) (tAsg (tLst ts) (gName i)) := fun G H0 own env σ H D' res R z p => by
  unfold sSetP at z
  cases e1 : fs env with
  | none => rw [e1] at z; cases z
  | some ds =>
    rw [e1] at z
    simp only [Option.bind_some] at z
    by_cases q : ds.length = n ∧ i < env.length
    · rw [if_pos q] at z
      cases z
      refine ha G H0 own env σ H _ ds R e1 fun vs H1 a s1 hv na => ?_
      have hl := dps_len hv
      refine ⟨by rw [List.length_append, List.length_singleton, hl, q.1]; exact Nat.le_trans hn (by decide), fun b hb => ?_⟩
      have hi : i < σ.length := by rw [← R.le]; exact q.2
      obtain ⟨R1, g1⟩ := (R.ext s1).renew (o := .lst []) hi na
      have hne : b ≠ a := fun z => by rw [z, upd_same] at hb; cases hb
      have s2 := same_new (o := .lst (vs ++ [.ref a])) hb
      have R2 := R1.ext s2
      have hown : (own.set i (some a))[i]? = some (some a) := List.getElem?_set_self (Nat.lt_of_lt_of_le hi R.ol)
      have nb : ¬ Ow (own.set i (some a)) b := R1.live hb
      have hv2 : DpAll K (rg .od G H0 (own.set i (some a)) (upd (upd H1 a (.lst [])) b (.lst (vs ++ [.ref a])))) vs ds := dps_mono ((rg_set na (by intro z; cases z)).trans (rg_ext s2)) _ _ hv
      have so : SlotOk K (md Γ i) G H0 (own.set i (some a)) (upd (upd H1 a (.lst [])) b (.lst (vs ++ [.ref a]))) i (.ref b) (.list (ds ++ [.list []])) := by
        rw [isMp_is hm]
        refine ⟨b, a, vs ++ [.ref a], [], ds ++ [.list []], [], rfl, rg_iff.mpr ⟨⟨nb, R1.new hb, trivial⟩, upd_same⟩, ?_, hown, by rw [upd_ne (Ne.symm hne)]; exact upd_same, .nil, rfl, by rw [List.length_append, List.length_append, hl]; rfl, ?_, fun m d' hm' hd => ?_⟩
        · rw [← q.1, ← hl]; simp
        · rw [← q.1]; simp
        · by_cases hlt : m < ds.length
          · rw [List.getElem?_append_left hlt] at hd
            obtain ⟨v', g1, g2⟩ := dps_get hv2 hd
            exact ⟨v', by rw [List.getElem?_append_left (by rw [hl]; exact hlt)]; exact g1, g2⟩
          · have := (List.getElem?_eq_some_iff.mp hd).1
            rw [List.length_append, List.length_singleton] at this
            omega
      have R3 := R2.put i _ _ so
      rw [List.set_set] at R3
      exact p _ _ _ R3 (((Gr.of s1).trans g1).trans (Gr.of s2))
    · rw [if_neg q] at z; cases z
theorem vs_setP (i n : Nat) (hN : X.N.Nodup) (ha : VP X Γ es fs ts) (hm : isMp (md Γ i) n = true := by rfl) (hn : n + 1 ≤ 1000 := by decide) (hi : X.N[i]? = some x := by rfl) (hx : Loc X.env.scope x := by first | exact Or.inl rfl | exact Or.inr rfl) (hs : swapsWith (.List es spos) (some (.Name x pos')) pos.line X.env = pure false := by rfl)
    (hf : X.fn x = true ∨ X.env.scope.names.lookup x = some .local := by first | exact .inl rfl | exact .inr rfl) : VS X Γ u r (.Assign [.Name x pos'] (.List es spos) pos) (sSetP i n fs) (tAsg (tLst ts) (gName i)) := ⟨ps_set hN hi hx (pe_lst ha.pa) hs hf, ok_setP hm hn ha.ok⟩
end
/-- x[j].append(e) -/
def appPK4 (k j : Nat) (e : SE) (ds es' : List D) : Option Rs := some (.nx (e.set k (some (.list (ds.set j (.list es'))))))
def appPK3 (k j : Nat) (e : SE) (ds as : List D) (y : D) : Option Rs := (list? y).bind fun es => (hApp es as).bind (appPK4 k j e ds)
def appPK2 (k j : Nat) (e : SE) (ds as : List D) : Option Rs := (ds[j]?).bind (appPK3 k j e ds as)
def appPK1 (k j : Nat) (fs : SE → Option (List D)) (e : SE) (ds : List D) : Option Rs := (fs e).bind (appPK2 k j e ds)
def appPK (k j : Nat) (fs : SE → Option (List D)) (e : SE) (x : D) : Option Rs := (list? x).bind (appPK1 k j fs e)
def sAppP (k j : Nat) (fs : SE → Option (List D)) (e : SE) : Option Rs := (dV k e).bind (appPK k j fs e)
section
variable {X : Cx} {Γ : List Md} {u : Bool} {r ra re : Rl} {a e : Expr} {es : List Expr} {f : SE → Option D} {fs : SE → Option (List D)} {t te : TE} {ts : TA} {x : Str} {pos pos' px apos cpos spos ipos : Pos} {jj : Int} {kk : Nat}
theorem ok_appP {K : PySem.W.Frag} {k j : Nat} (hm : isMp (md Γ k) j = true) (hc : accE ra .od = true) (ha : OkA K Γ ra fs ts) :
    OkS K Γ u r (sAppP k j fs) (fun D σ H => (tBM K "list" rAppend (tOp (rIxL K) (tVar k) (tC (.int (j : Nat)))) ts) σ H fun _ H1 => D.nx σ H1) := fun G H0 own env σ H D' res R z p => by
  unfold sAppP at z
  cases e1 : dV k env with
  | none => rw [e1] at z; cases z
  | some y =>
    rw [e1] at z
    simp only [Option.bind_some, appPK] at z
    cases e2 : list? y with
    | none => rw [e2] at z; cases z
    | some ds0 =>
      rw [e2] at z
      simp only [Option.bind_some, appPK1] at z
      cases e3 : fs env with
      | none => rw [e3] at z; cases z
      | some as =>
        rw [e3] at z
        simp only [Option.bind_some, appPK2] at z
        cases e4 : ds0[j]? with
        | none => rw [e4] at z; cases z
        | some w =>
          rw [e4] at z
          simp only [Option.bind_some, appPK3] at z
          cases e5 : list? w with
          | none => rw [e5] at z; cases z
          | some es0 =>
            rw [e5] at z
            simp only [Option.bind_some] at z
            cases e6 : hApp es0 as with
            | none => rw [e6] at z; cases z
            | some ys =>
              rw [e6] at z
              simp only [Option.bind_some, appPK4] at z
              cases z
              obtain ⟨v, h1, h2⟩ := R.sl k y (dV_get e1)
              rw [isMp_is hm] at h2
              obtain ⟨b, q, vs, us, ds, es, rfl, g1, g2, g3, g4, g5, rfl, g6, g7, g8⟩ := h2
              cases e2
              rw [g7] at e4
              cases e4
              cases e5
              have hj : j < vs.length := (List.getElem?_eq_some_iff.mp g2).1
              have hb : H b = some (.lst vs) := rg_sub _ _ g1
              refine ⟨_, h1, b, vs, (j : Nat), .ref q, rfl, rfl, SqL.of hb, by rw [atI_in (by omega) (by omega), Int.toNat_natCast]; exact g2, .inl ⟨rfl, us, SqL.of g4⟩, ha G H0 own env σ H _ as R e3 fun ws H1 s1 c => ?_⟩
              have R1 := R.ext s1
              have g5' := dps_mono (rg_ext s1) _ _ g5
              obtain ⟨us', q1, q2⟩ := mu_app K H1 _ (fun _ H1 => D'.nx σ H1) q us ws _ as ys (s1 _ _ g4) g5' (dps_mono (rg_le (accE_le hc)) _ _ c) e6
              have how : Ow own q := ⟨k, g3⟩
              have gr : Gr own H1 own (upd H1 q (.lst us')) := Gr.chg how
              have hkl : k < σ.length := (List.getElem?_eq_some_iff.mp h1).1
              have R2 := (R1.forget k).chg (o := .lst us') g3 fun d e => by
                rw [List.getElem?_set_self (by rw [R.le]; exact hkl)] at e; cases e
              have sod : Same (rg .od G H0 own H1) (rg .od G H0 own (upd H1 q (.lst us'))) := rg_gr gr (by intro z; cases z)
              have hbq : b ≠ q := fun z => by
                have := (rg_iff.mp g1).1.1
                rw [z] at this
                exact this how
              have so : SlotOk K (md Γ k) G H0 own (upd H1 q (.lst us')) k (.ref b) (.list (ds0.set j (.list ys))) := by
                rw [isMp_is hm]
                refine ⟨b, q, vs, us', ds0.set j (.list ys), ys, rfl, rg_iff.mpr ⟨(rg_iff.mp g1).1, by rw [upd_ne hbq]; exact s1 _ _ hb⟩, g2, g3, upd_same, dps_mono sod _ _ q1, rfl, by rw [List.length_set]; exact g6, by rw [List.getElem?_set_self (by rw [← g6]; exact hj)], fun m d' hm' hd => ?_⟩
                rw [List.getElem?_set_ne (Ne.symm hm')] at hd
                obtain ⟨v', x1, x2⟩ := g8 m d' hm' hd
                exact ⟨v', x1, dp_mono ((rg_ext s1).trans sod) _ _ x2⟩
              have R3 := R2.put k _ _ so
              rw [List.set_set] at R3
              have e : σ.set k (some (.ref b)) = σ := by
                apply List.ext_getElem?
                intro i
                by_cases q : k = i
                · subst q; rw [List.getElem?_set_self hkl, h1]
                · rw [List.getElem?_set_ne q]
              rw [e] at R3
              exact q2 (p own σ _ R3 ((Gr.of s1).trans gr))
theorem vs_appP (k j : Nat) (ha : VA X Γ [e] ra fs ts) (hm : isMp (md Γ k) j = true := by rfl) (hc : accE ra .od = true := by rfl) (hN : X.N[k]? = some x := by rfl) (hv : Vis X.env.scope x := by first | exact Or.inl rfl | exact Or.inr (Or.inl rfl) | exact Or.inr (Or.inr rfl))
    (hd : (x == ("__debug__" : Str)) = false := by decide) (hcd : (x == ("__classdict__" : Str)) = false := by decide)
    (hb : attributeBase (.Subscript (.Name x px) (.Constant (.int (j : Nat)) kk ipos) spos) "append" X.env (eval (.Subscript (.Name x px) (.Constant (.int (j : Nat)) kk ipos) spos) X.env) = eval (.Subscript (.Name x px) (.Constant (.int (j : Nat)) kk ipos) spos) X.env := by rfl)
    (h1 : ((((backTo cpos (starEach [e] X.env)).all fun x => !x.fst) && (backToKw cpos (keywordEach [] X.env)).all fun x => x.fst.isSome) && decide (([e].length + ([] : List Keyword).length + if ([] : List Keyword).isEmpty = true then 0 else 1) < 30)) = true := by rfl)
    (h2 : (apos.endLine == cpos.line) = true := by rfl) (h3 : starEach [e] X.env = (false, eval e X.env) :: starEach [] X.env := by rfl) (h4 : ((backTo cpos (starEach [] X.env)).any fun x => x.fst) = false := by rfl)
    (hp : PlainIx (.Constant (.int (j : Nat)) kk ipos) := by exact fun _ _ => rfl)
    (hs : swapsWith (.Call (.Attribute (.Subscript (.Name x px) (.Constant (.int (j : Nat)) kk ipos) spos) "append" apos) [e] [] cpos) none pos.line X.env = pure false := by rfl) :
    VS X Γ u r (.Expr (.Call (.Attribute (.Subscript (.Name x px) (.Constant (.int (j : Nat)) kk ipos) spos) "append" apos) [e] [] cpos) pos) (sAppP k j fs) (fun D σ H => (tBM X.K "list" rAppend (tOp (rIxL X.K) (tVar k) (tC (.int (j : Nat)))) ts) σ H fun _ H1 => D.nx σ H1) :=
  ⟨ps_expr (pe_bm PySem.F.plainAttrs_list PySem.F.slot_list_append PySem.F.type_list_append mt_append (pe_ix ix_list (pe_var hN hv hd hcd) pe_int hp) ha.pa hb h1 h2 h3 h4) hs, ok_appP hm hc ha.ok⟩
end
/-! ### zip of three lists -/
section
open PySem
def Itz3 (K : PySem.W.Frag) (a b c : Addr) : It :=
  ⟨fun i H => ∃ (xs ys zs : List V) (x y z : V), SqL K H a xs ∧ SqL K H b ys ∧ SqL K H c zs ∧ xs[i]? = some x ∧ ys[i]? = some y ∧ zs[i]? = some z,
    fun i H v H' => ∃ T x y z, v = .ref T ∧ H T = none ∧ H' = upd H T (.tup [x, y, z]) ∧ (∀ xs, SqL K H a xs → xs[i]? = some x) ∧ (∀ ys, SqL K H b ys → ys[i]? = some y) ∧ ∀ zs, SqL K H c zs → zs[i]? = some z,
    fun i H => ∃ xs ys zs : List V, SqL K H a xs ∧ SqL K H b ys ∧ SqL K H c zs ∧ (i ≤ xs.length ∧ i ≤ ys.length ∧ i ≤ zs.length) ∧ (xs.length = i ∨ ys.length = i ∨ zs.length = i)⟩
theorem turn_zip3 {P : Program} {w : World} {K : PySem.W.Frag} {elts : List Expr} {kk : Nat} {tpos : Pos} {a b c z TI TO i1 i2 i3 : Addr} (S : ZipSep3 z TI TO i1 i2 i3 [i1, a] [i2, b] [i3, c]) :
    Turn P w K (.Tuple elts kk tpos) (Itz3 K a b c) [z, TI, TO, i1, i2, i3] z (fun i h => IsZip h z TI TO .none ∧ IsTupOf3 h TI (.ref i1) (.ref i2) (.ref i3) ∧ (∃ x y z, IsTupOf3 h TO x y z) ∧ h.IsListIter i1 a i ∧ h.IsListIter i2 b i ∧ h.IsListIter i3 c i) where
  mem := by simp
  obj := fun i h st c hc => by
    obtain ⟨hz, hTI, ⟨x, y, z', hTO⟩, ⟨o1, e1, _, d1⟩, ⟨o2, e2, _, d2⟩, ⟨o3, e3, _, d3⟩⟩ := st
    have e' : c = z ∨ c = TI ∨ c = TO ∨ c = i1 ∨ c = i2 ∨ c = i3 := by simpa using hc
    rcases e' with q | q | q | q | q | q
    · rw [q]; exact ⟨_, hz, fun v q => nomatch q⟩
    · rw [q]; exact ⟨_, hTI, fun v q => nomatch q⟩
    · rw [q]; exact ⟨_, hTO, fun v q => nomatch q⟩
    · rw [q]; exact ⟨o1, e1, fun v q => by rw [d1] at q; cases q⟩
    · rw [q]; exact ⟨o2, e2, fun v q => by rw [d2] at q; cases q⟩
    · rw [q]; exact ⟨o3, e3, fun v q => by rw [d3] at q; cases q⟩
  keep := fun i h h' st k => by
    obtain ⟨hz, hTI, ⟨x, y, z', hTO⟩, h1, h2, h3⟩ := st
    exact ⟨k z (by simp) _ hz, k TI (by simp) _ hTI, ⟨x, y, z', k TO (by simp) _ hTO⟩, h1.at fun o q => k i1 (by simp) o q, h2.at fun o q => k i2 (by simp) o q, h3.at fun o q => k i3 (by simp) o q⟩
  item := by
    intro X hP hw hK hc i pins s σ H E I hf st hg
    subst hP hw hK
    obtain ⟨hz, hTI, ⟨x0, y0, z0, hTO⟩, h1, h2, h3⟩ := st
    obtain ⟨xs, ys, zs, x, y, zz, hqx, hqy, hqz, hx, hy, hzz⟩ := hg
    obtain ⟨its, rv, p, _⟩ := I.list hqx
    obtain ⟨its2, rv2, p2, _⟩ := I.list hqy
    obtain ⟨its3, rv3, p3, _⟩ := I.list hqz
    obtain ⟨u, hu, ru⟩ := rv.get hx
    obtain ⟨u2, hu2, ru2⟩ := rv2.get hy
    obtain ⟨u3, hu3, ru3⟩ := rv3.get hzz
    have hzl : z < s.heap.objs.size := Heap.lt_size hz
    have hh := I.ok.hd hc
    have n1 : a ≠ i1 := fun e => by
      obtain ⟨o1, e1, c1, _⟩ := h1
      obtain ⟨o, e2, c2, _⟩ := p.isList
      rw [e] at e2
      rw [e1] at e2
      cases e2
      rw [c1] at c2
      injection c2 with c2
      exact absurd c2 (by decide)
    have n2 : b ≠ i2 := fun e => by
      obtain ⟨o1, e1, c1, _⟩ := h2
      obtain ⟨o, e2, c2, _⟩ := p2.isList
      rw [e] at e2
      rw [e1] at e2
      cases e2
      rw [c1] at c2
      injection c2 with c2
      exact absurd c2 (by decide)
    have n3 : c ≠ i3 := fun e => by
      obtain ⟨o1, e1, c1, _⟩ := h3
      obtain ⟨o, e2, c2, _⟩ := p3.isList
      rw [e] at e2
      rw [e1] at e2
      cases e2
      rw [c1] at c2
      injection c2 with c2
      exact absurd c2 (by decide)
    refine wpAny_pyNext_zipD3_item S (Draws.list (A := X.A.in1) hh i1 a n1 its.toArray) (Draws.list (A := X.A.in1) hh i2 b n2 its2.toArray) (Draws.list (A := X.A.in1) hh i3 c n3 its3.toArray) hz hTI hTO ⟨h1, p.isList⟩ ⟨h2, p2.isList⟩ ⟨h3, p3.isList⟩
      (by simpa using (List.getElem?_eq_some_iff.mp hu).1) (by simpa using (List.getElem?_eq_some_iff.mp hu2).1) (by simpa using (List.getElem?_eq_some_iff.mp hu3).1) fun y1 y2 y3 h' tk w1 w2 w3 z' TO' st1 st2 st3 hT hsz hk => ?_
    have q1 : y1 = u := by
      have : its[i]? = some y1 := by simpa using w1
      rw [hu] at this
      exact (Option.some.inj this).symm
    have q2 : y2 = u2 := by
      have : its2[i]? = some y2 := by simpa using w2
      rw [hu2] at this
      exact (Option.some.inj this).symm
    have q3 : y3 = u3 := by
      have : its3[i]? = some y3 := by simpa using w3
      rw [hu3] at this
      exact (Option.some.inj this).symm
    subst q1 q2 q3
    refine ⟨_, rfl, wpAny_letOwnedTupleGo_zip (s := { s with heap := h', toks := tk }) z' fun h'' z'' sb => ?_⟩
    have hT2 : h''.get? s.heap.objs.size = some { cls := .type "tuple", data := .seq #[y1, y2, y3] } := (sb.2 _ (Nat.ne_of_gt hzl)).trans hT
    have new : ObjOk X.prog X.w (upd H s.heap.objs.size (.tup [x, y, zz])) h'' s.heap.objs.size (.tup [x, y, zz]) :=
      ⟨by show 3 ≤ sizeLine; decide, [y1, y2, y3], .cons ru (.cons ru2 (.cons ru3 .nil)), ⟨_, hT2, rfl, _, rfl⟩⟩
    have I1 : Inv X pins σ (upd H s.heap.objs.size (.tup [x, y, zz])) { s with heap := h'', toks := tk } :=
      I.turnedNew (t' := tk) (ch := [z, TI, TO, i1, i2, i3]) (fun c o hb q => (sb.2 c (fun q' => hb (by simp [q']))).trans (hk c o (fun q' => hb (by simp [q'])) (fun q' => hb (by simp [q'])) (fun q' => hb (by simp [q'])) (fun q' => hb (by simp [q'])) (fun q' => hb (by simp [q'])) q)) hf (Nat.le_refl _) new
    refine ⟨.ref s.heap.objs.size, _, I1, rfl, ⟨_, x, y, zz, rfl, I.hok.fresh (Nat.le_refl _), rfl, fun l hl => by rw [I.list_inj hl hqx]; exact hx, fun l hl => by rw [I.list_inj hl hqy]; exact hy, fun l hl => by rw [I.list_inj hl hqz]; exact hzz⟩, ⟨z'', ?_, ⟨y1, y2, y3, ?_⟩, ?_, ?_, ?_⟩, fun c hcm => ?_⟩
    · exact (sb.2 _ S.TIz).trans (hk _ _ S.TIz S.TITO S.TIi1 S.TIi2 S.TIi3 hTI)
    · exact (sb.2 _ S.TOz).trans TO'
    · exact st1.1.at fun o q => (sb.2 _ (Ne.symm S.zi1)).trans q
    · exact st2.1.at fun o q => (sb.2 _ (Ne.symm S.zi2)).trans q
    · exact st3.1.at fun o q => (sb.2 _ (Ne.symm S.zi3)).trans q
    · have hlt : c < s.heap.objs.size := by
        have e' : c = z ∨ c = TI ∨ c = TO ∨ c = i1 ∨ c = i2 ∨ c = i3 := by simpa using hcm
        rcases e' with q | q | q | q | q | q
        · rw [q]; exact hzl
        · rw [q]; exact Heap.lt_size hTI
        · rw [q]; exact Heap.lt_size hTO
        · rw [q]; obtain ⟨_, e1, _⟩ := h1; exact Heap.lt_size e1
        · rw [q]; obtain ⟨_, e2, _⟩ := h2; exact Heap.lt_size e2
        · rw [q]; obtain ⟨_, e3, _⟩ := h3; exact Heap.lt_size e3
      rw [upd_ne (Nat.ne_of_lt hlt)]
      exact (hf c hcm).1
  done := by
    intro X hP hw hK hc i pins s σ H E I hf st hg
    subst hP hw hK
    obtain ⟨hz, hTI, ⟨x0, y0, z0, hTO⟩, h1, h2, h3⟩ := st
    obtain ⟨xs, ys, zs, hqx, hqy, hqz, ⟨b1, b2, b3⟩, hend⟩ := hg
    obtain ⟨its, rv, p, _⟩ := I.list hqx
    obtain ⟨its2, rv2, p2, _⟩ := I.list hqy
    obtain ⟨its3, rv3, p3, _⟩ := I.list hqz
    have l1 := rv.length
    have l2 := rv2.length
    have l3 := rv3.length
    have hh := I.ok.hd hc
    have n1 : a ≠ i1 := fun e => by
      obtain ⟨o1, e1, c1, _⟩ := h1
      obtain ⟨o, e2, c2, _⟩ := p.isList
      rw [e] at e2
      rw [e1] at e2
      cases e2
      rw [c1] at c2
      injection c2 with c2
      exact absurd c2 (by decide)
    have n2 : b ≠ i2 := fun e => by
      obtain ⟨o1, e1, c1, _⟩ := h2
      obtain ⟨o, e2, c2, _⟩ := p2.isList
      rw [e] at e2
      rw [e1] at e2
      cases e2
      rw [c1] at c2
      injection c2 with c2
      exact absurd c2 (by decide)
    have n3 : c ≠ i3 := fun e => by
      obtain ⟨o1, e1, c1, _⟩ := h3
      obtain ⟨o, e2, c2, _⟩ := p3.isList
      rw [e] at e2
      rw [e1] at e2
      cases e2
      rw [c1] at c2
      injection c2 with c2
      exact absurd c2 (by decide)
    have s1 : its.toArray.size = xs.length := by rw [List.size_toArray, ← l1]
    have s2 : its2.toArray.size = ys.length := by rw [List.size_toArray, ← l2]
    have s3 : its3.toArray.size = zs.length := by rw [List.size_toArray, ← l3]
    exact wpAny_pyNext_zipD3_end S (Draws.list (A := X.A.in1) hh i1 a n1 its.toArray) (Draws.list (A := X.A.in1) hh i2 b n2 its2.toArray) (Draws.list (A := X.A.in1) hh i3 c n3 its3.toArray) hz hTI hTO ⟨h1, p.isList⟩ ⟨h2, p2.isList⟩ ⟨h3, p3.isList⟩
      (by omega) (by omega) (by omega) (by omega) fun h' tk hk => ⟨rfl, I.turnedL (t' := tk) (ch := [z, TI, TO, i1, i2, i3]) (fun c o hb q =>
      hk c o (fun q' => hb (by simp [q'])) (fun q' => hb (by simp [q'])) (fun q' => hb (by simp [q'])) (fun q' => hb (by simp [q'])) (fun q' => hb (by simp [q'])) q) hf⟩
  self := fun A i s Q E st h => wpAny_pyIter_zip st.1 h
theorem zs3 {n a b c : Nat} (h1 : a < n) (h2 : b < n) (h3 : c < n) : ZipSep3 (n + 5) (n + 3) (n + 4) n (n + 1) (n + 2) [n, a] [n + 1, b] [n + 2, c] := by
  constructor <;> first | (simp; done) | (simp; intro e; have e' : @Eq Nat _ _ := e; omega) | (intro e; have e' : @Eq Nat _ _ := e; omega)
def iZip3 (K : PySem.W.Frag) (ta : TA) : TI := fun σ H R => ta σ H fun vs H1 => ∃ a b c xs ys zs, vs = [.ref a, .ref b, .ref c] ∧ SqL K H1 a xs ∧ SqL K H1 b ys ∧ SqL K H1 c zs ∧ R (Itz3 K a b c) H1
theorem pi_zip3 {X : Cx} {e e2 e3 : Expr} {ta : TA} {p pos tpos : Pos} {elts : List Expr} {kk : Nat} (hg : Gl X "zip") (hm : X.mg "zip" = none) (ha : PA X [e, e2, e3] ta)
    (hs : starEach [e, e2, e3] X.env = (false, eval e X.env) :: starEach [e2, e3] X.env := by rfl) (hpl : (backTo pos (starEach [e2, e3] X.env)).any (·.1) = false := by rfl) :
    PI X (.Tuple elts kk tpos) (.Call (.Name "zip" p) [e, e2, e3] [] pos) (iZip3 X.K ta) := by
  refine ⟨fun pins s σ H R I h => ?_⟩
  refine Call_ (ld_blt I hg hm PyProof.Rows.boot_zip (PyProof.Rows.callWith_type1 (thn (ha.run pos pins s σ H _ I h) fun us s1 ⟨vs, H1, I1, r1, q1⟩ => ?_) hs hpl))
  obtain ⟨a, b, c, xs, ys, zs, ex, hqx, hqy, hqz, q⟩ := q1
  subst ex
  cases r1 with
  | cons r rr =>
    cases rr with
    | cons r' rr =>
      cases rr with
      | cons r'' rr =>
        cases rr
        cases r
        cases r'
        cases r''
        obtain ⟨its, rv, p1, _⟩ := I1.list hqx
        obtain ⟨its2, rv2, p2, _⟩ := I1.list hqy
        obtain ⟨its3, rv3, p3, _⟩ := I1.list hqz
        have la : a < s1.heap.objs.size := p1.lt
        have lb : b < s1.heap.objs.size := p2.lt
        have lc : c < s1.heap.objs.size := p3.lt
        refine zip_begins3 (begins_list a its.toArray) (begins_list b its2.toArray) (begins_list c its3.toArray) p1.isList p2.isList p3.isList fun h' hz hTI hTO h1 h2 h3 hsz hk => wpAny_pyIter_zip hz ?_
        have I2 : Inv X pins σ H1 { s1 with heap := h' } := I1.kept (t' := s1.toks) hk
        refine ⟨s1.heap.objs.size + 5, [s1.heap.objs.size + 5, s1.heap.objs.size + 3, s1.heap.objs.size + 4, s1.heap.objs.size, s1.heap.objs.size + 1, s1.heap.objs.size + 2], _, _, H1, rfl, I2, turn_zip3 (zs3 la lb lc), ⟨hz, hTI, ⟨_, _, _, hTO⟩, ⟨_, h1, rfl, rfl⟩, ⟨_, h2, rfl, rfl⟩, ⟨_, h3, rfl, rfl⟩⟩, fun c hcm => ?_, q⟩
        have hle : s1.heap.objs.size ≤ c := by
          have e' : c = s1.heap.objs.size + 5 ∨ c = s1.heap.objs.size + 3 ∨ c = s1.heap.objs.size + 4 ∨ c = s1.heap.objs.size ∨ c = s1.heap.objs.size + 1 ∨ c = s1.heap.objs.size + 2 := by simpa using hcm
          rcases e' with z | z | z | z | z | z
          · rw [z]; exact Nat.le_add_right _ _
          · rw [z]; exact Nat.le_add_right _ _
          · rw [z]; exact Nat.le_add_right _ _
          · rw [z]; exact Nat.le_refl _
          · rw [z]; exact Nat.le_add_right _ _
          · rw [z]; exact Nat.le_add_right _ _
        exact I1.fpOk hle (I1.hok.fresh hle)
end
def zip3D (xs ys zs : List D) : List D := List.zipWith (fun x (p : D × D) => .tuple [x, p.1, p.2]) xs (ys.zip zs)
def zp3K : List D → Option (List D)
  | [.list xs, .list ys, .list zs] => some (zip3D xs ys zs)
  | _ => none
def iZp3 (f : SE → Option (List D)) (e : SE) : Option (List D) := (f e).bind zp3K
theorem v_iZp3 {f : SE → Option (List D)} {e : SE} : iZp3 f e = (f e).bind zp3K := rfl
theorem k_zp3 {xs ys zs : List D} : zp3K [.list xs, .list ys, .list zs] = some (zip3D xs ys zs) := rfl
theorem triple_in {K : PySem.W.Frag} {r : Rl} {G H0 H2 : Hp} {own2 : List (Option Addr)} {T : Addr} {x y z : V} {d e f : D} (s0 : Same H0 H2) (al : ∀ a, Ow own2 a → ∃ o, H2 a = some o) (n : H2 T = none) (h1 : Dp K (rg r G H0 own2 H2) x d) (h2 : Dp K (rg r G H0 own2 H2) y e) (h3 : Dp K (rg r G H0 own2 H2) z f) :
    Dp K (rg r G H0 own2 (upd H2 T (.tup [x, y, z]))) (.ref T) (.tuple [d, e, f]) := by
  have nO : ¬ Ow own2 T := fun z => by
    obtain ⟨o, q⟩ := al T z
    rw [n] at q; cases q
  exact .tup (SqT.of (rg_iff.mpr ⟨tup_in nO (s0.free n), upd_same⟩)) (.cons (dp_mono (rg_ext (same_new n)) _ _ h1) (.cons (dp_mono (rg_ext (same_new n)) _ _ h2) (.cons (dp_mono (rg_ext (same_new n)) _ _ h3) .nil)))
section
variable {X : Cx} {Γ : List Md} {r : Rl} {a b c : Expr} {elts : List Expr} {fs : SE → Option (List D)} {ts : TA} {p pos tpos : Pos} {kk : Nat}
theorem vi_zip3 (hm : X.mg "zip" = none) (ha : VA X Γ [a, b, c] r fs ts) (hr : r ≠ .bo := by intro z; cases z) (hg : Gl X "zip" := by rfl) (hs : starEach [a, b, c] X.env = (false, eval a X.env) :: starEach [b, c] X.env := by rfl) (hpl : (backTo pos (starEach [b, c] X.env)).any (·.1) = false := by rfl) :
    VI X Γ (.Tuple elts kk tpos) (.Call (.Name "zip" p) [a, b, c] [] pos) r (iZp3 fs) (iZip3 X.K ts) := ⟨pi_zip3 hg hm ha.pa hs hpl, fun G H0 own env σ H R ds E z k => by
  unfold iZp3 at z
  cases e1 : fs env with
  | none => rw [e1] at z; cases z
  | some x =>
    rw [e1] at z
    simp only [Option.bind_some] at z
    match x, e1, z with
    | [.list xs, .list ys, .list zs], e1, z =>
      cases z
      refine ha.ok G H0 own env σ H _ _ E e1 fun v H1 s1 c => ?_
      match v, c with
      | _, .cons (.lst hs hd) (.cons (.lst hs' hd') (.cons (.lst hs'' hd'') .nil)) =>
        refine ⟨_, _, _, _, _, _, rfl, rg_sub.seq hs, rg_sub.seq hs', rg_sub.seq hs'', k _ H1 s1 fun own2 H2 gr s0 al => ?_⟩
        have hs2 := (rg_gr gr hr).seq hs
        have hd2 := dps_mono (rg_gr gr hr) _ _ hd
        have hs2' := (rg_gr gr hr).seq hs'
        have hd2' := dps_mono (rg_gr gr hr) _ _ hd'
        have hs2'' := (rg_gr gr hr).seq hs''
        have hd2'' := dps_mono (rg_gr gr hr) _ _ hd''
        have hl : (zip3D xs ys zs).length = min xs.length (min ys.length zs.length) := by unfold zip3D; rw [List.length_zipWith, List.length_zip]
        refine ⟨fun i d hi => ?_, ⟨_, _, _, rg_sub.seq hs2, rg_sub.seq hs2', rg_sub.seq hs2'', ?_, ?_⟩⟩
        · unfold zip3D at hi
          rw [List.getElem?_zipWith] at hi
          cases e2 : xs[i]? with
          | none => rw [e2] at hi; cases hi
          | some d2 =>
            cases e3 : (ys.zip zs)[i]? with
            | none => rw [e2, e3] at hi; cases hi
            | some q =>
              rw [e2, e3] at hi
              cases hi
              obtain ⟨e4, e5⟩ := List.getElem?_zip_eq_some.mp e3
              obtain ⟨w, h1, h2⟩ := dps_get hd2 e2
              obtain ⟨w', h1', h2'⟩ := dps_get hd2' e4
              obtain ⟨w'', h1'', h2''⟩ := dps_get hd2'' e5
              refine ⟨⟨_, _, _, w, w', w'', rg_sub.seq hs2, rg_sub.seq hs2', rg_sub.seq hs2'', h1, h1', h1''⟩, fun y H' hy => ?_⟩
              obtain ⟨T, y1, y2, y3, rfl, nT, rfl, hy1, hy2, hy3⟩ := hy
              have e : y1 = w := Option.some.inj ((hy1 _ (rg_sub.seq hs2)).symm.trans h1)
              have e' : y2 = w' := Option.some.inj ((hy2 _ (rg_sub.seq hs2')).symm.trans h1')
              have e'' : y3 = w'' := Option.some.inj ((hy3 _ (rg_sub.seq hs2'')).symm.trans h1'')
              subst e e' e''
              exact ⟨same_new nT, triple_in s0 al nT h2 h2' h2''⟩
        · rw [dps_len hd2, dps_len hd2', dps_len hd2'', hl]
          omega
        · rw [dps_len hd2, dps_len hd2', dps_len hd2'', hl]
          omega⟩
end
/-! ### reckoning -/
def srtPK (xs : List D) : Option (List D) := (pairs? xs).bind fun ps => some ((sortP ps).map pD)
def srtPK0 (x : D) : Option (List D) := (list? x).bind srtPK
def rngK (x : D) : Option (List D) := hRg1 [x]
section
variable {f : SE → Option D} {e : SE} {x : D}
theorem v_setP {i n : Nat} {fs : SE → Option (List D)} : sSetP i n fs e = (fs e).bind (setPK i n e) := rfl
theorem setPK_of {i n : Nat} {ds : List D} (h : ds.length = n) (h2 : i < e.length) : setPK i n e ds = some (.nx (e.set i (some (.list (ds ++ [.list []]))))) := if_pos ⟨h, h2⟩
theorem v_appP {k j : Nat} {fs : SE → Option (List D)} : sAppP k j fs e = (dV k e).bind (appPK k j fs e) := rfl
theorem k_appP {k j : Nat} {fs : SE → Option (List D)} : appPK k j fs e x = (list? x).bind (appPK1 k j fs e) := rfl
theorem k_appP1 {k j : Nat} {fs : SE → Option (List D)} {ds : List D} : appPK1 k j fs e ds = (fs e).bind (appPK2 k j e ds) := rfl
theorem k_appP2 {k j : Nat} {ds as : List D} : appPK2 k j e ds as = (ds[j]?).bind (appPK3 k j e ds as) := rfl
theorem k_appP3 {k j : Nat} {ds as es : List D} : appPK3 k j e ds as (.list es) = (hApp es as).bind (appPK4 k j e ds) := rfl
theorem k_appP4 {k j : Nat} {ds as : List D} : appPK4 k j e ds as = some (.nx (e.set k (some (.list (ds.set j (.list as)))))) := rfl
theorem v_lSortP : lSortP f e = (f e).bind srtPK0 := rfl
theorem k_srtP0 : srtPK0 x = (list? x).bind srtPK := rfl
theorem k_srtP (ps : List (Int × Int)) : srtPK (ps.map pD) = some ((sortP ps).map pD) := by
  unfold srtPK
  rw [pairs_map]
  rfl
theorem v_lRng : lRng f e = (f e).bind rngK := rfl
theorem k_rng : rngK x = hRg1 [x] := rfl
theorem hRg1_of {j : Int} (h1 : -1000000 < j) (h2 : j < 1000000) : hRg1 [.int j] = some (rangeD 0 j.toNat) := if_pos ⟨h1, h2⟩
end
end PV

set_option maxHeartbeats 400000
namespace PV
open PySem PySem.Spec PyProof.Rows L2
/-! ### the end of a def that hands out a number, a truth ..: there what is not needed any more may be changed, too -/
def NoL (K : PySem.W.Frag) : Prop := ∀ a o, K.lookup a = some o → o.cls ≠ .type "list"
def noL (K : PySem.W.Frag) : Bool := K.all fun p => !(p.2.cls == .type "list")
theorem noL_ok {K : PySem.W.Frag} (h : noL K = true) : NoL K := fun a o e => by
  unfold noL at h
  induction K with
  | nil => cases e
  | cons p r ih =>
    rw [List.all_cons, Bool.and_eq_true] at h
    rw [List.lookup_cons] at e
    split at e
    · cases e
      intro z
      have := h.1
      rw [z] at this
      simp at this
    · exact ih h.2 e
def OkTail (K : PySem.W.Frag) (Γ : List Md) (g : SE → Option Rs) (t : TS) : Prop :=
  ∀ (N G H0 : Hp) (own : List (Option Addr)) (env : SE) (σ : L2.St) (H : Hp) (E : Ends) (d : D), ER K Γ G H0 own env σ H → Same N G → g env = some (.rt d) → isSc d = true → (∀ v H', Same N H' → Dp K H' v d → E.rt v H') → t E σ H
structure VTail (X : Cx) (Γ : List Md) (st : List Stmt) (g : SE → Option Rs) (t : TS) : Prop where
  ps : PSs X st t
  ok : OkTail X.K Γ g t
inductive Pl where
  | kp | tr | nx (m : Md)
def mkG : List Pl → Nat → (Nat → V) → List Md
  | [], _, _ => []
  | .kp :: ps, i, w => .cv (w i) :: mkG ps (i + 1) w
  | .tr :: ps, i, w => .tr :: mkG ps (i + 1) w
  | .nx m :: ps, i, w => m :: mkG ps (i + 1) w
def klG : List Pl → Nat → List Nat
  | [], _ => []
  | .nx _ :: ps, i => i :: klG ps (i + 1)
  | _ :: ps, i => klG ps (i + 1)
def kpG : Pl → Bool
  | .kp => true
  | _ => false
theorem mkG_at : ∀ (ps : List Pl) (i j : Nat) (w : Nat → V), (mkG ps i w)[j]? = (ps[j]?).map fun p => match p with | .kp => .cv (w (i + j)) | .tr => .tr | .nx m => m
  | [], i, j, w => by simp [mkG]
  | .kp :: ps, i, 0, w => rfl
  | .tr :: ps, i, 0, w => rfl
  | .nx m :: ps, i, 0, w => rfl
  | .kp :: ps, i, j + 1, w => by
    have := mkG_at ps (i + 1) j w
    rw [mkG, List.getElem?_cons_succ, List.getElem?_cons_succ, this, Nat.add_assoc, Nat.add_comm 1 j]
  | .tr :: ps, i, j + 1, w => by
    have := mkG_at ps (i + 1) j w
    rw [mkG, List.getElem?_cons_succ, List.getElem?_cons_succ, this, Nat.add_assoc, Nat.add_comm 1 j]
  | .nx m :: ps, i, j + 1, w => by
    have := mkG_at ps (i + 1) j w
    rw [mkG, List.getElem?_cons_succ, List.getElem?_cons_succ, this, Nat.add_assoc, Nat.add_comm 1 j]
theorem klG_of : ∀ (ps : List Pl) (i j : Nat) (m : Md), ps[j]? = some (.nx m) → i + j ∈ klG ps i
  | [], i, j, m, h => by simp at h
  | p :: ps, i, 0, m, h => by
    simp at h
    subst h
    exact List.mem_cons_self
  | p :: ps, i, j + 1, m, h => by
    have := klG_of ps (i + 1) j m (by simpa using h)
    rw [Nat.add_assoc, Nat.add_comm 1 j] at this
    cases p with
    | nx _ => exact List.mem_cons_of_mem _ this
    | kp => exact this
    | tr => exact this
theorem kil_len : ∀ (kl : List Nat) (e : SE), (kil kl e).length = e.length
  | [], _ => rfl
  | k :: kl, e => by rw [kil, List.length_set, kil_len kl e]
theorem kil_at : ∀ {kl : List Nat} {e : SE} {i : Nat} {d : D}, (kil kl e)[i]? = some (some d) → i ∉ kl ∧ e[i]? = some (some d)
  | [], _, _, _, h => ⟨(fun z => by cases z), h⟩
  | k :: kl, e, i, d, h => by
    rw [kil] at h
    by_cases q : k = i
    · subst q
      by_cases hl : k < (kil kl e).length
      · rw [List.getElem?_set_self hl] at h; cases h
      · rw [List.getElem?_eq_none (by rw [List.length_set]; omega)] at h; cases h
    · rw [List.getElem?_set_ne q] at h
      obtain ⟨h1, h2⟩ := kil_at h
      exact ⟨fun z => (List.mem_cons.mp z).elim (fun z => q z.symm) h1, h2⟩
theorem ow_rep {n : Nat} {a : Addr} : ¬ Ow (List.replicate n none) a := fun ⟨j, e⟩ => by
  rw [List.getElem?_replicate] at e
  split at e <;> cases e
section
variable {K : PySem.W.Frag} {Γ : List Md} {G H0 H H' : Hp} {own own' : List (Option Addr)} {env : SE} {σ : L2.St} {i k : Nat} {v : V} {d : D} {m : Md} {r : Rl} {g f : SE → Option Rs} {t t2 : TS}
/-- everything that is there is handed in -/
theorem ER.allIn (R : ER K Γ G H0 own env σ H) (plan : List Pl) (ht : plan.all (fun p => match p with | .tr => false | _ => true) = true) : ER K (mkG plan 0 fun i => ((σ.getD i none).getD .non)) H H (List.replicate own.length none) (PV.kil (klG plan 0) env) σ H := by
  refine ⟨Same.refl H, Same.refl H, fun i j a hi => (ow_rep ⟨i, hi⟩).elim, fun i a hi => (ow_rep ⟨i, hi⟩).elim, by rw [kil_len]; exact R.le, by rw [List.length_replicate]; exact R.ol, fun i d hi => ?_⟩
  obtain ⟨nk, he⟩ := kil_at hi
  obtain ⟨v, hv, so⟩ := R.sl i d he
  refine ⟨v, hv, ?_⟩
  have dp : Dp K H v d := dp_mono rg_sub _ _ (so.dp R.ex)
  have dpo : Dp K (rg .od H H (List.replicate own.length none) H) v d := dp_mono (fun a o q => (rg_iff (r := .od)).mpr ⟨⟨ow_rep, .inr (by rw [q]; intro z; cases z)⟩, q⟩) _ _ dp
  unfold md
  rw [List.getD_eq_getElem?_getD, mkG_at]
  cases e : plan[i]? with
  | none => exact dpo
  | some p =>
    cases p with
    | kp =>
      refine ⟨?_, dpo, dp⟩
      show v = ((σ.getD (0 + i) none).getD .non)
      rw [Nat.zero_add, List.getD_eq_getElem?_getD, hv]
      rfl
    | tr =>
      have := List.all_eq_true.mp ht _ (List.mem_of_getElem? e)
      cases this
    | nx m => exact absurd (klG_of plan 0 i m e) (by rw [Nat.zero_add]; exact nk)
def rebOk : List Md → List Pl → Bool
  | .cv _ :: ms, .kp :: ps => rebOk ms ps
  | .nw :: ms, .tr :: ps => rebOk ms ps
  | _ :: ms, .nx _ :: ps => rebOk ms ps
  | [], [] => true
  | _, _ => false
theorem rebOk_at : ∀ {Γ : List Md} {ps : List Pl} {i : Nat} {p : Pl}, rebOk Γ ps = true → ps[i]? = some p → (p = .kp → ∃ v, Γ[i]? = some (.cv v)) ∧ (p = .tr → Γ[i]? = some .nw)
  | [], [], _, _, _, h => by simp at h
  | [], _ :: _, _, _, h, _ => by simp [rebOk] at h
  | m :: ms, [], _, _, h, _ => by cases m <;> simp [rebOk] at h
  | m :: ms, q :: ps, 0, p, h, e => by
    simp at e
    subst e
    cases q with
    | kp => cases m <;> first | (simp [rebOk] at h; done) | exact ⟨fun _ => ⟨_, rfl⟩, fun z => by cases z⟩
    | tr => cases m <;> first | (simp [rebOk] at h; done) | exact ⟨(fun z => by cases z), fun _ => rfl⟩
    | nx m' => exact ⟨(fun z => by cases z), fun z => by cases z⟩
  | m :: ms, q :: ps, i + 1, p, h, e => by
    have h2 : rebOk ms ps = true := by
      cases q with
      | kp => cases m <;> first | (simp [rebOk] at h; done) | (simpa [rebOk] using h)
      | tr => cases m <;> first | (simp [rebOk] at h; done) | (simpa [rebOk] using h)
      | nx m' => cases m <;> simpa [rebOk] using h
    simpa using rebOk_at h2 (by simpa using e)
/-- what is new may be changed from here on, where it is not needed any more -/
theorem ER.reb (R : ER K Γ G H0 own env σ H) (plan : List Pl) (ht : rebOk Γ plan = true) (hl : env.length ≤ plan.length) : ER K (mkG plan 0 fun i => ((σ.getD i none).getD .non)) H0 H (List.replicate own.length none) (PV.kil (klG plan 0) env) σ H := by
  have ext : Same H0 (rg .od H0 H (List.replicate own.length none) H) := fun a o q => (rg_iff (r := .od)).mpr ⟨⟨ow_rep, .inr (by rw [q]; intro z; cases z)⟩, R.ex _ _ q⟩
  refine ⟨R.ex, Same.refl H, fun i j a hi => (ow_rep ⟨i, hi⟩).elim, fun i a hi => (ow_rep ⟨i, hi⟩).elim, by rw [kil_len]; exact R.le, by rw [List.length_replicate]; exact R.ol, fun i d hi => ?_⟩
  obtain ⟨nk, he⟩ := kil_at hi
  obtain ⟨v, hv, so⟩ := R.sl i d he
  refine ⟨v, hv, ?_⟩
  unfold md
  rw [List.getD_eq_getElem?_getD, mkG_at]
  cases e : plan[i]? with
  | none =>
    have e1 := List.getElem?_eq_none_iff.mp e
    have := (List.getElem?_eq_some_iff.mp he).1
    omega
  | some p =>
    obtain ⟨k1, k2⟩ := rebOk_at ht e
    cases p with
    | kp =>
      obtain ⟨v0, e0⟩ := k1 rfl
      have em : md Γ i = .cv v0 := by
        unfold md
        rw [List.getD_eq_getElem?_getD, e0]
        rfl
      rw [em] at so
      have dp : Dp K H0 v d := dp_mono R.gs _ _ so.2.2
      refine ⟨?_, dp_mono ext _ _ dp, dp⟩
      show v = ((σ.getD (0 + i) none).getD .non)
      rw [Nat.zero_add, List.getD_eq_getElem?_getD, hv]
      rfl
    | tr =>
      have em : md Γ i = .nw := by
        unfold md
        rw [List.getD_eq_getElem?_getD, k2 rfl]
        rfl
      rw [em] at so
      refine dp_mono (fun a o q => ?_) _ _ (show Dp K (rg .nw G H0 own H) v d from so)
      obtain ⟨i1, q⟩ := rg_iff.mp q
      exact rgt_iff.mpr ⟨⟨i1.2.1, i1.2.2⟩, q⟩
    | nx m => exact absurd (klG_of plan 0 i m e) (by rw [Nat.zero_add]; exact nk)

theorem OkTail.of (h : OkS K Γ false r g t) : OkTail K Γ g t := fun N G H0 own env σ H D d R hN z hs k => h G H0 own env σ H D (.rt d) R z fun v H' s q => k v H' ((hN.trans R.gs).trans s) (dp_mono rg_sub _ _ q)
theorem OkTail.seq (hf : OkS K Γ false r f t) (hg : OkTail K Γ g t2) : OkTail K Γ (sSeq f g) (tSeq t t2) := fun N G H0 own env σ H D d R hN z hs k => by
  unfold sSeq at z
  cases e1 : f env with
  | none => rw [e1] at z; cases z
  | some x =>
    rw [e1] at z
    simp only [Option.bind_some] at z
    refine hf G H0 own env σ H _ x R e1 ?_
    cases x with
    | nx e => exact fun own' σ' H' R' gr => hg N G H0 own' e σ' H' D d R' hN z hs k
    | rt d' => cases z; exact fun v H' s q => k v H' ((hN.trans R.gs).trans s) (dp_mono rg_sub _ _ q)
    | bk e => cases z
    | ct e => cases z
def sZ (kl : List Nat) (g : SE → Option Rs) (e : SE) : Option Rs := (g (kil kl e)).bind fun x => match x with
  | .rt d => if isSc d = true then some (.rt d) else none
  | _ => none
theorem OkTail.base (plan : List Pl) (hl : Γ.length ≤ plan.length) (ht : plan.all (fun p => match p with | .tr => false | _ => true) = true) (h : ∀ w, OkTail K (mkG plan 0 w) g t) : OkS K Γ false r (sZ (klG plan 0) g) t := fun G H0 own env σ H D res R z p => by
  unfold sZ at z
  cases e1 : g (kil (klG plan 0) env) with
  | none => rw [e1] at z; cases z
  | some x =>
    rw [e1] at z
    simp only [Option.bind_some] at z
    cases x with
    | rt d =>
      simp only at z
      by_cases hs : isSc d = true
      · rw [if_pos hs] at z
        cases z
        exact h _ H0 H H _ _ σ H D d (R.allIn plan ht) R.ex e1 hs fun v H' s q => p v H' s (dp_flat hs q)
      · rw [if_neg hs] at z; cases z
    | nx e => cases z
    | bk e => cases z
    | ct e => cases z
def sReb (n : Nat) (kl : List Nat) (g : SE → Option Rs) (e : SE) : Option Rs := if e.length ≤ n then g (kil kl e) else none
theorem OkTail.reb (plan : List Pl) (ht : rebOk Γ plan = true) (h : ∀ w, OkTail K (mkG plan 0 w) g t) : OkTail K Γ (sReb plan.length (klG plan 0) g) t := by
  intro N G H0 own env σ H D d R hN z hs k
  unfold sReb at z
  by_cases q : env.length ≤ plan.length
  · rw [if_pos q] at z
    exact h _ N H0 H _ _ σ H D d (R.reb plan ht q) (hN.trans R.gs) z hs k
  · rw [if_neg q] at z; cases z
theorem ER.sig (R : ER K Γ G H0 own env σ H) {x : Option V} (hd : ∀ d, env[i]? ≠ some (some d)) : ER K Γ G H0 own env (σ.set i x) H := by
  refine ⟨R.gs, R.ex, R.inj, R.fr, by rw [List.length_set]; exact R.le, by rw [List.length_set]; exact R.ol, fun j d hj => ?_⟩
  have hne : i ≠ j := fun z => by subst z; exact hd d hj
  rw [List.getElem?_set_ne hne]
  exact R.sl j d hj
/-- what isn't needed any more is changed -/
theorem ER.trash {p : Addr} {xs ys : List V} (R : ER K Γ G H0 own env σ H) (hp : H0 p = some (.lst xs)) (hg : G p = none) (hf : ∀ (j : Nat) d, env[j]? = some (some d) → flat (md Γ j) = true) : ER K Γ G (upd H0 p (.lst ys)) own env σ (upd H p (.lst ys)) := by
  have no : ∀ (i : Nat) (a : Addr), own[i]? = some (some a) → a ≠ p := fun i a h z => by
    have := (R.fr i a h).1
    rw [z, hp] at this
    cases this
  refine ⟨fun a o e => by rw [upd_ne (ne_of_none e hg)]; exact R.gs _ _ e, fun a o e => ?_, R.inj, fun i a h => ?_, R.le, R.ol, fun j d hj => ?_⟩
  · by_cases z : a = p
    · subst z; rw [upd_same] at e ⊢; exact e
    · rw [upd_ne z] at e ⊢; exact R.ex _ _ e
  · obtain ⟨h1, o, h2⟩ := R.fr i a h
    rw [upd_ne (no i a h), upd_ne (no i a h)]
    exact ⟨h1, o, h2⟩
  · obtain ⟨v, hv, so⟩ := R.sl j d hj
    refine ⟨v, hv, so.step3 (fun {rr} hr => fun a o q => ?_) (hf j d hj) fun a ha => ⟨ha, fun o q => by rw [upd_ne (no j a ha)]; exact q⟩⟩
    obtain ⟨i1, q'⟩ := rg_iff.mp q
    cases rr with
    | bo => exact absurd rfl hr
    | nw =>
      have na : a ≠ p := fun z => by have := i1.2.1; rw [z, hp] at this; cases this
      exact rg_iff.mpr ⟨⟨i1.1, by rw [upd_ne na]; exact i1.2.1, i1.2.2⟩, by rw [upd_ne na]; exact q'⟩
    | od =>
      have na : a ≠ p := fun z => by
        rcases i1.2 with h | h
        · have := h.1; rw [z, hp] at this; cases this
        · rw [z] at h; exact h hg
      refine rg_iff.mpr ⟨⟨i1.1, ?_⟩, by rw [upd_ne na]; exact q'⟩
      rcases i1.2 with h | h
      · exact .inl ⟨by rw [upd_ne na]; exact h.1, h.2⟩
      · exact .inr h
/-- a list that may be changed is tracked -/
theorem trk (NL : NoL K) {G H0 : Hp} {v : V} {ds : List D} (h : Dp K (rgt G H0) v (.list ds)) : ∃ a vs, v = .ref a ∧ H0 a = some (.lst vs) ∧ G a = none ∧ DpAll K (rgt G H0) vs ds := by
  cases h with
  | lst hs hd =>
    rcases hs with (h | ⟨o, h⟩) | ⟨o, its, n, h1, h2, _⟩
    · exact ⟨_, _, rfl, (rgt_iff.mp h).2, (rgt_iff.mp h).1.1, hd⟩
    · exact absurd (rgt_iff.mp h).1.2 (fun z => z)
    · exact absurd h2 (NL _ _ h1)
end
def tClr (K : PySem.W.Frag) (z : Nat) : TS := fun D σ H => tBM0 K "list" rClear (tVar z) σ H fun _ H1 => D.nx σ H1
def flK (Γ : List Md) (kl : List Nat) : Bool := (List.range Γ.length).all fun j => flat (md Γ j) || kl.contains j
theorem flK_ok {Γ : List Md} {kl : List Nat} (h : flK Γ kl = true) {e : SE} (j : Nat) (d : D) (hj : (kil kl e)[j]? = some (some d)) : flat (md Γ j) = true := by
  by_cases q : j < Γ.length
  · have := List.all_eq_true.mp h j (List.mem_range.mpr q)
    rcases Bool.or_eq_true _ _ ▸ this with z | z
    · exact z
    · exact absurd (List.contains_iff_mem.mp z) (kil_at hj).1
  · unfold md
    rw [List.getD_eq_getElem?_getD, List.getElem?_eq_none (by omega)]
    rfl
def isTr : Md → Bool
  | .tr => true
  | _ => false
theorem isTr_is {m : Md} (h : isTr m = true) : m = .tr := by cases m <;> first | rfl | cases h
def sClr (ok : D → Bool) (k z : Nat) (kl : List Nat) (g : SE → Option Rs) (e : SE) : Option Rs := (dV k e).bind fun x => match x with
  | .list ds => if ds.all ok = true ∧ z < e.length then g (kil kl e) else none
  | _ => none
def is3 : D → Bool
  | .tuple [_, _, .list xs] => xs.all isSc
  | _ => false
def is1 : D → Bool
  | .list xs => xs.all isSc
  | _ => false
theorem is3_is {d : D} (h : is3 d = true) : ∃ a b xs, d = .tuple [a, b, .list xs] ∧ xs.all isSc = true := by
  unfold is3 at h
  split at h
  · exact ⟨_, _, _, rfl, h⟩
  · cases h
def It3 (K : PySem.W.Frag) (G H0 : Hp) (y : V) : Prop := ∃ T w l p xs, y = .ref T ∧ SqT K H0 T [w, l, .ref p] ∧ H0 p = some (.lst xs) ∧ G p = none ∧ ∀ (m : Nat) b, xs[m]? ≠ some (.ref b)
theorem sqt_upd {K : PySem.W.Frag} {H0 : Hp} {T p : Addr} {ws xs ys : List V} (h : SqT K H0 T ws) (hp : H0 p = some (.lst xs)) : SqT K (upd H0 p (.lst ys)) T ws := by
  rcases h with (h | ⟨o, h⟩) | h
  · have : T ≠ p := fun z => by rw [z, hp] at h; cases h
    exact .inl (.inl (by rw [upd_ne this]; exact h))
  · have : T ≠ p := fun z => by rw [z, hp] at h; cases h
    exact .inl (.inr ⟨o, by rw [upd_ne this]; exact h⟩)
  · exact .inr h
theorem It3.upd {K : PySem.W.Frag} {G H0 : Hp} {y : V} {p : Addr} {xs : List V} (h : It3 K G H0 y) (hp : H0 p = some (.lst xs)) : It3 K G (L2.upd H0 p (.lst [])) y := by
  obtain ⟨T, w, l, q, us, rfl, h1, h2, h3, h4⟩ := h
  by_cases z : q = p
  · subst z
    exact ⟨T, w, l, q, [], rfl, sqt_upd h1 hp, upd_same, h3, fun m b => by simp⟩
  · exact ⟨T, w, l, q, us, rfl, sqt_upd h1 hp, by rw [upd_ne z]; exact h2, h3, h4⟩
theorem is1_is {d : D} (h : is1 d = true) : ∃ xs, d = .list xs ∧ xs.all isSc = true := by
  unfold is1 at h
  split at h
  · exact ⟨_, rfl, h⟩
  · cases h
def It1 (_ : PySem.W.Frag) (G H0 : Hp) (y : V) : Prop := ∃ p xs, y = .ref p ∧ H0 p = some (.lst xs) ∧ G p = none ∧ ∀ (m : Nat) b, xs[m]? ≠ some (.ref b)
theorem It1.upd {K : PySem.W.Frag} {G H0 : Hp} {y : V} {p : Addr} {xs : List V} (h : It1 K G H0 y) (_ : H0 p = some (.lst xs)) : It1 K G (L2.upd H0 p (.lst [])) y := by
  obtain ⟨q, us, rfl, h2, h3, h4⟩ := h
  by_cases z : q = p
  · subst z
    exact ⟨q, [], rfl, upd_same, h3, fun m b => by simp⟩
  · exact ⟨q, us, rfl, by rw [upd_ne z]; exact h2, h3, h4⟩
theorem sc_noref {K : PySem.W.Frag} {H : Hp} {vs : List V} {ds : List D} (h : DpAll K H vs ds) (hs : ds.all isSc = true) {j : Nat} {a : Addr} : vs[j]? ≠ some (.ref a) := fun e => by
  obtain ⟨d, h1, h2⟩ := dps_at h e
  have := List.all_eq_true.mp hs d (List.mem_of_getElem? h1)
  have := dp_sc this h2
  cases d <;> cases this
section
variable {K : PySem.W.Frag} {Γ : List Md} {k i1 i2 z : Nat} {kl : List Nat} {g : SE → Option Rs} {t : TS}
/-- for a, b, x in S: x.clear(); S.clear() -/
theorem ok_clr3 (NL : NoL K) (hk : isTr (md Γ k) = true) (hz : kl.contains k && kl.contains i1 && kl.contains i2 && kl.contains z = true) (hd : (z != i1 && z != i2 && k != z && k != i1 && k != i2) = true) (hf : flK Γ kl = true) (hg : OkTail K Γ g t) :
    OkTail K Γ (sClr is3 k z kl g) (tSeq (tFor (iList K (tVar k)) (gTup K 3 (gCons (gName i1) (gCons (gName i2) (gCons (gName z) gNil)))) (tClr K z)) (tSeq (tClr K k) t)) := by
  intro N G H0 own env σ H D d R hN q hs c
  unfold sClr at q
  cases e1 : dV k env with
  | none => rw [e1] at q; cases q
  | some x =>
    rw [e1] at q
    simp only [Option.bind_some] at q
    cases x with
    | list ds =>
      simp only at q
      by_cases h34 : ds.all is3 = true ∧ z < env.length
      · rw [if_pos h34] at q
        obtain ⟨h3, hzl⟩ := h34
        obtain ⟨v, hv, so⟩ := R.sl k _ (dV_get e1)
        rw [isTr_is hk] at so
        obtain ⟨a, vs, rfl, ha, ga, hds⟩ := trk NL (show Dp K (rgt G H0) v (.list ds) from so)
        simp only [Bool.and_eq_true, bne_iff_ne, ne_eq, List.contains_iff_mem] at hz hd
        obtain ⟨⟨⟨zk, z1⟩, z2⟩, zz⟩ := hz
        obtain ⟨⟨⟨⟨d1, d2⟩, d3⟩, d4⟩, d5⟩ := hd
        have R0 := ER.kil kl R
        have items : ∀ (j : Nat) y, vs[j]? = some y → It3 K G H0 y := fun j y hy => by
          obtain ⟨dd, g1, g2⟩ := dps_at hds hy
          obtain ⟨da, db, us, rfl, hu⟩ := is3_is (List.all_eq_true.mp h3 dd (List.mem_of_getElem? g1))
          cases g2 with
          | tup hs h4 =>
            cases h4 with
            | cons h5 h6 =>
              cases h6 with
              | cons h7 h8 =>
                cases h8 with
                | cons h9 h10 =>
                  cases h10
                  obtain ⟨p, xs, rfl, hp, gp, hx⟩ := trk NL h9
                  exact ⟨_, _, _, p, xs, rfl, same_t rgt_sub hs, hp, gp, fun m b => sc_noref hx hu⟩
        have dead : ∀ j, j ∈ kl → ∀ d, (kil kl env)[j]? ≠ some (some d) := fun j hj d e => (kil_at e).1 hj
        have fl := fun (j : Nat) d hj => flK_ok hf (e := env) j d hj
        refine ⟨.ref a, hv, a, rfl, ⟨vs, SqL.of (R.ex _ _ ha)⟩, fun i m σ' H' => ∃ H0', ER K Γ G H0' own (kil kl env) σ' H' ∧ H0' a = some (.lst vs) ∧ (∀ (j : Nat) y, vs[j]? = some y → It3 K G H0' y) ∧ m + i = vs.length ∧ σ'[k]? = some (some (.ref a)), ⟨vs.length, H0, R0, ha, items, by omega, hv⟩, ?_⟩
        rintro i m σ' H' ⟨H0', R', ha', it', hm, hk'⟩
        have hH := R'.ex _ _ ha'
        cases m with
        | zero =>
          refine .inl ⟨⟨vs, SqL.of hH, by omega⟩, .ref a, hk', .inl ⟨rfl, vs, SqL.of hH⟩, a, vs, rfl, rfl, hH, ?_⟩
          exact hg N G _ own (kil kl env) σ' _ D d (R'.trash ha' ga fl) hN q hs c
        | succ m =>
          have hi : i < vs.length := by omega
          refine .inr ⟨⟨vs, vs[i], SqL.of hH, List.getElem?_eq_getElem hi⟩, fun σ2 H2 => ∃ H0', ER K Γ G H0' own (kil kl env) σ2 H2 ∧ H0' a = some (.lst vs) ∧ (∀ (j : Nat) y, vs[j]? = some y → It3 K G H0' y) ∧ m + (i + 1) = vs.length ∧ σ2[k]? = some (some (.ref a)), fun σ2 H2 h => ⟨m, Nat.lt_succ_self m, h⟩, fun y H2 yl => ?_⟩
          obtain ⟨rfl, hy⟩ := yl
          have hy := hy vs (SqL.of hH)
          obtain ⟨T, w, l, p, xs, rfl, hT, hp, gp, hx⟩ := it' i y hy
          have hpH := R'.ex _ _ hp
          have hap : a ≠ p := fun e => by
            rw [e, hp] at ha'
            cases ha'
            exact hx i T hy
          refine ⟨T, _, rfl, same_t R'.ex hT, rfl, _, _, rfl, _, _, rfl, _, _, rfl, rfl, .ref p, List.getElem?_set_self (by rw [List.length_set, List.length_set, ← R'.le, kil_len]; exact hzl), .inl ⟨rfl, xs, SqL.of hpH⟩, p, xs, rfl, rfl, hpH, ?_⟩
          refine ⟨L2.upd H0' p (.lst []), (((R'.sig (dead i1 z1)).sig (dead i2 z2)).sig (dead z (of_decide_eq_true zz))).trash hp gp fl, by rw [upd_ne hap]; exact ha', fun j y hy => (it' j y hy).upd hp, by omega, ?_⟩
          rw [List.getElem?_set_ne (Ne.symm d3), List.getElem?_set_ne (Ne.symm d5), List.getElem?_set_ne (Ne.symm d4)]
          exact hk'
      · rw [if_neg h34] at q; cases q
    | _ => cases q
/-- for x in S: x.clear(); S.clear() -/
theorem ok_clr1 (NL : NoL K) (hk : isTr (md Γ k) = true) (hz : kl.contains k && kl.contains z = true) (hd : (k != z) = true) (hf : flK Γ kl = true) (hg : OkTail K Γ g t) :
    OkTail K Γ (sClr is1 k z kl g) (tSeq (tFor (iList K (tVar k)) (gName z) (tClr K z)) (tSeq (tClr K k) t)) := by
  intro N G H0 own env σ H D d R hN q hs c
  unfold sClr at q
  cases e1 : dV k env with
  | none => rw [e1] at q; cases q
  | some x =>
    rw [e1] at q
    simp only [Option.bind_some] at q
    cases x with
    | list ds =>
      simp only at q
      by_cases h34 : ds.all is1 = true ∧ z < env.length
      · rw [if_pos h34] at q
        obtain ⟨h3, hzl⟩ := h34
        obtain ⟨v, hv, so⟩ := R.sl k _ (dV_get e1)
        rw [isTr_is hk] at so
        obtain ⟨a, vs, rfl, ha, ga, hds⟩ := trk NL (show Dp K (rgt G H0) v (.list ds) from so)
        simp only [Bool.and_eq_true, bne_iff_ne, ne_eq, List.contains_iff_mem] at hz hd
        obtain ⟨zk, zz⟩ := hz
        have R0 := ER.kil kl R
        have items : ∀ (j : Nat) y, vs[j]? = some y → It1 K G H0 y := fun j y hy => by
          obtain ⟨dd, g1, g2⟩ := dps_at hds hy
          obtain ⟨us, rfl, hu⟩ := is1_is (List.all_eq_true.mp h3 dd (List.mem_of_getElem? g1))
          obtain ⟨p, xs, rfl, hp, gp, hx⟩ := trk NL g2
          exact ⟨p, xs, rfl, hp, gp, fun m b => sc_noref hx hu⟩
        have dead : ∀ j, j ∈ kl → ∀ d, (kil kl env)[j]? ≠ some (some d) := fun j hj d e => (kil_at e).1 hj
        have fl := fun (j : Nat) d hj => flK_ok hf (e := env) j d hj
        refine ⟨.ref a, hv, a, rfl, ⟨vs, SqL.of (R.ex _ _ ha)⟩, fun i m σ' H' => ∃ H0', ER K Γ G H0' own (kil kl env) σ' H' ∧ H0' a = some (.lst vs) ∧ (∀ (j : Nat) y, vs[j]? = some y → It1 K G H0' y) ∧ m + i = vs.length ∧ σ'[k]? = some (some (.ref a)), ⟨vs.length, H0, R0, ha, items, by omega, hv⟩, ?_⟩
        rintro i m σ' H' ⟨H0', R', ha', it', hm, hk'⟩
        have hH := R'.ex _ _ ha'
        cases m with
        | zero =>
          refine .inl ⟨⟨vs, SqL.of hH, by omega⟩, .ref a, hk', .inl ⟨rfl, vs, SqL.of hH⟩, a, vs, rfl, rfl, hH, ?_⟩
          exact hg N G _ own (kil kl env) σ' _ D d (R'.trash ha' ga fl) hN q hs c
        | succ m =>
          have hi : i < vs.length := by omega
          refine .inr ⟨⟨vs, vs[i], SqL.of hH, List.getElem?_eq_getElem hi⟩, fun σ2 H2 => ∃ H0', ER K Γ G H0' own (kil kl env) σ2 H2 ∧ H0' a = some (.lst vs) ∧ (∀ (j : Nat) y, vs[j]? = some y → It1 K G H0' y) ∧ m + (i + 1) = vs.length ∧ σ2[k]? = some (some (.ref a)), fun σ2 H2 h => ⟨m, Nat.lt_succ_self m, h⟩, fun y H2 yl => ?_⟩
          obtain ⟨rfl, hy⟩ := yl
          have hy := hy vs (SqL.of hH)
          obtain ⟨p, xs, rfl, hp, gp, hx⟩ := it' i y hy
          have hpH := R'.ex _ _ hp
          have hap : a ≠ p := fun e => by
            rw [e, hp] at ha'
            cases ha'
            exact hx i _ hy
          refine ⟨.ref p, List.getElem?_set_self (by rw [← R'.le, kil_len]; exact hzl), .inl ⟨rfl, xs, SqL.of hpH⟩, p, xs, rfl, rfl, hpH, ?_⟩
          refine ⟨L2.upd H0' p (.lst []), (R'.sig (dead z (of_decide_eq_true zz))).trash hp gp fl, by rw [upd_ne hap]; exact ha', fun j y hy => (it' j y hy).upd hp, by omega, ?_⟩
          rw [List.getElem?_set_ne (Ne.symm hd)]
          exact hk'
      · rw [if_neg h34] at q; cases q
    | _ => cases q
end
section
variable {X : Cx} {Γ : List Md} {r : Rl} {st b c : Stmt} {rest : List Stmt} {tg eS : Expr} {f g : SE → Option Rs} {t v : TS} {pos : Pos} {k i1 i2 z : Nat}
theorem vt_of (h : VSs X Γ false .nw rest g t) : VTail X Γ rest g t := ⟨h.ps, OkTail.of h.ok⟩
theorem vt_cons (h : VS X Γ false .nw st f t) (hr : VTail X Γ rest g v) : VTail X Γ (st :: rest) (sSeq f g) (tSeq t v) := ⟨pss_cons h.ps hr.ps, OkTail.seq h.ok hr.ok⟩
theorem vss_base (plan : List Pl) (h : ∀ w, VTail X (mkG plan 0 w) rest g t) (hl : Γ.length ≤ plan.length := by decide) (ht : plan.all (fun p => match p with | .tr => false | _ => true) = true := by rfl) : VSs X Γ false r rest (sZ (klG plan 0) g) t := ⟨(h fun _ => .non).ps, OkTail.base plan hl ht fun w => (h w).ok⟩
theorem vt_reb (plan : List Pl) (h : ∀ w, VTail X (mkG plan 0 w) rest g t) (ht : rebOk Γ plan = true := by rfl) : VTail X Γ rest (sReb plan.length (klG plan 0) g) t := ⟨(h fun _ => .non).ps, OkTail.reb plan ht fun w => (h w).ok⟩
theorem vt_clr3 (k i1 i2 z : Nat) (kl : List Nat) (NL : NoL X.K) (hp : PassesOwn (model X.prog X.w) X.A X.env X.xe) (hc : X.calm = true) (hS : PE X eS (tVar k)) (hg : PG X tg (gTup X.K 3 (gCons (gName i1) (gCons (gName i2) (gCons (gName z) gNil)))))
    (hb : PS X b (tClr X.K z)) (hc2 : PS X c (tClr X.K k)) (hr : VTail X Γ rest g v) (hk : isTr (md Γ k) = true := by rfl) (hz : kl.contains k && kl.contains i1 && kl.contains i2 && kl.contains z = true := by decide) (hd : (z != i1 && z != i2 && k != z && k != i1 && k != i2) = true := by decide) (hf : flK Γ kl = true := by rfl)
    (hs : ∀ x, foldedSetIterable eS X.env x = pure x := by intro _; rfl) : VTail X Γ (.For tg eS [b] [] pos :: c :: rest) (sClr is3 k z kl g) (tSeq (tFor (iList X.K (tVar k)) (gTup X.K 3 (gCons (gName i1) (gCons (gName i2) (gCons (gName z) gNil)))) (tClr X.K z)) (tSeq (tClr X.K k) v)) :=
  ⟨pss_cons (ps_for hp hc (pi_list hS) hg (pss_one hb) hs) (pss_cons hc2 hr.ps), ok_clr3 NL hk hz hd hf hr.ok⟩
theorem vt_clr1 (k z : Nat) (kl : List Nat) (NL : NoL X.K) (hp : PassesOwn (model X.prog X.w) X.A X.env X.xe) (hc : X.calm = true) (hS : PE X eS (tVar k)) (hg : PG X tg (gName z))
    (hb : PS X b (tClr X.K z)) (hc2 : PS X c (tClr X.K k)) (hr : VTail X Γ rest g v) (hk : isTr (md Γ k) = true := by rfl) (hz : kl.contains k && kl.contains z = true := by decide) (hd : (k != z) = true := by decide) (hf : flK Γ kl = true := by rfl)
    (hs : ∀ x, foldedSetIterable eS X.env x = pure x := by intro _; rfl) : VTail X Γ (.For tg eS [b] [] pos :: c :: rest) (sClr is1 k z kl g) (tSeq (tFor (iList X.K (tVar k)) (gName z) (tClr X.K z)) (tSeq (tClr X.K k) v)) :=
  ⟨pss_cons (ps_for hp hc (pi_list hS) hg (pss_one hb) hs) (pss_cons hc2 hr.ps), ok_clr1 NL hk hz hd hf hr.ok⟩
/-- x.clear() of a slot -/
theorem ps_clr {x : Str} {px apos cpos : Pos} (h : PE X (.Name x px) (tVar k)) (hb : attributeBase (.Name x px) "clear" X.env (eval (.Name x px) X.env) = eval (.Name x px) X.env := by rfl) (h2 : (apos.endLine == cpos.line) = true := by rfl)
    (hs : swapsWith (.Call (.Attribute (.Name x px) "clear" apos) [] [] cpos) none pos.line X.env = pure false := by rfl) : PS X (.Expr (.Call (.Attribute (.Name x px) "clear" apos) [] [] cpos) pos) (tClr X.K k) :=
  ps_expr (pe_bm0 PySem.F.plainAttrs_list PySem.F.slot_list_clear PySem.F.type_list_clear mt_clear h hb h2) hs
end
section
variable {K : PySem.W.Frag} {Γ : List Md} {r : Rl}
/-- everything is handed in -/
theorem ER.allOd {G H0 H : Hp} {own : List (Option Addr)} {env : SE} {σ : L2.St} (R : ER K Γ G H0 own env σ H) : ER K [] H H (List.replicate own.length none) env σ H := R.allIn [] rfl
theorem od_back {G H0 H H' : Hp} {own ex : List (Option Addr)} {env : SE} {σ : L2.St} (R : ER K Γ G H0 own env σ H) : Same (rg .nw H H (List.replicate own.length none ++ ex) H') (rg .nw G H0 (own ++ ex) H') := fun b o e => by
  obtain ⟨⟨i1, i2, i3⟩, q⟩ := rg_iff.mp e
  refine rg_iff.mpr ⟨⟨fun ⟨j, hj⟩ => ?_, ?_, i3⟩, q⟩
  · by_cases z : j < own.length
    · rw [List.getElem?_append_left z] at hj
      obtain ⟨_, o', h⟩ := R.fr j b hj
      rw [i2] at h; cases h
    · refine i1 ⟨j, ?_⟩
      rw [List.getElem?_append_right (by rw [List.length_replicate]; omega), List.length_replicate]
      rw [List.getElem?_append_right (by omega)] at hj
      exact hj
  · cases e1 : H0 b with
    | none => rfl
    | some o1 => have := R.ex _ _ e1; rw [i2] at this; cases this
theorem okL_od {f : SE → Option (List D)} {t : TE} (h : OkL K [] .nw f t) : OkL K Γ .nw f t := fun G H0 own env σ H Q ds R z k =>
  h H H _ env σ H Q ds R.allOd z fun a vs H' s n e p => k a vs H' s n e (dps_mono (od_back R) _ _ p)
theorem okE_od {f : SE → Option D} {t : TE} (h : OkE K [] .nw f t) : OkE K Γ .nw f t := fun G H0 own env σ H Q d R z k =>
  h H H _ env σ H Q d R.allOd z fun v H' s p => k v H' s (dp_mono (by have := od_back (ex := []) (H' := H') R; rwa [List.append_nil, List.append_nil] at this) _ _ p)
theorem okT_od {f : SE → Option Bool} {t : TT} (h : OkT K [] f t) : OkT K Γ f t := fun G H0 own env σ H Q d R z k => h H H _ env σ H Q d R.allOd z k
end
section
variable {X : Cx} {Γ : List Md} {u : Bool} {r ri re : Rl} {e elt iter tg : Expr} {scope : Scope} {own : List (Str × Nat)} {is : List Nat} {set : D → SE → Option SE} {c : SE → Option Bool} {h : SE → Option D} {f : SE → Option (List D)} {wi : TI} {y : Str} {pos py spos : Pos} {ifs : List Expr}
theorem v_od {f : SE → Option D} {t : TE} (h : VE X [] e .nw f t) : VE X Γ e .nw f t := ⟨h.pe, okE_od h.ok⟩
theorem vt_od {f : SE → Option Bool} {t : TT} (h : VT X [] e f t) : VT X Γ e f t := ⟨h.pt, okT_od h.ok⟩
theorem vl_od {f : SE → Option (List D)} {t : TE} (h : VL X [] e .nw f t) : VL X Γ e .nw f t := ⟨h.pe, okL_od h.ok⟩
/-- y = [.. for ..] on one row, everything taken as handed in -/
theorem vs_setCD {ws : List Nat} {te : Fam TE} {tt : Fam TT} {g : Fam TG} (i : Nat) (hcalm : X.calm = true) (hN : X.N.Nodup) (hsw : swapsWith (.ListComp elt [⟨tg, iter, ifs, 0⟩] scope pos) (some (.Name y py)) spos.line X.env = pure true) (hi : VI X [] tg iter ri f wi) (ok : BlkOk X.N X.env.scope scope own)
    (hg : ∀ s H C cl fp, VG (X.blk s H scope (compEnvC scope cl C X.env) fp) [] tg ri is set (g s H C cl fp))
    (ht : ∀ s H C cl fp, VTs (X.blk s H scope (compEnvC scope cl C X.env) fp) [] ifs c (tt s H C cl fp))
    (he : ∀ s H C cl fp, VE (X.blk s H scope (compEnvC scope cl C X.env) fp) [] elt re h (te s H C cl fp)) (hre : re = .nw := by rfl) (hws : own.map (·.2) = ws := by rfl) (his : ∀ j ∈ is, j ∈ ws := by decide)
    (ha : acc .nw (md Γ i) = true := by rfl) (hyi : X.N[i]? = some y := by rfl) (hyl : X.env.scope.names.lookup y = some .local := by rfl)
    (hs : ∀ x, foldedSetIterable iter X.env x = pure x := by intro _; rfl) : VS X Γ u r (.Assign [.Name y py] (.ListComp elt [⟨tg, iter, ifs, 0⟩] scope pos) spos) (sSet i (dLst (lComp ws set c h f))) (tAsg (tLc wi (allG g) (allT tt) (allE te) ws) (gName i)) := by
  subst hre
  have S := vs_setC (u := u) (r := r) (Γ := []) i hcalm hN hsw hi ok (fam_g hg) (fam_t ht) (fam_e he) (by intro z; cases z) hws his (by rfl) hyi hyl hs
  have V := vl_comp (pos := pos) hcalm hN hi ok (fam_g hg) (fam_t ht) (fam_e he) (by intro z; cases z) hws his hs
  exact ⟨S.ps, ok_set ha (ok_ofL (okL_od V.ok))⟩
end
section
variable {kl : List Nat} {g : SE → Option Rs} {e : SE} {n k z : Nat} {ok : D → Bool} {ds : List D}
def zK (x : Rs) : Option Rs := match x with
  | .rt d => if isSc d = true then some (.rt d) else none
  | _ => none
theorem v_sZ : sZ kl g e = (g (kil kl e)).bind zK := rfl
theorem k_sZ {b : Bool} : zK (.rt (.bool b)) = some (.rt (.bool b)) := rfl
theorem v_sReb : sReb n kl g e = if e.length ≤ n then g (kil kl e) else none := rfl
def clrK (ok : D → Bool) (z : Nat) (kl : List Nat) (g : SE → Option Rs) (e : SE) (x : D) : Option Rs := match x with
  | .list ds => if ds.all ok = true ∧ z < e.length then g (kil kl e) else none
  | _ => none
theorem v_sClr : sClr ok k z kl g e = (dV k e).bind (clrK ok z kl g e) := rfl
theorem k_sClr (h : ds.all ok = true) : clrK ok z kl g e (.list ds) = if z < e.length then g (kil kl e) else none := by
  show (if ds.all ok = true ∧ z < e.length then g (kil kl e) else none) = _
  rw [h]
  simp
end
end PV

namespace PV
open PySem PySem.Spec PyProof.Rows L2
theorem list_extW (l : Addr) (items : Array Value) (n : Nat) (b : Addr) (items2 : Array Value) (n2 : Nat) (dd2 : Option Addr) (sl2 : Array (Option Value)) (hc0 : ¬(!items.isEmpty && Builtin.List.listTooLong (items.size + items2.size)) = true) (hc1 : items.size ≤ sizeLine) (hs2 : items.size + items2.size ≤ sizeLine + 1) :
    Meets (Builtin.«list.extend» ⟨[.ref l, .ref b], []⟩) (fun _ R s => s.heap.get? l = some { cls := .type "list", dict := none, data := .seq items n, slots := #[] } ∧ s.heap.get? b = some { cls := .type "list", dict := dd2, data := .seq items2 n2, slots := sl2 } ∧ R (.ok (.ret Value.none)) { s with heap := s.heap.update l (Obj.mapSeq fun x => x ++ items2), toks := s.toks }) :=
  .of_wp fun prog w A R s h => by
    obtain ⟨hp, g, d, tk, os⟩ := s; obtain ⟨hl, hb, h⟩ := h; have f1 := AutoSeq1.idx_int; have f2 := AutoSeq1.sub_tuple_tuple; have f3 := AutoSeq1.sub_list_list; have f4 := AutoSeq1.sub_tuple_list; have f5 := AutoSeq1.sub_list_tuple;
    have hz' : (items ++ items2).size ≤ sizeLine + 1 := by rw [Array.size_append]; exact hs2
    wp_walk using (wpAny_updateSeq hl rfl (hz := hc1) (_hz' := hz')), AutoSeq1.wpAny_loadPart' hl, AutoSeq1.wpAny_loadPart' hb; exact ⟨_, rfl, h⟩
def rExtW (K : PySem.W.Frag) : V → List V → Hp → VK → Prop := fun x vs H Q => ∃ l b xs zs, x = .ref l ∧ vs = [.ref b] ∧ H l = some (.lst xs) ∧ SqL K H b zs ∧ xs.length + zs.length ≤ sizeLine ∧ Q .non (upd H l (.lst (xs ++ zs)))
theorem mt_extW {X : Cx} : MtM X "list.extend" (rExtW X.K) := by
  intro pins s σ H x vs v us Q I rx rv h
  obtain ⟨l, b, xs, zs, rfl, rfl, hH, hB, hz, q⟩ := h
  cases rx
  obtain ⟨u, rfl, ru⟩ := rv.one
  cases ru
  obtain ⟨z, its, n, r, hl, e⟩ := I.lstM hH
  obtain ⟨its2, r2, p2, z2⟩ := I.list hB
  obtain ⟨⟨cls2, dd2, data2, sl2⟩, n2, ho2, hc2, hdd2, hd2⟩ := p2
  simp only at hc2 hd2
  subst hc2 hd2
  have l2 := r2.length
  have hsz : its.toArray.size + its2.toArray.size ≤ sizeLine := by rw [List.size_toArray, List.size_toArray]; omega
  have hlong : ¬ (!its.toArray.isEmpty && Builtin.List.listTooLong (its.toArray.size + its2.toArray.size)) = true := by
    rw [notLongL hsz, Bool.and_false]
    exact Bool.false_ne_true
  refine call_meets PySem.F.slot_list_extend ⟨_, e, rfl⟩ PySem.F.entry_list_extend (PySem.F.args_list_extend_2 _ _)
    (list_extW l its.toArray n b its2.toArray n2 dd2 sl2 hlong (by rw [List.size_toArray]; omega) (by omega)) ⟨e, ho2, ?_⟩
  refine ⟨.non, _, I.lset (its' := its ++ its2) hH e (by simp) (r.append r2) ?_, rfl, q⟩
  rw [List.length_append]
  omega
def hExt (xs as : List D) : Option (List D) := match as with
  | [.list ys] => if xs.length + ys.length ≤ 1000000 then some (xs ++ ys) else none
  | _ => none
theorem hExt_of {xs ys : List D} (h : xs.length + ys.length ≤ 1000000) : hExt xs [.list ys] = some (xs ++ ys) := by
  unfold hExt
  simp only [if_pos h]
section
variable {K : PySem.W.Frag} {Γ : List Md} {u : Bool} {r ra : Rl}
theorem ok_ext {k : Nat} {fs : SE → Option (List D)} {ts : TA} (ha : OkA K Γ ra fs ts) (hm : isM (md Γ k) = true) (hc : accE ra (moR (md Γ k)) = true) :
    OkS K Γ u r (sMut k hExt fs) (fun D σ H => (tBM K "list" (rExtW K) (tVar k) ts) σ H fun _ H1 => D.nx σ H1) := fun G H0 own env σ H D' res R z p => by
  unfold sMut at z
  cases e1 : dV k env with
  | none => rw [e1] at z; cases z
  | some y =>
    rw [e1] at z
    simp only [Option.bind_some] at z
    cases e2 : list? y with
    | none => rw [e2] at z; cases z
    | some xs =>
      rw [e2] at z
      simp only [Option.bind_some] at z
      cases e3 : fs env with
      | none => rw [e3] at z; cases z
      | some as =>
        rw [e3] at z
        simp only [Option.bind_some] at z
        cases e4 : hExt xs as with
        | none => rw [e4] at z; cases z
        | some ys =>
          rw [e4] at z
          cases z
          obtain ⟨w, h1, h2⟩ := R.sl k y (dV_get e1)
          obtain ⟨a, vs, ds, rfl, ho, hH, rfl, hd⟩ := slotM_of hm h2
          cases e2
          refine ⟨_, h1, .inl ⟨rfl, vs, SqL.of hH⟩, ha G H0 own env σ H _ as R e3 fun us H1 s1 c => ?_⟩
          have R1 := R.ext s1
          unfold hExt at e4
          split at e4
          · rename_i zs
            split at e4
            · rename_i hz
              cases e4
              cases c with
              | cons c c2 =>
                cases c2
                cases c with
                | lst hs hds =>
                  have hd1 := dps_mono (rg_ext s1) _ _ hd
                  have hd2 := dps_mono (rg_le (accE_le hc)) _ _ hds
                  obtain ⟨R3, g3⟩ := R1.mutd hm ho h1 (dps_app hd1 hd2)
                  have hH1 := s1 _ _ hH
                  refine ⟨a, _, vs, _, rfl, rfl, hH1, rg_sub.seq hs, ?_, p own σ _ R3 ((Gr.of s1).trans g3)⟩
                  rw [dps_len hd, dps_len hds]
                  exact Nat.le_trans hz (by decide)
            · cases e4
          · cases e4
end
section
variable {X : Cx} {Γ : List Md} {u : Bool} {r re ra rb : Rl} {e : Expr} {fs : SE → Option (List D)} {ts : TA} {x : Str} {pos px apos cpos : Pos}
theorem vs_ext (k : Nat) (ha : VA X Γ [e] ra fs ts) (hm : isM (md Γ k) = true := by rfl) (hc : accE ra (moR (md Γ k)) = true := by rfl) (hN : X.N[k]? = some x := by rfl) (hv : Vis X.env.scope x := by first | exact Or.inl rfl | exact Or.inr (Or.inl rfl) | exact Or.inr (Or.inr rfl))
    (hd : (x == ("__debug__" : Str)) = false := by decide) (hcd : (x == ("__classdict__" : Str)) = false := by decide)
    (hb : attributeBase (.Name x px) "extend" X.env (eval (.Name x px) X.env) = eval (.Name x px) X.env := by rfl)
    (h1 : ((((backTo cpos (starEach [e] X.env)).all fun x => !x.fst) && (backToKw cpos (keywordEach [] X.env)).all fun x => x.fst.isSome) && decide (([e].length + ([] : List Keyword).length + if ([] : List Keyword).isEmpty = true then 0 else 1) < 30)) = true := by rfl)
    (h2 : (apos.endLine == cpos.line) = true := by rfl) (h3 : starEach [e] X.env = (false, eval e X.env) :: starEach [] X.env := by rfl) (h4 : ((backTo cpos (starEach [] X.env)).any fun x => x.fst) = false := by rfl)
    (hs : swapsWith (.Call (.Attribute (.Name x px) "extend" apos) [e] [] cpos) none pos.line X.env = pure false := by rfl) :
    VS X Γ u r (.Expr (.Call (.Attribute (.Name x px) "extend" apos) [e] [] cpos) pos) (sMut k hExt fs) (fun D σ H => (tBM X.K "list" (rExtW X.K) (tVar k) ts) σ H fun _ H1 => D.nx σ H1) :=
  ⟨ps_expr (pe_bm PySem.F.plainAttrs_list PySem.F.slot_list_extend PySem.F.type_list_extend mt_extW (pe_var hN hv hd hcd) ha.pa hb h1 h2 h3 h4) hs, ok_ext ha.ok hm hc⟩
end
end PV

set_option maxHeartbeats 4000000
namespace PV
open PySem PySem.Spec PyProof.Rows L2
section
variable {X : Cx} {Γ : List Md} {u : Bool} {r ra : Rl} {a : Expr} {f : SE → Option D} {ta : TE} {p p2 q pos : Pos} {sts : List Stmt}
/-- statements that are not come to -/
theorem vss_never : VSs X Γ u r sts (fun _ => none) (fun _ _ _ => False) := ⟨⟨fun pins s σ H D I h => h.elim⟩, fun G H0 own env σ H D res R z p => by cases z⟩
/-- len(set(numbers)), none of them twice -/
def lenSet1 : D → Option D
  | .list xs => (ints? xs).bind fun ns => if ns.Nodup ∧ ns.length < 64 then some (.int (ns.length : Int)) else none
  | _ => none
theorem v_lenSet (hc : X.calm = true) (hm : X.mg "len" = none) (hm2 : X.mg "set" = none) (ha : VE X Γ a r f ta) (hg : Gl X "len" := by rfl) (hg2 : Gl X "set" := by rfl)
    (na : starEach [a] X.env = (false, eval a X.env) :: starEach [] X.env := by rfl) : VE X Γ (.Call (.Name "len" p) [.Call (.Name "set" p2) [a] [] q] [] pos) .nw (d1 lenSet1 f) (tLenSetI X.K ta) :=
  ⟨pe_lenSetI hc hg hm hg2 hm2 ha.pe na, fun G H0 own env σ H Q d R z k => by
    unfold d1 at z
    cases e1 : f env with
    | none => rw [e1] at z; cases z
    | some x =>
      rw [e1] at z
      simp only [Option.bind_some] at z
      cases x with
      | list xs =>
        simp only [lenSet1] at z
        cases e2 : ints? xs with
        | none => rw [e2] at z; cases z
        | some ns =>
          rw [e2] at z
          simp only [Option.bind_some] at z
          obtain ⟨hn, rfl⟩ := ite_some z
          refine ha.ok G H0 own env σ H _ _ R e1 fun v1 H1 s1 p1 => ?_
          cases p1 with
          | lst hs hd =>
            rw [ints_is e2] at hd
            rw [dps_ints hd] at hs
            exact ⟨_, ns, rfl, rg_sub.seq hs, hn.2, hn.1, k _ H1 s1 (.int _)⟩
      | _ => cases z⟩
end
theorem lenSet1_of (ns : List Int) (h : ns.Nodup) (hl : ns.length < 64) : lenSet1 (.list (ns.map PyData.int)) = some (.int (ns.length : Int)) := by
  show (ints? (ns.map PyData.int)).bind (fun ns => if ns.Nodup ∧ ns.length < 64 then some (PyData.int (ns.length : Int)) else none) = _
  rw [ints_map]
  simp only [Option.bind_some, if_pos (And.intro h hl)]
end PV

namespace PV
open PySem PySem.Spec PyProof.Rows L2
/-! ### sorted(set(numbers)) -/
def set0 (w : World) : Obj := { cls := .type "set", dict := none, data := .set #[] 0 (.fresh 0 0 (!w.params.followText "set-order")) }
section
variable {P : Program} {w : World} {A : Around} {E : Value → Shared → Prop} {s : Shared}
theorem set_listI {l : Addr} {its : Array Value} (ns : List Int) {Q : Value → Shared → Prop} (hq : A.handled = none) (hl : s.heap.IsList l its) (hit : IntsAre its.toList ns) (hb : ns.length + 1 < scanBound)
    (hQ : ∀ (h' : Heap) (tk c : Nat), SetR w h' s.heap.objs.size (fun j => decide (j ∈ ns)) c → c ≤ ns.length → (∀ b o, s.heap.get? b = some o → h'.get? b = some o) → Q (.ref s.heap.objs.size) { s with heap := h', toks := tk }) :
    wpAny (model P w) A (call (.type "set") [.ref l]) Q E s := by
  have isz : its.size = ns.length := by have q := IntsAre.length hit; rw [Array.length_toList] at q; exact q
  obtain ⟨cc, tl, hmro⟩ := F.called_set.mro
  have a1 := F.called_set.made; have a2 := F.called_set.sub
  refine wpAny_call (codeAny_of_tree ?_); show wpAny _ _ (callAny (.type "set") _) _ _ _
  refine wpAny_pure ⟨Code.quiet_builtin _ (by decide +kernel), codeAny_builtin F.entry_type_call ?_⟩; rw [Around.under_plain (weight_type_call_type "set" [.ref l] []) rfl]
  have a3 := F.called_set.notType; have a4 := F.called_set.canCreate; have a5 := F.typeCall_set_1 (.ref l)
  (repeat (any_goals (first | assumption | wp_step)))
  refine codeAny_mono (code_set_led1 (.ref l) (E := E) (Q₁ := fun ob t => ob = .ref s.heap.objs.size ∧ t = { s with heap := s.heap.push (set0 w) }) ⟨rfl, rfl⟩) fun r t ht => ?_
  cases r with
  | error e => exact ht
  | ok fl =>
    cases fl with
    | ret ob =>
      obtain ⟨rfl, rfl⟩ := ht
      have hS : (s.heap.push (set0 w)).get? s.heap.objs.size = some (set0 w) := Heap.get?_push_size _ rfl
      have hT : Shared.TypeIs { s with heap := s.heap.push (set0 w) } (.ref s.heap.objs.size) "set" := ⟨_, hS, rfl⟩
      have b1 := F.called_set.init.lookup; have b2 := F.called_set.init.bind (.ref s.heap.objs.size)
      (repeat (any_goals (first | assumption | wp_step)))
      refine codeAny_mono (codeAny_call_builtin (R := wants (fun r t => r = .none ∧ ∃ h' tk c, t = { s with heap := h', toks := tk } ∧ SetR w h' s.heap.objs.size (fun j => decide (j ∈ ns)) c ∧ c ≤ ns.length ∧ (∀ b o, s.heap.get? b = some o → h'.get? b = some o)) E) F.called_set.init.plain F.entry_set_init (check_set_init_1 hT ?_)) fun r2 t2 ht2 => ?_
      · obtain ⟨⟨ocls, odict, odata, oslots⟩, hol, hcl, nl, hdl⟩ := hl
        simp only at hcl hdl; subst hcl; subst hdl
        have hol' : (s.heap.push (set0 w)).get? l = some { cls := .type "list", dict := odict, data := .seq its nl, slots := oslots } := Heap.get?_push_of_some _ hol
        have c1 := F.sub_list_set; have c2 := F.sub_list_frozenset; have c3 : (Value.type "list" == Value.type "dict") = false := by decide
        have hl1 : (s.heap.push (set0 w)).IsList l its := ⟨_, hol', rfl, nl, rfl⟩
        unfold Builtin.«set.__init__» noKeywords Builtin.Frozenset.updateFrom; generalize hPI : pyIter = PI
        wp_walk
        subst hPI
        refine wpAny_pyIter_list hl1 ?_; refine wpAny_bind (wpAny_runValue ?_)
        have d1 : l < s.heap.objs.size := Heap.lt_size hol
        have d2 : A.in1.in1.in1.handled = none := by simp [hq]
        have d3 : l ≠ (s.heap.push (set0 w)).objs.size := by rw [Heap.size_push]; exact Nat.ne_of_lt (Nat.lt_succ_of_lt d1)
        have d4 : s.heap.objs.size ∉ [(s.heap.push (set0 w)).objs.size, l] := by rw [Heap.size_push]; intro z; simp only [List.mem_cons, List.not_mem_nil, or_false] at z; exact z.elim (fun z => Nat.ne_of_lt (Nat.lt_succ_self _) z) (fun z => Nat.ne_of_gt d1 z)
        have d5 : ∀ (i : Nat) (v : Value), its[i]? = some v → ∃ k t, ns[i]? = some k ∧ v = .int k t := fun i v hv => by
          have hi : i < ns.length := by rw [← isz]; exact (Array.getElem?_eq_some_iff.mp hv).1
          obtain ⟨t, e⟩ := PyProof.Rows.IntsAre.int_at hit i v (by rw [Array.getElem?_toList]; exact hv)
          exact ⟨ns[i], t, List.getElem?_eq_getElem hi, by rw [e, List.getD_eq_getElem?_getD, List.getElem?_eq_getElem hi] <;> rfl⟩
        refine set_update_ints ((Walks.list d2 _ l d3 its).toS) s.heap.objs.size d4 ns isz hb d5 (its.size - 0) 0 _ (by omega) (Nat.zero_le _) ⟨⟨_, Heap.get?_push_size _ rfl, rfl, rfl⟩, (hl1.push _)⟩ ?g1 ?g2
        case g1 => exact ⟨0, Nat.le_refl 0, setR_new_at (Heap.get?_push_of_some _ hS)⟩
        case g2 =>
          intro t c hm hc hR
          obtain ⟨h', g2, d', tk', os'⟩ := t
          obtain ⟨e1, e2, e3⟩ : g2 = s.gens ∧ d' = s.drawn ∧ os' = s.os := ⟨hm.gens, hm.drawn, hm.os⟩
          subst e1; subst e2; subst e3
          show wpAny _ _ _ _ _ _
          refine wpAny_pure ?_; show wpAny _ _ (ret Value.none) _ _ _
          rw [isz] at hc
          refine wpAny_pure ⟨rfl, h', tk', c, rfl, hR, hc, fun b o e => ?_⟩
          have f0 : b < s.heap.objs.size := Heap.lt_size e
          exact hm.heap b o (by rw [Heap.size_push]; intro z; simp only [List.mem_cons, List.not_mem_nil, or_false] at z; exact z.elim (fun z => Nat.ne_of_lt f0 z) (fun z => Nat.ne_of_lt (Nat.lt_succ_of_lt f0) z)) (Heap.get?_push_of_some _ (Heap.get?_push_of_some _ e))
      · cases r2 with
        | error e => exact ht2
        | ok fl2 =>
          cases fl2 with
          | ret r =>
            obtain ⟨rfl, h', tk, c, rfl, hR, hc, hk⟩ := ht2
            (repeat (any_goals (first | assumption | wp_step)))
            exact hQ _ _ _ hR hc hk
          | _ => exact ht2.elim
    | _ => exact ht.elim
end
section
variable {X : Cx} {Γ : List Md} {u : Bool} {r ra : Rl} {a : Expr} {f : SE → Option D} {ta : TE} {p p2 q pos : Pos}
def tSrtSet (K : PySem.W.Frag) (ta : TE) : TE := fun σ H Q => ta σ H fun x H1 => ∃ (l : Addr) (ns : List Int), x = V.ref l ∧ SqL K H1 l (ns.map V.int) ∧ ns.length < 64 ∧ ns.Nodup ∧ ∀ (p : Addr), H1 p = none → Q (.ref p) (upd H1 p (.lst ((sortI ns).map V.int)))
theorem srtSet_eq {ns out : List Int} (hn : ns.Nodup) (h1 : out.Pairwise (· < ·)) (h2 : ∀ k : Int, k ∈ out ↔ decide (k ∈ ns) = true) : out = sortI ns := by
  refine sortI_unique ?_ (h1.imp fun h => by omega)
  refine (List.perm_ext_iff_of_nodup (h1.imp fun h => by omega) hn).mpr fun k => ?_
  rw [h2 k, decide_eq_true_iff]
theorem srt_step {pins : List (Addr × Obj)} {s : Shared} {σ : L2.St} {H : Hp} {Q : VK} {b : Addr} {S : Int → Bool} {n : Nat} (hc : X.calm = true) (hS : SetR X.w s.heap b S n) (h64 : n < 64) (I : Inv X pins σ H s) (q : ∀ (ns : List Int) (p : Addr), ns.Pairwise (· < ·) → (∀ k : Int, k ∈ ns ↔ S k = true) → H p = none → Q (.ref p) (upd H p (.lst (ns.map V.int)))) :
    wpAny (model X.prog X.w) X.A (call (.builtin "sorted") [.ref b]) (EP X pins σ Q) X.xe s := by
  refine sorted_set hS (I.ok.hd hc) h64 fun s' p out c ns k g o hp hg hi hs hm hl => ?_
  have hlen : (ns.map V.int).length ≤ sizeLine := by rw [List.length_map, hl, sizeLine_eq] <;> omega
  have hn : H p = none := I.hok.fresh hp
  have e : s' = { s with heap := s'.heap, gens := s'.gens, drawn := s'.drawn, toks := s'.toks } := by
    cases s'; cases s; cases o; rfl
  have J : Inv X pins σ (upd H p (.lst (ns.map V.int))) { s with heap := s'.heap, gens := s'.gens, drawn := s'.drawn, toks := s'.toks } := I.call (ch := []) (Un.laid k hp hn) (I.hok.laid k hp ⟨hlen, out.toList, c, vals_of_ints hi, hg⟩) (by rw [g]; exact I.bare) (fun _ z => nomatch z)
  rw [e]; exact ⟨.ref p, _, J, rfl, q ns p hs hm hn⟩
theorem pe_srtSet (hc : X.calm = true) (hg : Gl X "sorted") (hm : X.mg "sorted" = none) (hg2 : Gl X "set") (hm2 : X.mg "set" = none) (ha : PE X a ta)
    (na : starEach [a] X.env = (false, eval a X.env) :: starEach [] X.env := by rfl) : PE X (.Call (.Name "sorted" p) [.Call (.Name "set" p2) [a] [] q] [] pos) (tSrtSet X.K ta) := by
  refine ⟨fun pins s σ H Q I h => ?_⟩
  refine Call_ (ld_blt I hg hm (show bootBuiltins "sorted" = some (.builtin "sorted") by decide +kernel) ?_)
  refine PyProof.Rows.callWith_builtin1 (PyProof.Rows.args_cons ?_ rfl) rfl rfl
  refine Call_ (ld_blt I hg2 hm2 PyProof.Rows.boot_set ?_)
  refine PyProof.Rows.callWith_type1 (PyProof.Rows.args_cons (thn (ha.run pins s σ H _ I h) fun v s1 ⟨x, H1, I1, r1, q1⟩ => PyProof.Rows.args_nil ?_) na) na rfl
  obtain ⟨l, ns, rfl, hq, h1, hnd, q1⟩ := q1
  cases r1
  obtain ⟨its, r, pl, hz⟩ := I1.list hq
  refine set_listI ns (I1.ok.hd hc) pl.isList (by simpa using r.ints) (by unfold scanBound; omega) fun h' tk c hS hc2 hk => ?_
  refine PyProof.Rows.args_nil ?_
  have I2 : Inv X pins σ H1 { s1 with heap := h', toks := tk } := I1.kept hk
  exact srt_step hc hS (by omega) I2 fun ns' p hs hm hn => by
    have := q1 p hn
    rw [← srtSet_eq hnd hs hm] at this
    exact this
/-- sorted(set(x)), x of numbers that are none twice -/
def lSrtSet (f : SE → Option D) (e : SE) : Option (List D) := (f e).bind fun x => (list? x).bind fun xs => (ints? xs).bind fun ns => if ns.Nodup ∧ ns.length < 64 then some ((sortI ns).map PyData.int) else none
theorem vl_srtSet (hc : X.calm = true) (hm : X.mg "sorted" = none) (hm2 : X.mg "set" = none) (ha : VE X Γ a r f ta) (hg : Gl X "sorted" := by rfl) (hg2 : Gl X "set" := by rfl)
    (na : starEach [a] X.env = (false, eval a X.env) :: starEach [] X.env := by rfl) : VL X Γ (.Call (.Name "sorted" p) [.Call (.Name "set" p2) [a] [] q] [] pos) .nw (lSrtSet f) (tSrtSet X.K ta) :=
  ⟨pe_srtSet hc hg hm hg2 hm2 ha.pe na, fun G H0 own env σ H Q ds R z k => by
    unfold lSrtSet at z
    cases e1 : f env with
    | none => rw [e1] at z; cases z
    | some x =>
      rw [e1] at z
      simp only [Option.bind_some] at z
      cases x with
      | list xs =>
        simp only [list?, Option.bind_some] at z
        cases e2 : ints? xs with
        | none => rw [e2] at z; cases z
        | some ns =>
          rw [e2] at z
          simp only [Option.bind_some] at z
          by_cases hn : ns.Nodup ∧ ns.length < 64
          · rw [if_pos hn] at z
            cases z
            refine ha.ok G H0 own env σ H _ _ R e1 fun v1 H1 s1 p1 => ?_
            cases p1 with
            | lst hs hd =>
              rw [ints_is e2] at hd
              rw [dps_ints hd] at hs
              exact ⟨_, ns, rfl, rg_sub.seq hs, hn.2, hn.1, fun q hq => k q _ _ (s1.trans (same_new hq)) (s1.free hq) upd_same ints_dps⟩
          · rw [if_neg hn] at z; cases z
      | _ => cases z⟩
end
def srtSetK2 (xs : List D) : Option (List D) := (ints? xs).bind fun ns => if ns.Nodup ∧ ns.length < 64 then some ((sortI ns).map PyData.int) else none
def srtSetK (x : D) : Option (List D) := (list? x).bind srtSetK2
theorem v_srtSet {f : SE → Option D} {e : SE} : lSrtSet f e = (f e).bind srtSetK := rfl
theorem k_srtSet {xs : List D} : srtSetK (.list xs) = srtSetK2 xs := rfl
theorem srtSetK_of (ns : List Int) (h : ns.Nodup) (hl : ns.length < 64) : srtSetK2 (ns.map PyData.int) = some ((sortI ns).map PyData.int) := by
  unfold srtSetK2
  rw [ints_map]
  simp only [Option.bind_some, if_pos (And.intro h hl)]
end PV

namespace PV
open PySem PySem.Spec PyProof.Rows L2
/-! ### if test: x[0].clear(); x[1].append(e) -- x a pair of lists that isn't needed any more -/
def tIt (K : PySem.W.Frag) (k : Nat) (i : Int) : TE := tOp (rIxT K) (tVar k) (tC (.int i))
def tIClr (K : PySem.W.Frag) (k : Nat) (i : Int) : TS := fun D σ H => tBM0 K "list" rClear (tIt K k i) σ H fun _ H1 => D.nx σ H1
def tIApp (K : PySem.W.Frag) (k : Nat) (i : Int) (ts : TA) : TS := fun D σ H => tBM K "list" rAppend (tIt K k i) ts σ H fun _ H1 => D.nx σ H1
def ifM2 (k : Nat) (kl : List Nat) (fs : SE → Option (List D)) (g : SE → Option Rs) (e : SE) : Bool → Option Rs
  | true => (dV k e).bind fun x => match x with
    | .tuple [.list _, .list ys] => if ys.length < 1000000 then (fs (kil kl e)).bind fun as => match as with
      | [_] => g (kil kl e)
      | _ => none
      else none
    | _ => none
  | false => g (kil kl e)
def sIfM2 (c : SE → Option Bool) (k : Nat) (kl : List Nat) (fs : SE → Option (List D)) (g : SE → Option Rs) (e : SE) : Option Rs := (c e).bind (ifM2 k kl fs g e)
section
variable {K : PySem.W.Frag} {Γ : List Md} {k : Nat} {kl : List Nat} {g : SE → Option Rs} {t : TS} {c : SE → Option Bool} {tc : TT} {fs : SE → Option (List D)} {ts : TA} {ra : Rl}
theorem ok_ifM2 (NL : NoL K) (hk : isTr (md Γ k) = true) (hf : flK Γ kl = true) (hc : OkT K Γ c tc) (ha : OkA K Γ ra fs ts) (hg : OkTail K Γ g t) :
    OkTail K Γ (sIfM2 c k kl fs g) (tSeq (tIfS tc (tSeq (tIClr K k 0) (tIApp K k 1 ts)) tNext) t) := by
  intro N G H0 own env σ H D d R hN q hs cc
  unfold sIfM2 at q
  cases e1 : c env with
  | none => rw [e1] at q; cases q
  | some b =>
    rw [e1] at q
    simp only [Option.bind_some] at q
    refine hc G H0 own env σ H _ b R e1 fun H1 s1 => ?_
    have R1 := R.ext s1
    have R0 := ER.kil kl R1
    have fl := fun (j : Nat) d hj => flK_ok hf (e := env) j d hj
    cases b with
    | false =>
      exact hg N G H0 own (kil kl env) σ H1 D d R0 hN q hs cc
    | true =>
      show tSeq (tIClr K k 0) (tIApp K k 1 ts) _ σ H1
      simp only [ifM2] at q
      cases e2 : dV k env with
      | none => rw [e2] at q; cases q
      | some x =>
        rw [e2] at q
        simp only [Option.bind_some] at q
        split at q
        · rename_i xs ys
          by_cases hl : ys.length < 1000000
          · rw [if_pos hl] at q
            cases e3 : fs (kil kl env) with
            | none => rw [e3] at q; cases q
            | some as =>
              rw [e3] at q
              simp only [Option.bind_some] at q
              match as, e3, q with
              | [a0], e3, q =>
                obtain ⟨v, hv, so⟩ := R1.sl k _ (dV_get e2)
                rw [isTr_is hk] at so
                have so : Dp K (rgt G H0) v (.tuple [.list xs, .list ys]) := so
                cases so with
                | tup hT h4 =>
                  cases h4 with
                  | cons h5 h6 =>
                    cases h6 with
                    | cons h7 h8 =>
                      cases h8
                      obtain ⟨p, us, rfl, hp, gp, hxs⟩ := trk NL h5
                      obtain ⟨p2, us2, rfl, hp2, gp2, hys⟩ := trk NL h7
                      have hT0 := same_t rgt_sub hT
                      have hpH := R1.ex _ _ hp
                      refine ⟨_, hv, _, _, 0, .ref p, rfl, rfl, same_t R1.ex hT0, rfl, ⟨.inl ⟨rfl, us, SqL.of hpH⟩, p, us, rfl, rfl, hpH, ?_⟩⟩
                      have R2 := R0.trash hp gp fl (ys := [])
                      have hT2 := sqt_upd (ys := []) hT0 hp
                      obtain ⟨zs, hz, hzl⟩ : ∃ zs, upd H0 p (.lst []) p2 = some (.lst zs) ∧ zs.length ≤ us2.length := by
                        by_cases e : p2 = p
                        · exact ⟨[], by rw [e]; exact upd_same, Nat.zero_le _⟩
                        · exact ⟨us2, by rw [upd_ne e]; exact hp2, Nat.le_refl _⟩
                      refine ⟨_, hv, _, _, 1, .ref p2, rfl, rfl, same_t R2.ex hT2, rfl, ?_⟩
                      refine ⟨.inl ⟨rfl, zs, SqL.of (R2.ex _ _ hz)⟩, ha G _ own _ σ _ _ _ R2 e3 fun vs H3 s3 c3 => ?_⟩
                      cases c3 with
                      | cons c3 c4 =>
                        cases c4
                        have R3 := R2.ext s3
                        have l2 := dps_len hys
                        refine ⟨p2, zs, _, rfl, rfl, R3.ex _ _ hz, ?_, ?_⟩
                        · have : us2.length < 1000000 := by omega
                          exact Nat.lt_of_le_of_lt hzl (Nat.lt_of_lt_of_le this (by decide))
                        · exact hg N G _ own (kil kl env) σ _ D d (R3.trash hz gp2 fl) hN q hs cc
              | [], _, q => cases q
              | _ :: _ :: _, _, q => cases q
          · rw [if_neg hl] at q; cases q
        · cases q
end
section
variable {X : Cx} {Γ : List Md} {rest : List Stmt} {cE e : Expr} {c : SE → Option Bool} {tc : TT} {g : SE → Option Rs} {v : TS} {fs : SE → Option (List D)} {ts : TA} {ra : Rl} {s1 s2 : Stmt} {pos : Pos}
theorem vt_ifM2 (k : Nat) (kl : List Nat) (NL : NoL X.K) (hc : VT X Γ cE c tc) (h1 : PS X s1 (tIClr X.K k 0)) (ha : VA X Γ [e] ra fs ts) (h2 : PA X [e] ts → PS X s2 (tIApp X.K k 1 ts)) (hr : VTail X Γ rest g v) (hk : isTr (md Γ k) = true := by rfl) (hf : flK Γ kl = true := by rfl) :
    VTail X Γ (.If cE [s1, s2] [] pos :: rest) (sIfM2 c k kl fs g) (tSeq (tIfS tc (tSeq (tIClr X.K k 0) (tIApp X.K k 1 ts)) tNext) v) :=
  ⟨pss_cons (ps_if hc.pt (pss_cons h1 (pss_one (h2 ha.pa))) pss_nil) hr.ps, ok_ifM2 NL hk hf hc.ok ha.ok hr.ok⟩
theorem ps_iclr {o : Expr} {k : Nat} {i : Int} {apos cpos : Pos} (h : PE X o (tIt X.K k i)) (hb : attributeBase o "clear" X.env (eval o X.env) = eval o X.env := by rfl) (h2 : (apos.endLine == cpos.line) = true := by rfl)
    (hs : swapsWith (.Call (.Attribute o "clear" apos) [] [] cpos) none pos.line X.env = pure false := by rfl) : PS X (.Expr (.Call (.Attribute o "clear" apos) [] [] cpos) pos) (tIClr X.K k i) :=
  ps_expr (pe_bm0 PySem.F.plainAttrs_list PySem.F.slot_list_clear PySem.F.type_list_clear mt_clear h hb h2) hs
theorem ps_iapp {o : Expr} {k : Nat} {i : Int} {apos cpos : Pos} (h : PE X o (tIt X.K k i)) (ha : PA X [e] ts) (hb : attributeBase o "append" X.env (eval o X.env) = eval o X.env := by rfl)
    (h1 : ((((backTo cpos (starEach [e] X.env)).all fun x => !x.fst) && (backToKw cpos (keywordEach [] X.env)).all fun x => x.fst.isSome) && decide (([e].length + ([] : List Keyword).length + if ([] : List Keyword).isEmpty = true then 0 else 1) < 30)) = true := by rfl)
    (h2 : (apos.endLine == cpos.line) = true := by rfl) (h3 : starEach [e] X.env = (false, eval e X.env) :: starEach [] X.env := by rfl) (h4 : ((backTo cpos (starEach [] X.env)).any fun x => x.fst) = false := by rfl)
    (hs : swapsWith (.Call (.Attribute o "append" apos) [e] [] cpos) none pos.line X.env = pure false := by rfl) : PS X (.Expr (.Call (.Attribute o "append" apos) [e] [] cpos) pos) (tIApp X.K k i ts) :=
  ps_expr (pe_bm PySem.F.plainAttrs_list PySem.F.slot_list_append PySem.F.type_list_append mt_append h ha hb h1 h2 h3 h4) hs
end
/-! ### for x in a tuple -/
def tup? : D → Option (List D)
  | .tuple xs => some xs
  | _ => none
def iTp (f : SE → Option D) (e : SE) : Option (List D) := (f e).bind tup?
theorem v_iTp {f : SE → Option D} {e : SE} : iTp f e = (f e).bind tup? := rfl
theorem tup?_tuple (xs : List D) : tup? (.tuple xs) = some xs := rfl
section
variable {X : Cx} {Γ : List Md} {r : Rl} {a tg : Expr} {f : SE → Option D} {ta : TE}
theorem vi_tupl (ha : VE X Γ a r f ta) (hr : r ≠ .bo := by intro z; cases z) : VI X Γ tg a r (iTp f) (iTup X.K ta) := ⟨pi_tup ha.pe, fun G H0 own env σ H R ds E z k => by
  unfold iTp at z
  cases e1 : f env with
  | none => rw [e1] at z; cases z
  | some x =>
    rw [e1] at z
    simp only [Option.bind_some] at z
    cases x with
    | tuple xs =>
      cases z
      refine ha.ok G H0 own env σ H _ _ E e1 fun v H1 s1 c => ?_
      cases c with
      | tup hs hd =>
        refine ⟨_, rfl, ⟨_, same_t rg_sub hs⟩, k _ H1 s1 fun own2 H2 gr _ _ => ?_⟩
        have hs2 := same_t (rg_gr gr hr) hs
        have hd2 := dps_mono (rg_gr gr hr) _ _ hd
        refine ⟨fun i d hi => ?_, ⟨_, same_t rg_sub hs2, by rw [dps_len hd2]; exact Nat.le_refl _⟩⟩
        obtain ⟨w, h1, h2⟩ := dps_get hd2 hi
        refine ⟨⟨_, w, same_t rg_sub hs2, h1⟩, fun y H' hy => ?_⟩
        obtain ⟨rfl, hy⟩ := hy
        have e : y = w := Option.some.inj ((hy _ (same_t rg_sub hs2)).symm.trans h1)
        rw [e]
        exact ⟨Same.refl _, h2⟩
    | _ => cases z⟩
end
section
variable {k : Nat} {kl : List Nat} {g : SE → Option Rs} {c : SE → Option Bool} {fs : SE → Option (List D)} {e : SE}
theorem v_sIfM2 : sIfM2 c k kl fs g e = (c e).bind (ifM2 k kl fs g e) := rfl
theorem k_ifM2_0 : ifM2 k kl fs g e false = g (kil kl e) := rfl
theorem k_ifM2_1 : ifM2 k kl fs g e true = (dV k e).bind fun x => match x with
    | .tuple [.list _, .list ys] => if ys.length < 1000000 then (fs (kil kl e)).bind fun as => match as with
      | [_] => g (kil kl e)
      | _ => none
      else none
    | _ => none := rfl
end
end PV

namespace Lw
open PySem L2 PV
/-- _law_draw -/
noncomputable def sem_law_draw : List D → Option D := runF false 3 2
  (sSeq (sSet 2 (d2 hAdd (d2 hAdd (d2 hMod (dV 0) (dC (.int 999983))) (dC (.int 400009))) (d2 hMul (dC (.int 7001)) (dV 1))))
  (sRet (d2 hMod (d2 hMul (d2 hMul (d2 hMul (dV 2) (dV 2)) (dV 2)) (d2 hAdd (d2 hMul (dC (.int 2)) (dV 1)) (dC (.int 3)))) (dC (.int 1000000007)))))

/-- _law_draws -/
noncomputable def sem_law_draws : List D → Option D := runF true 3 2
  (sRetL (lComp [2] (gSet 2) cYes (dA sem_law_draw (dCons (dSc (dV 0)) (dCons (dV 2) dNil))) (iR1 (dCons (dSc (dV 1)) dNil))))

/-- _law_wishes -/
noncomputable def sem_law_wishes : List D → Option D := runF true 8 3
  (sSeq (sSetL 3 fun e => if 3 < e.length then dNil e else none)
  (sSeq (sFor (gSet 4)
  (sSeq (sSet 5 (dLst (dAL sem_law_draws (dCons (dSc (dV 4)) (dCons (dC (.int 13)) dNil)))))
  (sSeq (sSet 6 (dLst (lComp [7] (gSet 7) (dB (d2 hGt (d2 hMod (d2 hIxL (dV 5) (dV 7)) (dC (.int 3))) (dC (.int 0)))) (dV 7) (iR1 (dCons (dSc (dV 1)) dNil)))))
  (sMut 3 hApp (dCons (d2 hIxL (dLst (dCons (dLst (lRng (dV 1))) (dCons (dLst (dScs (lOf (dV 2)))) (dCons (dV 6) (dCons (dLst (lCut (dV 6) oNone (oSome (dC (.int 2))))) dNil))))) (d2 hMod (d2 hIxL (dV 5) (dC (.int 12))) (dC (.int 4)))) dNil)))) [4, 5, 6] (iL (dV 0)))
  (sRet (dV 3))))

/-- _law_cell_at -/
noncomputable def sem_law_cell_at : List D → Option D := runF false 2 2
  (sSeq (sIf (dB (d2 hLt (dV 1) (dA hLen (dCons (dV 0) dNil))))
  (sRet (dSc (d2 hIxL (dV 0) (dV 1)))) sNx)
  (sRet (dC (.int 0))))

/-- _law_town -/
noncomputable def sem_law_town : List D → Option D := runF false 9 1
  (sSeq (sSet 1 (dLst (dAL sem_law_draws (dCons (dA sem_law_cell_at (dCons (dV 0) (dCons (dC (.int 0)) dNil))) (dCons (dC (.int 14)) dNil)))))
  (sSeq (sSet 2 (d2 hIxL (dLst (dCons (d2 hMod (d2 hIxL (dV 1) (dC (.int 0))) (dC (.int 7))) (dCons (d2 hAdd (dC (.int 7)) (d2 hMod (d2 hDiv (d2 hIxL (dV 1) (dC (.int 0))) (dC (.int 7))) (dC (.int 2)))) dNil))) (dA hInt (dCons (d2 hEq (d2 hMod (d2 hIxL (dV 1) (dC (.int 1))) (dC (.int 8))) (dC (.int 0))) dNil))))
  (sSeq (sSet 3 (dLst (lComp [8] (gSet 8) cYes (d2 hIxL (dLst (dCons (d2 hAdd (dC (.int 1)) (d2 hMod (d2 hIxL (dV 1) (d2 hAdd (dC (.int 2)) (dV 8))) (dC (.int 9)))) (dCons (d2 hAdd (dC (.int 1)) (d2 hMod (d2 hMul (d2 hIxL (dV 1) (d2 hAdd (dC (.int 2)) (dV 8))) (dC (.int 80021))) (d2 hPow (dC (.int 10)) (dC (.int 12))))) dNil))) (d2 hMod (d2 hDiv (d2 hIxL (dV 1) (dC (.int 10))) (d2 hAdd (dV 8) (dC (.int 1)))) (dC (.int 2)))) (iR1 (dCons (dV 2) dNil)))))
  (sSeq (sSet 4 (dLst (lComp [8] (gSet 8) (dB (d2 hGt (d2 hMod (d2 hDiv (d2 hIxL (dV 1) (dC (.int 11))) (d2 hAdd (dV 8) (dC (.int 1)))) (dC (.int 3))) (dC (.int 0)))) (dV 8) (iR1 (dCons (dV 2) dNil)))))
  (sSeq (sSet 5 (dLst (dAL sem_law_wishes (dCons (dLst (lCat (dLst (dScs (lCut (dV 0) (oSome (dC (.int 4))) (oSome (dC (.int 23)))))) (dLst (dCons (dA sem_law_cell_at (dCons (dV 0) (dCons (dC (.int 3)) dNil))) dNil)))) (dCons (dV 2) (dCons (dV 4) dNil))))))
  (sSeq (sSet 6 (dLst (dAL sem_law_draws (dCons (dA sem_law_cell_at (dCons (dV 0) (dCons (dC (.int 1)) dNil))) (dCons (dC (.int 3)) dNil)))))
  (sSeq (sSet 7 (d2 hIxL (dLst (dCons (dC (.int 0)) (dCons (d2 hAdd (dC (.int 1)) (d2 hMod (d2 hIxL (dV 6) (dC (.int 0))) (dC (.int 9)))) (dCons (d2 hDiv (dA hSum (dCons (dV 3) dNil)) (dC (.int 2))) (dCons (dA hSum (dCons (dV 3) dNil)) (dCons (d2 hMod (d2 hMul (d2 hIxL (dV 6) (dC (.int 0))) (d2 hIxL (dV 6) (dC (.int 1)))) (d2 hAdd (dA hSum (dCons (dV 3) dNil)) (dC (.int 1)))) dNil)))))) (d2 hMod (d2 hIxL (dV 6) (dC (.int 2))) (dC (.int 5)))))
  (sRet (dTup (dCons (dA hMin2 (dCons (dV 7) (dCons (d2 hPow (dC (.int 10)) (dC (.int 12))) dNil))) (dCons (dV 3) (dCons (dV 5) dNil))))))))))))

/-- _law_sets -/
noncomputable def sem_law_sets : List D → Option D := runF true 4 1
  (sSeq (sSet 1 (dLst (dCons (dLst dNil) dNil)))
  (sSeq (sFor (gSet 2)
  (sSet 1 (dLst (lCat (dV 1) (dLst (lComp [3] (gSet 3) cYes (dLst (lCat (dV 3) (dLst (dCons (dV 2) dNil)))) (iL (dV 1))))))) [2] (iR1 (dCons (dSc (dV 0)) dNil)))
  (sRetL (lCut (dV 1) (oSome (dC (.int 1))) oNone))))

/-- _law_group -/
noncomputable def sem_law_group : List D → Option D := runF true 7 3
  (sSeq (sSetL 3 fun e => if 3 < e.length then dNil e else none)
  (sSeq (sFor (gTupD (gsCons (gSet 4) (gsCons (gSet 5) gsNil)))
  (sIf (dB (d2 hEq (dLst (lComp [6] (gSet 6) (dB (d2 hNotIn (dV 6) (dV 5))) (dSc (dV 6)) (iL (dV 1)))) (dLst dNil)))
  (sIf (dB (d2 hLt (dA hLen (dCons (dLst (lComp [6] (gSet 6) (dB (d2 hIn (dV 6) (dV 2))) (dSc (dV 6)) (iL (dV 5)))) dNil)) (dA hLen (dCons (dV 1) dNil))))
  (sMut 3 hApp (dCons (dSc (dV 4)) dNil)) sNx) sNx) [4, 5] (iEn (dCons (dV 0) dNil)))
  (sRet (dV 3))))

noncomputable def sem_law_due_t3 : SE → Option Rs :=
  (sSeq (sTgt (gTupD (gsCons (gSet 8) (gsCons (gSet 5) (gsCons (gSet 6) gsNil)))) (dA hMinL (dCons (dV 4) dNil)))
  (sRet (dTup (dCons (dV 5) (dCons (dV 6) dNil)))))

noncomputable def sem_law_due_t2 : SE → Option Rs :=
  (sSeq (sIf (dB (d2 hEq (dV 4) (dLst dNil)))
  (sRet (dC .none)) sNx)
  sem_law_due_t3)

/-- _law_due -/
noncomputable def sem_law_due : List D → Option D := runF false 10 4
  (sSeq (sSetL 4 fun e => if 4 < e.length then dNil e else none)
  (sSeq (sFor (gSet 5)
  (sSeq (sSet 6 (dLst (dAL sem_law_group (dCons (dV 2) (dCons (dV 5) (dCons (dV 3) dNil))))))
  (sSeq (sSet 7 (dA hSum (dCons (dLst (lComp [9] (gSet 9) cYes (dSc (d2 hIxL (dV 1) (dV 9))) (iL (dV 5)))) dNil)))
  (sIf (tAndD (dB (d2 hNe (dV 6) (dLst dNil))) (dB (d2 hGe (d2 hMul (dV 0) (dA hLen (dCons (dV 6) dNil))) (d2 hMul (dV 7) (dA hLen (dCons (dV 2) dNil))))))
  (sMut 4 hApp (dCons (dTup (dCons (dA hLen (dCons (dV 5) dNil)) (dCons (dV 5) (dCons (dV 6) dNil)))) dNil)) sNx))) [5, 6, 7] (iL (dLst (dAL sem_law_sets (dCons (dA hLen (dCons (dV 1) dNil)) dNil)))))
  (sRt sem_law_due_t2)))

/-- picks_of, by how deep it may call itself -/
noncomputable def semR_picks_of : Nat → List D → Option D
  | 0 => runF true 6 3 fun _ => none
  | k + 1 => runF true 6 3
      (sSeq (sIf (dB (d2 hEq (dV 2) (dC (.int 0))))
        (sRetL (dCons (dLst dNil) dNil)) sNx)
        (sSeq (sSetL 3 fun e => if 3 < e.length then dNil e else none)
        (sSeq (sFor (gSet 4)
        (sFor (gSet 5)
        (sMut 3 hApp (dCons (dLst (lCat (dLst (dCons (dV 4) dNil)) (dV 5))) dNil)) [5] (iL (dLst (dAL (semR_picks_of k) (dCons (d2 hAdd (dV 4) (dC (.int 1))) (dCons (dSc (dV 1)) (dCons (d2 hSub (dV 2) (dC (.int 1))) dNil))))))) [4, 5] (iR2 (dCons (dSc (dV 0)) (dCons (dSc (dV 1)) dNil))))
        (sRet (dV 3)))))
noncomputable def sem_picks_of : List D → Option D := semR_picks_of 10

/-- common_of -/
noncomputable def sem_common_of : List D → Option D := runF true 6 2
  (sSeq (sSetL 2 fun e => if 2 < e.length then dNil e else none)
  (sSeq (sFor (gTupD (gsCons (gSet 3) (gsCons (gSet 4) gsNil)))
  (sIf (dB (d2 hEq (dA hLen (dCons (dLst (lComp [5] (gSet 5) (dB (d2 hIn (dV 5) (dV 4))) (dSc (dV 5)) (iL (dV 1)))) dNil)) (dA hLen (dCons (dV 1) dNil))))
  (sMut 2 hApp (dCons (dSc (dV 3)) dNil)) sNx) [3, 4] (iEn (dCons (dV 0) dNil)))
  (sRet (dV 2))))

/-- count_done -/
noncomputable def sem_count_done : List D → Option D := runF false 3 2
  (sRet (dA hLen (dCons (dLst (lComp [2] (gSet 2) (dB (d2 hIn (dV 2) (dV 1))) (dSc (dV 2)) (iL (dV 0)))) dNil)))

/-- short_ones -/
noncomputable def sem_short_ones : List D → Option D := runF true 4 3
  (sRetL (lComp [3] (gSet 3) (dB (d2 hLt (dA sem_count_done (dCons (d2 hIxL (dV 0) (dV 3)) (dCons (dV 2) dNil))) (dA hLen (dCons (dV 1) dNil)))) (dV 3) (iL (dLst (dAL sem_common_of (dCons (dV 0) (dCons (dV 1) dNil)))))))

/-- cost_of -/
noncomputable def sem_cost_of : List D → Option D := runF false 3 2
  (sRet (dA hSum (dCons (dLst (lComp [2] (gSet 2) cYes (dSc (d2 hIxL (dV 0) (dV 2))) (iL (dV 1)))) dNil)))

/-- wronged -/
noncomputable def sem_wronged : List D → Option D := runF false 7 4
  (sSeq (sFor (gSet 4)
  (sFor (gSet 5)
  (sSeq (sSet 6 (dLst (dAL sem_short_ones (dCons (dV 2) (dCons (dV 5) (dCons (dV 3) dNil))))))
  (sIf (tAndD (dB (d2 hNe (dV 6) (dLst dNil))) (dB (d2 hGe (d2 hMul (dV 0) (dA hLen (dCons (dV 6) dNil))) (d2 hMul (dA sem_cost_of (dCons (dV 1) (dCons (dV 5) dNil))) (dA hLen (dCons (dV 2) dNil))))))
  (sRet (dTup (dCons (dV 5) (dCons (dV 6) dNil)))) sNx)) [5, 6] (iL (dLst (dAL sem_picks_of (dCons (dC (.int 0)) (dCons (dA hLen (dCons (dV 1) dNil)) (dCons (dV 4) dNil))))))) [4, 5, 6] (iR2 (dCons (dC (.int 1)) (dCons (d2 hAdd (dA hLen (dCons (dV 1) dNil)) (dC (.int 1))) dNil))))
  (sRet (dC .none)))

/-- _law_whole -/
noncomputable def sem_law_whole : List D → Option D := runF false 1 1
  (sRet (dT (tAndD (dB (d1 (hIsi "int") (dV 0))) (dB (dT (tNotD (dB (d1 (hIsi "bool") (dV 0)))))))))

noncomputable def sem_law_alike_t3 : SE → Option Rs :=
  (sRet (d2 hEq (dV 0) (dV 1)))

noncomputable def sem_law_alike_t2 : SE → Option Rs :=
  (sSeq (sFor (gSet 2)
  (sIf (tOrD (tNotD (dB (d1 (hIsi "list") (dV 2)))) (dB (d2 hNe (dLst (lComp [3] (gSet 3) (tNotD (dB (dA sem_law_whole (dCons (dSc (dV 3)) dNil)))) (dSc (dV 3)) (iL (dV 2)))) (dLst dNil))))
  (sRet (dC (.bool false))) sNx) [2] (iTp (dV 0)))
  sem_law_alike_t3)

noncomputable def sem_law_alike_t1 : SE → Option Rs :=
  (sSeq (sIf (tOrD (tNotD (dB (d1 (hIsi "tuple") (dV 0)))) (dB (d2 hNe (dA hLen (dCons (dV 0) dNil)) (dC (.int 2)))))
  (sRet (dC (.bool false))) sNx)
  sem_law_alike_t2)

/-- _law_alike -/
noncomputable def sem_law_alike : List D → Option D := runF false 4 2
  (sSeq (sIf (dB (d2 hIsN (dV 1) (dC .none)))
  (sRet (d2 hIsN (dV 0) (dC .none))) sNx)
  sem_law_alike_t1)

noncomputable def sem_law_t9 : SE → Option Rs :=
  (sRet (dT (tAndD (dB (d2 hEq (dV 8) (dLst (dCons (dV 2) (dCons (dV 3) (dCons (dV 6) dNil)))))) (dB (dA sem_law_alike (dCons (dA sem_wronged (dCons (dV 1) (dCons (d2 hIxL (dV 8) (dC (.int 0))) (dCons (d2 hIxL (dV 8) (dC (.int 1))) (dCons (d2 hIxL (dV 8) (dC (.int 2))) dNil))))) (dCons (dV 7) dNil)))))))

noncomputable def sem_law_t8 : SE → Option Rs :=
  (sReb 12 [10, 11] (sIfM2 (dB (d2 hNotN (dV 9) (dC .none))) 9 [9, 10, 11] (dCons (d1 hNeg (dC (.int 1))) dNil) sem_law_t9))

/-- law -/
noncomputable def sem_law : List D → Option D := runF false 12 1
  (sSeq (sTgt (gTupD (gsCons (gSet 1) (gsCons (gSet 2) (gsCons (gSet 3) gsNil)))) (dA sem_law_town (dCons (dV 0) dNil)))
  (sSeq (sSet 4 (dA sem_law_cell_at (dCons (dV 0) (dCons (dC (.int 2)) dNil))))
  (sSeq (sSet 5 (dLst (dAL sem_law_draws (dCons (dSc (dV 4)) (dCons (dC (.int 9)) dNil)))))
  (sSeq (sSet 6 (dLst (lComp [10] (gSet 10) (tOrD (dB (d2 hEq (d2 hMod (d2 hIxL (dV 5) (dC (.int 8))) (dC (.int 4))) (dC (.int 1)))) (tAndD (dB (d2 hGt (d2 hMod (d2 hIxL (dV 5) (dC (.int 8))) (dC (.int 4))) (dC (.int 1)))) (dB (d2 hEq (d2 hMod (d2 hIxL (dV 5) (dV 10)) (dC (.int 2))) (dC (.int 0)))))) (dV 10) (iR1 (dCons (dA hLen (dCons (dV 2) dNil)) dNil)))))
  (sSeq (sSet 7 (dA sem_law_due (dCons (dV 1) (dCons (dV 2) (dCons (dV 3) (dCons (dV 6) dNil))))))
  (sSeq (sSet 8 (dLst (dCons (dLst (dScs (lOf (dV 2)))) (dCons (dLst (lComp [11] (gSet 11) cYes (dLst (dScs (lOf (dV 11)))) (iL (dV 3)))) (dCons (dLst (dScs (lOf (dV 6)))) dNil)))))
  (sZ [9, 10, 11] (sSeq (sSet 9 (dA sem_wronged (dCons (dV 1) (dCons (d2 hIxL (dV 8) (dC (.int 0))) (dCons (d2 hIxL (dV 8) (dC (.int 1))) (dCons (d2 hIxL (dV 8) (dC (.int 2))) dNil))))))
  (sSeq (sIf (tOrD (tNotD (dB (dA sem_law_alike (dCons (dV 9) (dCons (dV 7) dNil))))) (dB (d2 hNe (dV 8) (dLst (dCons (dV 2) (dCons (dV 3) (dCons (dV 6) dNil)))))))
  (sRet (dC (.bool false))) sNx)
  sem_law_t8)))))))))
end Lw

namespace Lw
open PySem PySem.Spec PyProof.Rows L2 PV
def topS (i : Nat) : Stmt := PySem.Challenge.pw_purse_k31_groups_found.main.body.getD i (.Pass ⟨0, 0, 0, 0⟩)
structure Bt (mg : Str → Option Value) : Prop where
  bool_ : mg "bool" = none
  enumerate_ : mg "enumerate" = none
  int_ : mg "int" = none
  isinstance_ : mg "isinstance" = none
  len_ : mg "len" = none
  list_ : mg "list" = none
  min_ : mg "min" = none
  range_ : mg "range" = none
  sum_ : mg "sum" = none
  tuple_ : mg "tuple" = none
section
variable {P : Program} {w : World} {K : PySem.W.Frag} {mg : Str → Option Value} {base : Heap}
abbrev st_law_draw : Stmt := topS 11
abbrev N_law_draw : List Str := ["cell", "place", "spot"]
theorem sc_law_draw : FnScope ["cell", "place", "spot"] ["cell", "place"] (defScope st_law_draw) := ⟨rfl, rfl, rfl, by decide +kernel, rfl, by decide +kernel, by decide +kernel⟩
theorem cal_law_draw {f : Addr} {fd : FuncData} (F : Fun K "_law_draw" "_law_draw" st_law_draw f fd) (m : mg "_law_draw" = some (.ref f)) (B : Bt mg)  : Cal P w K mg base "_law_draw" 1 ["cell", "place"] false .nw sem_law_draw :=
  ⟨f, fd, fn_v false .nw [.od, .od, .nw] F sc_law_draw (fun _ _ _ _ _ _ hr => have hu := hr.units; ⟨_, (vss_cons (vs_set 2 sc_law_draw.nd (v_op op_add r_add (v_op op_add r_add (v_op op_mod r_mod (v_name 0) v_int) v_int) (v_op op_mulP r_mul v_int (v_name 1))))
  (vss_one (vs_ret (v_op op_mod r_mod (v_op op_mulP r_mul (v_op op_mulP r_mul (v_op op_mulP r_mul (v_name 2) (v_name 2)) (v_name 2)) (v_op op_add r_add (v_op op_mulP r_mul v_int (v_name 1)) v_int)) v_int))))⟩), m, F.kp, F.binds (ps := ["cell", "place"]) fun _ _ _ _ _ _ us hl => match us, hl with | [_, _], _ => rfl⟩

abbrev st_law_draws : Stmt := topS 12
abbrev N_law_draws : List Str := ["cell", "many", "place"]
theorem sc_law_draws : FnScope ["cell", "many", "place"] ["cell", "many"] (defScope st_law_draws) := ⟨rfl, rfl, rfl, by decide +kernel, rfl, by decide +kernel, by decide +kernel⟩
theorem cal_law_draws {f : Addr} {fd : FuncData} (F : Fun K "_law_draws" "_law_draws" st_law_draws f fd) (m : mg "_law_draws" = some (.ref f)) (B : Bt mg) (C_law_draw : Cal P w K mg base "_law_draw" 1 ["cell", "place"] false .nw sem_law_draw) : Cal P w K mg base "_law_draws" 2 ["cell", "many"] true .nw sem_law_draws :=
  ⟨f, fd, fn_v true .nw [.od, .od, .nw] F sc_law_draws (fun _ _ _ _ _ _ hr => have hu := hr.units; ⟨_, (vss_one (vs_retL (vl_compF rfl sc_law_draws.nd (re := .nw) (is := [2]) (vi_range1 B.range_ (va_cons (v_sc (v_name 1)) va_nil)) (blkOk_by (own := [("place", 2)]) (N := N_law_draws) (sc := (defScope st_law_draws)) (by decide +kernel)) (fun _ _ _ _ _ => (vg_name 2 sc_law_draws.nd)) (fun _ _ _ _ _ => vts_nil) (fun _ _ _ _ _ => (v_is (v_callC C_law_draw hr (va_cons (v_sc (v_name 0)) (va_cons (v_name 2) va_nil))))))))⟩), m, F.kp, F.binds (ps := ["cell", "many"]) fun _ _ _ _ _ _ us hl => match us, hl with | [_, _], _ => rfl⟩

abbrev st_law_wishes : Stmt := topS 13
abbrev N_law_wishes : List Str := ["cells", "many", "usual", "found", "cell", "ys", "wanted", "k"]
theorem sc_law_wishes : FnScope ["cells", "many", "usual", "found", "cell", "ys", "wanted", "k"] ["cells", "many", "usual"] (defScope st_law_wishes) := ⟨rfl, rfl, rfl, by decide +kernel, rfl, by decide +kernel, by decide +kernel⟩
theorem cal_law_wishes {f : Addr} {fd : FuncData} (F : Fun K "_law_wishes" "_law_wishes" st_law_wishes f fd) (m : mg "_law_wishes" = some (.ref f)) (B : Bt mg) (C_law_draws : Cal P w K mg base "_law_draws" 2 ["cell", "many"] true .nw sem_law_draws) : Cal P w K mg base "_law_wishes" 3 ["cells", "many", "usual"] true .nw sem_law_wishes :=
  ⟨f, fd, fn_v true .nw [.od, .od, .od, .mn, .od, .nw, .nw, .nw] F sc_law_wishes (fun _ _ _ _ _ _ hr => have hu := hr.units; ⟨_, (vss_cons (vs_setL 3 sc_law_wishes.nd (vl_lst va_nil))
  (vss_cons (vs_for [4, 5, 6] PassesOwn.never rfl (vi_list (v_name 0)) (vg_name 4 sc_law_wishes.nd)
  (vss_cons (vs_set 5 sc_law_wishes.nd (v_of_l (vl_is (vl_callC C_law_draws hr (va_cons (v_sc (v_name 4)) (va_cons v_int va_nil))))))
  (vss_cons (vs_setCF 6 rfl sc_law_wishes.nd (sw_true rfl rfl rfl (by decide +kernel)) (re := .nw) (is := [7]) (vi_range1 B.range_ (va_cons (v_sc (v_name 1)) va_nil)) (blkOk_by (own := [("k", 7)]) (N := N_law_wishes) (sc := (defScope st_law_wishes)) (by decide +kernel)) (fun _ _ _ _ _ => (vg_name 7 sc_law_wishes.nd)) (fun _ _ _ _ _ => (vts_one (vt_cmp op_gt r_gt (v_op op_mod r_mod (v_ixL (v_name 5) (v_name 7)) v_int) v_int))) (fun _ _ _ _ _ => (v_name 7)))
  (vss_one (vs_app 3 (va_cons (v_ixL (v_of_l (vl_lst (va_cons (v_of_l (vl_rng rfl B.list_ B.range_ (v_name 1))) (va_cons (v_of_l (vl_sc (vl_of B.list_ (v_name 2)))) (va_cons (v_name 6) (va_cons (v_of_l (vl_cut (v_name 6) vo_none (vo_some v_int))) va_nil)))))) (v_op op_mod r_mod (v_ixL (v_name 5) v_int) v_int)) va_nil))))))
  (vss_one (vs_retM 3))))⟩), m, F.kp, F.binds (ps := ["cells", "many", "usual"]) fun _ _ _ _ _ _ us hl => match us, hl with | [_, _, _], _ => rfl⟩

abbrev st_law_cell_at : Stmt := topS 9
abbrev N_law_cell_at : List Str := ["script", "k"]
theorem sc_law_cell_at : FnScope ["script", "k"] ["script", "k"] (defScope st_law_cell_at) := ⟨rfl, rfl, rfl, by decide +kernel, rfl, by decide +kernel, by decide +kernel⟩
theorem cal_law_cell_at {f : Addr} {fd : FuncData} (F : Fun K "_law_cell_at" "_law_cell_at" st_law_cell_at f fd) (m : mg "_law_cell_at" = some (.ref f)) (B : Bt mg)  : Cal P w K mg base "_law_cell_at" 1 ["script", "k"] false .nw sem_law_cell_at :=
  ⟨f, fd, fn_v false .nw [.od, .od] F sc_law_cell_at (fun _ _ _ _ _ _ hr => have hu := hr.units; ⟨_, (vss_cons (vs_if (vt_cmp op_lt r_lt (v_name 1) (v_callB call_len c_len B.len_ (by decide +kernel) (va_cons (v_name 0) (va_le .no va_nil))))
  (vss_one (vs_ret (v_sc (v_ixL (v_name 0) (v_name 1))))) vss_nil)
  (vss_one (vs_ret v_int)))⟩), m, F.kp, F.binds (ps := ["script", "k"]) fun _ _ _ _ _ _ us hl => match us, hl with | [_, _], _ => rfl⟩

abbrev st_law_town : Stmt := topS 14
abbrev N_law_town : List Str := ["script", "xs", "many", "costs", "usual", "wishes", "zs", "coins", "k"]
theorem sc_law_town : FnScope ["script", "xs", "many", "costs", "usual", "wishes", "zs", "coins", "k"] ["script"] (defScope st_law_town) := ⟨rfl, rfl, rfl, by decide +kernel, rfl, by decide +kernel, by decide +kernel⟩
theorem cal_law_town {f : Addr} {fd : FuncData} (F : Fun K "_law_town" "_law_town" st_law_town f fd) (m : mg "_law_town" = some (.ref f)) (B : Bt mg) (C_law_draws : Cal P w K mg base "_law_draws" 2 ["cell", "many"] true .nw sem_law_draws) (C_law_wishes : Cal P w K mg base "_law_wishes" 3 ["cells", "many", "usual"] true .nw sem_law_wishes) (C_law_cell_at : Cal P w K mg base "_law_cell_at" 1 ["script", "k"] false .nw sem_law_cell_at) : Cal P w K mg base "_law_town" 4 ["script"] false .nw sem_law_town :=
  ⟨f, fd, fn_v false .nw [.od, .nw, .nw, .nw, .nw, .nw, .nw, .nw, .nw] F sc_law_town (fun _ _ _ _ _ _ hr => have hu := hr.units; ⟨_, (vss_cons (vs_set 1 sc_law_town.nd (v_of_l (vl_is (vl_callC C_law_draws (hr.mono (show 2 ≤ 3 by decide)) (va_cons (v_is (v_callC C_law_cell_at (hr.mono (show 1 ≤ 3 by decide)) (va_cons (v_name 0) (va_cons (v_le .no v_int) (va_le .no va_nil))))) (va_cons v_int va_nil))))))
  (vss_cons (vs_set 2 sc_law_town.nd (v_ixL (v_of_l (vl_lst (va_cons (v_op op_mod r_mod (v_ixL (v_name 1) v_int) v_int) (va_cons (v_op op_add r_add v_int (v_op op_mod r_mod (v_op op_divP r_div (v_ixL (v_name 1) v_int) v_int) v_int)) va_nil)))) (v_callTy call_int1 c_int B.int_ (by decide +kernel) (va_cons (v_cmp (op_eqD hu) r_eq (v_op op_mod r_mod (v_ixL (v_name 1) v_int) v_int) v_int) va_nil))))
  (vss_cons (vs_setCF 3 rfl sc_law_town.nd (sw_true rfl rfl rfl (by decide +kernel)) (re := .nw) (is := [8]) (vi_range1 B.range_ (va_cons (v_name 2) va_nil)) (blkOk_by (own := [("k", 8)]) (N := N_law_town) (sc := (defScope st_law_town)) (by decide +kernel)) (fun _ _ _ _ _ => (vg_name 8 sc_law_town.nd)) (fun _ _ _ _ _ => vts_nil) (fun _ _ _ _ _ => (v_ixL (v_of_l (vl_lst (va_cons (v_op op_add r_add v_int (v_op op_mod r_mod (v_ixL (v_name 1) (v_op op_add r_add v_int (v_name 8))) v_int)) (va_cons (v_op op_add r_add v_int (v_op op_mod r_mod (v_op op_mulP r_mul (v_ixL (v_name 1) (v_op op_add r_add v_int (v_name 8))) v_int) (v_op op_powP r_pow v_int v_int))) va_nil)))) (v_op op_mod r_mod (v_op op_divP r_div (v_ixL (v_name 1) v_int) (v_op op_add r_add (v_name 8) v_int)) v_int))))
  (vss_cons (vs_setCF 4 rfl sc_law_town.nd (sw_true rfl rfl rfl (by decide +kernel)) (re := .nw) (is := [8]) (vi_range1 B.range_ (va_cons (v_name 2) va_nil)) (blkOk_by (own := [("k", 8)]) (N := N_law_town) (sc := (defScope st_law_town)) (by decide +kernel)) (fun _ _ _ _ _ => (vg_name 8 sc_law_town.nd)) (fun _ _ _ _ _ => (vts_one (vt_cmp op_gt r_gt (v_op op_mod r_mod (v_op op_divP r_div (v_ixL (v_name 1) v_int) (v_op op_add r_add (v_name 8) v_int)) v_int) v_int))) (fun _ _ _ _ _ => (v_name 8)))
  (vss_cons (vs_set 5 sc_law_town.nd (v_of_l (vl_is (vl_callC C_law_wishes hr (va_cons (v_of_l (vl_cat (v_of_l (vl_sc (vl_cut (v_name 0) (vo_some v_int) (vo_some v_int)))) (v_of_l (vl_lst (va_cons (v_is (v_callC C_law_cell_at (hr.mono (show 1 ≤ 3 by decide)) (va_cons (v_name 0) (va_cons (v_le .no v_int) (va_le .no va_nil))))) va_nil))))) (va_cons (v_name 2) (va_cons (v_name 4) va_nil)))))))
  (vss_cons (vs_set 6 sc_law_town.nd (v_of_l (vl_is (vl_callC C_law_draws (hr.mono (show 2 ≤ 3 by decide)) (va_cons (v_is (v_callC C_law_cell_at (hr.mono (show 1 ≤ 3 by decide)) (va_cons (v_name 0) (va_cons (v_le .no v_int) (va_le .no va_nil))))) (va_cons v_int va_nil))))))
  (vss_cons (vs_set 7 sc_law_town.nd (v_ixL (v_of_l (vl_lst (va_cons v_int (va_cons (v_op op_add r_add v_int (v_op op_mod r_mod (v_ixL (v_name 6) v_int) v_int)) (va_cons (v_op op_divP r_div (v_callB (cr_sum rfl) c_sum B.sum_ (by decide +kernel) (va_cons (v_name 3) va_nil)) v_int) (va_cons (v_callB (cr_sum rfl) c_sum B.sum_ (by decide +kernel) (va_cons (v_name 3) va_nil)) (va_cons (v_op op_mod r_mod (v_op op_mulP r_mul (v_ixL (v_name 6) v_int) (v_ixL (v_name 6) v_int)) (v_op op_add r_add (v_callB (cr_sum rfl) c_sum B.sum_ (by decide +kernel) (va_cons (v_name 3) va_nil)) v_int)) va_nil))))))) (v_op op_mod r_mod (v_ixL (v_name 6) v_int) v_int)))
  (vss_one (vs_ret (v_tup (va_cons (v_callB (call_min2 rfl) c_min2 B.min_ (by decide +kernel) (va_cons (v_name 7) (va_cons (v_op op_powP r_pow v_int v_int) va_nil))) (va_cons (v_name 3) (va_cons (v_name 5) va_nil)))))))))))))⟩), m, F.kp, F.binds (ps := ["script"]) fun _ _ _ _ _ _ us hl => match us, hl with | [_], _ => rfl⟩

abbrev st_law_sets : Stmt := topS 15
abbrev N_law_sets : List Str := ["many", "found", "k", "one"]
theorem sc_law_sets : FnScope ["many", "found", "k", "one"] ["many"] (defScope st_law_sets) := ⟨rfl, rfl, rfl, by decide +kernel, rfl, by decide +kernel, by decide +kernel⟩
theorem cal_law_sets {f : Addr} {fd : FuncData} (F : Fun K "_law_sets" "_law_sets" st_law_sets f fd) (m : mg "_law_sets" = some (.ref f)) (B : Bt mg)  : Cal P w K mg base "_law_sets" 1 ["many"] true .nw sem_law_sets :=
  ⟨f, fd, fn_v true .nw [.od, .nw, .nw, .nw] F sc_law_sets (fun _ _ _ _ _ _ hr => have hu := hr.units; ⟨_, (vss_cons (vs_set 1 sc_law_sets.nd (v_of_l (vl_lst (va_cons (v_of_l (vl_lst va_nil)) va_nil))))
  (vss_cons (vs_for [2] PassesOwn.never rfl (vi_range1 B.range_ (va_cons (v_sc (v_name 0)) va_nil)) (vg_name 2 sc_law_sets.nd)
  (vss_one (vs_set 1 sc_law_sets.nd (v_of_l (vl_cat (v_name 1) (v_of_l (vl_compF rfl sc_law_sets.nd (re := .nw) (is := [3]) (vi_list (v_name 1)) (blkOk_by (own := [("one", 3)]) (N := N_law_sets) (sc := (defScope st_law_sets)) (by decide +kernel)) (fun _ _ _ _ _ => (vg_name 3 sc_law_sets.nd)) (fun _ _ _ _ _ => vts_nil) (fun _ _ _ _ _ => (v_of_l (vl_cat (v_name 3) (v_of_l (vl_lst (va_cons (v_name 2) va_nil)))))))))))))
  (vss_one (vs_retL (vl_cut (v_name 1) (vo_some v_int) vo_none)))))⟩), m, F.kp, F.binds (ps := ["many"]) fun _ _ _ _ _ _ us hl => match us, hl with | [_], _ => rfl⟩

abbrev st_law_group : Stmt := topS 16
abbrev N_law_group : List Str := ["wishes", "asked", "done", "found", "voter", "wanted", "k"]
theorem sc_law_group : FnScope ["wishes", "asked", "done", "found", "voter", "wanted", "k"] ["wishes", "asked", "done"] (defScope st_law_group) := ⟨rfl, rfl, rfl, by decide +kernel, rfl, by decide +kernel, by decide +kernel⟩
theorem cal_law_group {f : Addr} {fd : FuncData} (F : Fun K "_law_group" "_law_group" st_law_group f fd) (m : mg "_law_group" = some (.ref f)) (B : Bt mg)  : Cal P w K mg base "_law_group" 1 ["wishes", "asked", "done"] true .nw sem_law_group :=
  ⟨f, fd, fn_v true .nw [.od, .od, .od, .mn, .od, .od, .od] F sc_law_group (fun _ _ _ _ _ _ hr => have hu := hr.units; ⟨_, (vss_cons (vs_setL 3 sc_law_group.nd (vl_lst va_nil))
  (vss_cons (vs_for [4, 5] PassesOwn.never rfl (vi_enum B.enumerate_ (va_cons (v_name 0) (va_le .no va_nil))) (vg_tup rfl (vgs_cons (vg_name 4 sc_law_group.nd) (vgs_cons (vg_name 5 sc_law_group.nd) vgs_nil)))
  (vss_one (vs_if (vt_cmp (op_eqD hu) r_eq (v_of_l (vl_compF rfl sc_law_group.nd (re := .nw) (is := [6]) (vi_list (v_name 1)) (blkOk_by (own := [("k", 6)]) (N := N_law_group) (sc := (defScope st_law_group)) (by decide +kernel)) (fun _ _ _ _ _ => (vg_name 6 sc_law_group.nd)) (fun _ _ _ _ _ => (vts_one (vt_cmp op_notIn_seq r_notIn (v_name 6) (v_name 5)))) (fun _ _ _ _ _ => (v_sc (v_name 6))))) (v_of_l (vl_lst va_nil)))
  (vss_one (vs_if (vt_cmp op_lt r_lt (v_callB call_len c_len B.len_ (by decide +kernel) (va_cons (v_of_l (vl_compF rfl sc_law_group.nd (re := .nw) (is := [6]) (vi_list (v_name 5)) (blkOk_by (own := [("k", 6)]) (N := N_law_group) (sc := (defScope st_law_group)) (by decide +kernel)) (fun _ _ _ _ _ => (vg_name 6 sc_law_group.nd)) (fun _ _ _ _ _ => (vts_one (vt_cmp op_in_seq r_in (v_name 6) (v_name 2)))) (fun _ _ _ _ _ => (v_sc (v_name 6))))) va_nil)) (v_callB call_len c_len B.len_ (by decide +kernel) (va_cons (v_name 1) (va_le .no va_nil))))
  (vss_one (vs_app 3 (va_cons (v_sc (v_name 4)) va_nil))) vss_nil)) vss_nil)))
  (vss_one (vs_retM 3))))⟩), m, F.kp, F.binds (ps := ["wishes", "asked", "done"]) fun _ _ _ _ _ _ us hl => match us, hl with | [_, _, _], _ => rfl⟩

abbrev st_law_due : Stmt := topS 17
abbrev N_law_due : List Str := ["coins", "costs", "wishes", "done", "wrong", "asked", "group", "price", "size", "k"]
theorem sc_law_due : FnScope ["coins", "costs", "wishes", "done", "wrong", "asked", "group", "price", "size", "k"] ["coins", "costs", "wishes", "done"] (defScope st_law_due) := ⟨rfl, rfl, rfl, by decide +kernel, rfl, by decide +kernel, by decide +kernel⟩
theorem cal_law_due {f : Addr} {fd : FuncData} (F : Fun K "_law_due" "_law_due" st_law_due f fd) (m : mg "_law_due" = some (.ref f)) (B : Bt mg) (C_law_sets : Cal P w K mg base "_law_sets" 1 ["many"] true .nw sem_law_sets) (C_law_group : Cal P w K mg base "_law_group" 1 ["wishes", "asked", "done"] true .nw sem_law_group) : Cal P w K mg base "_law_due" 2 ["coins", "costs", "wishes", "done"] false .nw sem_law_due :=
  ⟨f, fd, fn_v false .nw [.od, .od, .od, .od, .mn, .nw, .nw, .nw, .nw, .nw] F sc_law_due (fun _ _ _ _ _ _ hr => have hu := hr.units; ⟨_, (vss_cons (vs_setL 4 sc_law_due.nd (vl_lst va_nil))
  (vss_cons (vs_for [5, 6, 7] PassesOwn.never rfl (vi_list (v_of_l (vl_is (vl_callC C_law_sets hr (va_cons (v_callB call_len c_len B.len_ (by decide +kernel) (va_cons (v_name 1) (va_le .no va_nil))) va_nil))))) (vg_name 5 sc_law_due.nd)
  (vss_cons (vs_set 6 sc_law_due.nd (v_of_l (vl_is (vl_callC C_law_group hr (va_cons (v_name 2) (va_cons (v_le .no (v_name 5)) (va_cons (v_name 3) (va_le .no va_nil))))))))
  (vss_cons (vs_set 7 sc_law_due.nd (v_callB (cr_sum rfl) c_sum B.sum_ (by decide +kernel) (va_cons (v_of_l (vl_compF rfl sc_law_due.nd (re := .nw) (is := [9]) (vi_list (v_name 5)) (blkOk_by (own := [("k", 9)]) (N := N_law_due) (sc := (defScope st_law_due)) (by decide +kernel)) (fun _ _ _ _ _ => (vg_name 9 sc_law_due.nd)) (fun _ _ _ _ _ => vts_nil) (fun _ _ _ _ _ => (v_sc (v_ixL (v_name 1) (v_name 9)))))) va_nil)))
  (vss_one (vs_if (vw_pt (vw_and (vt_cmp (op_neD hu) r_ne (v_name 6) (v_of_l (vl_lst va_nil))) (vw_and1 (vt_cmp op_ge r_ge (v_op op_mulP r_mul (v_name 0) (v_callB call_len c_len B.len_ (by decide +kernel) (va_cons (v_name 6) va_nil))) (v_op op_mulP r_mul (v_name 7) (v_callB call_len c_len B.len_ (by decide +kernel) (va_cons (v_name 2) (va_le .no va_nil))))))))
  (vss_one (vs_app 4 (va_cons (v_tup (va_cons (v_callB call_len c_len B.len_ (by decide +kernel) (va_cons (v_name 5) va_nil)) (va_cons (v_name 5) (va_cons (v_name 6) va_nil)))) va_nil))) vss_nil)))))
  (vss_freeze 4 .nw
  (vss_cons (vs_if (vt_cmp (op_eqD hu) r_eq (v_name 4) (v_of_l (vl_lst va_nil)))
  (vss_one (vs_ret v_non)) vss_nil)
  (vss_cons (vs_tgt (v_minD rfl hu B.min_ (va_cons (v_name 4) va_nil)) (vg_tup rfl (vgs_cons (vg_name 8 sc_law_due.nd) (vgs_cons (vg_name 5 sc_law_due.nd) (vgs_cons (vg_name 6 sc_law_due.nd) vgs_nil)))))
  (vss_one (vs_ret (v_tup (va_cons (v_name 5) (va_cons (v_name 6) va_nil))))))))))⟩), m, F.kp, F.binds (ps := ["coins", "costs", "wishes", "done"]) fun _ _ _ _ _ _ us hl => match us, hl with | [_, _, _, _], _ => rfl⟩

abbrev st_picks_of : Stmt := topS 4
abbrev N_picks_of : List Str := ["first", "many", "size", "found", "work", "rest"]
theorem sc_picks_of : FnScope ["first", "many", "size", "found", "work", "rest"] ["first", "many", "size"] (defScope st_picks_of) := ⟨rfl, rfl, rfl, by decide +kernel, rfl, by decide +kernel, by decide +kernel⟩
theorem calR_picks_of {f : Addr} {fd : FuncData} (F : Fun K "picks_of" "picks_of" st_picks_of f fd) (m : mg "picks_of" = some (.ref f)) (B : Bt mg)  : ∀ k : Nat, Cal P w K mg base "picks_of" (1 + k) ["first", "many", "size"] true .nw (semR_picks_of k)
  | 0 => ⟨f, fd, fn_v true .nw [.od, .od, .od, .mn, .nw, .nw] F sc_picks_of (fun _ _ _ _ _ _ hr => ⟨_, vss_never⟩), m, F.kp, F.binds (ps := ["first", "many", "size"]) fun _ _ _ _ _ _ us hl => match us, hl with | [_, _, _], _ => rfl⟩
  | k + 1 => by
    have C_picks_of := calR_picks_of F m B  k
    exact ⟨f, fd, fn_v true .nw [.od, .od, .od, .mn, .nw, .nw] F sc_picks_of (fun _ _ _ _ _ _ hr => have hu := hr.units; ⟨_, (vss_cons (vs_if (vt_cmp (op_eqD hu) r_eq (v_name 2) v_int)
  (vss_one (vs_retL (vl_lst (va_cons (v_of_l (vl_lst va_nil)) va_nil)))) vss_nil)
  (vss_cons (vs_setL 3 sc_picks_of.nd (vl_lst va_nil))
  (vss_cons (vs_for [4, 5] PassesOwn.never rfl (vi_range2 B.range_ (va_cons (v_sc (v_name 0)) (va_cons (v_sc (v_name 1)) va_nil))) (vg_name 4 sc_picks_of.nd)
  (vss_one (vs_for [5] PassesOwn.never rfl (vi_list (v_of_l (vl_is (vl_callC C_picks_of hr (va_cons (v_op op_add r_add (v_name 4) v_int) (va_cons (v_sc (v_name 1)) (va_cons (v_op op_sub r_sub (v_name 2) v_int) va_nil))))))) (vg_name 5 sc_picks_of.nd)
  (vss_one (vs_app 3 (va_cons (v_of_l (vl_cat (v_of_l (vl_lst (va_cons (v_name 4) va_nil))) (v_name 5))) va_nil))))))
  (vss_one (vs_retM 3)))))⟩), m, F.kp, F.binds (ps := ["first", "many", "size"]) fun _ _ _ _ _ _ us hl => match us, hl with | [_, _, _], _ => rfl⟩
theorem cal_picks_of {f : Addr} {fd : FuncData} (F : Fun K "picks_of" "picks_of" st_picks_of f fd) (m : mg "picks_of" = some (.ref f)) (B : Bt mg)  : Cal P w K mg base "picks_of" 11 ["first", "many", "size"] true .nw sem_picks_of := calR_picks_of F m B  10

abbrev st_common_of : Stmt := topS 1
abbrev N_common_of : List Str := ["wishes", "works", "found", "voter", "wanted", "work"]
theorem sc_common_of : FnScope ["wishes", "works", "found", "voter", "wanted", "work"] ["wishes", "works"] (defScope st_common_of) := ⟨rfl, rfl, rfl, by decide +kernel, rfl, by decide +kernel, by decide +kernel⟩
theorem cal_common_of {f : Addr} {fd : FuncData} (F : Fun K "common_of" "common_of" st_common_of f fd) (m : mg "common_of" = some (.ref f)) (B : Bt mg)  : Cal P w K mg base "common_of" 1 ["wishes", "works"] true .nw sem_common_of :=
  ⟨f, fd, fn_v true .nw [.od, .od, .mn, .od, .od, .od] F sc_common_of (fun _ _ _ _ _ _ hr => have hu := hr.units; ⟨_, (vss_cons (vs_setL 2 sc_common_of.nd (vl_lst va_nil))
  (vss_cons (vs_for [3, 4] PassesOwn.never rfl (vi_enum B.enumerate_ (va_cons (v_name 0) (va_le .no va_nil))) (vg_tup rfl (vgs_cons (vg_name 3 sc_common_of.nd) (vgs_cons (vg_name 4 sc_common_of.nd) vgs_nil)))
  (vss_one (vs_if (vt_cmp (op_eqD hu) r_eq (v_callB call_len c_len B.len_ (by decide +kernel) (va_cons (v_of_l (vl_compF rfl sc_common_of.nd (re := .nw) (is := [5]) (vi_list (v_name 1)) (blkOk_by (own := [("work", 5)]) (N := N_common_of) (sc := (defScope st_common_of)) (by decide +kernel)) (fun _ _ _ _ _ => (vg_name 5 sc_common_of.nd)) (fun _ _ _ _ _ => (vts_one (vt_cmp op_in_seq r_in (v_name 5) (v_name 4)))) (fun _ _ _ _ _ => (v_sc (v_name 5))))) va_nil)) (v_callB call_len c_len B.len_ (by decide +kernel) (va_cons (v_name 1) (va_le .no va_nil))))
  (vss_one (vs_app 2 (va_cons (v_sc (v_name 3)) va_nil))) vss_nil)))
  (vss_one (vs_retM 2))))⟩), m, F.kp, F.binds (ps := ["wishes", "works"]) fun _ _ _ _ _ _ us hl => match us, hl with | [_, _], _ => rfl⟩

abbrev st_count_done : Stmt := topS 5
abbrev N_count_done : List Str := ["wanted", "works", "work"]
theorem sc_count_done : FnScope ["wanted", "works", "work"] ["wanted", "works"] (defScope st_count_done) := ⟨rfl, rfl, rfl, by decide +kernel, rfl, by decide +kernel, by decide +kernel⟩
theorem cal_count_done {f : Addr} {fd : FuncData} (F : Fun K "count_done" "count_done" st_count_done f fd) (m : mg "count_done" = some (.ref f)) (B : Bt mg)  : Cal P w K mg base "count_done" 1 ["wanted", "works"] false .nw sem_count_done :=
  ⟨f, fd, fn_v false .nw [.od, .od, .od] F sc_count_done (fun _ _ _ _ _ _ hr => have hu := hr.units; ⟨_, (vss_one (vs_ret (v_callB call_len c_len B.len_ (by decide +kernel) (va_cons (v_of_l (vl_compF rfl sc_count_done.nd (re := .nw) (is := [2]) (vi_list (v_name 0)) (blkOk_by (own := [("work", 2)]) (N := N_count_done) (sc := (defScope st_count_done)) (by decide +kernel)) (fun _ _ _ _ _ => (vg_name 2 sc_count_done.nd)) (fun _ _ _ _ _ => (vts_one (vt_cmp op_in_seq r_in (v_name 2) (v_name 1)))) (fun _ _ _ _ _ => (v_sc (v_name 2))))) va_nil))))⟩), m, F.kp, F.binds (ps := ["wanted", "works"]) fun _ _ _ _ _ _ us hl => match us, hl with | [_, _], _ => rfl⟩

abbrev st_short_ones : Stmt := topS 6
abbrev N_short_ones : List Str := ["wishes", "asked", "works", "voter"]
theorem sc_short_ones : FnScope ["wishes", "asked", "works", "voter"] ["wishes", "asked", "works"] (defScope st_short_ones) := ⟨rfl, rfl, rfl, by decide +kernel, rfl, by decide +kernel, by decide +kernel⟩
theorem cal_short_ones {f : Addr} {fd : FuncData} (F : Fun K "short_ones" "short_ones" st_short_ones f fd) (m : mg "short_ones" = some (.ref f)) (B : Bt mg) (C_common_of : Cal P w K mg base "common_of" 1 ["wishes", "works"] true .nw sem_common_of) (C_count_done : Cal P w K mg base "count_done" 1 ["wanted", "works"] false .nw sem_count_done) : Cal P w K mg base "short_ones" 2 ["wishes", "asked", "works"] true .nw sem_short_ones :=
  ⟨f, fd, fn_v true .nw [.od, .od, .od, .nw] F sc_short_ones (fun _ _ _ _ _ _ hr => have hu := hr.units; ⟨_, (vss_one (vs_retL (vl_compF rfl sc_short_ones.nd (re := .nw) (is := [3]) (vi_list (v_of_l (vl_is (vl_callC C_common_of hr (va_cons (v_name 0) (va_cons (v_name 1) (va_le .no va_nil))))))) (blkOk_by (own := [("voter", 3)]) (N := N_short_ones) (sc := (defScope st_short_ones)) (by decide +kernel)) (fun _ _ _ _ _ => (vg_name 3 sc_short_ones.nd)) (fun _ _ _ _ _ => (vts_one (vt_cmp op_lt r_lt (v_is (v_callC C_count_done hr (va_cons (v_ixL (v_name 0) (v_name 3)) (va_cons (v_name 2) (va_le .no va_nil))))) (v_callB call_len c_len B.len_ (by decide +kernel) (va_cons (v_name 1) (va_le .no va_nil)))))) (fun _ _ _ _ _ => (v_name 3)))))⟩), m, F.kp, F.binds (ps := ["wishes", "asked", "works"]) fun _ _ _ _ _ _ us hl => match us, hl with | [_, _, _], _ => rfl⟩

abbrev st_cost_of : Stmt := topS 2
abbrev N_cost_of : List Str := ["costs", "works", "work"]
theorem sc_cost_of : FnScope ["costs", "works", "work"] ["costs", "works"] (defScope st_cost_of) := ⟨rfl, rfl, rfl, by decide +kernel, rfl, by decide +kernel, by decide +kernel⟩
theorem cal_cost_of {f : Addr} {fd : FuncData} (F : Fun K "cost_of" "cost_of" st_cost_of f fd) (m : mg "cost_of" = some (.ref f)) (B : Bt mg)  : Cal P w K mg base "cost_of" 1 ["costs", "works"] false .nw sem_cost_of :=
  ⟨f, fd, fn_v false .nw [.od, .od, .od] F sc_cost_of (fun _ _ _ _ _ _ hr => have hu := hr.units; ⟨_, (vss_one (vs_ret (v_callB (cr_sum rfl) c_sum B.sum_ (by decide +kernel) (va_cons (v_of_l (vl_compF rfl sc_cost_of.nd (re := .nw) (is := [2]) (vi_list (v_name 1)) (blkOk_by (own := [("work", 2)]) (N := N_cost_of) (sc := (defScope st_cost_of)) (by decide +kernel)) (fun _ _ _ _ _ => (vg_name 2 sc_cost_of.nd)) (fun _ _ _ _ _ => vts_nil) (fun _ _ _ _ _ => (v_sc (v_ixL (v_name 0) (v_name 2)))))) va_nil))))⟩), m, F.kp, F.binds (ps := ["costs", "works"]) fun _ _ _ _ _ _ us hl => match us, hl with | [_, _], _ => rfl⟩

abbrev st_wronged : Stmt := topS 7
abbrev N_wronged : List Str := ["coins", "costs", "wishes", "works", "size", "asked", "group"]
theorem sc_wronged : FnScope ["coins", "costs", "wishes", "works", "size", "asked", "group"] ["coins", "costs", "wishes", "works"] (defScope st_wronged) := ⟨rfl, rfl, rfl, by decide +kernel, rfl, by decide +kernel, by decide +kernel⟩
theorem cal_wronged {f : Addr} {fd : FuncData} (F : Fun K "wronged" "wronged" st_wronged f fd) (m : mg "wronged" = some (.ref f)) (B : Bt mg) (C_picks_of : Cal P w K mg base "picks_of" 11 ["first", "many", "size"] true .nw sem_picks_of) (C_short_ones : Cal P w K mg base "short_ones" 2 ["wishes", "asked", "works"] true .nw sem_short_ones) (C_cost_of : Cal P w K mg base "cost_of" 1 ["costs", "works"] false .nw sem_cost_of) : Cal P w K mg base "wronged" 12 ["coins", "costs", "wishes", "works"] false .nw sem_wronged :=
  ⟨f, fd, fn_v false .nw [.od, .od, .od, .od, .nw, .nw, .nw] F sc_wronged (fun _ _ _ _ _ _ hr => have hu := hr.units; ⟨_, (vss_cons (vs_for [4, 5, 6] PassesOwn.never rfl (vi_range2 B.range_ (va_cons v_int (va_cons (v_op op_add r_add (v_callB call_len c_len B.len_ (by decide +kernel) (va_cons (v_name 1) (va_le .no va_nil))) v_int) va_nil))) (vg_name 4 sc_wronged.nd)
  (vss_one (vs_for [5, 6] PassesOwn.never rfl (vi_list (v_of_l (vl_is (vl_callC C_picks_of hr (va_cons v_int (va_cons (v_callB call_len c_len B.len_ (by decide +kernel) (va_cons (v_name 1) (va_le .no va_nil))) (va_cons (v_name 4) va_nil))))))) (vg_name 5 sc_wronged.nd)
  (vss_cons (vs_set 6 sc_wronged.nd (v_of_l (vl_is (vl_callC C_short_ones (hr.mono (show 2 ≤ 11 by decide)) (va_cons (v_name 2) (va_cons (v_le .no (v_name 5)) (va_cons (v_name 3) (va_le .no va_nil))))))))
  (vss_one (vs_if (vw_pt (vw_and (vt_cmp (op_neD hu) r_ne (v_name 6) (v_of_l (vl_lst va_nil))) (vw_and1 (vt_cmp op_ge r_ge (v_op op_mulP r_mul (v_name 0) (v_callB call_len c_len B.len_ (by decide +kernel) (va_cons (v_name 6) va_nil))) (v_op op_mulP r_mul (v_is (v_callC C_cost_of (hr.mono (show 1 ≤ 11 by decide)) (va_cons (v_name 1) (va_cons (v_le .no (v_name 5)) (va_le .no va_nil))))) (v_callB call_len c_len B.len_ (by decide +kernel) (va_cons (v_name 2) (va_le .no va_nil))))))))
  (vss_one (vs_ret (v_tup (va_cons (v_name 5) (va_cons (v_name 6) va_nil))))) vss_nil))))))
  (vss_one (vs_ret v_non)))⟩), m, F.kp, F.binds (ps := ["coins", "costs", "wishes", "works"]) fun _ _ _ _ _ _ us hl => match us, hl with | [_, _, _, _], _ => rfl⟩

abbrev st_law_whole : Stmt := topS 10
abbrev N_law_whole : List Str := ["found"]
theorem sc_law_whole : FnScope ["found"] ["found"] (defScope st_law_whole) := ⟨rfl, rfl, rfl, by decide +kernel, rfl, by decide +kernel, by decide +kernel⟩
theorem cal_law_whole {f : Addr} {fd : FuncData} (F : Fun K "_law_whole" "_law_whole" st_law_whole f fd) (m : mg "_law_whole" = some (.ref f)) (B : Bt mg)  : Cal P w K mg base "_law_whole" 1 ["found"] false .nw sem_law_whole :=
  ⟨f, fd, fn_v false .nw [.od] F sc_law_whole (fun _ _ _ _ _ _ hr => have hu := hr.units; ⟨_, (vss_one (vs_ret (v_and (v_isi B.isinstance_ B.int_ (by decide +kernel) (v_name 0)) (v_one (v_not (v_isi B.isinstance_ B.bool_ (by decide +kernel) (v_name 0)))))))⟩), m, F.kp, F.binds (ps := ["found"]) fun _ _ _ _ _ _ us hl => match us, hl with | [_], _ => rfl⟩

abbrev st_law_alike : Stmt := topS 18
abbrev N_law_alike : List Str := ["found", "due", "row", "k"]
theorem sc_law_alike : FnScope ["found", "due", "row", "k"] ["found", "due"] (defScope st_law_alike) := ⟨rfl, rfl, rfl, by decide +kernel, rfl, by decide +kernel, by decide +kernel⟩
theorem cal_law_alike {f : Addr} {fd : FuncData} (F : Fun K "_law_alike" "_law_alike" st_law_alike f fd) (m : mg "_law_alike" = some (.ref f)) (B : Bt mg) (C_law_whole : Cal P w K mg base "_law_whole" 1 ["found"] false .nw sem_law_whole) : Cal P w K mg base "_law_alike" 2 ["found", "due"] false .nw sem_law_alike :=
  ⟨f, fd, fn_v false .nw [.od, .od, .od, .od] F sc_law_alike (fun _ _ _ _ _ _ hr => have hu := hr.units; ⟨_, (vss_cons (vs_if (vt_cmp op_isN r_isN (v_name 1) v_non)
  (vss_one (vs_ret (v_cmp op_isN r_isN (v_name 0) v_non))) vss_nil)
  (vss_cons (vs_if (vw_pt (vw_or (vt_not (vt_val (v_isi B.isinstance_ B.tuple_ (by decide +kernel) (v_name 0)))) (vw_or1 (vt_cmp (op_neD hu) r_ne (v_callB call_len c_len B.len_ (by decide +kernel) (va_cons (v_name 0) (va_le .no va_nil))) v_int))))
  (vss_one (vs_ret v_bl)) vss_nil)
  (vss_cons (vs_for [2] PassesOwn.never rfl (vi_tupl (v_name 0)) (vg_name 2 sc_law_alike.nd)
  (vss_one (vs_if (vw_pt (vw_or (vt_not (vt_val (v_isi B.isinstance_ B.list_ (by decide +kernel) (v_name 2)))) (vw_or1 (vt_cmp (op_neD hu) r_ne (v_of_l (vl_compF rfl sc_law_alike.nd (re := .nw) (is := [3]) (vi_list (v_name 2)) (blkOk_by (own := [("k", 3)]) (N := N_law_alike) (sc := (defScope st_law_alike)) (by decide +kernel)) (fun _ _ _ _ _ => (vg_name 3 sc_law_alike.nd)) (fun _ _ _ _ _ => (vts_one (vt_not (vt_val (v_is (v_callC C_law_whole hr (va_cons (v_sc (v_name 3)) va_nil))))))) (fun _ _ _ _ _ => (v_sc (v_name 3))))) (v_of_l (vl_lst va_nil))))))
  (vss_one (vs_ret v_bl)) vss_nil)))
  (vss_one (vs_ret (v_cmp (op_eqD hu) r_eq (v_name 0) (v_name 1)))))))⟩), m, F.kp, F.binds (ps := ["found", "due"]) fun _ _ _ _ _ _ us hl => match us, hl with | [_, _], _ => rfl⟩

abbrev st_law : Stmt := topS 19
abbrev N_law : List Str := ["script", "coins", "costs", "wishes", "cell", "xs", "done", "due", "handed", "found", "k", "wanted"]
theorem sc_law : FnScope ["script", "coins", "costs", "wishes", "cell", "xs", "done", "due", "handed", "found", "k", "wanted"] ["script"] (defScope st_law) := ⟨rfl, rfl, rfl, by decide +kernel, rfl, by decide +kernel, by decide +kernel⟩
theorem law_fn {f : Addr} {fd : FuncData} (F : Fun K "law" "law" st_law f fd) (m : mg "law" = some (.ref f)) (B : Bt mg) (NL : NoL K) (C_law_town : Cal P w K mg base "_law_town" 4 ["script"] false .nw sem_law_town) (C_law_cell_at : Cal P w K mg base "_law_cell_at" 1 ["script", "k"] false .nw sem_law_cell_at) (C_law_draws : Cal P w K mg base "_law_draws" 2 ["cell", "many"] true .nw sem_law_draws) (C_law_due : Cal P w K mg base "_law_due" 2 ["coins", "costs", "wishes", "done"] false .nw sem_law_due) (C_wronged : Cal P w K mg base "wronged" 12 ["coins", "costs", "wishes", "works"] false .nw sem_wronged) (C_law_alike : Cal P w K mg base "_law_alike" 2 ["found", "due"] false .nw sem_law_alike) : FnOk P w K mg base CX0 13 f fd ["script"] (spV K false .nw sem_law) :=
  fn_v false .nw [.od, .od, .od, .od, .od, .od, .od, .od, .od, .nw, .nw, .od] F sc_law (fun _ _ _ _ _ _ hr => have hu := hr.units; ⟨_, (vss_cons (vs_tgt (v_is (v_callC C_law_town (hr.mono (show 4 ≤ 12 by decide)) (va_cons (v_name 0) (va_le .no va_nil)))) (vg_tup rfl (vgs_cons (vg_name 1 sc_law.nd) (vgs_cons (vg_name 2 sc_law.nd) (vgs_cons (vg_name 3 sc_law.nd) vgs_nil)))))
  (vss_cons (vs_set 4 sc_law.nd (v_is (v_callC C_law_cell_at (hr.mono (show 1 ≤ 12 by decide)) (va_cons (v_name 0) (va_cons (v_le .no v_int) (va_le .no va_nil))))))
  (vss_cons (vs_set 5 sc_law.nd (v_of_l (vl_is (vl_callC C_law_draws (hr.mono (show 2 ≤ 12 by decide)) (va_cons (v_sc (v_name 4)) (va_cons v_int va_nil))))))
  (vss_cons (vs_setCF 6 rfl sc_law.nd (sw_true rfl rfl rfl (by decide +kernel)) (re := .nw) (is := [10]) (vi_range1 B.range_ (va_cons (v_callB call_len c_len B.len_ (by decide +kernel) (va_cons (v_name 2) (va_le .no va_nil))) va_nil)) (blkOk_by (own := [("k", 10)]) (N := N_law) (sc := (defScope st_law)) (by decide +kernel)) (fun _ _ _ _ _ => (vg_name 10 sc_law.nd)) (fun _ _ _ _ _ => (vts_one (vw_pt (vw_or (vt_cmp (op_eqD hu) r_eq (v_op op_mod r_mod (v_ixL (v_name 5) v_int) v_int) v_int) (vw_or1 (vw_pt (vw_and (vt_cmp op_gt r_gt (v_op op_mod r_mod (v_ixL (v_name 5) v_int) v_int) v_int) (vw_and1 (vt_cmp (op_eqD hu) r_eq (v_op op_mod r_mod (v_ixL (v_name 5) (v_name 10)) v_int) v_int))))))))) (fun _ _ _ _ _ => (v_name 10)))
  (vss_cons (vs_set 7 sc_law.nd (v_is (v_callC C_law_due (hr.mono (show 2 ≤ 12 by decide)) (va_cons (v_name 1) (va_cons (v_name 2) (va_cons (v_name 3) (va_cons (v_name 6) (va_le .no va_nil))))))))
  (vss_cons (vs_set 8 sc_law.nd (v_of_l (vl_lst (va_cons (v_of_l (vl_sc (vl_of B.list_ (v_name 2)))) (va_cons (v_of_l (vl_compF rfl sc_law.nd (re := .nw) (is := [11]) (vi_list (v_name 3)) (blkOk_by (own := [("wanted", 11)]) (N := N_law) (sc := (defScope st_law)) (by decide +kernel)) (fun _ _ _ _ _ => (vg_name 11 sc_law.nd)) (fun _ _ _ _ _ => vts_nil) (fun _ _ _ _ _ => (v_of_l (vl_sc (vl_of B.list_ (v_name 11))))))) (va_cons (v_of_l (vl_sc (vl_of B.list_ (v_name 6)))) va_nil))))))
  (vss_base [.kp, .kp, .kp, .kp, .kp, .kp, .kp, .kp, .kp, .nx .nw, .nx .nw, .nx .od] (fun _ => by exact (vt_cons (vs_set 9 sc_law.nd (v_is (v_callC C_wronged hr (va_cons (v_name 1) (va_cons (v_ixL (v_name 8) v_int) (va_cons (v_ixL (v_name 8) v_int) (va_cons (v_ixL (v_name 8) v_int) (va_le .no va_nil))))))))
  (vt_cons (vs_if (vw_pt (vw_or (vt_not (vt_val (v_is (v_callC C_law_alike (hr.mono (show 2 ≤ 12 by decide)) (va_cons (v_le .no (v_name 9)) (va_cons (v_name 7) (va_le .no va_nil))))))) (vw_or1 (vt_cmp (op_neD hu) r_ne (v_name 8) (v_of_l (vl_lst (va_cons (v_name 2) (va_cons (v_name 3) (va_cons (v_name 6) (va_le .no va_nil))))))))))
  (vss_one (vs_ret v_bl)) vss_nil)
  (vt_reb [.kp, .kp, .kp, .kp, .kp, .kp, .kp, .kp, .kp, .tr, .nx .nw, .nx .nw] (fun _ => by exact (vt_ifM2 9 [9, 10, 11] NL (vt_cmp op_notN r_notN (v_name 9) v_non) (ps_iclr (v_ixT (v_name (Γ := []) 9) v_int).pe) (va_cons (v_neg v_int) va_nil) (fun pa => ps_iapp (v_ixT (v_name (Γ := []) 9) v_int).pe pa)
  (vt_of (vss_one (vs_ret (v_and (v_cmp (op_eqD hu) r_eq (v_name 8) (v_of_l (vl_lst (va_cons (v_name 2) (va_cons (v_name 3) (va_cons (v_name 6) (va_le .no va_nil))))))) (v_one (v_is (v_callC C_law_alike (hr.mono (show 2 ≤ 12 by decide)) (va_cons (v_le .no (v_is (v_callC C_wronged hr (va_cons (v_name 1) (va_cons (v_ixL (v_name 8) v_int) (va_cons (v_ixL (v_name 8) v_int) (va_cons (v_ixL (v_name 8) v_int) (va_le .no va_nil)))))))) (va_cons (v_name 7) (va_le .no va_nil)))))))))))))))))))))))⟩)
end
end Lw

namespace Lw
open PySem L2 PV
def cellat (ns : List Int) (k : Int) : Int := if k < ns.length then ns.getD k.toNat 0 else 0
theorem cellat_ev (ns : List Int) (k : Int) (h0 : 0 ≤ k) : sem_law_cell_at [.list (ns.map PyData.int), .int k] = some (.int (cellat ns k)) := by
  by_cases h : k < (ns.length : Int)
  · have e : atI ns k = some (cellat ns k) := by
      rw [atI_in h0 h, cellat, if_pos h, List.getD_eq_getElem?_getD, List.getElem?_eq_getElem (by omega)]
      rfl
    simp -implicitDefEqProofs (disch := first | omega | (simp only [List.length_map, List.length_append, List.length_cons, List.length_nil, List.length_range, List.length_take, List.length_drop, List.length_replicate, List.length_set, List.length_reverse] <;> omega) | (refine mulC_small ?_; omega) | (refine mulC_smallR ?_; omega) | (refine divC_small ?_ ?_ <;> omega) | (refine powC_small ?_ ?_ ?_ <;> omega)) only [v_run, v_iTp, tup?_tuple, v_sIfM2, k_ifM2_0, k_ifM2_1, v_srtSet, k_srtSet, v_sZ, k_sZ, v_sReb, v_sClr, k_sClr, v_pinF, k_pin, v_iZp3, k_zp3, v_setP, setPK_of, v_appP, k_appP, k_appP1, k_appP2, k_appP3, k_appP4, List.getElem?_cons_zero, List.getElem?_cons_succ, v_lSortP, k_srtP0, v_lRng, k_rng, hRg1_of, v_seq, v_set', v_setL', v_ret', v_retL', v_if', v_for', v_par', v_aug', v_augK, v_tgt', v_sub', v_mut', v_d1, v_d2, v_d3, v_dB, v_dSc, v_dScs, v_cons, v_tup', v_lst', v_dA, v_dAL, v_and', v_or', v_not', v_dT, v_iL, v_iR1, v_iR2, v_iR3, v_iEn, v_iZp, v_lCut, v_lOf, v_lCat, v_lRep, v_lRepE, k_rep0, v_rt', k_rt, v_idx, k_idx, v_lRev, k_rev, v_lSortI, v_lComp, v_oS, b_assoc, k_cmp, k_seq1, k_seq2, k_seq3, k_seq4, k_set, k_setL, k_ret, k_retL, k_if1, k_if2, k_for, k_par, k_aug2, k_tgt, k_tgt2, k_sub, k_sub1, k_sub2, k_sub3, k_mut, k_mut1, k_mut2, k_d2, k_d3, k_d31, k_d321, k_d322, k_bool, k_cons, k_cons2, k_tup, k_lst, k_al, k_and1, k_and2, k_or1, k_or2, k_not, k_dt, k_en, k_zp, k_cut, k_cut1, k_cut2, k_os, k_cat, k_rep, k_srt0, k_srt, k_comp, k_run1, k_run2, k_go1, k_go2, w_turn, w_turnR, w_turnW, w_nx, w_bk, w_ct, w_rN, w_V, w_C, w_nil, w_oN, w_yes, w_gSet, w_gTup, w_gsCons, w_gsNil, w_add, w_subI, w_lt, w_le, w_gt, w_ge, w_neg, w_isN, w_notN, w_n0, w_n1, w_n2, w_n3, w_n4, w_len1, w_len2, w_min2, w_max2, w_int1, w_int2, w_clr, w_ixL, w_ixT, w_sum, w_any, w_kil0, w_kil1, k_sc_int, k_sc_bool, k_sc_none, k_sc_str, k_scs_of, items?_list, items?_tuple, list?_list, cutD_map, all_int, all_int', List.length_map, hApp_of, hExt_of, hIns_of, hCat_of, hRep_of, hR1_of, hR2_of, hR3_of, hMul_of, hDiv_of, hMod_of, p10_3, p10_4, p10_5, p10_6, p10_7, p10_8, p10_9, p10_12, p10_50, p50_3, p50_4, atI_map, k_scs_int, List.getD_cons_zero, List.getD_cons_succ, List.set_cons_zero, List.set_cons_succ, List.map_cons, List.map_nil, List.cons_append, List.nil_append, List.append_nil, List.length_cons, List.length_nil, Option.bind_some, Option.bind_none, Option.map_some, Option.map_none, ↓reduceIte, Nat.reduceAdd, Nat.reduceSub, Int.reduceAdd, Int.reduceSub, Int.reduceMul, Int.reduceNeg, Nat.reduceLeDiff, Nat.reduceLT, Nat.reduceEqDiff, Nat.zero_add, List.reduceReplicate, List.replicate_zero, List.replicate_one, List.replicate_succ, Bool.and_true, Bool.true_and, Bool.not_true, Bool.not_false, decide_true, decide_false, Bool.false_eq_true, reduceCtorEq, and_self, if_false, if_true, hIsi_int_int, hIsi_int_bool, hIsi_int_list, hIsi_int_tuple, hIsi_int_str, hIsi_bool_int, hIsi_bool_bool, hIsi_bool_list, hIsi_bool_tuple, hIsi_bool_str, hIsi_none_int, hIsi_none_bool, hIsi_none_list, hIsi_none_tuple, hIsi_none_str, hIsi_list_int, hIsi_list_bool, hIsi_list_list, hIsi_list_tuple, hIsi_list_str, hIsi_tuple_int, hIsi_tuple_bool, hIsi_tuple_list, hIsi_tuple_tuple, hIsi_tuple_str, hIsi_str_int, hIsi_str_bool, hIsi_str_list, hIsi_str_tuple, hIsi_str_str, sem_law_cell_at, h, e]
  · simp -implicitDefEqProofs (disch := first | omega | (simp only [List.length_map, List.length_append, List.length_cons, List.length_nil, List.length_range, List.length_take, List.length_drop, List.length_replicate, List.length_set, List.length_reverse] <;> omega) | (refine mulC_small ?_; omega) | (refine mulC_smallR ?_; omega) | (refine divC_small ?_ ?_ <;> omega) | (refine powC_small ?_ ?_ ?_ <;> omega)) only [v_run, v_iTp, tup?_tuple, v_sIfM2, k_ifM2_0, k_ifM2_1, v_srtSet, k_srtSet, v_sZ, k_sZ, v_sReb, v_sClr, k_sClr, v_pinF, k_pin, v_iZp3, k_zp3, v_setP, setPK_of, v_appP, k_appP, k_appP1, k_appP2, k_appP3, k_appP4, List.getElem?_cons_zero, List.getElem?_cons_succ, v_lSortP, k_srtP0, v_lRng, k_rng, hRg1_of, v_seq, v_set', v_setL', v_ret', v_retL', v_if', v_for', v_par', v_aug', v_augK, v_tgt', v_sub', v_mut', v_d1, v_d2, v_d3, v_dB, v_dSc, v_dScs, v_cons, v_tup', v_lst', v_dA, v_dAL, v_and', v_or', v_not', v_dT, v_iL, v_iR1, v_iR2, v_iR3, v_iEn, v_iZp, v_lCut, v_lOf, v_lCat, v_lRep, v_lRepE, k_rep0, v_rt', k_rt, v_idx, k_idx, v_lRev, k_rev, v_lSortI, v_lComp, v_oS, b_assoc, k_cmp, k_seq1, k_seq2, k_seq3, k_seq4, k_set, k_setL, k_ret, k_retL, k_if1, k_if2, k_for, k_par, k_aug2, k_tgt, k_tgt2, k_sub, k_sub1, k_sub2, k_sub3, k_mut, k_mut1, k_mut2, k_d2, k_d3, k_d31, k_d321, k_d322, k_bool, k_cons, k_cons2, k_tup, k_lst, k_al, k_and1, k_and2, k_or1, k_or2, k_not, k_dt, k_en, k_zp, k_cut, k_cut1, k_cut2, k_os, k_cat, k_rep, k_srt0, k_srt, k_comp, k_run1, k_run2, k_go1, k_go2, w_turn, w_turnR, w_turnW, w_nx, w_bk, w_ct, w_rN, w_V, w_C, w_nil, w_oN, w_yes, w_gSet, w_gTup, w_gsCons, w_gsNil, w_add, w_subI, w_lt, w_le, w_gt, w_ge, w_neg, w_isN, w_notN, w_n0, w_n1, w_n2, w_n3, w_n4, w_len1, w_len2, w_min2, w_max2, w_int1, w_int2, w_clr, w_ixL, w_ixT, w_sum, w_any, w_kil0, w_kil1, k_sc_int, k_sc_bool, k_sc_none, k_sc_str, k_scs_of, items?_list, items?_tuple, list?_list, cutD_map, all_int, all_int', List.length_map, hApp_of, hExt_of, hIns_of, hCat_of, hRep_of, hR1_of, hR2_of, hR3_of, hMul_of, hDiv_of, hMod_of, p10_3, p10_4, p10_5, p10_6, p10_7, p10_8, p10_9, p10_12, p10_50, p50_3, p50_4, atI_map, k_scs_int, List.getD_cons_zero, List.getD_cons_succ, List.set_cons_zero, List.set_cons_succ, List.map_cons, List.map_nil, List.cons_append, List.nil_append, List.append_nil, List.length_cons, List.length_nil, Option.bind_some, Option.bind_none, Option.map_some, Option.map_none, ↓reduceIte, Nat.reduceAdd, Nat.reduceSub, Int.reduceAdd, Int.reduceSub, Int.reduceMul, Int.reduceNeg, Nat.reduceLeDiff, Nat.reduceLT, Nat.reduceEqDiff, Nat.zero_add, List.reduceReplicate, List.replicate_zero, List.replicate_one, List.replicate_succ, Bool.and_true, Bool.true_and, Bool.not_true, Bool.not_false, decide_true, decide_false, Bool.false_eq_true, reduceCtorEq, and_self, if_false, if_true, hIsi_int_int, hIsi_int_bool, hIsi_int_list, hIsi_int_tuple, hIsi_int_str, hIsi_bool_int, hIsi_bool_bool, hIsi_bool_list, hIsi_bool_tuple, hIsi_bool_str, hIsi_none_int, hIsi_none_bool, hIsi_none_list, hIsi_none_tuple, hIsi_none_str, hIsi_list_int, hIsi_list_bool, hIsi_list_list, hIsi_list_tuple, hIsi_list_str, hIsi_tuple_int, hIsi_tuple_bool, hIsi_tuple_list, hIsi_tuple_tuple, hIsi_tuple_str, hIsi_str_int, hIsi_str_bool, hIsi_str_list, hIsi_str_tuple, hIsi_str_str, sem_law_cell_at, h]
    rw [cellat, if_neg h]

def ni (i : Nat) : D := .int (i : Int)
theorem ni_map (is : List Nat) : is.map ni = (is.map fun i : Nat => (i : Int)).map PyData.int := by rw [List.map_map]; rfl
theorem range_ni (n : Nat) : rangeD 0 n = (List.range n).map ni := by
  rw [rangeD_map]
  refine List.map_congr_left fun k _ => ?_
  show PyData.int (0 + (k : Int)) = PyData.int (k : Int)
  rw [Int.zero_add]
theorem isSc_ni (i : Nat) : isSc (ni i) = true := rfl
theorem all_ni (is : List Nat) : (is.map ni).all isSc = true := by rw [ni_map]; exact all_int' _
theorem k_scs_ni (is : List Nat) : scsK (is.map ni) = some (is.map ni) := k_scs_of (all_ni is)
theorem inD_ni (w : Nat) : ∀ is : List Nat, inD (.int (w : Int)) (is.map ni) = is.contains w
  | [] => rfl
  | i :: is => by
    have h := inD_ni w is
    unfold inD at h ⊢
    rw [List.map_cons, List.any_cons, h, List.contains_cons]
    congr 1
    show PyData.eqv (.int (i : Int)) (.int (w : Int)) = _
    rw [eqv_int, Bool.eq_iff_iff, beq_iff_eq, beq_iff_eq]
    omega
theorem hIn_ni (w : Nat) (is : List Nat) : hIn (.int (w : Int)) (.list (is.map ni)) = some (.bool (is.contains w)) := by
  unfold hIn
  rw [items?_list, Option.bind_some, if_pos ⟨rfl, all_ni is⟩, inD_ni]
theorem hEq_ni (xs ys : List Nat) : hEq (.list (xs.map ni)) (.list (ys.map ni)) = some (.bool (xs == ys)) := by
  rw [ni_map, ni_map, hEq_ints]
  congr 2
  rw [Bool.eq_iff_iff, beq_iff_eq, beq_iff_eq]
  exact ⟨fun h => (List.map_inj_right (fun a b h => Int.ofNat.inj h)).mp h, fun h => h ▸ rfl⟩
theorem hNe_ni (xs ys : List Nat) : hNe (.list (xs.map ni)) (.list (ys.map ni)) = some (.bool (!(xs == ys))) := by
  rw [ni_map, ni_map, hNe_ints]
  congr 3
  rw [Bool.eq_iff_iff, beq_iff_eq, beq_iff_eq]
  exact ⟨fun h => (List.map_inj_right (fun a b h => Int.ofNat.inj h)).mp h, fun h => h ▸ rfl⟩
theorem atI_nat {α : Type} (xs : List α) (i : Nat) (h : i < xs.length) : atI xs (i : Int) = xs[i]? := by
  rw [atI_in (by omega) (by omega), Int.toNat_natCast]
theorem enumD_map {α : Type} (f : α → D) (d : α) (xs : List α) : enumD (xs.map f) = (List.range xs.length).map fun i => PyData.tuple [.int (i : Nat), f (xs.getD i d)] := by
  unfold enumD
  refine List.ext_getElem (by simp) fun i h1 h2 => ?_
  have hi : i < xs.length := by simpa using h1
  rw [List.getElem_map, List.getElem_map, List.getElem_zipIdx, List.getElem_range, List.getElem_map, List.getD_eq_getElem?_getD, List.getElem?_eq_getElem hi]
  simp
theorem hEq_nil (xs : List Int) : hEq (.list (xs.map PyData.int)) (.list []) = some (.bool (xs == [])) := hEq_ints xs []
theorem hEq_nil_ni (xs : List Nat) : hEq (.list (xs.map ni)) (.list []) = some (.bool (xs == [])) := hEq_ni xs []
theorem hEq_self {n : Nat} {d : D} (h : okD n d) (hn : n ≤ 64) : hEq d d = some (.bool true) := by
  unfold hEq
  rw [if_pos ⟨h.shaped hn, h.shaped hn⟩, eqv_self h.1]
theorem hNe_self {n : Nat} {d : D} (h : okD n d) (hn : n ≤ 64) : hNe d d = some (.bool false) := by
  unfold hNe
  rw [if_pos ⟨h.shaped hn, h.shaped hn⟩, eqv_self h.1]
  rfl
theorem ok_map {α : Type} {n : Nat} (f : α → D) (xs : List α) (h : ∀ x, okD n (f x)) : okD (n + 1) (.list (xs.map f)) := okD_list fun d hd => by
  obtain ⟨x, _, rfl⟩ := List.mem_map.mp hd
  exact h x
theorem atI_getD {α β : Type} (f : α → β) (d : α) (xs : List α) (i : Nat) (h : i < xs.length) : atI (xs.map f) (i : Int) = some (f (xs.getD i d)) := by
  rw [atI_nat _ _ (by rw [List.length_map]; exact h), List.getElem?_map, List.getD_eq_getElem?_getD, List.getElem?_eq_getElem h]
  rfl
theorem hNe_nil (xs : List Int) : hNe (.list (xs.map PyData.int)) (.list []) = some (.bool (!(xs == []))) := hNe_ints xs []
theorem hNe_nil2 : hNe (.list []) (.list []) = some (.bool false) := hNe_ints [] []
theorem atI_get0 {α : Type} (d : α) (xs : List α) (i : Nat) (h : i < xs.length) : atI xs (i : Int) = some (xs.getD i d) := by
  rw [atI_nat _ _ h, List.getD_eq_getElem?_getD, List.getElem?_eq_getElem h]
  rfl
theorem range_getD {α β : Type} (f : α → β) (d : α) (xs : List α) : ((List.range xs.length).map fun i => f (xs.getD i d)) = xs.map f := by
  refine List.ext_getElem (by simp) fun i h1 h2 => ?_
  have hi : i < xs.length := by simpa using h2
  rw [List.getElem_map, List.getElem_map, List.getElem_range, List.getD_eq_getElem?_getD, List.getElem?_eq_getElem hi]
  rfl
theorem forL_rt {set : D → SE → Option SE} {g : SE → Option Rs} {kl : List Nat} {e : SE} {x : D} {xs : List D} {d : D} (h : (set x e).bind g = some (.rt d)) : forL set g kl (x :: xs) e = some (.rt d) := by
  rw [forL]
  cases q1 : set x e with
  | none => rw [q1] at h; cases h
  | some e1 =>
    rw [q1, Option.bind_some] at h
    rw [Option.bind_some, h]
    rfl
theorem b_mapI {α β : Type} {set : D → SE → Option SE} {c : SE → Option Bool} {h : SE → Option D} {kk : List D → Option β} {r : Option β} {cv : α → D} {e : SE} (f : α → Int) (xs : List α) (hl : xs.length ≤ 1000000) (hh : ∀ x, x ∈ xs → ∃ e1, set (cv x) e = some e1 ∧ c e1 = some true ∧ h e1 = some (.int (f x))) (hk : kk ((xs.map f).map PyData.int) = r) : (dCompG set c h e (xs.map cv)).bind kk = r :=
  b_map (fun x => .int (f x)) xs hl hh (by rw [List.map_map] at hk; exact hk)
theorem zipD_map {α : Type} (f g : α → D) : ∀ xs : List α, zipD (xs.map f) (xs.map g) = xs.map fun x => PyData.tuple [f x, g x]
  | [] => rfl
  | x :: xs => by
    have ih := zipD_map f g xs
    unfold zipD at ih ⊢
    rw [List.map_cons, List.map_cons, List.zipWith_cons_cons, ih, List.map_cons]
theorem b_wordE {α σ : Type} {set : D → SE → Option SE} {g : SE → Option Rs} {kl : List Nat} {k : Rs → Option D} {P : D → Prop} {enc : σ → SE} {cv : α → D} (W : List α → σ → Prop) (xs : List α) (s : σ) (h0 : W [] s) (h : ∀ p x q s, p ++ x :: q = xs → W p s → ∃ s', turn set g kl (cv x) (enc s) (enc s') ∧ W (p ++ [x]) s')
    (hk : ∀ s, W xs s → ∃ r, k (.nx (enc s)) = some r ∧ P r) : ∃ r, (forL set g kl (xs.map cv) (enc s)).bind k = some r ∧ P r := by
  obtain ⟨s', h1, h2⟩ := forL_word W xs s h0 h
  rw [h1]
  exact hk s' h2
theorem zipD_range {α β : Type} (f : α → D) (g : β → D) (a : α) (b : β) : ∀ (xs : List α) (ys : List β), xs.length = ys.length → zipD (xs.map f) (ys.map g) = (List.range ys.length).map fun i => PyData.tuple [f (xs.getD i a), g (ys.getD i b)] := fun xs ys h => by
  unfold zipD
  refine List.ext_getElem (by simp [h]) fun i h1 h2 => ?_
  have hy : i < ys.length := by simpa using h2
  have hx : i < xs.length := by omega
  rw [List.getElem_zipWith, List.getElem_map, List.getElem_map, List.getElem_map, List.getElem_range, List.getD_eq_getElem?_getD, List.getD_eq_getElem?_getD, List.getElem?_eq_getElem hx, List.getElem?_eq_getElem hy]
  rfl
theorem b_filterI {α β : Type} {set : D → SE → Option SE} {c : SE → Option Bool} {h : SE → Option D} {kk : List D → Option β} {r : Option β} {cv : α → D} {e : SE} (f : α → Int) (p : α → Bool) (xs : List α) (hl : xs.length ≤ 1000000) (hh : ∀ x, x ∈ xs → ∃ e1, set (cv x) e = some e1 ∧ c e1 = some (p x) ∧ (p x = true → h e1 = some (.int (f x)))) (hk : kk (((xs.filter p).map f).map PyData.int) = r) : (dCompG set c h e (xs.map cv)).bind kk = r :=
  b_filter (fun x => .int (f x)) p xs hl hh (by rw [List.map_map] at hk; exact hk)
theorem b_whileE {σ : Type} {c : SE → Option Bool} {g : SE → Option Rs} {kl : List Nat} {k : Rs → Option D} {P : D → Prop} {enc : σ → SE} {cond : σ → Bool} (I : σ → Prop) (μ : σ → Nat) (s : σ) (hk : kil kl (enc s) = enc s) (hi : I s) (hc : ∀ s, I s → c (enc s) = some (cond s))
    (hs : ∀ s, I s → cond s = true → ∃ s', turnW g kl (enc s) = some (enc s') ∧ I s' ∧ μ s' < μ s) (hk2 : ∀ s', I s' → cond s' = false → ∃ r, k (.nx (enc s')) = some r ∧ P r) : ∃ r, (sWhile c g kl (enc s)).bind k = some r ∧ P r := by
  obtain ⟨s', h1, h2, h3⟩ := sWhile_word I μ s hk hi hc hs
  rw [h1]
  exact hk2 s' h2 h3
theorem hEq_cons_nil {n : Nat} {d : D} {ds : List D} (h : okD n (.list (d :: ds))) (hn : n ≤ 64) : hEq (.list (d :: ds)) (.list []) = some (.bool false) := by
  unfold hEq
  rw [if_pos ⟨h.shaped hn, (okD_list (n := 0) (ds := []) fun d hd => by cases hd).shaped (by decide)⟩]
  simp [PyData.eqv, PyData.eqvAll]
theorem hNe_cons_nil {n : Nat} {d : D} {ds : List D} (h : okD n (.list (d :: ds))) (hn : n ≤ 64) : hNe (.list (d :: ds)) (.list []) = some (.bool true) := by
  unfold hNe
  rw [if_pos ⟨h.shaped hn, (okD_list (n := 0) (ds := []) fun d hd => by cases hd).shaped (by decide)⟩]
  simp [PyData.eqv, PyData.eqvAll]
theorem at1_0 (a : D) : atI [a] 0 = some a := rfl

def wD (l : List Nat) : D := .list (l.map ni)
theorem ok_wD (l : List Nat) : okD 1 (wD l) := ok_map ni _ fun _ => okD_sc rfl

theorem srt_perm (ps : List Int) : (sortI ps).Perm ps := List.mergeSort_perm _ _
theorem srt_sorted (ps : List Int) : (sortI ps).Pairwise (· ≤ ·) := by
  have := List.pairwise_mergeSort (le := fun a b : Int => decide (a ≤ b)) (fun a b c h1 h2 => by
    have := of_decide_eq_true h1
    have := of_decide_eq_true h2
    exact decide_eq_true (by omega)) (fun a b => by
    rw [Bool.or_eq_true, decide_eq_true_iff, decide_eq_true_iff]
    omega) ps
  exact this.imp fun h => of_decide_eq_true h
/-- sorted, of numbers that are none below 0 -/
theorem srt_ni (is : List Nat) : ∃ l : List Nat, (sortI (is.map fun i : Nat => (i : Int))).map PyData.int = l.map ni ∧ l.Perm is := by
  have hp := srt_perm (is.map fun i : Nat => (i : Int))
  refine ⟨(sortI (is.map fun i : Nat => (i : Int))).map Int.toNat, ?_, ?_⟩
  · rw [List.map_map]
    refine List.map_congr_left fun z hz => ?_
    obtain ⟨i, _, hi⟩ := List.mem_map.mp (hp.mem_iff.mp hz)
    show PyData.int z = PyData.int ((z.toNat : Nat) : Int)
    rw [← hi, Int.toNat_natCast]
  · have := hp.map Int.toNat
    rw [List.map_map] at this
    have e : is.map (Int.toNat ∘ fun i : Nat => (i : Int)) = is := by
      conv => rhs; rw [← List.map_id is]
      exact List.map_congr_left fun i _ => Int.toNat_natCast i
    rw [e] at this
    exact this
theorem srt_of (is l : List Nat) (hp : l.Perm is) (hs : l.Pairwise (· ≤ ·)) : (sortI (is.map fun i : Nat => (i : Int))).map PyData.int = l.map ni := by
  have : l.map (fun i : Nat => (i : Int)) = sortI (is.map fun i : Nat => (i : Int)) := sortI_unique (hp.map _) (List.pairwise_map.mpr (hs.imp fun h => Int.ofNat_le.mpr h))
  rw [← this, List.map_map]
  rfl
theorem ev_srt (is : List Nat) : srtK (is.map ni) = some ((sortI (is.map fun i : Nat => (i : Int))).map PyData.int) := by
  rw [ni_map, k_srt]
/-- lists of nats without a twin -/
theorem nodup_len : ∀ (l m : List Nat), l.Nodup → (∀ x ∈ l, x ∈ m) → l.length ≤ m.length
  | [], _, _, _ => Nat.zero_le _
  | x :: l, m, h, hs => by
    obtain ⟨h1, h2⟩ := List.nodup_cons.mp h
    have hx := hs x List.mem_cons_self
    have := nodup_len l (m.erase x) h2 fun y hy => by
      have : y ≠ x := fun z => h1 (z ▸ hy)
      exact (List.mem_erase_of_ne this).mpr (hs y (List.mem_cons_of_mem _ hy))
    rw [List.length_erase_of_mem hx] at this
    have : 0 < m.length := List.length_pos_of_mem hx
    rw [List.length_cons]
    omega
theorem filter_sub (q q' : Nat → Bool) : ∀ xs : List Nat, (∀ x ∈ xs, q x = true → q' x = true) → (xs.filter q).Sublist (xs.filter q')
  | [], _ => .slnil
  | x :: xs, h => by
    have ih := filter_sub q q' xs fun y hy => h y (List.mem_cons_of_mem _ hy)
    cases e : q x
    · rw [List.filter_cons_of_neg (by rw [e]; decide)]
      cases e' : q' x
      · rw [List.filter_cons_of_neg (by rw [e']; decide)]; exact ih
      · rw [List.filter_cons_of_pos e']; exact ih.cons _
    · rw [List.filter_cons_of_pos e, List.filter_cons_of_pos (h x List.mem_cons_self e)]
      exact ih.cons₂ _
theorem range_lt (n : Nat) : (List.range n).Pairwise (· < ·) := List.pairwise_lt_range
theorem single_filter (v : Nat) : ∀ V, v < V → (List.range V).filter (fun i => [v].contains i) = [v]
  | 0, h => by omega
  | V + 1, h => by
    rw [List.range_succ, List.filter_append]
    by_cases e : v = V
    · have h1 : (List.range V).filter (fun i => [v].contains i) = [] := by
        rw [List.filter_eq_nil_iff]
        intro i hi z
        have := List.mem_range.mp hi
        have := List.mem_singleton.mp (List.contains_iff_mem.mp z)
        omega
      rw [h1, e]
      simp
    · rw [single_filter v V (by omega)]
      have h1 : ([V] : List Nat).filter (fun i => [v].contains i) = [] := by
        rw [List.filter_eq_nil_iff]
        intro i hi z
        have := List.mem_singleton.mp hi
        have := List.mem_singleton.mp (List.contains_iff_mem.mp z)
        omega
      rw [h1]
      rfl
theorem hNotIn_ns (w : Nat) (is : List Nat) : hNotIn (.int (w : Int)) (.list (is.map ni)) = some (.bool (!is.contains w)) := by
  unfold hNotIn
  rw [items?_list, Option.bind_some, if_pos ⟨rfl, all_ni is⟩, inD_ni]
theorem perm_same : ∀ (l m : List Nat), l.Nodup → m.Nodup → (∀ x, x ∈ l ↔ x ∈ m) → l.Perm m
  | [], m, _, _, h => by
    cases m with
    | nil => exact .nil
    | cons x m => exact absurd ((h x).mpr List.mem_cons_self) (by simp)
  | x :: l, m, h1, h2, h => by
    obtain ⟨a1, a2⟩ := List.nodup_cons.mp h1
    have hx : x ∈ m := (h x).mp List.mem_cons_self
    refine (List.Perm.cons x (perm_same l (m.erase x) a2 (h2.erase x) fun y => ?_)).trans (List.perm_cons_erase hx).symm
    constructor
    · intro hy
      have : y ≠ x := fun z => a1 (z ▸ hy)
      exact (List.mem_erase_of_ne this).mpr ((h y).mp (List.mem_cons_of_mem _ hy))
    · intro hy
      have hne : y ≠ x := fun z => by
        rw [z] at hy
        exact (List.Nodup.not_mem_erase h2) hy
      rcases List.mem_cons.mp ((h y).mpr ((List.mem_erase_of_ne hne).mp hy)) with e | e
      · exact absurd e hne
      · exact e
theorem filter_any (q : Nat → Bool) : ∀ a : List Nat, (!(a.filter q == [])) = a.any q
  | [] => rfl
  | w :: a => by
    rw [List.any_cons]
    cases e : q w
    · rw [List.filter_cons_of_neg (by rw [e]; decide), Bool.false_or]
      exact filter_any q a
    · rw [List.filter_cons_of_pos e]
      rfl

def spot (c p : Int) : Int := c % 999983 + 400009 + 7001 * p
def drawf (c p : Int) : Int := spot c p * spot c p * spot c p * (2 * p + 3) % 1000000007
theorem drawf_nn (c p : Int) : 0 ≤ drawf c p ∧ drawf c p < 1000000007 := ⟨Int.emod_nonneg _ (by decide), Int.emod_lt_of_pos _ (by decide)⟩
theorem draw_ev (c p : Int) (p0 : 0 ≤ p) (p1 : p ≤ 1000) : sem_law_draw [.int c, .int p] = some (.int (drawf c p)) := by
  have a0 : 0 ≤ c % 999983 := Int.emod_nonneg _ (by decide)
  have a1 : c % 999983 < 999983 := Int.emod_lt_of_pos _ (by decide)
  have s0 : 0 ≤ spot c p := by unfold spot; omega
  have s1 : spot c p ≤ 10000000 := by unfold spot; omega
  have hs : c % 999983 + 400009 + 7001 * p = spot c p := rfl
  simp -implicitDefEqProofs (disch := first | omega | (simp only [List.length_map, List.length_append, List.length_cons, List.length_nil, List.length_range, List.length_take, List.length_drop, List.length_replicate, List.length_set, List.length_reverse] <;> omega) | (refine mulC_small ?_; omega) | (refine mulC_smallR ?_; omega) | (refine divC_small ?_ ?_ <;> omega) | (refine powC_small ?_ ?_ ?_ <;> omega)) only [v_run, v_iTp, tup?_tuple, v_sIfM2, k_ifM2_0, k_ifM2_1, v_srtSet, k_srtSet, v_sZ, k_sZ, v_sReb, v_sClr, k_sClr, v_pinF, k_pin, v_iZp3, k_zp3, v_setP, setPK_of, v_appP, k_appP, k_appP1, k_appP2, k_appP3, k_appP4, List.getElem?_cons_zero, List.getElem?_cons_succ, v_lSortP, k_srtP0, v_lRng, k_rng, hRg1_of, v_seq, v_set', v_setL', v_ret', v_retL', v_if', v_for', v_par', v_aug', v_augK, v_tgt', v_sub', v_mut', v_d1, v_d2, v_d3, v_dB, v_dSc, v_dScs, v_cons, v_tup', v_lst', v_dA, v_dAL, v_and', v_or', v_not', v_dT, v_iL, v_iR1, v_iR2, v_iR3, v_iEn, v_iZp, v_lCut, v_lOf, v_lCat, v_lRep, v_lRepE, k_rep0, v_rt', k_rt, v_idx, k_idx, v_lRev, k_rev, v_lSortI, v_lComp, v_oS, b_assoc, k_cmp, k_seq1, k_seq2, k_seq3, k_seq4, k_set, k_setL, k_ret, k_retL, k_if1, k_if2, k_for, k_par, k_aug2, k_tgt, k_tgt2, k_sub, k_sub1, k_sub2, k_sub3, k_mut, k_mut1, k_mut2, k_d2, k_d3, k_d31, k_d321, k_d322, k_bool, k_cons, k_cons2, k_tup, k_lst, k_al, k_and1, k_and2, k_or1, k_or2, k_not, k_dt, k_en, k_zp, k_cut, k_cut1, k_cut2, k_os, k_cat, k_rep, k_srt0, k_srt, k_comp, k_run1, k_run2, k_go1, k_go2, w_turn, w_turnR, w_turnW, w_nx, w_bk, w_ct, w_rN, w_V, w_C, w_nil, w_oN, w_yes, w_gSet, w_gTup, w_gsCons, w_gsNil, w_add, w_subI, w_lt, w_le, w_gt, w_ge, w_neg, w_isN, w_notN, w_n0, w_n1, w_n2, w_n3, w_n4, w_len1, w_len2, w_min2, w_max2, w_int1, w_int2, w_clr, w_ixL, w_ixT, w_sum, w_any, w_kil0, w_kil1, k_sc_int, k_sc_bool, k_sc_none, k_sc_str, k_scs_of, items?_list, items?_tuple, list?_list, cutD_map, all_int, all_int', List.length_map, hApp_of, hExt_of, hIns_of, hCat_of, hRep_of, hR1_of, hR2_of, hR3_of, hMul_of, hDiv_of, hMod_of, p10_3, p10_4, p10_5, p10_6, p10_7, p10_8, p10_9, p10_12, p10_50, p50_3, p50_4, atI_map, k_scs_int, List.getD_cons_zero, List.getD_cons_succ, List.set_cons_zero, List.set_cons_succ, List.map_cons, List.map_nil, List.cons_append, List.nil_append, List.append_nil, List.length_cons, List.length_nil, Option.bind_some, Option.bind_none, Option.map_some, Option.map_none, ↓reduceIte, Nat.reduceAdd, Nat.reduceSub, Int.reduceAdd, Int.reduceSub, Int.reduceMul, Int.reduceNeg, Nat.reduceLeDiff, Nat.reduceLT, Nat.reduceEqDiff, Nat.zero_add, List.reduceReplicate, List.replicate_zero, List.replicate_one, List.replicate_succ, Bool.and_true, Bool.true_and, Bool.not_true, Bool.not_false, decide_true, decide_false, Bool.false_eq_true, reduceCtorEq, and_self, if_false, if_true, hIsi_int_int, hIsi_int_bool, hIsi_int_list, hIsi_int_tuple, hIsi_int_str, hIsi_bool_int, hIsi_bool_bool, hIsi_bool_list, hIsi_bool_tuple, hIsi_bool_str, hIsi_none_int, hIsi_none_bool, hIsi_none_list, hIsi_none_tuple, hIsi_none_str, hIsi_list_int, hIsi_list_bool, hIsi_list_list, hIsi_list_tuple, hIsi_list_str, hIsi_tuple_int, hIsi_tuple_bool, hIsi_tuple_list, hIsi_tuple_tuple, hIsi_tuple_str, hIsi_str_int, hIsi_str_bool, hIsi_str_list, hIsi_str_tuple, hIsi_str_str, sem_law_draw, hs]
  rfl
def draws (c : Int) (m : Nat) : List Int := (List.range m).map fun k : Nat => drawf c (k : Int)
theorem draws_ev (c : Int) (m : Nat) (hm : m ≤ 1000) : sem_law_draws [.int c, .int m] = some (.list ((draws c m).map PyData.int)) := by
  simp -implicitDefEqProofs (disch := first | omega | (simp only [List.length_map, List.length_append, List.length_cons, List.length_nil, List.length_range, List.length_take, List.length_drop, List.length_replicate, List.length_set, List.length_reverse] <;> omega) | (refine mulC_small ?_; omega) | (refine mulC_smallR ?_; omega) | (refine divC_small ?_ ?_ <;> omega) | (refine powC_small ?_ ?_ ?_ <;> omega)) only [v_run, v_iTp, tup?_tuple, v_sIfM2, k_ifM2_0, k_ifM2_1, v_srtSet, k_srtSet, v_sZ, k_sZ, v_sReb, v_sClr, k_sClr, v_pinF, k_pin, v_iZp3, k_zp3, v_setP, setPK_of, v_appP, k_appP, k_appP1, k_appP2, k_appP3, k_appP4, List.getElem?_cons_zero, List.getElem?_cons_succ, v_lSortP, k_srtP0, v_lRng, k_rng, hRg1_of, v_seq, v_set', v_setL', v_ret', v_retL', v_if', v_for', v_par', v_aug', v_augK, v_tgt', v_sub', v_mut', v_d1, v_d2, v_d3, v_dB, v_dSc, v_dScs, v_cons, v_tup', v_lst', v_dA, v_dAL, v_and', v_or', v_not', v_dT, v_iL, v_iR1, v_iR2, v_iR3, v_iEn, v_iZp, v_lCut, v_lOf, v_lCat, v_lRep, v_lRepE, k_rep0, v_rt', k_rt, v_idx, k_idx, v_lRev, k_rev, v_lSortI, v_lComp, v_oS, b_assoc, k_cmp, k_seq1, k_seq2, k_seq3, k_seq4, k_set, k_setL, k_ret, k_retL, k_if1, k_if2, k_for, k_par, k_aug2, k_tgt, k_tgt2, k_sub, k_sub1, k_sub2, k_sub3, k_mut, k_mut1, k_mut2, k_d2, k_d3, k_d31, k_d321, k_d322, k_bool, k_cons, k_cons2, k_tup, k_lst, k_al, k_and1, k_and2, k_or1, k_or2, k_not, k_dt, k_en, k_zp, k_cut, k_cut1, k_cut2, k_os, k_cat, k_rep, k_srt0, k_srt, k_comp, k_run1, k_run2, k_go1, k_go2, w_turn, w_turnR, w_turnW, w_nx, w_bk, w_ct, w_rN, w_V, w_C, w_nil, w_oN, w_yes, w_gSet, w_gTup, w_gsCons, w_gsNil, w_add, w_subI, w_lt, w_le, w_gt, w_ge, w_neg, w_isN, w_notN, w_n0, w_n1, w_n2, w_n3, w_n4, w_len1, w_len2, w_min2, w_max2, w_int1, w_int2, w_clr, w_ixL, w_ixT, w_sum, w_any, w_kil0, w_kil1, k_sc_int, k_sc_bool, k_sc_none, k_sc_str, k_scs_of, items?_list, items?_tuple, list?_list, cutD_map, all_int, all_int', List.length_map, hApp_of, hExt_of, hIns_of, hCat_of, hRep_of, hR1_of, hR2_of, hR3_of, hMul_of, hDiv_of, hMod_of, p10_3, p10_4, p10_5, p10_6, p10_7, p10_8, p10_9, p10_12, p10_50, p50_3, p50_4, atI_map, k_scs_int, List.getD_cons_zero, List.getD_cons_succ, List.set_cons_zero, List.set_cons_succ, List.map_cons, List.map_nil, List.cons_append, List.nil_append, List.append_nil, List.length_cons, List.length_nil, Option.bind_some, Option.bind_none, Option.map_some, Option.map_none, ↓reduceIte, Nat.reduceAdd, Nat.reduceSub, Int.reduceAdd, Int.reduceSub, Int.reduceMul, Int.reduceNeg, Nat.reduceLeDiff, Nat.reduceLT, Nat.reduceEqDiff, Nat.zero_add, List.reduceReplicate, List.replicate_zero, List.replicate_one, List.replicate_succ, Bool.and_true, Bool.true_and, Bool.not_true, Bool.not_false, decide_true, decide_false, Bool.false_eq_true, reduceCtorEq, and_self, if_false, if_true, hIsi_int_int, hIsi_int_bool, hIsi_int_list, hIsi_int_tuple, hIsi_int_str, hIsi_bool_int, hIsi_bool_bool, hIsi_bool_list, hIsi_bool_tuple, hIsi_bool_str, hIsi_none_int, hIsi_none_bool, hIsi_none_list, hIsi_none_tuple, hIsi_none_str, hIsi_list_int, hIsi_list_bool, hIsi_list_list, hIsi_list_tuple, hIsi_list_str, hIsi_tuple_int, hIsi_tuple_bool, hIsi_tuple_list, hIsi_tuple_tuple, hIsi_tuple_str, hIsi_str_int, hIsi_str_bool, hIsi_str_list, hIsi_str_tuple, hIsi_str_str, sem_law_draws, range_ni]
  rw [Int.toNat_natCast]
  refine b_mapI (cv := ni) (fun k : Nat => drawf c (k : Int)) (List.range m) (by rw [List.length_range]; omega) (fun k hk => ⟨_, rfl, rfl, ?_⟩) ?_
  · have := List.mem_range.mp hk
    simp -implicitDefEqProofs (disch := first | omega | (simp only [List.length_map, List.length_append, List.length_cons, List.length_nil, List.length_range, List.length_take, List.length_drop, List.length_replicate, List.length_set, List.length_reverse] <;> omega) | (refine mulC_small ?_; omega) | (refine mulC_smallR ?_; omega) | (refine divC_small ?_ ?_ <;> omega) | (refine powC_small ?_ ?_ ?_ <;> omega)) only [v_run, v_iTp, tup?_tuple, v_sIfM2, k_ifM2_0, k_ifM2_1, v_srtSet, k_srtSet, v_sZ, k_sZ, v_sReb, v_sClr, k_sClr, v_pinF, k_pin, v_iZp3, k_zp3, v_setP, setPK_of, v_appP, k_appP, k_appP1, k_appP2, k_appP3, k_appP4, List.getElem?_cons_zero, List.getElem?_cons_succ, v_lSortP, k_srtP0, v_lRng, k_rng, hRg1_of, v_seq, v_set', v_setL', v_ret', v_retL', v_if', v_for', v_par', v_aug', v_augK, v_tgt', v_sub', v_mut', v_d1, v_d2, v_d3, v_dB, v_dSc, v_dScs, v_cons, v_tup', v_lst', v_dA, v_dAL, v_and', v_or', v_not', v_dT, v_iL, v_iR1, v_iR2, v_iR3, v_iEn, v_iZp, v_lCut, v_lOf, v_lCat, v_lRep, v_lRepE, k_rep0, v_rt', k_rt, v_idx, k_idx, v_lRev, k_rev, v_lSortI, v_lComp, v_oS, b_assoc, k_cmp, k_seq1, k_seq2, k_seq3, k_seq4, k_set, k_setL, k_ret, k_retL, k_if1, k_if2, k_for, k_par, k_aug2, k_tgt, k_tgt2, k_sub, k_sub1, k_sub2, k_sub3, k_mut, k_mut1, k_mut2, k_d2, k_d3, k_d31, k_d321, k_d322, k_bool, k_cons, k_cons2, k_tup, k_lst, k_al, k_and1, k_and2, k_or1, k_or2, k_not, k_dt, k_en, k_zp, k_cut, k_cut1, k_cut2, k_os, k_cat, k_rep, k_srt0, k_srt, k_comp, k_run1, k_run2, k_go1, k_go2, w_turn, w_turnR, w_turnW, w_nx, w_bk, w_ct, w_rN, w_V, w_C, w_nil, w_oN, w_yes, w_gSet, w_gTup, w_gsCons, w_gsNil, w_add, w_subI, w_lt, w_le, w_gt, w_ge, w_neg, w_isN, w_notN, w_n0, w_n1, w_n2, w_n3, w_n4, w_len1, w_len2, w_min2, w_max2, w_int1, w_int2, w_clr, w_ixL, w_ixT, w_sum, w_any, w_kil0, w_kil1, k_sc_int, k_sc_bool, k_sc_none, k_sc_str, k_scs_of, items?_list, items?_tuple, list?_list, cutD_map, all_int, all_int', List.length_map, hApp_of, hExt_of, hIns_of, hCat_of, hRep_of, hR1_of, hR2_of, hR3_of, hMul_of, hDiv_of, hMod_of, p10_3, p10_4, p10_5, p10_6, p10_7, p10_8, p10_9, p10_12, p10_50, p50_3, p50_4, atI_map, k_scs_int, List.getD_cons_zero, List.getD_cons_succ, List.set_cons_zero, List.set_cons_succ, List.map_cons, List.map_nil, List.cons_append, List.nil_append, List.append_nil, List.length_cons, List.length_nil, Option.bind_some, Option.bind_none, Option.map_some, Option.map_none, ↓reduceIte, Nat.reduceAdd, Nat.reduceSub, Int.reduceAdd, Int.reduceSub, Int.reduceMul, Int.reduceNeg, Nat.reduceLeDiff, Nat.reduceLT, Nat.reduceEqDiff, Nat.zero_add, List.reduceReplicate, List.replicate_zero, List.replicate_one, List.replicate_succ, Bool.and_true, Bool.true_and, Bool.not_true, Bool.not_false, decide_true, decide_false, Bool.false_eq_true, reduceCtorEq, and_self, if_false, if_true, hIsi_int_int, hIsi_int_bool, hIsi_int_list, hIsi_int_tuple, hIsi_int_str, hIsi_bool_int, hIsi_bool_bool, hIsi_bool_list, hIsi_bool_tuple, hIsi_bool_str, hIsi_none_int, hIsi_none_bool, hIsi_none_list, hIsi_none_tuple, hIsi_none_str, hIsi_list_int, hIsi_list_bool, hIsi_list_list, hIsi_list_tuple, hIsi_list_str, hIsi_tuple_int, hIsi_tuple_bool, hIsi_tuple_list, hIsi_tuple_tuple, hIsi_tuple_str, hIsi_str_int, hIsi_str_bool, hIsi_str_list, hIsi_str_tuple, hIsi_str_str, ni, draw_ev c k (by omega) (by omega)]
  · simp -implicitDefEqProofs (disch := first | omega | (simp only [List.length_map, List.length_append, List.length_cons, List.length_nil, List.length_range, List.length_take, List.length_drop, List.length_replicate, List.length_set, List.length_reverse] <;> omega) | (refine mulC_small ?_; omega) | (refine mulC_smallR ?_; omega) | (refine divC_small ?_ ?_ <;> omega) | (refine powC_small ?_ ?_ ?_ <;> omega)) only [v_run, v_iTp, tup?_tuple, v_sIfM2, k_ifM2_0, k_ifM2_1, v_srtSet, k_srtSet, v_sZ, k_sZ, v_sReb, v_sClr, k_sClr, v_pinF, k_pin, v_iZp3, k_zp3, v_setP, setPK_of, v_appP, k_appP, k_appP1, k_appP2, k_appP3, k_appP4, List.getElem?_cons_zero, List.getElem?_cons_succ, v_lSortP, k_srtP0, v_lRng, k_rng, hRg1_of, v_seq, v_set', v_setL', v_ret', v_retL', v_if', v_for', v_par', v_aug', v_augK, v_tgt', v_sub', v_mut', v_d1, v_d2, v_d3, v_dB, v_dSc, v_dScs, v_cons, v_tup', v_lst', v_dA, v_dAL, v_and', v_or', v_not', v_dT, v_iL, v_iR1, v_iR2, v_iR3, v_iEn, v_iZp, v_lCut, v_lOf, v_lCat, v_lRep, v_lRepE, k_rep0, v_rt', k_rt, v_idx, k_idx, v_lRev, k_rev, v_lSortI, v_lComp, v_oS, b_assoc, k_cmp, k_seq1, k_seq2, k_seq3, k_seq4, k_set, k_setL, k_ret, k_retL, k_if1, k_if2, k_for, k_par, k_aug2, k_tgt, k_tgt2, k_sub, k_sub1, k_sub2, k_sub3, k_mut, k_mut1, k_mut2, k_d2, k_d3, k_d31, k_d321, k_d322, k_bool, k_cons, k_cons2, k_tup, k_lst, k_al, k_and1, k_and2, k_or1, k_or2, k_not, k_dt, k_en, k_zp, k_cut, k_cut1, k_cut2, k_os, k_cat, k_rep, k_srt0, k_srt, k_comp, k_run1, k_run2, k_go1, k_go2, w_turn, w_turnR, w_turnW, w_nx, w_bk, w_ct, w_rN, w_V, w_C, w_nil, w_oN, w_yes, w_gSet, w_gTup, w_gsCons, w_gsNil, w_add, w_subI, w_lt, w_le, w_gt, w_ge, w_neg, w_isN, w_notN, w_n0, w_n1, w_n2, w_n3, w_n4, w_len1, w_len2, w_min2, w_max2, w_int1, w_int2, w_clr, w_ixL, w_ixT, w_sum, w_any, w_kil0, w_kil1, k_sc_int, k_sc_bool, k_sc_none, k_sc_str, k_scs_of, items?_list, items?_tuple, list?_list, cutD_map, all_int, all_int', List.length_map, hApp_of, hExt_of, hIns_of, hCat_of, hRep_of, hR1_of, hR2_of, hR3_of, hMul_of, hDiv_of, hMod_of, p10_3, p10_4, p10_5, p10_6, p10_7, p10_8, p10_9, p10_12, p10_50, p50_3, p50_4, atI_map, k_scs_int, List.getD_cons_zero, List.getD_cons_succ, List.set_cons_zero, List.set_cons_succ, List.map_cons, List.map_nil, List.cons_append, List.nil_append, List.append_nil, List.length_cons, List.length_nil, Option.bind_some, Option.bind_none, Option.map_some, Option.map_none, ↓reduceIte, Nat.reduceAdd, Nat.reduceSub, Int.reduceAdd, Int.reduceSub, Int.reduceMul, Int.reduceNeg, Nat.reduceLeDiff, Nat.reduceLT, Nat.reduceEqDiff, Nat.zero_add, List.reduceReplicate, List.replicate_zero, List.replicate_one, List.replicate_succ, Bool.and_true, Bool.true_and, Bool.not_true, Bool.not_false, decide_true, decide_false, Bool.false_eq_true, reduceCtorEq, and_self, if_false, if_true, hIsi_int_int, hIsi_int_bool, hIsi_int_list, hIsi_int_tuple, hIsi_int_str, hIsi_bool_int, hIsi_bool_bool, hIsi_bool_list, hIsi_bool_tuple, hIsi_bool_str, hIsi_none_int, hIsi_none_bool, hIsi_none_list, hIsi_none_tuple, hIsi_none_str, hIsi_list_int, hIsi_list_bool, hIsi_list_list, hIsi_list_tuple, hIsi_list_str, hIsi_tuple_int, hIsi_tuple_bool, hIsi_tuple_list, hIsi_tuple_tuple, hIsi_tuple_str, hIsi_str_int, hIsi_str_bool, hIsi_str_list, hIsi_str_tuple, hIsi_str_str]
    rfl
theorem draws_at (c : Int) (m : Nat) (k : Int) (h0 : 0 ≤ k) (h1 : k < m) : atI (draws c m) k = some (drawf c k) := by
  have e : k = ((k.toNat : Nat) : Int) := by omega
  have h2 : k.toNat < m := by omega
  rw [e, atI_nat _ _ (by unfold draws; rw [List.length_map, List.length_range]; exact h2)]
  unfold draws
  rw [List.getElem?_map, List.getElem?_range h2]
  rfl

theorem whole_ev (n : Int) : sem_law_whole [.int n] = some (.bool true) := by
  simp -implicitDefEqProofs (disch := first | omega | (simp only [List.length_map, List.length_append, List.length_cons, List.length_nil, List.length_range, List.length_take, List.length_drop, List.length_replicate, List.length_set, List.length_reverse] <;> omega) | (refine mulC_small ?_; omega) | (refine mulC_smallR ?_; omega) | (refine divC_small ?_ ?_ <;> omega) | (refine powC_small ?_ ?_ ?_ <;> omega)) only [v_run, v_iTp, tup?_tuple, v_sIfM2, k_ifM2_0, k_ifM2_1, v_srtSet, k_srtSet, v_sZ, k_sZ, v_sReb, v_sClr, k_sClr, v_pinF, k_pin, v_iZp3, k_zp3, v_setP, setPK_of, v_appP, k_appP, k_appP1, k_appP2, k_appP3, k_appP4, List.getElem?_cons_zero, List.getElem?_cons_succ, v_lSortP, k_srtP0, v_lRng, k_rng, hRg1_of, v_seq, v_set', v_setL', v_ret', v_retL', v_if', v_for', v_par', v_aug', v_augK, v_tgt', v_sub', v_mut', v_d1, v_d2, v_d3, v_dB, v_dSc, v_dScs, v_cons, v_tup', v_lst', v_dA, v_dAL, v_and', v_or', v_not', v_dT, v_iL, v_iR1, v_iR2, v_iR3, v_iEn, v_iZp, v_lCut, v_lOf, v_lCat, v_lRep, v_lRepE, k_rep0, v_rt', k_rt, v_idx, k_idx, v_lRev, k_rev, v_lSortI, v_lComp, v_oS, b_assoc, k_cmp, k_seq1, k_seq2, k_seq3, k_seq4, k_set, k_setL, k_ret, k_retL, k_if1, k_if2, k_for, k_par, k_aug2, k_tgt, k_tgt2, k_sub, k_sub1, k_sub2, k_sub3, k_mut, k_mut1, k_mut2, k_d2, k_d3, k_d31, k_d321, k_d322, k_bool, k_cons, k_cons2, k_tup, k_lst, k_al, k_and1, k_and2, k_or1, k_or2, k_not, k_dt, k_en, k_zp, k_cut, k_cut1, k_cut2, k_os, k_cat, k_rep, k_srt0, k_srt, k_comp, k_run1, k_run2, k_go1, k_go2, w_turn, w_turnR, w_turnW, w_nx, w_bk, w_ct, w_rN, w_V, w_C, w_nil, w_oN, w_yes, w_gSet, w_gTup, w_gsCons, w_gsNil, w_add, w_subI, w_lt, w_le, w_gt, w_ge, w_neg, w_isN, w_notN, w_n0, w_n1, w_n2, w_n3, w_n4, w_len1, w_len2, w_min2, w_max2, w_int1, w_int2, w_clr, w_ixL, w_ixT, w_sum, w_any, w_kil0, w_kil1, k_sc_int, k_sc_bool, k_sc_none, k_sc_str, k_scs_of, items?_list, items?_tuple, list?_list, cutD_map, all_int, all_int', List.length_map, hApp_of, hExt_of, hIns_of, hCat_of, hRep_of, hR1_of, hR2_of, hR3_of, hMul_of, hDiv_of, hMod_of, p10_3, p10_4, p10_5, p10_6, p10_7, p10_8, p10_9, p10_12, p10_50, p50_3, p50_4, atI_map, k_scs_int, List.getD_cons_zero, List.getD_cons_succ, List.set_cons_zero, List.set_cons_succ, List.map_cons, List.map_nil, List.cons_append, List.nil_append, List.append_nil, List.length_cons, List.length_nil, Option.bind_some, Option.bind_none, Option.map_some, Option.map_none, ↓reduceIte, Nat.reduceAdd, Nat.reduceSub, Int.reduceAdd, Int.reduceSub, Int.reduceMul, Int.reduceNeg, Nat.reduceLeDiff, Nat.reduceLT, Nat.reduceEqDiff, Nat.zero_add, List.reduceReplicate, List.replicate_zero, List.replicate_one, List.replicate_succ, Bool.and_true, Bool.true_and, Bool.not_true, Bool.not_false, decide_true, decide_false, Bool.false_eq_true, reduceCtorEq, and_self, if_false, if_true, hIsi_int_int, hIsi_int_bool, hIsi_int_list, hIsi_int_tuple, hIsi_int_str, hIsi_bool_int, hIsi_bool_bool, hIsi_bool_list, hIsi_bool_tuple, hIsi_bool_str, hIsi_none_int, hIsi_none_bool, hIsi_none_list, hIsi_none_tuple, hIsi_none_str, hIsi_list_int, hIsi_list_bool, hIsi_list_list, hIsi_list_tuple, hIsi_list_str, hIsi_tuple_int, hIsi_tuple_bool, hIsi_tuple_list, hIsi_tuple_tuple, hIsi_tuple_str, hIsi_str_int, hIsi_str_bool, hIsi_str_list, hIsi_str_tuple, hIsi_str_str, sem_law_whole]

def optD : Option Int → D
  | none => .none
  | some i => .int i
theorem isNone_opt (o : Option Int) : isNone (optD o) = o.isNone := by cases o <;> rfl
theorem ok_opt (o : Option Int) : okD 0 (optD o) := by cases o <;> exact okD_sc rfl
theorem optD_none : optD none = .none := rfl
theorem optD_some (i : Int) : optD (some i) = .int i := rfl
theorem all_opt : ∀ os : List (Option Int), (os.map optD).all isSc = true
  | [] => rfl
  | o :: os => by
    rw [List.map_cons, List.all_cons, all_opt os]
    cases o <;> rfl
theorem at4_0 (a b c d : D) : atI [a, b, c, d] 0 = some a := rfl
theorem at4_1 (a b c d : D) : atI [a, b, c, d] 1 = some b := rfl
theorem at4_2 (a b c d : D) : atI [a, b, c, d] 2 = some c := rfl
theorem at4_3 (a b c d : D) : atI [a, b, c, d] 3 = some d := rfl
theorem at3_0 (a b c : D) : atI [a, b, c] 0 = some a := rfl
theorem at3_1 (a b c : D) : atI [a, b, c] 1 = some b := rfl
theorem at3_2 (a b c : D) : atI [a, b, c] 2 = some c := rfl

def pay (l p : Int) : Int := if l < p then l else p
def gath (ps : List Int) (l : Int) : Int := (ps.map (pay l)).sum
theorem pay_le (l p : Int) : (if p ≤ l then p else l) = pay l p := by
  unfold pay
  split <;> split <;> omega
theorem sum_perm {xs ys : List Int} (h : xs.Perm ys) : xs.sum = ys.sum := by
  induction h with
  | nil => rfl
  | cons x _ ih => rw [List.sum_cons, List.sum_cons, ih]
  | swap x y l => rw [List.sum_cons, List.sum_cons, List.sum_cons, List.sum_cons]; omega
  | trans _ _ h1 h2 => rw [h1, h2]
theorem gath_perm {xs ys : List Int} (h : xs.Perm ys) (l : Int) : gath xs l = gath ys l := sum_perm (h.map _)
theorem gath_cons (p : Int) (ps : List Int) (l : Int) : gath (p :: ps) l = pay l p + gath ps l := by unfold gath; rw [List.map_cons, List.sum_cons]
theorem gath_le_sum : ∀ (ps : List Int) (l : Int), gath ps l ≤ ps.sum
  | [], _ => Int.le_refl _
  | p :: ps, l => by
    have := gath_le_sum ps l
    rw [gath_cons, List.sum_cons]
    have h : pay l p ≤ p := by unfold pay; split <;> omega
    omega
theorem gath_all : ∀ (ps : List Int) (l : Int), (∀ p ∈ ps, l ≤ p) → gath ps l = l * (ps.length : Int)
  | [], l, _ => by simp [gath]
  | p :: ps, l, h => by
    have ih := gath_all ps l fun q hq => h q (List.mem_cons_of_mem _ hq)
    have hp := h p List.mem_cons_self
    have e : pay l p = l := by unfold pay; split <;> omega
    rw [gath_cons, ih, e, List.length_cons, Int.natCast_add, Int.mul_add]
    omega
theorem sum_nn : ∀ (ps : List Int), (∀ p ∈ ps, 0 ≤ p) → 0 ≤ ps.sum
  | [], _ => Int.le_refl _
  | p :: ps, h => by
    have ih := sum_nn ps fun q hq => h q (List.mem_cons_of_mem _ hq)
    have hp := h p List.mem_cons_self
    rw [List.sum_cons]
    omega
theorem gath_mono (ps : List Int) (a b : Int) (h : a ≤ b) : gath ps a ≤ gath ps b := by
  induction ps with
  | nil => exact Int.le_refl _
  | cons p ps ih =>
    rw [gath_cons, gath_cons]
    have : pay a p ≤ pay b p := by unfold pay; split <;> split <;> omega
    omega

theorem lwishes_ex (cells : List Int) (W : Nat) (us : List Nat) (hW : W ≤ 12) (hl : cells.length ≤ 1000) (hu : us.Sublist (List.range W)) : ∃ ws : List (List Nat), sem_law_wishes [.list (cells.map PyData.int), .int (W : Int), wD us] = some (.list (ws.map wD)) ∧ ws.length = cells.length ∧ ∀ l ∈ ws, l.Sublist (List.range W) := by
  suffices h : ∃ r, sem_law_wishes [.list (cells.map PyData.int), .int (W : Int), wD us] = some r ∧ ∃ ws : List (List Nat), r = .list (ws.map wD) ∧ ws.length = cells.length ∧ ∀ l ∈ ws, l.Sublist (List.range W) by
    obtain ⟨x, h1, ws, h2, h3⟩ := h
    exact ⟨ws, by rw [h1, h2], h3⟩
  simp -implicitDefEqProofs (disch := first | omega | (simp only [List.length_map, List.length_append, List.length_cons, List.length_nil, List.length_range, List.length_take, List.length_drop, List.length_replicate, List.length_set, List.length_reverse] <;> omega) | (refine mulC_small ?_; omega) | (refine mulC_smallR ?_; omega) | (refine divC_small ?_ ?_ <;> omega) | (refine powC_small ?_ ?_ ?_ <;> omega)) only [v_run, v_iTp, tup?_tuple, v_sIfM2, k_ifM2_0, k_ifM2_1, v_srtSet, k_srtSet, v_sZ, k_sZ, v_sReb, v_sClr, k_sClr, v_pinF, k_pin, v_iZp3, k_zp3, v_setP, setPK_of, v_appP, k_appP, k_appP1, k_appP2, k_appP3, k_appP4, List.getElem?_cons_zero, List.getElem?_cons_succ, v_lSortP, k_srtP0, v_lRng, k_rng, hRg1_of, v_seq, v_set', v_setL', v_ret', v_retL', v_if', v_for', v_par', v_aug', v_augK, v_tgt', v_sub', v_mut', v_d1, v_d2, v_d3, v_dB, v_dSc, v_dScs, v_cons, v_tup', v_lst', v_dA, v_dAL, v_and', v_or', v_not', v_dT, v_iL, v_iR1, v_iR2, v_iR3, v_iEn, v_iZp, v_lCut, v_lOf, v_lCat, v_lRep, v_lRepE, k_rep0, v_rt', k_rt, v_idx, k_idx, v_lRev, k_rev, v_lSortI, v_lComp, v_oS, b_assoc, k_cmp, k_seq1, k_seq2, k_seq3, k_seq4, k_set, k_setL, k_ret, k_retL, k_if1, k_if2, k_for, k_par, k_aug2, k_tgt, k_tgt2, k_sub, k_sub1, k_sub2, k_sub3, k_mut, k_mut1, k_mut2, k_d2, k_d3, k_d31, k_d321, k_d322, k_bool, k_cons, k_cons2, k_tup, k_lst, k_al, k_and1, k_and2, k_or1, k_or2, k_not, k_dt, k_en, k_zp, k_cut, k_cut1, k_cut2, k_os, k_cat, k_rep, k_srt0, k_srt, k_comp, k_run1, k_run2, k_go1, k_go2, w_turn, w_turnR, w_turnW, w_nx, w_bk, w_ct, w_rN, w_V, w_C, w_nil, w_oN, w_yes, w_gSet, w_gTup, w_gsCons, w_gsNil, w_add, w_subI, w_lt, w_le, w_gt, w_ge, w_neg, w_isN, w_notN, w_n0, w_n1, w_n2, w_n3, w_n4, w_len1, w_len2, w_min2, w_max2, w_int1, w_int2, w_clr, w_ixL, w_ixT, w_sum, w_any, w_kil0, w_kil1, k_sc_int, k_sc_bool, k_sc_none, k_sc_str, k_scs_of, items?_list, items?_tuple, list?_list, cutD_map, all_int, all_int', List.length_map, hApp_of, hExt_of, hIns_of, hCat_of, hRep_of, hR1_of, hR2_of, hR3_of, hMul_of, hDiv_of, hMod_of, p10_3, p10_4, p10_5, p10_6, p10_7, p10_8, p10_9, p10_12, p10_50, p50_3, p50_4, atI_map, k_scs_int, List.getD_cons_zero, List.getD_cons_succ, List.set_cons_zero, List.set_cons_succ, List.map_cons, List.map_nil, List.cons_append, List.nil_append, List.append_nil, List.length_cons, List.length_nil, Option.bind_some, Option.bind_none, Option.map_some, Option.map_none, ↓reduceIte, Nat.reduceAdd, Nat.reduceSub, Int.reduceAdd, Int.reduceSub, Int.reduceMul, Int.reduceNeg, Nat.reduceLeDiff, Nat.reduceLT, Nat.reduceEqDiff, Nat.zero_add, List.reduceReplicate, List.replicate_zero, List.replicate_one, List.replicate_succ, Bool.and_true, Bool.true_and, Bool.not_true, Bool.not_false, decide_true, decide_false, Bool.false_eq_true, reduceCtorEq, and_self, if_false, if_true, hIsi_int_int, hIsi_int_bool, hIsi_int_list, hIsi_int_tuple, hIsi_int_str, hIsi_bool_int, hIsi_bool_bool, hIsi_bool_list, hIsi_bool_tuple, hIsi_bool_str, hIsi_none_int, hIsi_none_bool, hIsi_none_list, hIsi_none_tuple, hIsi_none_str, hIsi_list_int, hIsi_list_bool, hIsi_list_list, hIsi_list_tuple, hIsi_list_str, hIsi_tuple_int, hIsi_tuple_bool, hIsi_tuple_list, hIsi_tuple_tuple, hIsi_tuple_str, hIsi_str_int, hIsi_str_bool, hIsi_str_list, hIsi_str_tuple, hIsi_str_str, sem_law_wishes]
  refine b_wordE (enc := fun s : List (List Nat) => [some (.list (cells.map PyData.int)), some (.int (W : Int)), some (wD us), some (.list (s.map wD)), none, none, none, none]) (cv := PyData.int)
    (fun q s => s.length = q.length ∧ ∀ l ∈ s, l.Sublist (List.range W)) cells [] ⟨rfl, fun l hl => by cases hl⟩ ?_ (fun s hs => ?_)
  · intro q c r s hx hs
    obtain ⟨h1, h2⟩ := hs
    have lq : q.length < 1000 := by
      have := congrArg List.length hx
      rw [List.length_append, List.length_cons] at this
      omega
    have d13 : sem_law_draws [.int c, .int 13] = _ := draws_ev c 13 (by decide)
    have at13 : ∀ k : Int, 0 ≤ k → k < 13 → atI (draws c 13) k = some (drawf c k) := fun k h0 h1 => draws_at c 13 k h0 (by omega)
    have ul := hu.length_le
    rw [List.length_range] at ul
    have go : ∀ l : List Nat, l.Sublist (List.range W) → (s ++ [l]).length = (q ++ [c]).length ∧ ∀ l' ∈ s ++ [l], l'.Sublist (List.range W) := fun l hl => ⟨by rw [List.length_append, List.length_append, h1]; rfl, fun l' hl' => by
      rcases List.mem_append.mp hl' with z | z
      · exact h2 l' z
      · rw [List.mem_singleton.mp z]; exact hl⟩
    have wf : ∃ wf : List Nat, wf = (List.range W).filter fun k : Nat => decide (0 < drawf c (k : Int) % 3) := ⟨_, rfl⟩
    obtain ⟨wf, hwf⟩ := wf
    have ws : wf.Sublist (List.range W) := by rw [hwf]; exact List.filter_sublist
    have hb : drawf c 12 % 4 = 0 ∨ drawf c 12 % 4 = 1 ∨ drawf c 12 % 4 = 2 ∨ drawf c 12 % 4 = 3 := by omega
    have pick : ∃ l : List Nat, atI ([wD (List.range W), wD us, wD wf, .list (cutL (wf.map ni) none (some 2))] : List D) (drawf c 12 % 4) = some (wD l) ∧ l.Sublist (List.range W) := by
      rcases hb with h | h | h | h <;> rw [h]
      · exact ⟨_, rfl, List.Sublist.refl _⟩
      · exact ⟨_, rfl, hu⟩
      · exact ⟨_, rfl, ws⟩
      · refine ⟨wf.take 2, ?_, (List.take_sublist _ _).trans ws⟩
        have := cutL_pre (wf.map ni) 2
        rw [show ((2 : Nat) : Int) = 2 from rfl] at this
        rw [this, ← List.map_take]
        rfl
    obtain ⟨l, k1, k2⟩ := pick
    refine ⟨s ++ [l], ?_, go l k2⟩
    simp -implicitDefEqProofs (disch := first | omega | (simp only [List.length_map, List.length_append, List.length_cons, List.length_nil, List.length_range, List.length_take, List.length_drop, List.length_replicate, List.length_set, List.length_reverse] <;> omega) | (refine mulC_small ?_; omega) | (refine mulC_smallR ?_; omega) | (refine divC_small ?_ ?_ <;> omega) | (refine powC_small ?_ ?_ ?_ <;> omega)) only [v_run, v_iTp, tup?_tuple, v_sIfM2, k_ifM2_0, k_ifM2_1, v_srtSet, k_srtSet, v_sZ, k_sZ, v_sReb, v_sClr, k_sClr, v_pinF, k_pin, v_iZp3, k_zp3, v_setP, setPK_of, v_appP, k_appP, k_appP1, k_appP2, k_appP3, k_appP4, List.getElem?_cons_zero, List.getElem?_cons_succ, v_lSortP, k_srtP0, v_lRng, k_rng, hRg1_of, v_seq, v_set', v_setL', v_ret', v_retL', v_if', v_for', v_par', v_aug', v_augK, v_tgt', v_sub', v_mut', v_d1, v_d2, v_d3, v_dB, v_dSc, v_dScs, v_cons, v_tup', v_lst', v_dA, v_dAL, v_and', v_or', v_not', v_dT, v_iL, v_iR1, v_iR2, v_iR3, v_iEn, v_iZp, v_lCut, v_lOf, v_lCat, v_lRep, v_lRepE, k_rep0, v_rt', k_rt, v_idx, k_idx, v_lRev, k_rev, v_lSortI, v_lComp, v_oS, b_assoc, k_cmp, k_seq1, k_seq2, k_seq3, k_seq4, k_set, k_setL, k_ret, k_retL, k_if1, k_if2, k_for, k_par, k_aug2, k_tgt, k_tgt2, k_sub, k_sub1, k_sub2, k_sub3, k_mut, k_mut1, k_mut2, k_d2, k_d3, k_d31, k_d321, k_d322, k_bool, k_cons, k_cons2, k_tup, k_lst, k_al, k_and1, k_and2, k_or1, k_or2, k_not, k_dt, k_en, k_zp, k_cut, k_cut1, k_cut2, k_os, k_cat, k_rep, k_srt0, k_srt, k_comp, k_run1, k_run2, k_go1, k_go2, w_turn, w_turnR, w_turnW, w_nx, w_bk, w_ct, w_rN, w_V, w_C, w_nil, w_oN, w_yes, w_gSet, w_gTup, w_gsCons, w_gsNil, w_add, w_subI, w_lt, w_le, w_gt, w_ge, w_neg, w_isN, w_notN, w_n0, w_n1, w_n2, w_n3, w_n4, w_len1, w_len2, w_min2, w_max2, w_int1, w_int2, w_clr, w_ixL, w_ixT, w_sum, w_any, w_kil0, w_kil1, k_sc_int, k_sc_bool, k_sc_none, k_sc_str, k_scs_of, items?_list, items?_tuple, list?_list, cutD_map, all_int, all_int', List.length_map, hApp_of, hExt_of, hIns_of, hCat_of, hRep_of, hR1_of, hR2_of, hR3_of, hMul_of, hDiv_of, hMod_of, p10_3, p10_4, p10_5, p10_6, p10_7, p10_8, p10_9, p10_12, p10_50, p50_3, p50_4, atI_map, k_scs_int, List.getD_cons_zero, List.getD_cons_succ, List.set_cons_zero, List.set_cons_succ, List.map_cons, List.map_nil, List.cons_append, List.nil_append, List.append_nil, List.length_cons, List.length_nil, Option.bind_some, Option.bind_none, Option.map_some, Option.map_none, ↓reduceIte, Nat.reduceAdd, Nat.reduceSub, Int.reduceAdd, Int.reduceSub, Int.reduceMul, Int.reduceNeg, Nat.reduceLeDiff, Nat.reduceLT, Nat.reduceEqDiff, Nat.zero_add, List.reduceReplicate, List.replicate_zero, List.replicate_one, List.replicate_succ, Bool.and_true, Bool.true_and, Bool.not_true, Bool.not_false, decide_true, decide_false, Bool.false_eq_true, reduceCtorEq, and_self, if_false, if_true, hIsi_int_int, hIsi_int_bool, hIsi_int_list, hIsi_int_tuple, hIsi_int_str, hIsi_bool_int, hIsi_bool_bool, hIsi_bool_list, hIsi_bool_tuple, hIsi_bool_str, hIsi_none_int, hIsi_none_bool, hIsi_none_list, hIsi_none_tuple, hIsi_none_str, hIsi_list_int, hIsi_list_bool, hIsi_list_list, hIsi_list_tuple, hIsi_list_str, hIsi_tuple_int, hIsi_tuple_bool, hIsi_tuple_list, hIsi_tuple_tuple, hIsi_tuple_str, hIsi_str_int, hIsi_str_bool, hIsi_str_list, hIsi_str_tuple, hIsi_str_str, d13, range_ni]
    rw [Int.toNat_natCast]
    refine b_filter (cv := ni) ni (fun k : Nat => decide (0 < drawf c (k : Int) % 3)) (List.range W) (by rw [List.length_range]; omega) (fun k hk => ⟨_, rfl, ?_, fun _ => ?_⟩) ?_
    · have := List.mem_range.mp hk
      simp -implicitDefEqProofs (disch := first | omega | (simp only [List.length_map, List.length_append, List.length_cons, List.length_nil, List.length_range, List.length_take, List.length_drop, List.length_replicate, List.length_set, List.length_reverse] <;> omega) | (refine mulC_small ?_; omega) | (refine mulC_smallR ?_; omega) | (refine divC_small ?_ ?_ <;> omega) | (refine powC_small ?_ ?_ ?_ <;> omega)) only [v_run, v_iTp, tup?_tuple, v_sIfM2, k_ifM2_0, k_ifM2_1, v_srtSet, k_srtSet, v_sZ, k_sZ, v_sReb, v_sClr, k_sClr, v_pinF, k_pin, v_iZp3, k_zp3, v_setP, setPK_of, v_appP, k_appP, k_appP1, k_appP2, k_appP3, k_appP4, List.getElem?_cons_zero, List.getElem?_cons_succ, v_lSortP, k_srtP0, v_lRng, k_rng, hRg1_of, v_seq, v_set', v_setL', v_ret', v_retL', v_if', v_for', v_par', v_aug', v_augK, v_tgt', v_sub', v_mut', v_d1, v_d2, v_d3, v_dB, v_dSc, v_dScs, v_cons, v_tup', v_lst', v_dA, v_dAL, v_and', v_or', v_not', v_dT, v_iL, v_iR1, v_iR2, v_iR3, v_iEn, v_iZp, v_lCut, v_lOf, v_lCat, v_lRep, v_lRepE, k_rep0, v_rt', k_rt, v_idx, k_idx, v_lRev, k_rev, v_lSortI, v_lComp, v_oS, b_assoc, k_cmp, k_seq1, k_seq2, k_seq3, k_seq4, k_set, k_setL, k_ret, k_retL, k_if1, k_if2, k_for, k_par, k_aug2, k_tgt, k_tgt2, k_sub, k_sub1, k_sub2, k_sub3, k_mut, k_mut1, k_mut2, k_d2, k_d3, k_d31, k_d321, k_d322, k_bool, k_cons, k_cons2, k_tup, k_lst, k_al, k_and1, k_and2, k_or1, k_or2, k_not, k_dt, k_en, k_zp, k_cut, k_cut1, k_cut2, k_os, k_cat, k_rep, k_srt0, k_srt, k_comp, k_run1, k_run2, k_go1, k_go2, w_turn, w_turnR, w_turnW, w_nx, w_bk, w_ct, w_rN, w_V, w_C, w_nil, w_oN, w_yes, w_gSet, w_gTup, w_gsCons, w_gsNil, w_add, w_subI, w_lt, w_le, w_gt, w_ge, w_neg, w_isN, w_notN, w_n0, w_n1, w_n2, w_n3, w_n4, w_len1, w_len2, w_min2, w_max2, w_int1, w_int2, w_clr, w_ixL, w_ixT, w_sum, w_any, w_kil0, w_kil1, k_sc_int, k_sc_bool, k_sc_none, k_sc_str, k_scs_of, items?_list, items?_tuple, list?_list, cutD_map, all_int, all_int', List.length_map, hApp_of, hExt_of, hIns_of, hCat_of, hRep_of, hR1_of, hR2_of, hR3_of, hMul_of, hDiv_of, hMod_of, p10_3, p10_4, p10_5, p10_6, p10_7, p10_8, p10_9, p10_12, p10_50, p50_3, p50_4, atI_map, k_scs_int, List.getD_cons_zero, List.getD_cons_succ, List.set_cons_zero, List.set_cons_succ, List.map_cons, List.map_nil, List.cons_append, List.nil_append, List.append_nil, List.length_cons, List.length_nil, Option.bind_some, Option.bind_none, Option.map_some, Option.map_none, ↓reduceIte, Nat.reduceAdd, Nat.reduceSub, Int.reduceAdd, Int.reduceSub, Int.reduceMul, Int.reduceNeg, Nat.reduceLeDiff, Nat.reduceLT, Nat.reduceEqDiff, Nat.zero_add, List.reduceReplicate, List.replicate_zero, List.replicate_one, List.replicate_succ, Bool.and_true, Bool.true_and, Bool.not_true, Bool.not_false, decide_true, decide_false, Bool.false_eq_true, reduceCtorEq, and_self, if_false, if_true, hIsi_int_int, hIsi_int_bool, hIsi_int_list, hIsi_int_tuple, hIsi_int_str, hIsi_bool_int, hIsi_bool_bool, hIsi_bool_list, hIsi_bool_tuple, hIsi_bool_str, hIsi_none_int, hIsi_none_bool, hIsi_none_list, hIsi_none_tuple, hIsi_none_str, hIsi_list_int, hIsi_list_bool, hIsi_list_list, hIsi_list_tuple, hIsi_list_str, hIsi_tuple_int, hIsi_tuple_bool, hIsi_tuple_list, hIsi_tuple_tuple, hIsi_tuple_str, hIsi_str_int, hIsi_str_bool, hIsi_str_list, hIsi_str_tuple, hIsi_str_str, ni, at13]
    · simp -implicitDefEqProofs (disch := first | omega | (simp only [List.length_map, List.length_append, List.length_cons, List.length_nil, List.length_range, List.length_take, List.length_drop, List.length_replicate, List.length_set, List.length_reverse] <;> omega) | (refine mulC_small ?_; omega) | (refine mulC_smallR ?_; omega) | (refine divC_small ?_ ?_ <;> omega) | (refine powC_small ?_ ?_ ?_ <;> omega)) only [v_run, v_iTp, tup?_tuple, v_sIfM2, k_ifM2_0, k_ifM2_1, v_srtSet, k_srtSet, v_sZ, k_sZ, v_sReb, v_sClr, k_sClr, v_pinF, k_pin, v_iZp3, k_zp3, v_setP, setPK_of, v_appP, k_appP, k_appP1, k_appP2, k_appP3, k_appP4, List.getElem?_cons_zero, List.getElem?_cons_succ, v_lSortP, k_srtP0, v_lRng, k_rng, hRg1_of, v_seq, v_set', v_setL', v_ret', v_retL', v_if', v_for', v_par', v_aug', v_augK, v_tgt', v_sub', v_mut', v_d1, v_d2, v_d3, v_dB, v_dSc, v_dScs, v_cons, v_tup', v_lst', v_dA, v_dAL, v_and', v_or', v_not', v_dT, v_iL, v_iR1, v_iR2, v_iR3, v_iEn, v_iZp, v_lCut, v_lOf, v_lCat, v_lRep, v_lRepE, k_rep0, v_rt', k_rt, v_idx, k_idx, v_lRev, k_rev, v_lSortI, v_lComp, v_oS, b_assoc, k_cmp, k_seq1, k_seq2, k_seq3, k_seq4, k_set, k_setL, k_ret, k_retL, k_if1, k_if2, k_for, k_par, k_aug2, k_tgt, k_tgt2, k_sub, k_sub1, k_sub2, k_sub3, k_mut, k_mut1, k_mut2, k_d2, k_d3, k_d31, k_d321, k_d322, k_bool, k_cons, k_cons2, k_tup, k_lst, k_al, k_and1, k_and2, k_or1, k_or2, k_not, k_dt, k_en, k_zp, k_cut, k_cut1, k_cut2, k_os, k_cat, k_rep, k_srt0, k_srt, k_comp, k_run1, k_run2, k_go1, k_go2, w_turn, w_turnR, w_turnW, w_nx, w_bk, w_ct, w_rN, w_V, w_C, w_nil, w_oN, w_yes, w_gSet, w_gTup, w_gsCons, w_gsNil, w_add, w_subI, w_lt, w_le, w_gt, w_ge, w_neg, w_isN, w_notN, w_n0, w_n1, w_n2, w_n3, w_n4, w_len1, w_len2, w_min2, w_max2, w_int1, w_int2, w_clr, w_ixL, w_ixT, w_sum, w_any, w_kil0, w_kil1, k_sc_int, k_sc_bool, k_sc_none, k_sc_str, k_scs_of, items?_list, items?_tuple, list?_list, cutD_map, all_int, all_int', List.length_map, hApp_of, hExt_of, hIns_of, hCat_of, hRep_of, hR1_of, hR2_of, hR3_of, hMul_of, hDiv_of, hMod_of, p10_3, p10_4, p10_5, p10_6, p10_7, p10_8, p10_9, p10_12, p10_50, p50_3, p50_4, atI_map, k_scs_int, List.getD_cons_zero, List.getD_cons_succ, List.set_cons_zero, List.set_cons_succ, List.map_cons, List.map_nil, List.cons_append, List.nil_append, List.append_nil, List.length_cons, List.length_nil, Option.bind_some, Option.bind_none, Option.map_some, Option.map_none, ↓reduceIte, Nat.reduceAdd, Nat.reduceSub, Int.reduceAdd, Int.reduceSub, Int.reduceMul, Int.reduceNeg, Nat.reduceLeDiff, Nat.reduceLT, Nat.reduceEqDiff, Nat.zero_add, List.reduceReplicate, List.replicate_zero, List.replicate_one, List.replicate_succ, Bool.and_true, Bool.true_and, Bool.not_true, Bool.not_false, decide_true, decide_false, Bool.false_eq_true, reduceCtorEq, and_self, if_false, if_true, hIsi_int_int, hIsi_int_bool, hIsi_int_list, hIsi_int_tuple, hIsi_int_str, hIsi_bool_int, hIsi_bool_bool, hIsi_bool_list, hIsi_bool_tuple, hIsi_bool_str, hIsi_none_int, hIsi_none_bool, hIsi_none_list, hIsi_none_tuple, hIsi_none_str, hIsi_list_int, hIsi_list_bool, hIsi_list_list, hIsi_list_tuple, hIsi_list_str, hIsi_tuple_int, hIsi_tuple_bool, hIsi_tuple_list, hIsi_tuple_tuple, hIsi_tuple_str, hIsi_str_int, hIsi_str_bool, hIsi_str_list, hIsi_str_tuple, hIsi_str_str, ni]
    · rw [← hwf]
      have e2 : cutL (wf.map ni) none (some 2) = (cutL wf none (some 2)).map ni := by
        unfold cutL
        rw [List.length_map, List.map_take, List.map_drop]
      rw [e2] at k1
      simp -implicitDefEqProofs (disch := first | omega | (simp only [List.length_map, List.length_append, List.length_cons, List.length_nil, List.length_range, List.length_take, List.length_drop, List.length_replicate, List.length_set, List.length_reverse] <;> omega) | (refine mulC_small ?_; omega) | (refine mulC_smallR ?_; omega) | (refine divC_small ?_ ?_ <;> omega) | (refine powC_small ?_ ?_ ?_ <;> omega)) only [v_run, v_iTp, tup?_tuple, v_sIfM2, k_ifM2_0, k_ifM2_1, v_srtSet, k_srtSet, v_sZ, k_sZ, v_sReb, v_sClr, k_sClr, v_pinF, k_pin, v_iZp3, k_zp3, v_setP, setPK_of, v_appP, k_appP, k_appP1, k_appP2, k_appP3, k_appP4, List.getElem?_cons_zero, List.getElem?_cons_succ, v_lSortP, k_srtP0, v_lRng, k_rng, hRg1_of, v_seq, v_set', v_setL', v_ret', v_retL', v_if', v_for', v_par', v_aug', v_augK, v_tgt', v_sub', v_mut', v_d1, v_d2, v_d3, v_dB, v_dSc, v_dScs, v_cons, v_tup', v_lst', v_dA, v_dAL, v_and', v_or', v_not', v_dT, v_iL, v_iR1, v_iR2, v_iR3, v_iEn, v_iZp, v_lCut, v_lOf, v_lCat, v_lRep, v_lRepE, k_rep0, v_rt', k_rt, v_idx, k_idx, v_lRev, k_rev, v_lSortI, v_lComp, v_oS, b_assoc, k_cmp, k_seq1, k_seq2, k_seq3, k_seq4, k_set, k_setL, k_ret, k_retL, k_if1, k_if2, k_for, k_par, k_aug2, k_tgt, k_tgt2, k_sub, k_sub1, k_sub2, k_sub3, k_mut, k_mut1, k_mut2, k_d2, k_d3, k_d31, k_d321, k_d322, k_bool, k_cons, k_cons2, k_tup, k_lst, k_al, k_and1, k_and2, k_or1, k_or2, k_not, k_dt, k_en, k_zp, k_cut, k_cut1, k_cut2, k_os, k_cat, k_rep, k_srt0, k_srt, k_comp, k_run1, k_run2, k_go1, k_go2, w_turn, w_turnR, w_turnW, w_nx, w_bk, w_ct, w_rN, w_V, w_C, w_nil, w_oN, w_yes, w_gSet, w_gTup, w_gsCons, w_gsNil, w_add, w_subI, w_lt, w_le, w_gt, w_ge, w_neg, w_isN, w_notN, w_n0, w_n1, w_n2, w_n3, w_n4, w_len1, w_len2, w_min2, w_max2, w_int1, w_int2, w_clr, w_ixL, w_ixT, w_sum, w_any, w_kil0, w_kil1, k_sc_int, k_sc_bool, k_sc_none, k_sc_str, k_scs_of, items?_list, items?_tuple, list?_list, cutD_map, all_int, all_int', List.length_map, hApp_of, hExt_of, hIns_of, hCat_of, hRep_of, hR1_of, hR2_of, hR3_of, hMul_of, hDiv_of, hMod_of, p10_3, p10_4, p10_5, p10_6, p10_7, p10_8, p10_9, p10_12, p10_50, p50_3, p50_4, atI_map, k_scs_int, List.getD_cons_zero, List.getD_cons_succ, List.set_cons_zero, List.set_cons_succ, List.map_cons, List.map_nil, List.cons_append, List.nil_append, List.append_nil, List.length_cons, List.length_nil, Option.bind_some, Option.bind_none, Option.map_some, Option.map_none, ↓reduceIte, Nat.reduceAdd, Nat.reduceSub, Int.reduceAdd, Int.reduceSub, Int.reduceMul, Int.reduceNeg, Nat.reduceLeDiff, Nat.reduceLT, Nat.reduceEqDiff, Nat.zero_add, List.reduceReplicate, List.replicate_zero, List.replicate_one, List.replicate_succ, Bool.and_true, Bool.true_and, Bool.not_true, Bool.not_false, decide_true, decide_false, Bool.false_eq_true, reduceCtorEq, and_self, if_false, if_true, hIsi_int_int, hIsi_int_bool, hIsi_int_list, hIsi_int_tuple, hIsi_int_str, hIsi_bool_int, hIsi_bool_bool, hIsi_bool_list, hIsi_bool_tuple, hIsi_bool_str, hIsi_none_int, hIsi_none_bool, hIsi_none_list, hIsi_none_tuple, hIsi_none_str, hIsi_list_int, hIsi_list_bool, hIsi_list_list, hIsi_list_tuple, hIsi_list_str, hIsi_tuple_int, hIsi_tuple_bool, hIsi_tuple_list, hIsi_tuple_tuple, hIsi_tuple_str, hIsi_str_int, hIsi_str_bool, hIsi_str_list, hIsi_str_tuple, hIsi_str_str, wD] at k1
      simp -implicitDefEqProofs (disch := first | omega | (simp only [List.length_map, List.length_append, List.length_cons, List.length_nil, List.length_range, List.length_take, List.length_drop, List.length_replicate, List.length_set, List.length_reverse] <;> omega) | (refine mulC_small ?_; omega) | (refine mulC_smallR ?_; omega) | (refine divC_small ?_ ?_ <;> omega) | (refine powC_small ?_ ?_ ?_ <;> omega)) only [v_run, v_iTp, tup?_tuple, v_sIfM2, k_ifM2_0, k_ifM2_1, v_srtSet, k_srtSet, v_sZ, k_sZ, v_sReb, v_sClr, k_sClr, v_pinF, k_pin, v_iZp3, k_zp3, v_setP, setPK_of, v_appP, k_appP, k_appP1, k_appP2, k_appP3, k_appP4, List.getElem?_cons_zero, List.getElem?_cons_succ, v_lSortP, k_srtP0, v_lRng, k_rng, hRg1_of, v_seq, v_set', v_setL', v_ret', v_retL', v_if', v_for', v_par', v_aug', v_augK, v_tgt', v_sub', v_mut', v_d1, v_d2, v_d3, v_dB, v_dSc, v_dScs, v_cons, v_tup', v_lst', v_dA, v_dAL, v_and', v_or', v_not', v_dT, v_iL, v_iR1, v_iR2, v_iR3, v_iEn, v_iZp, v_lCut, v_lOf, v_lCat, v_lRep, v_lRepE, k_rep0, v_rt', k_rt, v_idx, k_idx, v_lRev, k_rev, v_lSortI, v_lComp, v_oS, b_assoc, k_cmp, k_seq1, k_seq2, k_seq3, k_seq4, k_set, k_setL, k_ret, k_retL, k_if1, k_if2, k_for, k_par, k_aug2, k_tgt, k_tgt2, k_sub, k_sub1, k_sub2, k_sub3, k_mut, k_mut1, k_mut2, k_d2, k_d3, k_d31, k_d321, k_d322, k_bool, k_cons, k_cons2, k_tup, k_lst, k_al, k_and1, k_and2, k_or1, k_or2, k_not, k_dt, k_en, k_zp, k_cut, k_cut1, k_cut2, k_os, k_cat, k_rep, k_srt0, k_srt, k_comp, k_run1, k_run2, k_go1, k_go2, w_turn, w_turnR, w_turnW, w_nx, w_bk, w_ct, w_rN, w_V, w_C, w_nil, w_oN, w_yes, w_gSet, w_gTup, w_gsCons, w_gsNil, w_add, w_subI, w_lt, w_le, w_gt, w_ge, w_neg, w_isN, w_notN, w_n0, w_n1, w_n2, w_n3, w_n4, w_len1, w_len2, w_min2, w_max2, w_int1, w_int2, w_clr, w_ixL, w_ixT, w_sum, w_any, w_kil0, w_kil1, k_sc_int, k_sc_bool, k_sc_none, k_sc_str, k_scs_of, items?_list, items?_tuple, list?_list, cutD_map, all_int, all_int', List.length_map, hApp_of, hExt_of, hIns_of, hCat_of, hRep_of, hR1_of, hR2_of, hR3_of, hMul_of, hDiv_of, hMod_of, p10_3, p10_4, p10_5, p10_6, p10_7, p10_8, p10_9, p10_12, p10_50, p50_3, p50_4, atI_map, k_scs_int, List.getD_cons_zero, List.getD_cons_succ, List.set_cons_zero, List.set_cons_succ, List.map_cons, List.map_nil, List.cons_append, List.nil_append, List.append_nil, List.length_cons, List.length_nil, Option.bind_some, Option.bind_none, Option.map_some, Option.map_none, ↓reduceIte, Nat.reduceAdd, Nat.reduceSub, Int.reduceAdd, Int.reduceSub, Int.reduceMul, Int.reduceNeg, Nat.reduceLeDiff, Nat.reduceLT, Nat.reduceEqDiff, Nat.zero_add, List.reduceReplicate, List.replicate_zero, List.replicate_one, List.replicate_succ, Bool.and_true, Bool.true_and, Bool.not_true, Bool.not_false, decide_true, decide_false, Bool.false_eq_true, reduceCtorEq, and_self, if_false, if_true, hIsi_int_int, hIsi_int_bool, hIsi_int_list, hIsi_int_tuple, hIsi_int_str, hIsi_bool_int, hIsi_bool_bool, hIsi_bool_list, hIsi_bool_tuple, hIsi_bool_str, hIsi_none_int, hIsi_none_bool, hIsi_none_list, hIsi_none_tuple, hIsi_none_str, hIsi_list_int, hIsi_list_bool, hIsi_list_list, hIsi_list_tuple, hIsi_list_str, hIsi_tuple_int, hIsi_tuple_bool, hIsi_tuple_list, hIsi_tuple_tuple, hIsi_tuple_str, hIsi_str_int, hIsi_str_bool, hIsi_str_list, hIsi_str_tuple, hIsi_str_str, wD, range_ni, Int.toNat_natCast, k_scs_ni, at13, k1, List.map_append]
  · simp -implicitDefEqProofs (disch := first | omega | (simp only [List.length_map, List.length_append, List.length_cons, List.length_nil, List.length_range, List.length_take, List.length_drop, List.length_replicate, List.length_set, List.length_reverse] <;> omega) | (refine mulC_small ?_; omega) | (refine mulC_smallR ?_; omega) | (refine divC_small ?_ ?_ <;> omega) | (refine powC_small ?_ ?_ ?_ <;> omega)) only [v_run, v_iTp, tup?_tuple, v_sIfM2, k_ifM2_0, k_ifM2_1, v_srtSet, k_srtSet, v_sZ, k_sZ, v_sReb, v_sClr, k_sClr, v_pinF, k_pin, v_iZp3, k_zp3, v_setP, setPK_of, v_appP, k_appP, k_appP1, k_appP2, k_appP3, k_appP4, List.getElem?_cons_zero, List.getElem?_cons_succ, v_lSortP, k_srtP0, v_lRng, k_rng, hRg1_of, v_seq, v_set', v_setL', v_ret', v_retL', v_if', v_for', v_par', v_aug', v_augK, v_tgt', v_sub', v_mut', v_d1, v_d2, v_d3, v_dB, v_dSc, v_dScs, v_cons, v_tup', v_lst', v_dA, v_dAL, v_and', v_or', v_not', v_dT, v_iL, v_iR1, v_iR2, v_iR3, v_iEn, v_iZp, v_lCut, v_lOf, v_lCat, v_lRep, v_lRepE, k_rep0, v_rt', k_rt, v_idx, k_idx, v_lRev, k_rev, v_lSortI, v_lComp, v_oS, b_assoc, k_cmp, k_seq1, k_seq2, k_seq3, k_seq4, k_set, k_setL, k_ret, k_retL, k_if1, k_if2, k_for, k_par, k_aug2, k_tgt, k_tgt2, k_sub, k_sub1, k_sub2, k_sub3, k_mut, k_mut1, k_mut2, k_d2, k_d3, k_d31, k_d321, k_d322, k_bool, k_cons, k_cons2, k_tup, k_lst, k_al, k_and1, k_and2, k_or1, k_or2, k_not, k_dt, k_en, k_zp, k_cut, k_cut1, k_cut2, k_os, k_cat, k_rep, k_srt0, k_srt, k_comp, k_run1, k_run2, k_go1, k_go2, w_turn, w_turnR, w_turnW, w_nx, w_bk, w_ct, w_rN, w_V, w_C, w_nil, w_oN, w_yes, w_gSet, w_gTup, w_gsCons, w_gsNil, w_add, w_subI, w_lt, w_le, w_gt, w_ge, w_neg, w_isN, w_notN, w_n0, w_n1, w_n2, w_n3, w_n4, w_len1, w_len2, w_min2, w_max2, w_int1, w_int2, w_clr, w_ixL, w_ixT, w_sum, w_any, w_kil0, w_kil1, k_sc_int, k_sc_bool, k_sc_none, k_sc_str, k_scs_of, items?_list, items?_tuple, list?_list, cutD_map, all_int, all_int', List.length_map, hApp_of, hExt_of, hIns_of, hCat_of, hRep_of, hR1_of, hR2_of, hR3_of, hMul_of, hDiv_of, hMod_of, p10_3, p10_4, p10_5, p10_6, p10_7, p10_8, p10_9, p10_12, p10_50, p50_3, p50_4, atI_map, k_scs_int, List.getD_cons_zero, List.getD_cons_succ, List.set_cons_zero, List.set_cons_succ, List.map_cons, List.map_nil, List.cons_append, List.nil_append, List.append_nil, List.length_cons, List.length_nil, Option.bind_some, Option.bind_none, Option.map_some, Option.map_none, ↓reduceIte, Nat.reduceAdd, Nat.reduceSub, Int.reduceAdd, Int.reduceSub, Int.reduceMul, Int.reduceNeg, Nat.reduceLeDiff, Nat.reduceLT, Nat.reduceEqDiff, Nat.zero_add, List.reduceReplicate, List.replicate_zero, List.replicate_one, List.replicate_succ, Bool.and_true, Bool.true_and, Bool.not_true, Bool.not_false, decide_true, decide_false, Bool.false_eq_true, reduceCtorEq, and_self, if_false, if_true, hIsi_int_int, hIsi_int_bool, hIsi_int_list, hIsi_int_tuple, hIsi_int_str, hIsi_bool_int, hIsi_bool_bool, hIsi_bool_list, hIsi_bool_tuple, hIsi_bool_str, hIsi_none_int, hIsi_none_bool, hIsi_none_list, hIsi_none_tuple, hIsi_none_str, hIsi_list_int, hIsi_list_bool, hIsi_list_list, hIsi_list_tuple, hIsi_list_str, hIsi_tuple_int, hIsi_tuple_bool, hIsi_tuple_list, hIsi_tuple_tuple, hIsi_tuple_str, hIsi_str_int, hIsi_str_bool, hIsi_str_list, hIsi_str_tuple, hIsi_str_str]
    exact ⟨_, rfl, s, rfl, hs⟩

def kcost (n k : Int) : Int := if k % 2 = 0 then 1 + n % 9 else 1 + n * 80021 % 1000000000000
theorem kcost_in (n k : Int) : 1 ≤ kcost n k ∧ kcost n k ≤ 1000000000000 := by
  unfold kcost
  split <;> omega
theorem kcost_at (n k : Int) : atI ([.int (1 + n % 9), .int (1 + n * 80021 % 1000000000000)] : List D) (k % 2) = some (.int (kcost n k)) := by
  unfold kcost
  have hb : k % 2 = 0 ∨ k % 2 = 1 := by omega
  rcases hb with h | h <;> rw [h] <;> rfl
theorem town_ex (ns : List Int) : ∃ (K : Int) (cs : List Int) (ws : List (List Nat)), sem_law_town [.list (ns.map PyData.int)] = some (.tuple [.int K, .list (cs.map PyData.int), .list (ws.map wD)]) ∧ (∀ x ∈ cs, 1 ≤ x ∧ x ≤ 1000000000000) ∧ cs.length ≤ 8 ∧ 1 ≤ ws.length ∧ ws.length ≤ 20 ∧ ∀ l ∈ ws, l.Sublist (List.range cs.length) := by
  suffices h : ∃ r, sem_law_town [.list (ns.map PyData.int)] = some r ∧ ∃ (K : Int) (cs : List Int) (ws : List (List Nat)), r = .tuple [.int K, .list (cs.map PyData.int), .list (ws.map wD)] ∧ (∀ x ∈ cs, 1 ≤ x ∧ x ≤ 1000000000000) ∧ cs.length ≤ 8 ∧ 1 ≤ ws.length ∧ ws.length ≤ 20 ∧ ∀ l ∈ ws, l.Sublist (List.range cs.length) by
    obtain ⟨x, h1, K, cs, ws, h2, h3⟩ := h
    exact ⟨K, cs, ws, by rw [h1, h2], h3⟩
  have d14 : sem_law_draws [.int (cellat ns 0), .int 14] = _ := draws_ev (cellat ns 0) 14 (by decide)
  have at14 : ∀ k : Int, 0 ≤ k → k < 14 → atI (draws (cellat ns 0) 14) k = some (drawf (cellat ns 0) k) := fun k h0 h1 => draws_at _ 14 k h0 (by omega)
  have d3 : sem_law_draws [.int (cellat ns 1), .int 3] = _ := draws_ev (cellat ns 1) 3 (by decide)
  have at3 : ∀ k : Int, 0 ≤ k → k < 3 → atI (draws (cellat ns 1) 3) k = some (drawf (cellat ns 1) k) := fun k h0 h1 => draws_at _ 3 k h0 (by omega)
  have dn := fun k => drawf_nn (cellat ns 0) k
  have dn0 := dn 0
  have dn10 := dn 10
  have dn11 := dn 11
  have zn := fun k => drawf_nn (cellat ns 1) k
  have zn0 := zn 0
  have zn1 := zn 1
  obtain ⟨W, w1, w2⟩ : ∃ W : Nat, atI ([.int (drawf (cellat ns 0) 0 % 7), .int (7 + drawf (cellat ns 0) 0 / 7 % 2)] : List D) (if (drawf (cellat ns 0) 1 % 8 == 0) = true then 1 else 0) = some (.int (W : Int)) ∧ W ≤ 8 := by
    cases drawf (cellat ns 0) 1 % 8 == 0
    · refine ⟨(drawf (cellat ns 0) 0 % 7).toNat, ?_, by omega⟩
      rw [Int.toNat_of_nonneg (by omega)]
      rfl
    · refine ⟨(7 + drawf (cellat ns 0) 0 / 7 % 2).toNat, ?_, by omega⟩
      rw [Int.toNat_of_nonneg (by omega)]
      rfl
  have cl : (cutL ns (some 4) (some 23)).length ≤ 19 := by
    have := cutL_nat ns 4 23 (by omega)
    rw [show ((4 : Nat) : Int) = 4 from rfl, show ((23 : Nat) : Int) = 23 from rfl] at this
    rw [this, List.length_take]
    omega
  have r1 : ∃ cs : List Int, cs = (List.range W).map (fun k : Nat => kcost (drawf (cellat ns 0) (2 + (k : Int))) (drawf (cellat ns 0) 10 / ((k : Int) + 1))) := ⟨_, rfl⟩
  obtain ⟨cs, hcs⟩ := r1
  have c0 : ∀ x ∈ cs, 1 ≤ x ∧ x ≤ 1000000000000 := fun x hx => by
    rw [hcs] at hx
    obtain ⟨k, _, rfl⟩ := List.mem_map.mp hx
    exact kcost_in _ _
  have cW : cs.length = W := by rw [hcs, List.length_map, List.length_range]
  have sn := sum_nn cs fun x hx => by have := c0 x hx; omega
  have r2 : ∃ us : List Nat, us = (List.range W).filter (fun k : Nat => decide (0 < drawf (cellat ns 0) 11 / ((k : Int) + 1) % 3)) := ⟨_, rfl⟩
  obtain ⟨us, hus⟩ := r2
  obtain ⟨ws, s1, s2, s3⟩ := lwishes_ex (cutL ns (some 4) (some 23) ++ [cellat ns 3]) W us (by omega) (by rw [List.length_append, List.length_singleton]; omega) (by rw [hus]; exact List.filter_sublist)
  have ls : (cutL ns (some 4) (some 23) ++ [cellat ns 3]).length = (cutL ns (some 4) (some 23)).length + 1 := by rw [List.length_append]; rfl
  rw [List.map_append] at s1
  obtain ⟨co, k1⟩ : ∃ co : Int, atI ([.int 0, .int (1 + drawf (cellat ns 1) 0 % 9), .int (cs.sum / 2), .int cs.sum, .int (drawf (cellat ns 1) 0 * drawf (cellat ns 1) 1 % (cs.sum + 1))] : List D) (drawf (cellat ns 1) 2 % 5) = some (.int co) := by
    have hb : drawf (cellat ns 1) 2 % 5 = 0 ∨ drawf (cellat ns 1) 2 % 5 = 1 ∨ drawf (cellat ns 1) 2 % 5 = 2 ∨ drawf (cellat ns 1) 2 % 5 = 3 ∨ drawf (cellat ns 1) 2 % 5 = 4 := by omega
    rcases hb with h | h | h | h | h <;> rw [h] <;> exact ⟨_, rfl⟩
  refine ⟨.tuple [.int (if (1000000000000 : Int) < co then 1000000000000 else co), .list (cs.map PyData.int), .list (ws.map wD)], ?_, _, cs, ws, rfl, c0, by omega, by omega, by omega, by rw [cW]; exact s3⟩
  simp -implicitDefEqProofs (disch := first | omega | (simp only [List.length_map, List.length_append, List.length_cons, List.length_nil, List.length_range, List.length_take, List.length_drop, List.length_replicate, List.length_set, List.length_reverse] <;> omega) | (refine mulC_small ?_; omega) | (refine mulC_smallR ?_; omega) | (refine divC_small ?_ ?_ <;> omega) | (refine powC_small ?_ ?_ ?_ <;> omega)) only [v_run, v_iTp, tup?_tuple, v_sIfM2, k_ifM2_0, k_ifM2_1, v_srtSet, k_srtSet, v_sZ, k_sZ, v_sReb, v_sClr, k_sClr, v_pinF, k_pin, v_iZp3, k_zp3, v_setP, setPK_of, v_appP, k_appP, k_appP1, k_appP2, k_appP3, k_appP4, List.getElem?_cons_zero, List.getElem?_cons_succ, v_lSortP, k_srtP0, v_lRng, k_rng, hRg1_of, v_seq, v_set', v_setL', v_ret', v_retL', v_if', v_for', v_par', v_aug', v_augK, v_tgt', v_sub', v_mut', v_d1, v_d2, v_d3, v_dB, v_dSc, v_dScs, v_cons, v_tup', v_lst', v_dA, v_dAL, v_and', v_or', v_not', v_dT, v_iL, v_iR1, v_iR2, v_iR3, v_iEn, v_iZp, v_lCut, v_lOf, v_lCat, v_lRep, v_lRepE, k_rep0, v_rt', k_rt, v_idx, k_idx, v_lRev, k_rev, v_lSortI, v_lComp, v_oS, b_assoc, k_cmp, k_seq1, k_seq2, k_seq3, k_seq4, k_set, k_setL, k_ret, k_retL, k_if1, k_if2, k_for, k_par, k_aug2, k_tgt, k_tgt2, k_sub, k_sub1, k_sub2, k_sub3, k_mut, k_mut1, k_mut2, k_d2, k_d3, k_d31, k_d321, k_d322, k_bool, k_cons, k_cons2, k_tup, k_lst, k_al, k_and1, k_and2, k_or1, k_or2, k_not, k_dt, k_en, k_zp, k_cut, k_cut1, k_cut2, k_os, k_cat, k_rep, k_srt0, k_srt, k_comp, k_run1, k_run2, k_go1, k_go2, w_turn, w_turnR, w_turnW, w_nx, w_bk, w_ct, w_rN, w_V, w_C, w_nil, w_oN, w_yes, w_gSet, w_gTup, w_gsCons, w_gsNil, w_add, w_subI, w_lt, w_le, w_gt, w_ge, w_neg, w_isN, w_notN, w_n0, w_n1, w_n2, w_n3, w_n4, w_len1, w_len2, w_min2, w_max2, w_int1, w_int2, w_clr, w_ixL, w_ixT, w_sum, w_any, w_kil0, w_kil1, k_sc_int, k_sc_bool, k_sc_none, k_sc_str, k_scs_of, items?_list, items?_tuple, list?_list, cutD_map, all_int, all_int', List.length_map, hApp_of, hExt_of, hIns_of, hCat_of, hRep_of, hR1_of, hR2_of, hR3_of, hMul_of, hDiv_of, hMod_of, p10_3, p10_4, p10_5, p10_6, p10_7, p10_8, p10_9, p10_12, p10_50, p50_3, p50_4, atI_map, k_scs_int, List.getD_cons_zero, List.getD_cons_succ, List.set_cons_zero, List.set_cons_succ, List.map_cons, List.map_nil, List.cons_append, List.nil_append, List.append_nil, List.length_cons, List.length_nil, Option.bind_some, Option.bind_none, Option.map_some, Option.map_none, ↓reduceIte, Nat.reduceAdd, Nat.reduceSub, Int.reduceAdd, Int.reduceSub, Int.reduceMul, Int.reduceNeg, Nat.reduceLeDiff, Nat.reduceLT, Nat.reduceEqDiff, Nat.zero_add, List.reduceReplicate, List.replicate_zero, List.replicate_one, List.replicate_succ, Bool.and_true, Bool.true_and, Bool.not_true, Bool.not_false, decide_true, decide_false, Bool.false_eq_true, reduceCtorEq, and_self, if_false, if_true, hIsi_int_int, hIsi_int_bool, hIsi_int_list, hIsi_int_tuple, hIsi_int_str, hIsi_bool_int, hIsi_bool_bool, hIsi_bool_list, hIsi_bool_tuple, hIsi_bool_str, hIsi_none_int, hIsi_none_bool, hIsi_none_list, hIsi_none_tuple, hIsi_none_str, hIsi_list_int, hIsi_list_bool, hIsi_list_list, hIsi_list_tuple, hIsi_list_str, hIsi_tuple_int, hIsi_tuple_bool, hIsi_tuple_list, hIsi_tuple_tuple, hIsi_tuple_str, hIsi_str_int, hIsi_str_bool, hIsi_str_list, hIsi_str_tuple, hIsi_str_str, sem_law_town, cellat_ev ns 0 (by decide), d14, at14, hEq_int, w1, range_ni]
  rw [Int.toNat_natCast]
  refine b_mapI (cv := ni) (fun k : Nat => kcost (drawf (cellat ns 0) (2 + (k : Int))) (drawf (cellat ns 0) 10 / ((k : Int) + 1))) (List.range W) (by rw [List.length_range]; omega) (fun k hk => ⟨_, rfl, rfl, ?_⟩) ?_
  · have := List.mem_range.mp hk
    simp -implicitDefEqProofs (disch := first | omega | (simp only [List.length_map, List.length_append, List.length_cons, List.length_nil, List.length_range, List.length_take, List.length_drop, List.length_replicate, List.length_set, List.length_reverse] <;> omega) | (refine mulC_small ?_; omega) | (refine mulC_smallR ?_; omega) | (refine divC_small ?_ ?_ <;> omega) | (refine powC_small ?_ ?_ ?_ <;> omega)) only [v_run, v_iTp, tup?_tuple, v_sIfM2, k_ifM2_0, k_ifM2_1, v_srtSet, k_srtSet, v_sZ, k_sZ, v_sReb, v_sClr, k_sClr, v_pinF, k_pin, v_iZp3, k_zp3, v_setP, setPK_of, v_appP, k_appP, k_appP1, k_appP2, k_appP3, k_appP4, List.getElem?_cons_zero, List.getElem?_cons_succ, v_lSortP, k_srtP0, v_lRng, k_rng, hRg1_of, v_seq, v_set', v_setL', v_ret', v_retL', v_if', v_for', v_par', v_aug', v_augK, v_tgt', v_sub', v_mut', v_d1, v_d2, v_d3, v_dB, v_dSc, v_dScs, v_cons, v_tup', v_lst', v_dA, v_dAL, v_and', v_or', v_not', v_dT, v_iL, v_iR1, v_iR2, v_iR3, v_iEn, v_iZp, v_lCut, v_lOf, v_lCat, v_lRep, v_lRepE, k_rep0, v_rt', k_rt, v_idx, k_idx, v_lRev, k_rev, v_lSortI, v_lComp, v_oS, b_assoc, k_cmp, k_seq1, k_seq2, k_seq3, k_seq4, k_set, k_setL, k_ret, k_retL, k_if1, k_if2, k_for, k_par, k_aug2, k_tgt, k_tgt2, k_sub, k_sub1, k_sub2, k_sub3, k_mut, k_mut1, k_mut2, k_d2, k_d3, k_d31, k_d321, k_d322, k_bool, k_cons, k_cons2, k_tup, k_lst, k_al, k_and1, k_and2, k_or1, k_or2, k_not, k_dt, k_en, k_zp, k_cut, k_cut1, k_cut2, k_os, k_cat, k_rep, k_srt0, k_srt, k_comp, k_run1, k_run2, k_go1, k_go2, w_turn, w_turnR, w_turnW, w_nx, w_bk, w_ct, w_rN, w_V, w_C, w_nil, w_oN, w_yes, w_gSet, w_gTup, w_gsCons, w_gsNil, w_add, w_subI, w_lt, w_le, w_gt, w_ge, w_neg, w_isN, w_notN, w_n0, w_n1, w_n2, w_n3, w_n4, w_len1, w_len2, w_min2, w_max2, w_int1, w_int2, w_clr, w_ixL, w_ixT, w_sum, w_any, w_kil0, w_kil1, k_sc_int, k_sc_bool, k_sc_none, k_sc_str, k_scs_of, items?_list, items?_tuple, list?_list, cutD_map, all_int, all_int', List.length_map, hApp_of, hExt_of, hIns_of, hCat_of, hRep_of, hR1_of, hR2_of, hR3_of, hMul_of, hDiv_of, hMod_of, p10_3, p10_4, p10_5, p10_6, p10_7, p10_8, p10_9, p10_12, p10_50, p50_3, p50_4, atI_map, k_scs_int, List.getD_cons_zero, List.getD_cons_succ, List.set_cons_zero, List.set_cons_succ, List.map_cons, List.map_nil, List.cons_append, List.nil_append, List.append_nil, List.length_cons, List.length_nil, Option.bind_some, Option.bind_none, Option.map_some, Option.map_none, ↓reduceIte, Nat.reduceAdd, Nat.reduceSub, Int.reduceAdd, Int.reduceSub, Int.reduceMul, Int.reduceNeg, Nat.reduceLeDiff, Nat.reduceLT, Nat.reduceEqDiff, Nat.zero_add, List.reduceReplicate, List.replicate_zero, List.replicate_one, List.replicate_succ, Bool.and_true, Bool.true_and, Bool.not_true, Bool.not_false, decide_true, decide_false, Bool.false_eq_true, reduceCtorEq, and_self, if_false, if_true, hIsi_int_int, hIsi_int_bool, hIsi_int_list, hIsi_int_tuple, hIsi_int_str, hIsi_bool_int, hIsi_bool_bool, hIsi_bool_list, hIsi_bool_tuple, hIsi_bool_str, hIsi_none_int, hIsi_none_bool, hIsi_none_list, hIsi_none_tuple, hIsi_none_str, hIsi_list_int, hIsi_list_bool, hIsi_list_list, hIsi_list_tuple, hIsi_list_str, hIsi_tuple_int, hIsi_tuple_bool, hIsi_tuple_list, hIsi_tuple_tuple, hIsi_tuple_str, hIsi_str_int, hIsi_str_bool, hIsi_str_list, hIsi_str_tuple, hIsi_str_str, ni, at14, hMul_of (show MulC (drawf (cellat ns 0) (2 + (k : Int))) 80021 from mulC_smallR (by decide)), kcost_at]
  rw [← hcs]
  simp -implicitDefEqProofs (disch := first | omega | (simp only [List.length_map, List.length_append, List.length_cons, List.length_nil, List.length_range, List.length_take, List.length_drop, List.length_replicate, List.length_set, List.length_reverse] <;> omega) | (refine mulC_small ?_; omega) | (refine mulC_smallR ?_; omega) | (refine divC_small ?_ ?_ <;> omega) | (refine powC_small ?_ ?_ ?_ <;> omega)) only [v_run, v_iTp, tup?_tuple, v_sIfM2, k_ifM2_0, k_ifM2_1, v_srtSet, k_srtSet, v_sZ, k_sZ, v_sReb, v_sClr, k_sClr, v_pinF, k_pin, v_iZp3, k_zp3, v_setP, setPK_of, v_appP, k_appP, k_appP1, k_appP2, k_appP3, k_appP4, List.getElem?_cons_zero, List.getElem?_cons_succ, v_lSortP, k_srtP0, v_lRng, k_rng, hRg1_of, v_seq, v_set', v_setL', v_ret', v_retL', v_if', v_for', v_par', v_aug', v_augK, v_tgt', v_sub', v_mut', v_d1, v_d2, v_d3, v_dB, v_dSc, v_dScs, v_cons, v_tup', v_lst', v_dA, v_dAL, v_and', v_or', v_not', v_dT, v_iL, v_iR1, v_iR2, v_iR3, v_iEn, v_iZp, v_lCut, v_lOf, v_lCat, v_lRep, v_lRepE, k_rep0, v_rt', k_rt, v_idx, k_idx, v_lRev, k_rev, v_lSortI, v_lComp, v_oS, b_assoc, k_cmp, k_seq1, k_seq2, k_seq3, k_seq4, k_set, k_setL, k_ret, k_retL, k_if1, k_if2, k_for, k_par, k_aug2, k_tgt, k_tgt2, k_sub, k_sub1, k_sub2, k_sub3, k_mut, k_mut1, k_mut2, k_d2, k_d3, k_d31, k_d321, k_d322, k_bool, k_cons, k_cons2, k_tup, k_lst, k_al, k_and1, k_and2, k_or1, k_or2, k_not, k_dt, k_en, k_zp, k_cut, k_cut1, k_cut2, k_os, k_cat, k_rep, k_srt0, k_srt, k_comp, k_run1, k_run2, k_go1, k_go2, w_turn, w_turnR, w_turnW, w_nx, w_bk, w_ct, w_rN, w_V, w_C, w_nil, w_oN, w_yes, w_gSet, w_gTup, w_gsCons, w_gsNil, w_add, w_subI, w_lt, w_le, w_gt, w_ge, w_neg, w_isN, w_notN, w_n0, w_n1, w_n2, w_n3, w_n4, w_len1, w_len2, w_min2, w_max2, w_int1, w_int2, w_clr, w_ixL, w_ixT, w_sum, w_any, w_kil0, w_kil1, k_sc_int, k_sc_bool, k_sc_none, k_sc_str, k_scs_of, items?_list, items?_tuple, list?_list, cutD_map, all_int, all_int', List.length_map, hApp_of, hExt_of, hIns_of, hCat_of, hRep_of, hR1_of, hR2_of, hR3_of, hMul_of, hDiv_of, hMod_of, p10_3, p10_4, p10_5, p10_6, p10_7, p10_8, p10_9, p10_12, p10_50, p50_3, p50_4, atI_map, k_scs_int, List.getD_cons_zero, List.getD_cons_succ, List.set_cons_zero, List.set_cons_succ, List.map_cons, List.map_nil, List.cons_append, List.nil_append, List.append_nil, List.length_cons, List.length_nil, Option.bind_some, Option.bind_none, Option.map_some, Option.map_none, ↓reduceIte, Nat.reduceAdd, Nat.reduceSub, Int.reduceAdd, Int.reduceSub, Int.reduceMul, Int.reduceNeg, Nat.reduceLeDiff, Nat.reduceLT, Nat.reduceEqDiff, Nat.zero_add, List.reduceReplicate, List.replicate_zero, List.replicate_one, List.replicate_succ, Bool.and_true, Bool.true_and, Bool.not_true, Bool.not_false, decide_true, decide_false, Bool.false_eq_true, reduceCtorEq, and_self, if_false, if_true, hIsi_int_int, hIsi_int_bool, hIsi_int_list, hIsi_int_tuple, hIsi_int_str, hIsi_bool_int, hIsi_bool_bool, hIsi_bool_list, hIsi_bool_tuple, hIsi_bool_str, hIsi_none_int, hIsi_none_bool, hIsi_none_list, hIsi_none_tuple, hIsi_none_str, hIsi_list_int, hIsi_list_bool, hIsi_list_list, hIsi_list_tuple, hIsi_list_str, hIsi_tuple_int, hIsi_tuple_bool, hIsi_tuple_list, hIsi_tuple_tuple, hIsi_tuple_str, hIsi_str_int, hIsi_str_bool, hIsi_str_list, hIsi_str_tuple, hIsi_str_str, range_ni]
  rw [Int.toNat_natCast]
  refine b_filter (cv := ni) ni (fun k : Nat => decide (0 < drawf (cellat ns 0) 11 / ((k : Int) + 1) % 3)) (List.range W) (by rw [List.length_range]; omega) (fun k hk => ⟨_, rfl, ?_, fun _ => ?_⟩) ?_
  · have := List.mem_range.mp hk
    simp -implicitDefEqProofs (disch := first | omega | (simp only [List.length_map, List.length_append, List.length_cons, List.length_nil, List.length_range, List.length_take, List.length_drop, List.length_replicate, List.length_set, List.length_reverse] <;> omega) | (refine mulC_small ?_; omega) | (refine mulC_smallR ?_; omega) | (refine divC_small ?_ ?_ <;> omega) | (refine powC_small ?_ ?_ ?_ <;> omega)) only [v_run, v_iTp, tup?_tuple, v_sIfM2, k_ifM2_0, k_ifM2_1, v_srtSet, k_srtSet, v_sZ, k_sZ, v_sReb, v_sClr, k_sClr, v_pinF, k_pin, v_iZp3, k_zp3, v_setP, setPK_of, v_appP, k_appP, k_appP1, k_appP2, k_appP3, k_appP4, List.getElem?_cons_zero, List.getElem?_cons_succ, v_lSortP, k_srtP0, v_lRng, k_rng, hRg1_of, v_seq, v_set', v_setL', v_ret', v_retL', v_if', v_for', v_par', v_aug', v_augK, v_tgt', v_sub', v_mut', v_d1, v_d2, v_d3, v_dB, v_dSc, v_dScs, v_cons, v_tup', v_lst', v_dA, v_dAL, v_and', v_or', v_not', v_dT, v_iL, v_iR1, v_iR2, v_iR3, v_iEn, v_iZp, v_lCut, v_lOf, v_lCat, v_lRep, v_lRepE, k_rep0, v_rt', k_rt, v_idx, k_idx, v_lRev, k_rev, v_lSortI, v_lComp, v_oS, b_assoc, k_cmp, k_seq1, k_seq2, k_seq3, k_seq4, k_set, k_setL, k_ret, k_retL, k_if1, k_if2, k_for, k_par, k_aug2, k_tgt, k_tgt2, k_sub, k_sub1, k_sub2, k_sub3, k_mut, k_mut1, k_mut2, k_d2, k_d3, k_d31, k_d321, k_d322, k_bool, k_cons, k_cons2, k_tup, k_lst, k_al, k_and1, k_and2, k_or1, k_or2, k_not, k_dt, k_en, k_zp, k_cut, k_cut1, k_cut2, k_os, k_cat, k_rep, k_srt0, k_srt, k_comp, k_run1, k_run2, k_go1, k_go2, w_turn, w_turnR, w_turnW, w_nx, w_bk, w_ct, w_rN, w_V, w_C, w_nil, w_oN, w_yes, w_gSet, w_gTup, w_gsCons, w_gsNil, w_add, w_subI, w_lt, w_le, w_gt, w_ge, w_neg, w_isN, w_notN, w_n0, w_n1, w_n2, w_n3, w_n4, w_len1, w_len2, w_min2, w_max2, w_int1, w_int2, w_clr, w_ixL, w_ixT, w_sum, w_any, w_kil0, w_kil1, k_sc_int, k_sc_bool, k_sc_none, k_sc_str, k_scs_of, items?_list, items?_tuple, list?_list, cutD_map, all_int, all_int', List.length_map, hApp_of, hExt_of, hIns_of, hCat_of, hRep_of, hR1_of, hR2_of, hR3_of, hMul_of, hDiv_of, hMod_of, p10_3, p10_4, p10_5, p10_6, p10_7, p10_8, p10_9, p10_12, p10_50, p50_3, p50_4, atI_map, k_scs_int, List.getD_cons_zero, List.getD_cons_succ, List.set_cons_zero, List.set_cons_succ, List.map_cons, List.map_nil, List.cons_append, List.nil_append, List.append_nil, List.length_cons, List.length_nil, Option.bind_some, Option.bind_none, Option.map_some, Option.map_none, ↓reduceIte, Nat.reduceAdd, Nat.reduceSub, Int.reduceAdd, Int.reduceSub, Int.reduceMul, Int.reduceNeg, Nat.reduceLeDiff, Nat.reduceLT, Nat.reduceEqDiff, Nat.zero_add, List.reduceReplicate, List.replicate_zero, List.replicate_one, List.replicate_succ, Bool.and_true, Bool.true_and, Bool.not_true, Bool.not_false, decide_true, decide_false, Bool.false_eq_true, reduceCtorEq, and_self, if_false, if_true, hIsi_int_int, hIsi_int_bool, hIsi_int_list, hIsi_int_tuple, hIsi_int_str, hIsi_bool_int, hIsi_bool_bool, hIsi_bool_list, hIsi_bool_tuple, hIsi_bool_str, hIsi_none_int, hIsi_none_bool, hIsi_none_list, hIsi_none_tuple, hIsi_none_str, hIsi_list_int, hIsi_list_bool, hIsi_list_list, hIsi_list_tuple, hIsi_list_str, hIsi_tuple_int, hIsi_tuple_bool, hIsi_tuple_list, hIsi_tuple_tuple, hIsi_tuple_str, hIsi_str_int, hIsi_str_bool, hIsi_str_list, hIsi_str_tuple, hIsi_str_str, ni, at14]
  · simp -implicitDefEqProofs (disch := first | omega | (simp only [List.length_map, List.length_append, List.length_cons, List.length_nil, List.length_range, List.length_take, List.length_drop, List.length_replicate, List.length_set, List.length_reverse] <;> omega) | (refine mulC_small ?_; omega) | (refine mulC_smallR ?_; omega) | (refine divC_small ?_ ?_ <;> omega) | (refine powC_small ?_ ?_ ?_ <;> omega)) only [v_run, v_iTp, tup?_tuple, v_sIfM2, k_ifM2_0, k_ifM2_1, v_srtSet, k_srtSet, v_sZ, k_sZ, v_sReb, v_sClr, k_sClr, v_pinF, k_pin, v_iZp3, k_zp3, v_setP, setPK_of, v_appP, k_appP, k_appP1, k_appP2, k_appP3, k_appP4, List.getElem?_cons_zero, List.getElem?_cons_succ, v_lSortP, k_srtP0, v_lRng, k_rng, hRg1_of, v_seq, v_set', v_setL', v_ret', v_retL', v_if', v_for', v_par', v_aug', v_augK, v_tgt', v_sub', v_mut', v_d1, v_d2, v_d3, v_dB, v_dSc, v_dScs, v_cons, v_tup', v_lst', v_dA, v_dAL, v_and', v_or', v_not', v_dT, v_iL, v_iR1, v_iR2, v_iR3, v_iEn, v_iZp, v_lCut, v_lOf, v_lCat, v_lRep, v_lRepE, k_rep0, v_rt', k_rt, v_idx, k_idx, v_lRev, k_rev, v_lSortI, v_lComp, v_oS, b_assoc, k_cmp, k_seq1, k_seq2, k_seq3, k_seq4, k_set, k_setL, k_ret, k_retL, k_if1, k_if2, k_for, k_par, k_aug2, k_tgt, k_tgt2, k_sub, k_sub1, k_sub2, k_sub3, k_mut, k_mut1, k_mut2, k_d2, k_d3, k_d31, k_d321, k_d322, k_bool, k_cons, k_cons2, k_tup, k_lst, k_al, k_and1, k_and2, k_or1, k_or2, k_not, k_dt, k_en, k_zp, k_cut, k_cut1, k_cut2, k_os, k_cat, k_rep, k_srt0, k_srt, k_comp, k_run1, k_run2, k_go1, k_go2, w_turn, w_turnR, w_turnW, w_nx, w_bk, w_ct, w_rN, w_V, w_C, w_nil, w_oN, w_yes, w_gSet, w_gTup, w_gsCons, w_gsNil, w_add, w_subI, w_lt, w_le, w_gt, w_ge, w_neg, w_isN, w_notN, w_n0, w_n1, w_n2, w_n3, w_n4, w_len1, w_len2, w_min2, w_max2, w_int1, w_int2, w_clr, w_ixL, w_ixT, w_sum, w_any, w_kil0, w_kil1, k_sc_int, k_sc_bool, k_sc_none, k_sc_str, k_scs_of, items?_list, items?_tuple, list?_list, cutD_map, all_int, all_int', List.length_map, hApp_of, hExt_of, hIns_of, hCat_of, hRep_of, hR1_of, hR2_of, hR3_of, hMul_of, hDiv_of, hMod_of, p10_3, p10_4, p10_5, p10_6, p10_7, p10_8, p10_9, p10_12, p10_50, p50_3, p50_4, atI_map, k_scs_int, List.getD_cons_zero, List.getD_cons_succ, List.set_cons_zero, List.set_cons_succ, List.map_cons, List.map_nil, List.cons_append, List.nil_append, List.append_nil, List.length_cons, List.length_nil, Option.bind_some, Option.bind_none, Option.map_some, Option.map_none, ↓reduceIte, Nat.reduceAdd, Nat.reduceSub, Int.reduceAdd, Int.reduceSub, Int.reduceMul, Int.reduceNeg, Nat.reduceLeDiff, Nat.reduceLT, Nat.reduceEqDiff, Nat.zero_add, List.reduceReplicate, List.replicate_zero, List.replicate_one, List.replicate_succ, Bool.and_true, Bool.true_and, Bool.not_true, Bool.not_false, decide_true, decide_false, Bool.false_eq_true, reduceCtorEq, and_self, if_false, if_true, hIsi_int_int, hIsi_int_bool, hIsi_int_list, hIsi_int_tuple, hIsi_int_str, hIsi_bool_int, hIsi_bool_bool, hIsi_bool_list, hIsi_bool_tuple, hIsi_bool_str, hIsi_none_int, hIsi_none_bool, hIsi_none_list, hIsi_none_tuple, hIsi_none_str, hIsi_list_int, hIsi_list_bool, hIsi_list_list, hIsi_list_tuple, hIsi_list_str, hIsi_tuple_int, hIsi_tuple_bool, hIsi_tuple_list, hIsi_tuple_tuple, hIsi_tuple_str, hIsi_str_int, hIsi_str_bool, hIsi_str_list, hIsi_str_tuple, hIsi_str_str, ni]
  rw [← hus]
  simp -implicitDefEqProofs (disch := first | omega | (simp only [List.length_map, List.length_append, List.length_cons, List.length_nil, List.length_range, List.length_take, List.length_drop, List.length_replicate, List.length_set, List.length_reverse] <;> omega) | (refine mulC_small ?_; omega) | (refine mulC_smallR ?_; omega) | (refine divC_small ?_ ?_ <;> omega) | (refine powC_small ?_ ?_ ?_ <;> omega)) only [v_run, v_iTp, tup?_tuple, v_sIfM2, k_ifM2_0, k_ifM2_1, v_srtSet, k_srtSet, v_sZ, k_sZ, v_sReb, v_sClr, k_sClr, v_pinF, k_pin, v_iZp3, k_zp3, v_setP, setPK_of, v_appP, k_appP, k_appP1, k_appP2, k_appP3, k_appP4, List.getElem?_cons_zero, List.getElem?_cons_succ, v_lSortP, k_srtP0, v_lRng, k_rng, hRg1_of, v_seq, v_set', v_setL', v_ret', v_retL', v_if', v_for', v_par', v_aug', v_augK, v_tgt', v_sub', v_mut', v_d1, v_d2, v_d3, v_dB, v_dSc, v_dScs, v_cons, v_tup', v_lst', v_dA, v_dAL, v_and', v_or', v_not', v_dT, v_iL, v_iR1, v_iR2, v_iR3, v_iEn, v_iZp, v_lCut, v_lOf, v_lCat, v_lRep, v_lRepE, k_rep0, v_rt', k_rt, v_idx, k_idx, v_lRev, k_rev, v_lSortI, v_lComp, v_oS, b_assoc, k_cmp, k_seq1, k_seq2, k_seq3, k_seq4, k_set, k_setL, k_ret, k_retL, k_if1, k_if2, k_for, k_par, k_aug2, k_tgt, k_tgt2, k_sub, k_sub1, k_sub2, k_sub3, k_mut, k_mut1, k_mut2, k_d2, k_d3, k_d31, k_d321, k_d322, k_bool, k_cons, k_cons2, k_tup, k_lst, k_al, k_and1, k_and2, k_or1, k_or2, k_not, k_dt, k_en, k_zp, k_cut, k_cut1, k_cut2, k_os, k_cat, k_rep, k_srt0, k_srt, k_comp, k_run1, k_run2, k_go1, k_go2, w_turn, w_turnR, w_turnW, w_nx, w_bk, w_ct, w_rN, w_V, w_C, w_nil, w_oN, w_yes, w_gSet, w_gTup, w_gsCons, w_gsNil, w_add, w_subI, w_lt, w_le, w_gt, w_ge, w_neg, w_isN, w_notN, w_n0, w_n1, w_n2, w_n3, w_n4, w_len1, w_len2, w_min2, w_max2, w_int1, w_int2, w_clr, w_ixL, w_ixT, w_sum, w_any, w_kil0, w_kil1, k_sc_int, k_sc_bool, k_sc_none, k_sc_str, k_scs_of, items?_list, items?_tuple, list?_list, cutD_map, all_int, all_int', List.length_map, hApp_of, hExt_of, hIns_of, hCat_of, hRep_of, hR1_of, hR2_of, hR3_of, hMul_of, hDiv_of, hMod_of, p10_3, p10_4, p10_5, p10_6, p10_7, p10_8, p10_9, p10_12, p10_50, p50_3, p50_4, atI_map, k_scs_int, List.getD_cons_zero, List.getD_cons_succ, List.set_cons_zero, List.set_cons_succ, List.map_cons, List.map_nil, List.cons_append, List.nil_append, List.append_nil, List.length_cons, List.length_nil, Option.bind_some, Option.bind_none, Option.map_some, Option.map_none, ↓reduceIte, Nat.reduceAdd, Nat.reduceSub, Int.reduceAdd, Int.reduceSub, Int.reduceMul, Int.reduceNeg, Nat.reduceLeDiff, Nat.reduceLT, Nat.reduceEqDiff, Nat.zero_add, List.reduceReplicate, List.replicate_zero, List.replicate_one, List.replicate_succ, Bool.and_true, Bool.true_and, Bool.not_true, Bool.not_false, decide_true, decide_false, Bool.false_eq_true, reduceCtorEq, and_self, if_false, if_true, hIsi_int_int, hIsi_int_bool, hIsi_int_list, hIsi_int_tuple, hIsi_int_str, hIsi_bool_int, hIsi_bool_bool, hIsi_bool_list, hIsi_bool_tuple, hIsi_bool_str, hIsi_none_int, hIsi_none_bool, hIsi_none_list, hIsi_none_tuple, hIsi_none_str, hIsi_list_int, hIsi_list_bool, hIsi_list_list, hIsi_list_tuple, hIsi_list_str, hIsi_tuple_int, hIsi_tuple_bool, hIsi_tuple_list, hIsi_tuple_tuple, hIsi_tuple_str, hIsi_str_int, hIsi_str_bool, hIsi_str_list, hIsi_str_tuple, hIsi_str_str, wD] at s1
  simp -implicitDefEqProofs (disch := first | omega | (simp only [List.length_map, List.length_append, List.length_cons, List.length_nil, List.length_range, List.length_take, List.length_drop, List.length_replicate, List.length_set, List.length_reverse] <;> omega) | (refine mulC_small ?_; omega) | (refine mulC_smallR ?_; omega) | (refine divC_small ?_ ?_ <;> omega) | (refine powC_small ?_ ?_ ?_ <;> omega)) only [v_run, v_iTp, tup?_tuple, v_sIfM2, k_ifM2_0, k_ifM2_1, v_srtSet, k_srtSet, v_sZ, k_sZ, v_sReb, v_sClr, k_sClr, v_pinF, k_pin, v_iZp3, k_zp3, v_setP, setPK_of, v_appP, k_appP, k_appP1, k_appP2, k_appP3, k_appP4, List.getElem?_cons_zero, List.getElem?_cons_succ, v_lSortP, k_srtP0, v_lRng, k_rng, hRg1_of, v_seq, v_set', v_setL', v_ret', v_retL', v_if', v_for', v_par', v_aug', v_augK, v_tgt', v_sub', v_mut', v_d1, v_d2, v_d3, v_dB, v_dSc, v_dScs, v_cons, v_tup', v_lst', v_dA, v_dAL, v_and', v_or', v_not', v_dT, v_iL, v_iR1, v_iR2, v_iR3, v_iEn, v_iZp, v_lCut, v_lOf, v_lCat, v_lRep, v_lRepE, k_rep0, v_rt', k_rt, v_idx, k_idx, v_lRev, k_rev, v_lSortI, v_lComp, v_oS, b_assoc, k_cmp, k_seq1, k_seq2, k_seq3, k_seq4, k_set, k_setL, k_ret, k_retL, k_if1, k_if2, k_for, k_par, k_aug2, k_tgt, k_tgt2, k_sub, k_sub1, k_sub2, k_sub3, k_mut, k_mut1, k_mut2, k_d2, k_d3, k_d31, k_d321, k_d322, k_bool, k_cons, k_cons2, k_tup, k_lst, k_al, k_and1, k_and2, k_or1, k_or2, k_not, k_dt, k_en, k_zp, k_cut, k_cut1, k_cut2, k_os, k_cat, k_rep, k_srt0, k_srt, k_comp, k_run1, k_run2, k_go1, k_go2, w_turn, w_turnR, w_turnW, w_nx, w_bk, w_ct, w_rN, w_V, w_C, w_nil, w_oN, w_yes, w_gSet, w_gTup, w_gsCons, w_gsNil, w_add, w_subI, w_lt, w_le, w_gt, w_ge, w_neg, w_isN, w_notN, w_n0, w_n1, w_n2, w_n3, w_n4, w_len1, w_len2, w_min2, w_max2, w_int1, w_int2, w_clr, w_ixL, w_ixT, w_sum, w_any, w_kil0, w_kil1, k_sc_int, k_sc_bool, k_sc_none, k_sc_str, k_scs_of, items?_list, items?_tuple, list?_list, cutD_map, all_int, all_int', List.length_map, hApp_of, hExt_of, hIns_of, hCat_of, hRep_of, hR1_of, hR2_of, hR3_of, hMul_of, hDiv_of, hMod_of, p10_3, p10_4, p10_5, p10_6, p10_7, p10_8, p10_9, p10_12, p10_50, p50_3, p50_4, atI_map, k_scs_int, List.getD_cons_zero, List.getD_cons_succ, List.set_cons_zero, List.set_cons_succ, List.map_cons, List.map_nil, List.cons_append, List.nil_append, List.append_nil, List.length_cons, List.length_nil, Option.bind_some, Option.bind_none, Option.map_some, Option.map_none, ↓reduceIte, Nat.reduceAdd, Nat.reduceSub, Int.reduceAdd, Int.reduceSub, Int.reduceMul, Int.reduceNeg, Nat.reduceLeDiff, Nat.reduceLT, Nat.reduceEqDiff, Nat.zero_add, List.reduceReplicate, List.replicate_zero, List.replicate_one, List.replicate_succ, Bool.and_true, Bool.true_and, Bool.not_true, Bool.not_false, decide_true, decide_false, Bool.false_eq_true, reduceCtorEq, and_self, if_false, if_true, hIsi_int_int, hIsi_int_bool, hIsi_int_list, hIsi_int_tuple, hIsi_int_str, hIsi_bool_int, hIsi_bool_bool, hIsi_bool_list, hIsi_bool_tuple, hIsi_bool_str, hIsi_none_int, hIsi_none_bool, hIsi_none_list, hIsi_none_tuple, hIsi_none_str, hIsi_list_int, hIsi_list_bool, hIsi_list_list, hIsi_list_tuple, hIsi_list_str, hIsi_tuple_int, hIsi_tuple_bool, hIsi_tuple_list, hIsi_tuple_tuple, hIsi_tuple_str, hIsi_str_int, hIsi_str_bool, hIsi_str_list, hIsi_str_tuple, hIsi_str_str, cellat_ev ns 3 (by decide), cellat_ev ns 1 (by decide), k_scs_int, s1, d3, at3, k1]

def picks : List Nat → Nat → List (List Nat)
  | _, 0 => [[]]
  | [], _ + 1 => []
  | w :: l, s + 1 => (picks l s).map (fun r => w :: r) ++ picks l (s + 1)
theorem picks_0 (l : List Nat) : picks l 0 = [[]] := by cases l <;> rfl
theorem picks_s (w : Nat) (l : List Nat) (s : Nat) : picks (w :: l) (s + 1) = (picks l s).map (fun r => w :: r) ++ picks l (s + 1) := rfl
theorem picks_len : ∀ (l : List Nat) (s : Nat), (picks l s).length ≤ 2 ^ l.length
  | l, 0 => by
    rw [picks_0]
    exact Nat.pow_pos (by decide)
  | [], s + 1 => Nat.zero_le _
  | w :: l, s + 1 => by
    have a := picks_len l s
    have b := picks_len l (s + 1)
    rw [picks_s, List.length_append, List.length_map, List.length_cons, Nat.pow_succ]
    omega
theorem picks_mem : ∀ (l : List Nat) (s : Nat) (p : List Nat), p ∈ picks l s → p.Sublist l ∧ p.length = s
  | l, 0, p, h => by
    rw [picks_0, List.mem_singleton] at h
    rw [h]
    exact ⟨List.nil_sublist _, rfl⟩
  | [], s + 1, p, h => by cases h
  | w :: l, s + 1, p, h => by
    rw [picks_s] at h
    rcases List.mem_append.mp h with h | h
    · obtain ⟨r, hr, rfl⟩ := List.mem_map.mp h
      obtain ⟨a, b⟩ := picks_mem l s r hr
      exact ⟨a.cons₂ _, by rw [List.length_cons, b]⟩
    · obtain ⟨a, b⟩ := picks_mem l (s + 1) p h
      exact ⟨a.cons _, b⟩
theorem rangeD_ni (f m : Nat) : rangeD (f : Int) ((m : Int) - (f : Int)).toNat = (List.range' f (m - f)).map ni := by
  rw [rangeD_map, show ((m : Int) - (f : Int)).toNat = m - f by omega]
  refine List.ext_getElem (by simp) fun i h1 h2 => ?_
  rw [List.getElem_map, List.getElem_map, List.getElem_range, List.getElem_range']
  show PyData.int ((f : Int) + (i : Int)) = PyData.int ((f + 1 * i : Nat) : Int)
  congr 1
  omega
theorem pick_loop (k s m : Nat) (a : D) (ih : ∀ f : Nat, f ≤ m → semR_picks_of k [.int (f : Int), .int (m : Int), .int (s : Int)] = some (.list ((picks (List.range' f (m - f)) s).map wD))) (hs : s ≤ 1000) : ∀ (n f : Nat) (found : List (List Nat)), f + n ≤ m → m ≤ f + n → found.length + (picks (List.range' f n) (s + 1)).length ≤ 100000 →
    forL (gSet 4) (sFor (gSet 5)
          (sMut 3 hApp (dCons (dLst (lCat (dLst (dCons (dV 4) dNil)) (dV 5))) dNil)) [5] (iL (dLst (dAL (semR_picks_of k) (dCons (d2 hAdd (dV 4) (dC (.int 1))) (dCons (dSc (dV 1)) (dCons (d2 hSub (dV 2) (dC (.int 1))) dNil))))))) [4, 5] ((List.range' f n).map ni)
      [some a, some (.int (m : Int)), some (.int ((s + 1 : Nat) : Int)), some (.list (found.map wD)), none, none] = some (.nx [some a, some (.int (m : Int)), some (.int ((s + 1 : Nat) : Int)), some (.list ((found ++ picks (List.range' f n) (s + 1)).map wD)), none, none])
  | 0, f, found, _, _, _ => by
    rw [show List.range' f 0 = [] from rfl, show picks [] (s + 1) = [] from rfl, List.append_nil]
    rfl
  | n + 1, f, found, h1, h2, hb => by
    rw [show List.range' f (n + 1) = f :: List.range' (f + 1) n from rfl, picks_s] at hb ⊢
    rw [List.length_append, List.length_map] at hb
    have i1 := ih (f + 1) (by omega)
    rw [show m - (f + 1) = n by omega] at i1
    have e1 : ((f : Int) + 1) = ((f + 1 : Nat) : Int) := rfl
    have e2 : (((s + 1 : Nat) : Int) - 1) = (s : Int) := by omega
    rw [List.map_cons, forL_turn (e' := [some a, some (.int (m : Int)), some (.int ((s + 1 : Nat) : Int)), some (.list ((found ++ (picks (List.range' (f + 1) n) s).map (fun r => f :: r)).map wD)), none, none])]
    · rw [pick_loop k s m a ih hs n (f + 1) _ (by omega) (by omega) (by rw [List.length_append, List.length_map]; omega), List.append_assoc]
    · simp -implicitDefEqProofs (disch := first | omega | (simp only [List.length_map, List.length_append, List.length_cons, List.length_nil, List.length_range, List.length_take, List.length_drop, List.length_replicate, List.length_set, List.length_reverse] <;> omega) | (refine mulC_small ?_; omega) | (refine mulC_smallR ?_; omega) | (refine divC_small ?_ ?_ <;> omega) | (refine powC_small ?_ ?_ ?_ <;> omega)) only [v_run, v_iTp, tup?_tuple, v_sIfM2, k_ifM2_0, k_ifM2_1, v_srtSet, k_srtSet, v_sZ, k_sZ, v_sReb, v_sClr, k_sClr, v_pinF, k_pin, v_iZp3, k_zp3, v_setP, setPK_of, v_appP, k_appP, k_appP1, k_appP2, k_appP3, k_appP4, List.getElem?_cons_zero, List.getElem?_cons_succ, v_lSortP, k_srtP0, v_lRng, k_rng, hRg1_of, v_seq, v_set', v_setL', v_ret', v_retL', v_if', v_for', v_par', v_aug', v_augK, v_tgt', v_sub', v_mut', v_d1, v_d2, v_d3, v_dB, v_dSc, v_dScs, v_cons, v_tup', v_lst', v_dA, v_dAL, v_and', v_or', v_not', v_dT, v_iL, v_iR1, v_iR2, v_iR3, v_iEn, v_iZp, v_lCut, v_lOf, v_lCat, v_lRep, v_lRepE, k_rep0, v_rt', k_rt, v_idx, k_idx, v_lRev, k_rev, v_lSortI, v_lComp, v_oS, b_assoc, k_cmp, k_seq1, k_seq2, k_seq3, k_seq4, k_set, k_setL, k_ret, k_retL, k_if1, k_if2, k_for, k_par, k_aug2, k_tgt, k_tgt2, k_sub, k_sub1, k_sub2, k_sub3, k_mut, k_mut1, k_mut2, k_d2, k_d3, k_d31, k_d321, k_d322, k_bool, k_cons, k_cons2, k_tup, k_lst, k_al, k_and1, k_and2, k_or1, k_or2, k_not, k_dt, k_en, k_zp, k_cut, k_cut1, k_cut2, k_os, k_cat, k_rep, k_srt0, k_srt, k_comp, k_run1, k_run2, k_go1, k_go2, w_turn, w_turnR, w_turnW, w_nx, w_bk, w_ct, w_rN, w_V, w_C, w_nil, w_oN, w_yes, w_gSet, w_gTup, w_gsCons, w_gsNil, w_add, w_subI, w_lt, w_le, w_gt, w_ge, w_neg, w_isN, w_notN, w_n0, w_n1, w_n2, w_n3, w_n4, w_len1, w_len2, w_min2, w_max2, w_int1, w_int2, w_clr, w_ixL, w_ixT, w_sum, w_any, w_kil0, w_kil1, k_sc_int, k_sc_bool, k_sc_none, k_sc_str, k_scs_of, items?_list, items?_tuple, list?_list, cutD_map, all_int, all_int', List.length_map, hApp_of, hExt_of, hIns_of, hCat_of, hRep_of, hR1_of, hR2_of, hR3_of, hMul_of, hDiv_of, hMod_of, p10_3, p10_4, p10_5, p10_6, p10_7, p10_8, p10_9, p10_12, p10_50, p50_3, p50_4, atI_map, k_scs_int, List.getD_cons_zero, List.getD_cons_succ, List.set_cons_zero, List.set_cons_succ, List.map_cons, List.map_nil, List.cons_append, List.nil_append, List.append_nil, List.length_cons, List.length_nil, Option.bind_some, Option.bind_none, Option.map_some, Option.map_none, ↓reduceIte, Nat.reduceAdd, Nat.reduceSub, Int.reduceAdd, Int.reduceSub, Int.reduceMul, Int.reduceNeg, Nat.reduceLeDiff, Nat.reduceLT, Nat.reduceEqDiff, Nat.zero_add, List.reduceReplicate, List.replicate_zero, List.replicate_one, List.replicate_succ, Bool.and_true, Bool.true_and, Bool.not_true, Bool.not_false, decide_true, decide_false, Bool.false_eq_true, reduceCtorEq, and_self, if_false, if_true, hIsi_int_int, hIsi_int_bool, hIsi_int_list, hIsi_int_tuple, hIsi_int_str, hIsi_bool_int, hIsi_bool_bool, hIsi_bool_list, hIsi_bool_tuple, hIsi_bool_str, hIsi_none_int, hIsi_none_bool, hIsi_none_list, hIsi_none_tuple, hIsi_none_str, hIsi_list_int, hIsi_list_bool, hIsi_list_list, hIsi_list_tuple, hIsi_list_str, hIsi_tuple_int, hIsi_tuple_bool, hIsi_tuple_list, hIsi_tuple_tuple, hIsi_tuple_str, hIsi_str_int, hIsi_str_bool, hIsi_str_list, hIsi_str_tuple, hIsi_str_str, ni, e1, e2, i1]
      refine b_word (enc := fun x : List (List Nat) => [some a, some (.int (m : Int)), some (.int ((s + 1 : Nat) : Int)), some (.list (x.map wD)), some (.int (f : Int)), none]) (cv := wD)
        (fun q x => x = found ++ q.map (fun r => f :: r)) (picks (List.range' (f + 1) n) s) found (by rw [List.map_nil, List.append_nil]) ?_ (fun x hx => ?_)
      · intro q r t x hx hq
        have lq : q.length < (picks (List.range' (f + 1) n) s).length := by
          have := congrArg List.length hx
          rw [List.length_append, List.length_cons] at this
          omega
        have lr : r.length = s := (picks_mem _ s r (by rw [← hx]; simp)).2
        have lx : x.length < 1000000 := by rw [hq, List.length_append, List.length_map]; omega
        refine ⟨x ++ [f :: r], ?_, by rw [hq, List.map_append, List.append_assoc]; rfl⟩
        simp -implicitDefEqProofs (disch := first | omega | (simp only [List.length_map, List.length_append, List.length_cons, List.length_nil, List.length_range, List.length_take, List.length_drop, List.length_replicate, List.length_set, List.length_reverse] <;> omega) | (refine mulC_small ?_; omega) | (refine mulC_smallR ?_; omega) | (refine divC_small ?_ ?_ <;> omega) | (refine powC_small ?_ ?_ ?_ <;> omega)) only [v_run, v_iTp, tup?_tuple, v_sIfM2, k_ifM2_0, k_ifM2_1, v_srtSet, k_srtSet, v_sZ, k_sZ, v_sReb, v_sClr, k_sClr, v_pinF, k_pin, v_iZp3, k_zp3, v_setP, setPK_of, v_appP, k_appP, k_appP1, k_appP2, k_appP3, k_appP4, List.getElem?_cons_zero, List.getElem?_cons_succ, v_lSortP, k_srtP0, v_lRng, k_rng, hRg1_of, v_seq, v_set', v_setL', v_ret', v_retL', v_if', v_for', v_par', v_aug', v_augK, v_tgt', v_sub', v_mut', v_d1, v_d2, v_d3, v_dB, v_dSc, v_dScs, v_cons, v_tup', v_lst', v_dA, v_dAL, v_and', v_or', v_not', v_dT, v_iL, v_iR1, v_iR2, v_iR3, v_iEn, v_iZp, v_lCut, v_lOf, v_lCat, v_lRep, v_lRepE, k_rep0, v_rt', k_rt, v_idx, k_idx, v_lRev, k_rev, v_lSortI, v_lComp, v_oS, b_assoc, k_cmp, k_seq1, k_seq2, k_seq3, k_seq4, k_set, k_setL, k_ret, k_retL, k_if1, k_if2, k_for, k_par, k_aug2, k_tgt, k_tgt2, k_sub, k_sub1, k_sub2, k_sub3, k_mut, k_mut1, k_mut2, k_d2, k_d3, k_d31, k_d321, k_d322, k_bool, k_cons, k_cons2, k_tup, k_lst, k_al, k_and1, k_and2, k_or1, k_or2, k_not, k_dt, k_en, k_zp, k_cut, k_cut1, k_cut2, k_os, k_cat, k_rep, k_srt0, k_srt, k_comp, k_run1, k_run2, k_go1, k_go2, w_turn, w_turnR, w_turnW, w_nx, w_bk, w_ct, w_rN, w_V, w_C, w_nil, w_oN, w_yes, w_gSet, w_gTup, w_gsCons, w_gsNil, w_add, w_subI, w_lt, w_le, w_gt, w_ge, w_neg, w_isN, w_notN, w_n0, w_n1, w_n2, w_n3, w_n4, w_len1, w_len2, w_min2, w_max2, w_int1, w_int2, w_clr, w_ixL, w_ixT, w_sum, w_any, w_kil0, w_kil1, k_sc_int, k_sc_bool, k_sc_none, k_sc_str, k_scs_of, items?_list, items?_tuple, list?_list, cutD_map, all_int, all_int', List.length_map, hApp_of, hExt_of, hIns_of, hCat_of, hRep_of, hR1_of, hR2_of, hR3_of, hMul_of, hDiv_of, hMod_of, p10_3, p10_4, p10_5, p10_6, p10_7, p10_8, p10_9, p10_12, p10_50, p50_3, p50_4, atI_map, k_scs_int, List.getD_cons_zero, List.getD_cons_succ, List.set_cons_zero, List.set_cons_succ, List.map_cons, List.map_nil, List.cons_append, List.nil_append, List.append_nil, List.length_cons, List.length_nil, Option.bind_some, Option.bind_none, Option.map_some, Option.map_none, ↓reduceIte, Nat.reduceAdd, Nat.reduceSub, Int.reduceAdd, Int.reduceSub, Int.reduceMul, Int.reduceNeg, Nat.reduceLeDiff, Nat.reduceLT, Nat.reduceEqDiff, Nat.zero_add, List.reduceReplicate, List.replicate_zero, List.replicate_one, List.replicate_succ, Bool.and_true, Bool.true_and, Bool.not_true, Bool.not_false, decide_true, decide_false, Bool.false_eq_true, reduceCtorEq, and_self, if_false, if_true, hIsi_int_int, hIsi_int_bool, hIsi_int_list, hIsi_int_tuple, hIsi_int_str, hIsi_bool_int, hIsi_bool_bool, hIsi_bool_list, hIsi_bool_tuple, hIsi_bool_str, hIsi_none_int, hIsi_none_bool, hIsi_none_list, hIsi_none_tuple, hIsi_none_str, hIsi_list_int, hIsi_list_bool, hIsi_list_list, hIsi_list_tuple, hIsi_list_str, hIsi_tuple_int, hIsi_tuple_bool, hIsi_tuple_list, hIsi_tuple_tuple, hIsi_tuple_str, hIsi_str_int, hIsi_str_bool, hIsi_str_list, hIsi_str_tuple, hIsi_str_str, wD, List.map_append, ni]
      · simp -implicitDefEqProofs (disch := first | omega | (simp only [List.length_map, List.length_append, List.length_cons, List.length_nil, List.length_range, List.length_take, List.length_drop, List.length_replicate, List.length_set, List.length_reverse] <;> omega) | (refine mulC_small ?_; omega) | (refine mulC_smallR ?_; omega) | (refine divC_small ?_ ?_ <;> omega) | (refine powC_small ?_ ?_ ?_ <;> omega)) only [v_run, v_iTp, tup?_tuple, v_sIfM2, k_ifM2_0, k_ifM2_1, v_srtSet, k_srtSet, v_sZ, k_sZ, v_sReb, v_sClr, k_sClr, v_pinF, k_pin, v_iZp3, k_zp3, v_setP, setPK_of, v_appP, k_appP, k_appP1, k_appP2, k_appP3, k_appP4, List.getElem?_cons_zero, List.getElem?_cons_succ, v_lSortP, k_srtP0, v_lRng, k_rng, hRg1_of, v_seq, v_set', v_setL', v_ret', v_retL', v_if', v_for', v_par', v_aug', v_augK, v_tgt', v_sub', v_mut', v_d1, v_d2, v_d3, v_dB, v_dSc, v_dScs, v_cons, v_tup', v_lst', v_dA, v_dAL, v_and', v_or', v_not', v_dT, v_iL, v_iR1, v_iR2, v_iR3, v_iEn, v_iZp, v_lCut, v_lOf, v_lCat, v_lRep, v_lRepE, k_rep0, v_rt', k_rt, v_idx, k_idx, v_lRev, k_rev, v_lSortI, v_lComp, v_oS, b_assoc, k_cmp, k_seq1, k_seq2, k_seq3, k_seq4, k_set, k_setL, k_ret, k_retL, k_if1, k_if2, k_for, k_par, k_aug2, k_tgt, k_tgt2, k_sub, k_sub1, k_sub2, k_sub3, k_mut, k_mut1, k_mut2, k_d2, k_d3, k_d31, k_d321, k_d322, k_bool, k_cons, k_cons2, k_tup, k_lst, k_al, k_and1, k_and2, k_or1, k_or2, k_not, k_dt, k_en, k_zp, k_cut, k_cut1, k_cut2, k_os, k_cat, k_rep, k_srt0, k_srt, k_comp, k_run1, k_run2, k_go1, k_go2, w_turn, w_turnR, w_turnW, w_nx, w_bk, w_ct, w_rN, w_V, w_C, w_nil, w_oN, w_yes, w_gSet, w_gTup, w_gsCons, w_gsNil, w_add, w_subI, w_lt, w_le, w_gt, w_ge, w_neg, w_isN, w_notN, w_n0, w_n1, w_n2, w_n3, w_n4, w_len1, w_len2, w_min2, w_max2, w_int1, w_int2, w_clr, w_ixL, w_ixT, w_sum, w_any, w_kil0, w_kil1, k_sc_int, k_sc_bool, k_sc_none, k_sc_str, k_scs_of, items?_list, items?_tuple, list?_list, cutD_map, all_int, all_int', List.length_map, hApp_of, hExt_of, hIns_of, hCat_of, hRep_of, hR1_of, hR2_of, hR3_of, hMul_of, hDiv_of, hMod_of, p10_3, p10_4, p10_5, p10_6, p10_7, p10_8, p10_9, p10_12, p10_50, p50_3, p50_4, atI_map, k_scs_int, List.getD_cons_zero, List.getD_cons_succ, List.set_cons_zero, List.set_cons_succ, List.map_cons, List.map_nil, List.cons_append, List.nil_append, List.append_nil, List.length_cons, List.length_nil, Option.bind_some, Option.bind_none, Option.map_some, Option.map_none, ↓reduceIte, Nat.reduceAdd, Nat.reduceSub, Int.reduceAdd, Int.reduceSub, Int.reduceMul, Int.reduceNeg, Nat.reduceLeDiff, Nat.reduceLT, Nat.reduceEqDiff, Nat.zero_add, List.reduceReplicate, List.replicate_zero, List.replicate_one, List.replicate_succ, Bool.and_true, Bool.true_and, Bool.not_true, Bool.not_false, decide_true, decide_false, Bool.false_eq_true, reduceCtorEq, and_self, if_false, if_true, hIsi_int_int, hIsi_int_bool, hIsi_int_list, hIsi_int_tuple, hIsi_int_str, hIsi_bool_int, hIsi_bool_bool, hIsi_bool_list, hIsi_bool_tuple, hIsi_bool_str, hIsi_none_int, hIsi_none_bool, hIsi_none_list, hIsi_none_tuple, hIsi_none_str, hIsi_list_int, hIsi_list_bool, hIsi_list_list, hIsi_list_tuple, hIsi_list_str, hIsi_tuple_int, hIsi_tuple_bool, hIsi_tuple_list, hIsi_tuple_tuple, hIsi_tuple_str, hIsi_str_int, hIsi_str_bool, hIsi_str_list, hIsi_str_tuple, hIsi_str_str, hx]
theorem picksR_ev (m : Nat) (hm : m ≤ 12) : ∀ (s k f : Nat), s < k → s ≤ 1000 → f ≤ m → semR_picks_of k [.int (f : Int), .int (m : Int), .int (s : Int)] = some (.list ((picks (List.range' f (m - f)) s).map wD))
  | _, 0, _, h, _, _ => absurd h (Nat.not_lt_zero _)
  | 0, k + 1, f, _, _, _ => by
    rw [picks_0]
    show semR_picks_of (k + 1) [.int (f : Int), .int (m : Int), .int 0] = _
    simp -implicitDefEqProofs (disch := first | omega | (simp only [List.length_map, List.length_append, List.length_cons, List.length_nil, List.length_range, List.length_take, List.length_drop, List.length_replicate, List.length_set, List.length_reverse] <;> omega) | (refine mulC_small ?_; omega) | (refine mulC_smallR ?_; omega) | (refine divC_small ?_ ?_ <;> omega) | (refine powC_small ?_ ?_ ?_ <;> omega)) only [v_run, v_iTp, tup?_tuple, v_sIfM2, k_ifM2_0, k_ifM2_1, v_srtSet, k_srtSet, v_sZ, k_sZ, v_sReb, v_sClr, k_sClr, v_pinF, k_pin, v_iZp3, k_zp3, v_setP, setPK_of, v_appP, k_appP, k_appP1, k_appP2, k_appP3, k_appP4, List.getElem?_cons_zero, List.getElem?_cons_succ, v_lSortP, k_srtP0, v_lRng, k_rng, hRg1_of, v_seq, v_set', v_setL', v_ret', v_retL', v_if', v_for', v_par', v_aug', v_augK, v_tgt', v_sub', v_mut', v_d1, v_d2, v_d3, v_dB, v_dSc, v_dScs, v_cons, v_tup', v_lst', v_dA, v_dAL, v_and', v_or', v_not', v_dT, v_iL, v_iR1, v_iR2, v_iR3, v_iEn, v_iZp, v_lCut, v_lOf, v_lCat, v_lRep, v_lRepE, k_rep0, v_rt', k_rt, v_idx, k_idx, v_lRev, k_rev, v_lSortI, v_lComp, v_oS, b_assoc, k_cmp, k_seq1, k_seq2, k_seq3, k_seq4, k_set, k_setL, k_ret, k_retL, k_if1, k_if2, k_for, k_par, k_aug2, k_tgt, k_tgt2, k_sub, k_sub1, k_sub2, k_sub3, k_mut, k_mut1, k_mut2, k_d2, k_d3, k_d31, k_d321, k_d322, k_bool, k_cons, k_cons2, k_tup, k_lst, k_al, k_and1, k_and2, k_or1, k_or2, k_not, k_dt, k_en, k_zp, k_cut, k_cut1, k_cut2, k_os, k_cat, k_rep, k_srt0, k_srt, k_comp, k_run1, k_run2, k_go1, k_go2, w_turn, w_turnR, w_turnW, w_nx, w_bk, w_ct, w_rN, w_V, w_C, w_nil, w_oN, w_yes, w_gSet, w_gTup, w_gsCons, w_gsNil, w_add, w_subI, w_lt, w_le, w_gt, w_ge, w_neg, w_isN, w_notN, w_n0, w_n1, w_n2, w_n3, w_n4, w_len1, w_len2, w_min2, w_max2, w_int1, w_int2, w_clr, w_ixL, w_ixT, w_sum, w_any, w_kil0, w_kil1, k_sc_int, k_sc_bool, k_sc_none, k_sc_str, k_scs_of, items?_list, items?_tuple, list?_list, cutD_map, all_int, all_int', List.length_map, hApp_of, hExt_of, hIns_of, hCat_of, hRep_of, hR1_of, hR2_of, hR3_of, hMul_of, hDiv_of, hMod_of, p10_3, p10_4, p10_5, p10_6, p10_7, p10_8, p10_9, p10_12, p10_50, p50_3, p50_4, atI_map, k_scs_int, List.getD_cons_zero, List.getD_cons_succ, List.set_cons_zero, List.set_cons_succ, List.map_cons, List.map_nil, List.cons_append, List.nil_append, List.append_nil, List.length_cons, List.length_nil, Option.bind_some, Option.bind_none, Option.map_some, Option.map_none, ↓reduceIte, Nat.reduceAdd, Nat.reduceSub, Int.reduceAdd, Int.reduceSub, Int.reduceMul, Int.reduceNeg, Nat.reduceLeDiff, Nat.reduceLT, Nat.reduceEqDiff, Nat.zero_add, List.reduceReplicate, List.replicate_zero, List.replicate_one, List.replicate_succ, Bool.and_true, Bool.true_and, Bool.not_true, Bool.not_false, decide_true, decide_false, Bool.false_eq_true, reduceCtorEq, and_self, if_false, if_true, hIsi_int_int, hIsi_int_bool, hIsi_int_list, hIsi_int_tuple, hIsi_int_str, hIsi_bool_int, hIsi_bool_bool, hIsi_bool_list, hIsi_bool_tuple, hIsi_bool_str, hIsi_none_int, hIsi_none_bool, hIsi_none_list, hIsi_none_tuple, hIsi_none_str, hIsi_list_int, hIsi_list_bool, hIsi_list_list, hIsi_list_tuple, hIsi_list_str, hIsi_tuple_int, hIsi_tuple_bool, hIsi_tuple_list, hIsi_tuple_tuple, hIsi_tuple_str, hIsi_str_int, hIsi_str_bool, hIsi_str_list, hIsi_str_tuple, hIsi_str_str, semR_picks_of, hEq_int, beq_self_eq_true]
    rfl
  | s + 1, k + 1, f, h, hs, hf => by
    have e0 : (((s + 1 : Nat) : Int) == 0) = false := by
      rw [beq_eq_false_iff_ne]
      omega
    have pl := picks_len (List.range' f (m - f)) (s + 1)
    rw [List.length_range'] at pl
    have p2 : 2 ^ (m - f) ≤ 2 ^ 12 := Nat.pow_le_pow_right (by decide) (by omega)
    have lp := pick_loop k s m (.int (f : Int)) (fun f hf => picksR_ev m hm s k f (by omega) (by omega) hf) (by omega) (m - f) f [] (by omega) (by omega) (by rw [List.length_nil]; omega)
    rw [List.map_nil, List.nil_append] at lp
    simp -implicitDefEqProofs (disch := first | omega | (simp only [List.length_map, List.length_append, List.length_cons, List.length_nil, List.length_range, List.length_take, List.length_drop, List.length_replicate, List.length_set, List.length_reverse] <;> omega) | (refine mulC_small ?_; omega) | (refine mulC_smallR ?_; omega) | (refine divC_small ?_ ?_ <;> omega) | (refine powC_small ?_ ?_ ?_ <;> omega)) only [v_run, v_iTp, tup?_tuple, v_sIfM2, k_ifM2_0, k_ifM2_1, v_srtSet, k_srtSet, v_sZ, k_sZ, v_sReb, v_sClr, k_sClr, v_pinF, k_pin, v_iZp3, k_zp3, v_setP, setPK_of, v_appP, k_appP, k_appP1, k_appP2, k_appP3, k_appP4, List.getElem?_cons_zero, List.getElem?_cons_succ, v_lSortP, k_srtP0, v_lRng, k_rng, hRg1_of, v_seq, v_set', v_setL', v_ret', v_retL', v_if', v_for', v_par', v_aug', v_augK, v_tgt', v_sub', v_mut', v_d1, v_d2, v_d3, v_dB, v_dSc, v_dScs, v_cons, v_tup', v_lst', v_dA, v_dAL, v_and', v_or', v_not', v_dT, v_iL, v_iR1, v_iR2, v_iR3, v_iEn, v_iZp, v_lCut, v_lOf, v_lCat, v_lRep, v_lRepE, k_rep0, v_rt', k_rt, v_idx, k_idx, v_lRev, k_rev, v_lSortI, v_lComp, v_oS, b_assoc, k_cmp, k_seq1, k_seq2, k_seq3, k_seq4, k_set, k_setL, k_ret, k_retL, k_if1, k_if2, k_for, k_par, k_aug2, k_tgt, k_tgt2, k_sub, k_sub1, k_sub2, k_sub3, k_mut, k_mut1, k_mut2, k_d2, k_d3, k_d31, k_d321, k_d322, k_bool, k_cons, k_cons2, k_tup, k_lst, k_al, k_and1, k_and2, k_or1, k_or2, k_not, k_dt, k_en, k_zp, k_cut, k_cut1, k_cut2, k_os, k_cat, k_rep, k_srt0, k_srt, k_comp, k_run1, k_run2, k_go1, k_go2, w_turn, w_turnR, w_turnW, w_nx, w_bk, w_ct, w_rN, w_V, w_C, w_nil, w_oN, w_yes, w_gSet, w_gTup, w_gsCons, w_gsNil, w_add, w_subI, w_lt, w_le, w_gt, w_ge, w_neg, w_isN, w_notN, w_n0, w_n1, w_n2, w_n3, w_n4, w_len1, w_len2, w_min2, w_max2, w_int1, w_int2, w_clr, w_ixL, w_ixT, w_sum, w_any, w_kil0, w_kil1, k_sc_int, k_sc_bool, k_sc_none, k_sc_str, k_scs_of, items?_list, items?_tuple, list?_list, cutD_map, all_int, all_int', List.length_map, hApp_of, hExt_of, hIns_of, hCat_of, hRep_of, hR1_of, hR2_of, hR3_of, hMul_of, hDiv_of, hMod_of, p10_3, p10_4, p10_5, p10_6, p10_7, p10_8, p10_9, p10_12, p10_50, p50_3, p50_4, atI_map, k_scs_int, List.getD_cons_zero, List.getD_cons_succ, List.set_cons_zero, List.set_cons_succ, List.map_cons, List.map_nil, List.cons_append, List.nil_append, List.append_nil, List.length_cons, List.length_nil, Option.bind_some, Option.bind_none, Option.map_some, Option.map_none, ↓reduceIte, Nat.reduceAdd, Nat.reduceSub, Int.reduceAdd, Int.reduceSub, Int.reduceMul, Int.reduceNeg, Nat.reduceLeDiff, Nat.reduceLT, Nat.reduceEqDiff, Nat.zero_add, List.reduceReplicate, List.replicate_zero, List.replicate_one, List.replicate_succ, Bool.and_true, Bool.true_and, Bool.not_true, Bool.not_false, decide_true, decide_false, Bool.false_eq_true, reduceCtorEq, and_self, if_false, if_true, hIsi_int_int, hIsi_int_bool, hIsi_int_list, hIsi_int_tuple, hIsi_int_str, hIsi_bool_int, hIsi_bool_bool, hIsi_bool_list, hIsi_bool_tuple, hIsi_bool_str, hIsi_none_int, hIsi_none_bool, hIsi_none_list, hIsi_none_tuple, hIsi_none_str, hIsi_list_int, hIsi_list_bool, hIsi_list_list, hIsi_list_tuple, hIsi_list_str, hIsi_tuple_int, hIsi_tuple_bool, hIsi_tuple_list, hIsi_tuple_tuple, hIsi_tuple_str, hIsi_str_int, hIsi_str_bool, hIsi_str_list, hIsi_str_tuple, hIsi_str_str, semR_picks_of, hEq_int, e0, rangeD_ni, lp]

theorem all_len (q : Nat → Bool) : ∀ a : List Nat, (((a.filter q).length : Int) == (a.length : Int)) = a.all q
  | [] => rfl
  | w :: a => by
    have ih := all_len q a
    have hl := List.length_filter_le q a
    rw [List.all_cons, List.length_cons]
    cases e : q w
    · rw [List.filter_cons_of_neg (by rw [e]; decide), Bool.false_and, beq_eq_false_iff_ne]
      omega
    · rw [List.filter_cons_of_pos e, List.length_cons, Bool.true_and, ← ih, Bool.eq_iff_iff, beq_iff_eq, beq_iff_eq]
      omega
def grpF (ws : List (List Nat)) (asked done : List Nat) : List Nat := (List.range ws.length).filter fun i => asked.all (fun k => (ws.getD i []).contains k) && decide ((((ws.getD i []).filter fun k => done.contains k).length : Int) < (asked.length : Int))
theorem grpF_len (ws : List (List Nat)) (asked done : List Nat) : (grpF ws asked done).length ≤ ws.length := by
  have := List.length_filter_le (fun i => asked.all (fun k => (ws.getD i []).contains k) && decide ((((ws.getD i []).filter fun k => done.contains k).length : Int) < (asked.length : Int))) (List.range ws.length)
  rw [List.length_range] at this
  exact this
theorem mem_grpF {ws : List (List Nat)} {asked done : List Nat} {i : Nat} (h : i ∈ grpF ws asked done) : i < ws.length ∧ (∀ c ∈ asked, (ws.getD i []).contains c = true) ∧ ((ws.getD i []).filter fun k => done.contains k).length < asked.length := by
  unfold grpF at h
  obtain ⟨a, b⟩ := List.mem_filter.mp h
  rw [Bool.and_eq_true] at b
  have := of_decide_eq_true b.2
  exact ⟨List.mem_range.mp a, fun c hc => List.all_eq_true.mp b.1 c hc, by omega⟩

theorem cost_ev (cs : List Int) (as : List Nat) (ha : ∀ a ∈ as, a < cs.length) (hl : as.length ≤ 1000) : sem_cost_of [.list (cs.map PyData.int), .list (as.map ni)] = some (.int (as.map fun a => cs.getD a 0).sum) := by
  simp -implicitDefEqProofs (disch := first | omega | (simp only [List.length_map, List.length_append, List.length_cons, List.length_nil, List.length_range, List.length_take, List.length_drop, List.length_replicate, List.length_set, List.length_reverse] <;> omega) | (refine mulC_small ?_; omega) | (refine mulC_smallR ?_; omega) | (refine divC_small ?_ ?_ <;> omega) | (refine powC_small ?_ ?_ ?_ <;> omega)) only [v_run, v_iTp, tup?_tuple, v_sIfM2, k_ifM2_0, k_ifM2_1, v_srtSet, k_srtSet, v_sZ, k_sZ, v_sReb, v_sClr, k_sClr, v_pinF, k_pin, v_iZp3, k_zp3, v_setP, setPK_of, v_appP, k_appP, k_appP1, k_appP2, k_appP3, k_appP4, List.getElem?_cons_zero, List.getElem?_cons_succ, v_lSortP, k_srtP0, v_lRng, k_rng, hRg1_of, v_seq, v_set', v_setL', v_ret', v_retL', v_if', v_for', v_par', v_aug', v_augK, v_tgt', v_sub', v_mut', v_d1, v_d2, v_d3, v_dB, v_dSc, v_dScs, v_cons, v_tup', v_lst', v_dA, v_dAL, v_and', v_or', v_not', v_dT, v_iL, v_iR1, v_iR2, v_iR3, v_iEn, v_iZp, v_lCut, v_lOf, v_lCat, v_lRep, v_lRepE, k_rep0, v_rt', k_rt, v_idx, k_idx, v_lRev, k_rev, v_lSortI, v_lComp, v_oS, b_assoc, k_cmp, k_seq1, k_seq2, k_seq3, k_seq4, k_set, k_setL, k_ret, k_retL, k_if1, k_if2, k_for, k_par, k_aug2, k_tgt, k_tgt2, k_sub, k_sub1, k_sub2, k_sub3, k_mut, k_mut1, k_mut2, k_d2, k_d3, k_d31, k_d321, k_d322, k_bool, k_cons, k_cons2, k_tup, k_lst, k_al, k_and1, k_and2, k_or1, k_or2, k_not, k_dt, k_en, k_zp, k_cut, k_cut1, k_cut2, k_os, k_cat, k_rep, k_srt0, k_srt, k_comp, k_run1, k_run2, k_go1, k_go2, w_turn, w_turnR, w_turnW, w_nx, w_bk, w_ct, w_rN, w_V, w_C, w_nil, w_oN, w_yes, w_gSet, w_gTup, w_gsCons, w_gsNil, w_add, w_subI, w_lt, w_le, w_gt, w_ge, w_neg, w_isN, w_notN, w_n0, w_n1, w_n2, w_n3, w_n4, w_len1, w_len2, w_min2, w_max2, w_int1, w_int2, w_clr, w_ixL, w_ixT, w_sum, w_any, w_kil0, w_kil1, k_sc_int, k_sc_bool, k_sc_none, k_sc_str, k_scs_of, items?_list, items?_tuple, list?_list, cutD_map, all_int, all_int', List.length_map, hApp_of, hExt_of, hIns_of, hCat_of, hRep_of, hR1_of, hR2_of, hR3_of, hMul_of, hDiv_of, hMod_of, p10_3, p10_4, p10_5, p10_6, p10_7, p10_8, p10_9, p10_12, p10_50, p50_3, p50_4, atI_map, k_scs_int, List.getD_cons_zero, List.getD_cons_succ, List.set_cons_zero, List.set_cons_succ, List.map_cons, List.map_nil, List.cons_append, List.nil_append, List.append_nil, List.length_cons, List.length_nil, Option.bind_some, Option.bind_none, Option.map_some, Option.map_none, ↓reduceIte, Nat.reduceAdd, Nat.reduceSub, Int.reduceAdd, Int.reduceSub, Int.reduceMul, Int.reduceNeg, Nat.reduceLeDiff, Nat.reduceLT, Nat.reduceEqDiff, Nat.zero_add, List.reduceReplicate, List.replicate_zero, List.replicate_one, List.replicate_succ, Bool.and_true, Bool.true_and, Bool.not_true, Bool.not_false, decide_true, decide_false, Bool.false_eq_true, reduceCtorEq, and_self, if_false, if_true, hIsi_int_int, hIsi_int_bool, hIsi_int_list, hIsi_int_tuple, hIsi_int_str, hIsi_bool_int, hIsi_bool_bool, hIsi_bool_list, hIsi_bool_tuple, hIsi_bool_str, hIsi_none_int, hIsi_none_bool, hIsi_none_list, hIsi_none_tuple, hIsi_none_str, hIsi_list_int, hIsi_list_bool, hIsi_list_list, hIsi_list_tuple, hIsi_list_str, hIsi_tuple_int, hIsi_tuple_bool, hIsi_tuple_list, hIsi_tuple_tuple, hIsi_tuple_str, hIsi_str_int, hIsi_str_bool, hIsi_str_list, hIsi_str_tuple, hIsi_str_str, sem_cost_of]
  refine b_mapI (cv := ni) (fun a => cs.getD a 0) as (by omega) (fun a h => ?_) ?_
  · refine ⟨_, rfl, rfl, ?_⟩
    simp -implicitDefEqProofs (disch := first | omega | (simp only [List.length_map, List.length_append, List.length_cons, List.length_nil, List.length_range, List.length_take, List.length_drop, List.length_replicate, List.length_set, List.length_reverse] <;> omega) | (refine mulC_small ?_; omega) | (refine mulC_smallR ?_; omega) | (refine divC_small ?_ ?_ <;> omega) | (refine powC_small ?_ ?_ ?_ <;> omega)) only [v_run, v_iTp, tup?_tuple, v_sIfM2, k_ifM2_0, k_ifM2_1, v_srtSet, k_srtSet, v_sZ, k_sZ, v_sReb, v_sClr, k_sClr, v_pinF, k_pin, v_iZp3, k_zp3, v_setP, setPK_of, v_appP, k_appP, k_appP1, k_appP2, k_appP3, k_appP4, List.getElem?_cons_zero, List.getElem?_cons_succ, v_lSortP, k_srtP0, v_lRng, k_rng, hRg1_of, v_seq, v_set', v_setL', v_ret', v_retL', v_if', v_for', v_par', v_aug', v_augK, v_tgt', v_sub', v_mut', v_d1, v_d2, v_d3, v_dB, v_dSc, v_dScs, v_cons, v_tup', v_lst', v_dA, v_dAL, v_and', v_or', v_not', v_dT, v_iL, v_iR1, v_iR2, v_iR3, v_iEn, v_iZp, v_lCut, v_lOf, v_lCat, v_lRep, v_lRepE, k_rep0, v_rt', k_rt, v_idx, k_idx, v_lRev, k_rev, v_lSortI, v_lComp, v_oS, b_assoc, k_cmp, k_seq1, k_seq2, k_seq3, k_seq4, k_set, k_setL, k_ret, k_retL, k_if1, k_if2, k_for, k_par, k_aug2, k_tgt, k_tgt2, k_sub, k_sub1, k_sub2, k_sub3, k_mut, k_mut1, k_mut2, k_d2, k_d3, k_d31, k_d321, k_d322, k_bool, k_cons, k_cons2, k_tup, k_lst, k_al, k_and1, k_and2, k_or1, k_or2, k_not, k_dt, k_en, k_zp, k_cut, k_cut1, k_cut2, k_os, k_cat, k_rep, k_srt0, k_srt, k_comp, k_run1, k_run2, k_go1, k_go2, w_turn, w_turnR, w_turnW, w_nx, w_bk, w_ct, w_rN, w_V, w_C, w_nil, w_oN, w_yes, w_gSet, w_gTup, w_gsCons, w_gsNil, w_add, w_subI, w_lt, w_le, w_gt, w_ge, w_neg, w_isN, w_notN, w_n0, w_n1, w_n2, w_n3, w_n4, w_len1, w_len2, w_min2, w_max2, w_int1, w_int2, w_clr, w_ixL, w_ixT, w_sum, w_any, w_kil0, w_kil1, k_sc_int, k_sc_bool, k_sc_none, k_sc_str, k_scs_of, items?_list, items?_tuple, list?_list, cutD_map, all_int, all_int', List.length_map, hApp_of, hExt_of, hIns_of, hCat_of, hRep_of, hR1_of, hR2_of, hR3_of, hMul_of, hDiv_of, hMod_of, p10_3, p10_4, p10_5, p10_6, p10_7, p10_8, p10_9, p10_12, p10_50, p50_3, p50_4, atI_map, k_scs_int, List.getD_cons_zero, List.getD_cons_succ, List.set_cons_zero, List.set_cons_succ, List.map_cons, List.map_nil, List.cons_append, List.nil_append, List.append_nil, List.length_cons, List.length_nil, Option.bind_some, Option.bind_none, Option.map_some, Option.map_none, ↓reduceIte, Nat.reduceAdd, Nat.reduceSub, Int.reduceAdd, Int.reduceSub, Int.reduceMul, Int.reduceNeg, Nat.reduceLeDiff, Nat.reduceLT, Nat.reduceEqDiff, Nat.zero_add, List.reduceReplicate, List.replicate_zero, List.replicate_one, List.replicate_succ, Bool.and_true, Bool.true_and, Bool.not_true, Bool.not_false, decide_true, decide_false, Bool.false_eq_true, reduceCtorEq, and_self, if_false, if_true, hIsi_int_int, hIsi_int_bool, hIsi_int_list, hIsi_int_tuple, hIsi_int_str, hIsi_bool_int, hIsi_bool_bool, hIsi_bool_list, hIsi_bool_tuple, hIsi_bool_str, hIsi_none_int, hIsi_none_bool, hIsi_none_list, hIsi_none_tuple, hIsi_none_str, hIsi_list_int, hIsi_list_bool, hIsi_list_list, hIsi_list_tuple, hIsi_list_str, hIsi_tuple_int, hIsi_tuple_bool, hIsi_tuple_list, hIsi_tuple_tuple, hIsi_tuple_str, hIsi_str_int, hIsi_str_bool, hIsi_str_list, hIsi_str_tuple, hIsi_str_str, ni, atI_getD PyData.int 0 cs a (ha a h)]
  · simp -implicitDefEqProofs (disch := first | omega | (simp only [List.length_map, List.length_append, List.length_cons, List.length_nil, List.length_range, List.length_take, List.length_drop, List.length_replicate, List.length_set, List.length_reverse] <;> omega) | (refine mulC_small ?_; omega) | (refine mulC_smallR ?_; omega) | (refine divC_small ?_ ?_ <;> omega) | (refine powC_small ?_ ?_ ?_ <;> omega)) only [v_run, v_iTp, tup?_tuple, v_sIfM2, k_ifM2_0, k_ifM2_1, v_srtSet, k_srtSet, v_sZ, k_sZ, v_sReb, v_sClr, k_sClr, v_pinF, k_pin, v_iZp3, k_zp3, v_setP, setPK_of, v_appP, k_appP, k_appP1, k_appP2, k_appP3, k_appP4, List.getElem?_cons_zero, List.getElem?_cons_succ, v_lSortP, k_srtP0, v_lRng, k_rng, hRg1_of, v_seq, v_set', v_setL', v_ret', v_retL', v_if', v_for', v_par', v_aug', v_augK, v_tgt', v_sub', v_mut', v_d1, v_d2, v_d3, v_dB, v_dSc, v_dScs, v_cons, v_tup', v_lst', v_dA, v_dAL, v_and', v_or', v_not', v_dT, v_iL, v_iR1, v_iR2, v_iR3, v_iEn, v_iZp, v_lCut, v_lOf, v_lCat, v_lRep, v_lRepE, k_rep0, v_rt', k_rt, v_idx, k_idx, v_lRev, k_rev, v_lSortI, v_lComp, v_oS, b_assoc, k_cmp, k_seq1, k_seq2, k_seq3, k_seq4, k_set, k_setL, k_ret, k_retL, k_if1, k_if2, k_for, k_par, k_aug2, k_tgt, k_tgt2, k_sub, k_sub1, k_sub2, k_sub3, k_mut, k_mut1, k_mut2, k_d2, k_d3, k_d31, k_d321, k_d322, k_bool, k_cons, k_cons2, k_tup, k_lst, k_al, k_and1, k_and2, k_or1, k_or2, k_not, k_dt, k_en, k_zp, k_cut, k_cut1, k_cut2, k_os, k_cat, k_rep, k_srt0, k_srt, k_comp, k_run1, k_run2, k_go1, k_go2, w_turn, w_turnR, w_turnW, w_nx, w_bk, w_ct, w_rN, w_V, w_C, w_nil, w_oN, w_yes, w_gSet, w_gTup, w_gsCons, w_gsNil, w_add, w_subI, w_lt, w_le, w_gt, w_ge, w_neg, w_isN, w_notN, w_n0, w_n1, w_n2, w_n3, w_n4, w_len1, w_len2, w_min2, w_max2, w_int1, w_int2, w_clr, w_ixL, w_ixT, w_sum, w_any, w_kil0, w_kil1, k_sc_int, k_sc_bool, k_sc_none, k_sc_str, k_scs_of, items?_list, items?_tuple, list?_list, cutD_map, all_int, all_int', List.length_map, hApp_of, hExt_of, hIns_of, hCat_of, hRep_of, hR1_of, hR2_of, hR3_of, hMul_of, hDiv_of, hMod_of, p10_3, p10_4, p10_5, p10_6, p10_7, p10_8, p10_9, p10_12, p10_50, p50_3, p50_4, atI_map, k_scs_int, List.getD_cons_zero, List.getD_cons_succ, List.set_cons_zero, List.set_cons_succ, List.map_cons, List.map_nil, List.cons_append, List.nil_append, List.append_nil, List.length_cons, List.length_nil, Option.bind_some, Option.bind_none, Option.map_some, Option.map_none, ↓reduceIte, Nat.reduceAdd, Nat.reduceSub, Int.reduceAdd, Int.reduceSub, Int.reduceMul, Int.reduceNeg, Nat.reduceLeDiff, Nat.reduceLT, Nat.reduceEqDiff, Nat.zero_add, List.reduceReplicate, List.replicate_zero, List.replicate_one, List.replicate_succ, Bool.and_true, Bool.true_and, Bool.not_true, Bool.not_false, decide_true, decide_false, Bool.false_eq_true, reduceCtorEq, and_self, if_false, if_true, hIsi_int_int, hIsi_int_bool, hIsi_int_list, hIsi_int_tuple, hIsi_int_str, hIsi_bool_int, hIsi_bool_bool, hIsi_bool_list, hIsi_bool_tuple, hIsi_bool_str, hIsi_none_int, hIsi_none_bool, hIsi_none_list, hIsi_none_tuple, hIsi_none_str, hIsi_list_int, hIsi_list_bool, hIsi_list_list, hIsi_list_tuple, hIsi_list_str, hIsi_tuple_int, hIsi_tuple_bool, hIsi_tuple_list, hIsi_tuple_tuple, hIsi_tuple_str, hIsi_str_int, hIsi_str_bool, hIsi_str_list, hIsi_str_tuple, hIsi_str_str]

theorem common_ev (ws : List (List Nat)) (asked : List Nat) (hv : ws.length ≤ 1000) (ha : asked.length ≤ 1000) : sem_common_of [.list (ws.map wD), wD asked] = some (wD ((List.range ws.length).filter fun i => asked.all fun k => (ws.getD i []).contains k)) := by
  simp -implicitDefEqProofs (disch := first | omega | (simp only [List.length_map, List.length_append, List.length_cons, List.length_nil, List.length_range, List.length_take, List.length_drop, List.length_replicate, List.length_set, List.length_reverse] <;> omega) | (refine mulC_small ?_; omega) | (refine mulC_smallR ?_; omega) | (refine divC_small ?_ ?_ <;> omega) | (refine powC_small ?_ ?_ ?_ <;> omega)) only [v_run, v_iTp, tup?_tuple, v_sIfM2, k_ifM2_0, k_ifM2_1, v_srtSet, k_srtSet, v_sZ, k_sZ, v_sReb, v_sClr, k_sClr, v_pinF, k_pin, v_iZp3, k_zp3, v_setP, setPK_of, v_appP, k_appP, k_appP1, k_appP2, k_appP3, k_appP4, List.getElem?_cons_zero, List.getElem?_cons_succ, v_lSortP, k_srtP0, v_lRng, k_rng, hRg1_of, v_seq, v_set', v_setL', v_ret', v_retL', v_if', v_for', v_par', v_aug', v_augK, v_tgt', v_sub', v_mut', v_d1, v_d2, v_d3, v_dB, v_dSc, v_dScs, v_cons, v_tup', v_lst', v_dA, v_dAL, v_and', v_or', v_not', v_dT, v_iL, v_iR1, v_iR2, v_iR3, v_iEn, v_iZp, v_lCut, v_lOf, v_lCat, v_lRep, v_lRepE, k_rep0, v_rt', k_rt, v_idx, k_idx, v_lRev, k_rev, v_lSortI, v_lComp, v_oS, b_assoc, k_cmp, k_seq1, k_seq2, k_seq3, k_seq4, k_set, k_setL, k_ret, k_retL, k_if1, k_if2, k_for, k_par, k_aug2, k_tgt, k_tgt2, k_sub, k_sub1, k_sub2, k_sub3, k_mut, k_mut1, k_mut2, k_d2, k_d3, k_d31, k_d321, k_d322, k_bool, k_cons, k_cons2, k_tup, k_lst, k_al, k_and1, k_and2, k_or1, k_or2, k_not, k_dt, k_en, k_zp, k_cut, k_cut1, k_cut2, k_os, k_cat, k_rep, k_srt0, k_srt, k_comp, k_run1, k_run2, k_go1, k_go2, w_turn, w_turnR, w_turnW, w_nx, w_bk, w_ct, w_rN, w_V, w_C, w_nil, w_oN, w_yes, w_gSet, w_gTup, w_gsCons, w_gsNil, w_add, w_subI, w_lt, w_le, w_gt, w_ge, w_neg, w_isN, w_notN, w_n0, w_n1, w_n2, w_n3, w_n4, w_len1, w_len2, w_min2, w_max2, w_int1, w_int2, w_clr, w_ixL, w_ixT, w_sum, w_any, w_kil0, w_kil1, k_sc_int, k_sc_bool, k_sc_none, k_sc_str, k_scs_of, items?_list, items?_tuple, list?_list, cutD_map, all_int, all_int', List.length_map, hApp_of, hExt_of, hIns_of, hCat_of, hRep_of, hR1_of, hR2_of, hR3_of, hMul_of, hDiv_of, hMod_of, p10_3, p10_4, p10_5, p10_6, p10_7, p10_8, p10_9, p10_12, p10_50, p50_3, p50_4, atI_map, k_scs_int, List.getD_cons_zero, List.getD_cons_succ, List.set_cons_zero, List.set_cons_succ, List.map_cons, List.map_nil, List.cons_append, List.nil_append, List.append_nil, List.length_cons, List.length_nil, Option.bind_some, Option.bind_none, Option.map_some, Option.map_none, ↓reduceIte, Nat.reduceAdd, Nat.reduceSub, Int.reduceAdd, Int.reduceSub, Int.reduceMul, Int.reduceNeg, Nat.reduceLeDiff, Nat.reduceLT, Nat.reduceEqDiff, Nat.zero_add, List.reduceReplicate, List.replicate_zero, List.replicate_one, List.replicate_succ, Bool.and_true, Bool.true_and, Bool.not_true, Bool.not_false, decide_true, decide_false, Bool.false_eq_true, reduceCtorEq, and_self, if_false, if_true, hIsi_int_int, hIsi_int_bool, hIsi_int_list, hIsi_int_tuple, hIsi_int_str, hIsi_bool_int, hIsi_bool_bool, hIsi_bool_list, hIsi_bool_tuple, hIsi_bool_str, hIsi_none_int, hIsi_none_bool, hIsi_none_list, hIsi_none_tuple, hIsi_none_str, hIsi_list_int, hIsi_list_bool, hIsi_list_list, hIsi_list_tuple, hIsi_list_str, hIsi_tuple_int, hIsi_tuple_bool, hIsi_tuple_list, hIsi_tuple_tuple, hIsi_tuple_str, hIsi_str_int, hIsi_str_bool, hIsi_str_list, hIsi_str_tuple, hIsi_str_str, sem_common_of, wD, enumD_map wD []]
  refine b_word (enc := fun s : List Nat => [some (.list (ws.map wD)), some (wD asked), some (wD s), none, none, none]) (cv := fun i => PyData.tuple [.int (i : Nat), wD (ws.getD i [])])
    (fun q s => s = q.filter fun i => asked.all fun k => (ws.getD i []).contains k) (List.range ws.length) [] rfl ?_ (fun s hs => ?_)
  · intro q i r s hx hs
    obtain ⟨hqx, hqr, hlt⟩ := range_split hx
    have hsl : s.length ≤ ws.length := by
      rw [hs]
      have := List.length_filter_le (fun i => asked.all fun k => (ws.getD i []).contains k) q
      omega
    refine ⟨_, ?_, rfl⟩
    rw [List.filter_append, ← hs]
    simp -implicitDefEqProofs (disch := first | omega | (simp only [List.length_map, List.length_append, List.length_cons, List.length_nil, List.length_range, List.length_take, List.length_drop, List.length_replicate, List.length_set, List.length_reverse] <;> omega) | (refine mulC_small ?_; omega) | (refine mulC_smallR ?_; omega) | (refine divC_small ?_ ?_ <;> omega) | (refine powC_small ?_ ?_ ?_ <;> omega)) only [v_run, v_iTp, tup?_tuple, v_sIfM2, k_ifM2_0, k_ifM2_1, v_srtSet, k_srtSet, v_sZ, k_sZ, v_sReb, v_sClr, k_sClr, v_pinF, k_pin, v_iZp3, k_zp3, v_setP, setPK_of, v_appP, k_appP, k_appP1, k_appP2, k_appP3, k_appP4, List.getElem?_cons_zero, List.getElem?_cons_succ, v_lSortP, k_srtP0, v_lRng, k_rng, hRg1_of, v_seq, v_set', v_setL', v_ret', v_retL', v_if', v_for', v_par', v_aug', v_augK, v_tgt', v_sub', v_mut', v_d1, v_d2, v_d3, v_dB, v_dSc, v_dScs, v_cons, v_tup', v_lst', v_dA, v_dAL, v_and', v_or', v_not', v_dT, v_iL, v_iR1, v_iR2, v_iR3, v_iEn, v_iZp, v_lCut, v_lOf, v_lCat, v_lRep, v_lRepE, k_rep0, v_rt', k_rt, v_idx, k_idx, v_lRev, k_rev, v_lSortI, v_lComp, v_oS, b_assoc, k_cmp, k_seq1, k_seq2, k_seq3, k_seq4, k_set, k_setL, k_ret, k_retL, k_if1, k_if2, k_for, k_par, k_aug2, k_tgt, k_tgt2, k_sub, k_sub1, k_sub2, k_sub3, k_mut, k_mut1, k_mut2, k_d2, k_d3, k_d31, k_d321, k_d322, k_bool, k_cons, k_cons2, k_tup, k_lst, k_al, k_and1, k_and2, k_or1, k_or2, k_not, k_dt, k_en, k_zp, k_cut, k_cut1, k_cut2, k_os, k_cat, k_rep, k_srt0, k_srt, k_comp, k_run1, k_run2, k_go1, k_go2, w_turn, w_turnR, w_turnW, w_nx, w_bk, w_ct, w_rN, w_V, w_C, w_nil, w_oN, w_yes, w_gSet, w_gTup, w_gsCons, w_gsNil, w_add, w_subI, w_lt, w_le, w_gt, w_ge, w_neg, w_isN, w_notN, w_n0, w_n1, w_n2, w_n3, w_n4, w_len1, w_len2, w_min2, w_max2, w_int1, w_int2, w_clr, w_ixL, w_ixT, w_sum, w_any, w_kil0, w_kil1, k_sc_int, k_sc_bool, k_sc_none, k_sc_str, k_scs_of, items?_list, items?_tuple, list?_list, cutD_map, all_int, all_int', List.length_map, hApp_of, hExt_of, hIns_of, hCat_of, hRep_of, hR1_of, hR2_of, hR3_of, hMul_of, hDiv_of, hMod_of, p10_3, p10_4, p10_5, p10_6, p10_7, p10_8, p10_9, p10_12, p10_50, p50_3, p50_4, atI_map, k_scs_int, List.getD_cons_zero, List.getD_cons_succ, List.set_cons_zero, List.set_cons_succ, List.map_cons, List.map_nil, List.cons_append, List.nil_append, List.append_nil, List.length_cons, List.length_nil, Option.bind_some, Option.bind_none, Option.map_some, Option.map_none, ↓reduceIte, Nat.reduceAdd, Nat.reduceSub, Int.reduceAdd, Int.reduceSub, Int.reduceMul, Int.reduceNeg, Nat.reduceLeDiff, Nat.reduceLT, Nat.reduceEqDiff, Nat.zero_add, List.reduceReplicate, List.replicate_zero, List.replicate_one, List.replicate_succ, Bool.and_true, Bool.true_and, Bool.not_true, Bool.not_false, decide_true, decide_false, Bool.false_eq_true, reduceCtorEq, and_self, if_false, if_true, hIsi_int_int, hIsi_int_bool, hIsi_int_list, hIsi_int_tuple, hIsi_int_str, hIsi_bool_int, hIsi_bool_bool, hIsi_bool_list, hIsi_bool_tuple, hIsi_bool_str, hIsi_none_int, hIsi_none_bool, hIsi_none_list, hIsi_none_tuple, hIsi_none_str, hIsi_list_int, hIsi_list_bool, hIsi_list_list, hIsi_list_tuple, hIsi_list_str, hIsi_tuple_int, hIsi_tuple_bool, hIsi_tuple_list, hIsi_tuple_tuple, hIsi_tuple_str, hIsi_str_int, hIsi_str_bool, hIsi_str_list, hIsi_str_tuple, hIsi_str_str, wD]
    refine b_filter (cv := ni) ni (fun k => (ws.getD i []).contains k) asked (by omega) (fun w _ => ⟨_, rfl, ?_, fun _ => ?_⟩) ?_
    · simp -implicitDefEqProofs (disch := first | omega | (simp only [List.length_map, List.length_append, List.length_cons, List.length_nil, List.length_range, List.length_take, List.length_drop, List.length_replicate, List.length_set, List.length_reverse] <;> omega) | (refine mulC_small ?_; omega) | (refine mulC_smallR ?_; omega) | (refine divC_small ?_ ?_ <;> omega) | (refine powC_small ?_ ?_ ?_ <;> omega)) only [v_run, v_iTp, tup?_tuple, v_sIfM2, k_ifM2_0, k_ifM2_1, v_srtSet, k_srtSet, v_sZ, k_sZ, v_sReb, v_sClr, k_sClr, v_pinF, k_pin, v_iZp3, k_zp3, v_setP, setPK_of, v_appP, k_appP, k_appP1, k_appP2, k_appP3, k_appP4, List.getElem?_cons_zero, List.getElem?_cons_succ, v_lSortP, k_srtP0, v_lRng, k_rng, hRg1_of, v_seq, v_set', v_setL', v_ret', v_retL', v_if', v_for', v_par', v_aug', v_augK, v_tgt', v_sub', v_mut', v_d1, v_d2, v_d3, v_dB, v_dSc, v_dScs, v_cons, v_tup', v_lst', v_dA, v_dAL, v_and', v_or', v_not', v_dT, v_iL, v_iR1, v_iR2, v_iR3, v_iEn, v_iZp, v_lCut, v_lOf, v_lCat, v_lRep, v_lRepE, k_rep0, v_rt', k_rt, v_idx, k_idx, v_lRev, k_rev, v_lSortI, v_lComp, v_oS, b_assoc, k_cmp, k_seq1, k_seq2, k_seq3, k_seq4, k_set, k_setL, k_ret, k_retL, k_if1, k_if2, k_for, k_par, k_aug2, k_tgt, k_tgt2, k_sub, k_sub1, k_sub2, k_sub3, k_mut, k_mut1, k_mut2, k_d2, k_d3, k_d31, k_d321, k_d322, k_bool, k_cons, k_cons2, k_tup, k_lst, k_al, k_and1, k_and2, k_or1, k_or2, k_not, k_dt, k_en, k_zp, k_cut, k_cut1, k_cut2, k_os, k_cat, k_rep, k_srt0, k_srt, k_comp, k_run1, k_run2, k_go1, k_go2, w_turn, w_turnR, w_turnW, w_nx, w_bk, w_ct, w_rN, w_V, w_C, w_nil, w_oN, w_yes, w_gSet, w_gTup, w_gsCons, w_gsNil, w_add, w_subI, w_lt, w_le, w_gt, w_ge, w_neg, w_isN, w_notN, w_n0, w_n1, w_n2, w_n3, w_n4, w_len1, w_len2, w_min2, w_max2, w_int1, w_int2, w_clr, w_ixL, w_ixT, w_sum, w_any, w_kil0, w_kil1, k_sc_int, k_sc_bool, k_sc_none, k_sc_str, k_scs_of, items?_list, items?_tuple, list?_list, cutD_map, all_int, all_int', List.length_map, hApp_of, hExt_of, hIns_of, hCat_of, hRep_of, hR1_of, hR2_of, hR3_of, hMul_of, hDiv_of, hMod_of, p10_3, p10_4, p10_5, p10_6, p10_7, p10_8, p10_9, p10_12, p10_50, p50_3, p50_4, atI_map, k_scs_int, List.getD_cons_zero, List.getD_cons_succ, List.set_cons_zero, List.set_cons_succ, List.map_cons, List.map_nil, List.cons_append, List.nil_append, List.append_nil, List.length_cons, List.length_nil, Option.bind_some, Option.bind_none, Option.map_some, Option.map_none, ↓reduceIte, Nat.reduceAdd, Nat.reduceSub, Int.reduceAdd, Int.reduceSub, Int.reduceMul, Int.reduceNeg, Nat.reduceLeDiff, Nat.reduceLT, Nat.reduceEqDiff, Nat.zero_add, List.reduceReplicate, List.replicate_zero, List.replicate_one, List.replicate_succ, Bool.and_true, Bool.true_and, Bool.not_true, Bool.not_false, decide_true, decide_false, Bool.false_eq_true, reduceCtorEq, and_self, if_false, if_true, hIsi_int_int, hIsi_int_bool, hIsi_int_list, hIsi_int_tuple, hIsi_int_str, hIsi_bool_int, hIsi_bool_bool, hIsi_bool_list, hIsi_bool_tuple, hIsi_bool_str, hIsi_none_int, hIsi_none_bool, hIsi_none_list, hIsi_none_tuple, hIsi_none_str, hIsi_list_int, hIsi_list_bool, hIsi_list_list, hIsi_list_tuple, hIsi_list_str, hIsi_tuple_int, hIsi_tuple_bool, hIsi_tuple_list, hIsi_tuple_tuple, hIsi_tuple_str, hIsi_str_int, hIsi_str_bool, hIsi_str_list, hIsi_str_tuple, hIsi_str_str, ni, hIn_ni]
    · simp -implicitDefEqProofs (disch := first | omega | (simp only [List.length_map, List.length_append, List.length_cons, List.length_nil, List.length_range, List.length_take, List.length_drop, List.length_replicate, List.length_set, List.length_reverse] <;> omega) | (refine mulC_small ?_; omega) | (refine mulC_smallR ?_; omega) | (refine divC_small ?_ ?_ <;> omega) | (refine powC_small ?_ ?_ ?_ <;> omega)) only [v_run, v_iTp, tup?_tuple, v_sIfM2, k_ifM2_0, k_ifM2_1, v_srtSet, k_srtSet, v_sZ, k_sZ, v_sReb, v_sClr, k_sClr, v_pinF, k_pin, v_iZp3, k_zp3, v_setP, setPK_of, v_appP, k_appP, k_appP1, k_appP2, k_appP3, k_appP4, List.getElem?_cons_zero, List.getElem?_cons_succ, v_lSortP, k_srtP0, v_lRng, k_rng, hRg1_of, v_seq, v_set', v_setL', v_ret', v_retL', v_if', v_for', v_par', v_aug', v_augK, v_tgt', v_sub', v_mut', v_d1, v_d2, v_d3, v_dB, v_dSc, v_dScs, v_cons, v_tup', v_lst', v_dA, v_dAL, v_and', v_or', v_not', v_dT, v_iL, v_iR1, v_iR2, v_iR3, v_iEn, v_iZp, v_lCut, v_lOf, v_lCat, v_lRep, v_lRepE, k_rep0, v_rt', k_rt, v_idx, k_idx, v_lRev, k_rev, v_lSortI, v_lComp, v_oS, b_assoc, k_cmp, k_seq1, k_seq2, k_seq3, k_seq4, k_set, k_setL, k_ret, k_retL, k_if1, k_if2, k_for, k_par, k_aug2, k_tgt, k_tgt2, k_sub, k_sub1, k_sub2, k_sub3, k_mut, k_mut1, k_mut2, k_d2, k_d3, k_d31, k_d321, k_d322, k_bool, k_cons, k_cons2, k_tup, k_lst, k_al, k_and1, k_and2, k_or1, k_or2, k_not, k_dt, k_en, k_zp, k_cut, k_cut1, k_cut2, k_os, k_cat, k_rep, k_srt0, k_srt, k_comp, k_run1, k_run2, k_go1, k_go2, w_turn, w_turnR, w_turnW, w_nx, w_bk, w_ct, w_rN, w_V, w_C, w_nil, w_oN, w_yes, w_gSet, w_gTup, w_gsCons, w_gsNil, w_add, w_subI, w_lt, w_le, w_gt, w_ge, w_neg, w_isN, w_notN, w_n0, w_n1, w_n2, w_n3, w_n4, w_len1, w_len2, w_min2, w_max2, w_int1, w_int2, w_clr, w_ixL, w_ixT, w_sum, w_any, w_kil0, w_kil1, k_sc_int, k_sc_bool, k_sc_none, k_sc_str, k_scs_of, items?_list, items?_tuple, list?_list, cutD_map, all_int, all_int', List.length_map, hApp_of, hExt_of, hIns_of, hCat_of, hRep_of, hR1_of, hR2_of, hR3_of, hMul_of, hDiv_of, hMod_of, p10_3, p10_4, p10_5, p10_6, p10_7, p10_8, p10_9, p10_12, p10_50, p50_3, p50_4, atI_map, k_scs_int, List.getD_cons_zero, List.getD_cons_succ, List.set_cons_zero, List.set_cons_succ, List.map_cons, List.map_nil, List.cons_append, List.nil_append, List.append_nil, List.length_cons, List.length_nil, Option.bind_some, Option.bind_none, Option.map_some, Option.map_none, ↓reduceIte, Nat.reduceAdd, Nat.reduceSub, Int.reduceAdd, Int.reduceSub, Int.reduceMul, Int.reduceNeg, Nat.reduceLeDiff, Nat.reduceLT, Nat.reduceEqDiff, Nat.zero_add, List.reduceReplicate, List.replicate_zero, List.replicate_one, List.replicate_succ, Bool.and_true, Bool.true_and, Bool.not_true, Bool.not_false, decide_true, decide_false, Bool.false_eq_true, reduceCtorEq, and_self, if_false, if_true, hIsi_int_int, hIsi_int_bool, hIsi_int_list, hIsi_int_tuple, hIsi_int_str, hIsi_bool_int, hIsi_bool_bool, hIsi_bool_list, hIsi_bool_tuple, hIsi_bool_str, hIsi_none_int, hIsi_none_bool, hIsi_none_list, hIsi_none_tuple, hIsi_none_str, hIsi_list_int, hIsi_list_bool, hIsi_list_list, hIsi_list_tuple, hIsi_list_str, hIsi_tuple_int, hIsi_tuple_bool, hIsi_tuple_list, hIsi_tuple_tuple, hIsi_tuple_str, hIsi_str_int, hIsi_str_bool, hIsi_str_list, hIsi_str_tuple, hIsi_str_str, ni]
    · simp -implicitDefEqProofs (disch := first | omega | (simp only [List.length_map, List.length_append, List.length_cons, List.length_nil, List.length_range, List.length_take, List.length_drop, List.length_replicate, List.length_set, List.length_reverse] <;> omega) | (refine mulC_small ?_; omega) | (refine mulC_smallR ?_; omega) | (refine divC_small ?_ ?_ <;> omega) | (refine powC_small ?_ ?_ ?_ <;> omega)) only [v_run, v_iTp, tup?_tuple, v_sIfM2, k_ifM2_0, k_ifM2_1, v_srtSet, k_srtSet, v_sZ, k_sZ, v_sReb, v_sClr, k_sClr, v_pinF, k_pin, v_iZp3, k_zp3, v_setP, setPK_of, v_appP, k_appP, k_appP1, k_appP2, k_appP3, k_appP4, List.getElem?_cons_zero, List.getElem?_cons_succ, v_lSortP, k_srtP0, v_lRng, k_rng, hRg1_of, v_seq, v_set', v_setL', v_ret', v_retL', v_if', v_for', v_par', v_aug', v_augK, v_tgt', v_sub', v_mut', v_d1, v_d2, v_d3, v_dB, v_dSc, v_dScs, v_cons, v_tup', v_lst', v_dA, v_dAL, v_and', v_or', v_not', v_dT, v_iL, v_iR1, v_iR2, v_iR3, v_iEn, v_iZp, v_lCut, v_lOf, v_lCat, v_lRep, v_lRepE, k_rep0, v_rt', k_rt, v_idx, k_idx, v_lRev, k_rev, v_lSortI, v_lComp, v_oS, b_assoc, k_cmp, k_seq1, k_seq2, k_seq3, k_seq4, k_set, k_setL, k_ret, k_retL, k_if1, k_if2, k_for, k_par, k_aug2, k_tgt, k_tgt2, k_sub, k_sub1, k_sub2, k_sub3, k_mut, k_mut1, k_mut2, k_d2, k_d3, k_d31, k_d321, k_d322, k_bool, k_cons, k_cons2, k_tup, k_lst, k_al, k_and1, k_and2, k_or1, k_or2, k_not, k_dt, k_en, k_zp, k_cut, k_cut1, k_cut2, k_os, k_cat, k_rep, k_srt0, k_srt, k_comp, k_run1, k_run2, k_go1, k_go2, w_turn, w_turnR, w_turnW, w_nx, w_bk, w_ct, w_rN, w_V, w_C, w_nil, w_oN, w_yes, w_gSet, w_gTup, w_gsCons, w_gsNil, w_add, w_subI, w_lt, w_le, w_gt, w_ge, w_neg, w_isN, w_notN, w_n0, w_n1, w_n2, w_n3, w_n4, w_len1, w_len2, w_min2, w_max2, w_int1, w_int2, w_clr, w_ixL, w_ixT, w_sum, w_any, w_kil0, w_kil1, k_sc_int, k_sc_bool, k_sc_none, k_sc_str, k_scs_of, items?_list, items?_tuple, list?_list, cutD_map, all_int, all_int', List.length_map, hApp_of, hExt_of, hIns_of, hCat_of, hRep_of, hR1_of, hR2_of, hR3_of, hMul_of, hDiv_of, hMod_of, p10_3, p10_4, p10_5, p10_6, p10_7, p10_8, p10_9, p10_12, p10_50, p50_3, p50_4, atI_map, k_scs_int, List.getD_cons_zero, List.getD_cons_succ, List.set_cons_zero, List.set_cons_succ, List.map_cons, List.map_nil, List.cons_append, List.nil_append, List.append_nil, List.length_cons, List.length_nil, Option.bind_some, Option.bind_none, Option.map_some, Option.map_none, ↓reduceIte, Nat.reduceAdd, Nat.reduceSub, Int.reduceAdd, Int.reduceSub, Int.reduceMul, Int.reduceNeg, Nat.reduceLeDiff, Nat.reduceLT, Nat.reduceEqDiff, Nat.zero_add, List.reduceReplicate, List.replicate_zero, List.replicate_one, List.replicate_succ, Bool.and_true, Bool.true_and, Bool.not_true, Bool.not_false, decide_true, decide_false, Bool.false_eq_true, reduceCtorEq, and_self, if_false, if_true, hIsi_int_int, hIsi_int_bool, hIsi_int_list, hIsi_int_tuple, hIsi_int_str, hIsi_bool_int, hIsi_bool_bool, hIsi_bool_list, hIsi_bool_tuple, hIsi_bool_str, hIsi_none_int, hIsi_none_bool, hIsi_none_list, hIsi_none_tuple, hIsi_none_str, hIsi_list_int, hIsi_list_bool, hIsi_list_list, hIsi_list_tuple, hIsi_list_str, hIsi_tuple_int, hIsi_tuple_bool, hIsi_tuple_list, hIsi_tuple_tuple, hIsi_tuple_str, hIsi_str_int, hIsi_str_bool, hIsi_str_list, hIsi_str_tuple, hIsi_str_str, hEq_int, all_len]
      cases e : asked.all fun k => (ws.getD i []).contains k
      · simp -implicitDefEqProofs (disch := first | omega | (simp only [List.length_map, List.length_append, List.length_cons, List.length_nil, List.length_range, List.length_take, List.length_drop, List.length_replicate, List.length_set, List.length_reverse] <;> omega) | (refine mulC_small ?_; omega) | (refine mulC_smallR ?_; omega) | (refine divC_small ?_ ?_ <;> omega) | (refine powC_small ?_ ?_ ?_ <;> omega)) only [v_run, v_iTp, tup?_tuple, v_sIfM2, k_ifM2_0, k_ifM2_1, v_srtSet, k_srtSet, v_sZ, k_sZ, v_sReb, v_sClr, k_sClr, v_pinF, k_pin, v_iZp3, k_zp3, v_setP, setPK_of, v_appP, k_appP, k_appP1, k_appP2, k_appP3, k_appP4, List.getElem?_cons_zero, List.getElem?_cons_succ, v_lSortP, k_srtP0, v_lRng, k_rng, hRg1_of, v_seq, v_set', v_setL', v_ret', v_retL', v_if', v_for', v_par', v_aug', v_augK, v_tgt', v_sub', v_mut', v_d1, v_d2, v_d3, v_dB, v_dSc, v_dScs, v_cons, v_tup', v_lst', v_dA, v_dAL, v_and', v_or', v_not', v_dT, v_iL, v_iR1, v_iR2, v_iR3, v_iEn, v_iZp, v_lCut, v_lOf, v_lCat, v_lRep, v_lRepE, k_rep0, v_rt', k_rt, v_idx, k_idx, v_lRev, k_rev, v_lSortI, v_lComp, v_oS, b_assoc, k_cmp, k_seq1, k_seq2, k_seq3, k_seq4, k_set, k_setL, k_ret, k_retL, k_if1, k_if2, k_for, k_par, k_aug2, k_tgt, k_tgt2, k_sub, k_sub1, k_sub2, k_sub3, k_mut, k_mut1, k_mut2, k_d2, k_d3, k_d31, k_d321, k_d322, k_bool, k_cons, k_cons2, k_tup, k_lst, k_al, k_and1, k_and2, k_or1, k_or2, k_not, k_dt, k_en, k_zp, k_cut, k_cut1, k_cut2, k_os, k_cat, k_rep, k_srt0, k_srt, k_comp, k_run1, k_run2, k_go1, k_go2, w_turn, w_turnR, w_turnW, w_nx, w_bk, w_ct, w_rN, w_V, w_C, w_nil, w_oN, w_yes, w_gSet, w_gTup, w_gsCons, w_gsNil, w_add, w_subI, w_lt, w_le, w_gt, w_ge, w_neg, w_isN, w_notN, w_n0, w_n1, w_n2, w_n3, w_n4, w_len1, w_len2, w_min2, w_max2, w_int1, w_int2, w_clr, w_ixL, w_ixT, w_sum, w_any, w_kil0, w_kil1, k_sc_int, k_sc_bool, k_sc_none, k_sc_str, k_scs_of, items?_list, items?_tuple, list?_list, cutD_map, all_int, all_int', List.length_map, hApp_of, hExt_of, hIns_of, hCat_of, hRep_of, hR1_of, hR2_of, hR3_of, hMul_of, hDiv_of, hMod_of, p10_3, p10_4, p10_5, p10_6, p10_7, p10_8, p10_9, p10_12, p10_50, p50_3, p50_4, atI_map, k_scs_int, List.getD_cons_zero, List.getD_cons_succ, List.set_cons_zero, List.set_cons_succ, List.map_cons, List.map_nil, List.cons_append, List.nil_append, List.append_nil, List.length_cons, List.length_nil, Option.bind_some, Option.bind_none, Option.map_some, Option.map_none, ↓reduceIte, Nat.reduceAdd, Nat.reduceSub, Int.reduceAdd, Int.reduceSub, Int.reduceMul, Int.reduceNeg, Nat.reduceLeDiff, Nat.reduceLT, Nat.reduceEqDiff, Nat.zero_add, List.reduceReplicate, List.replicate_zero, List.replicate_one, List.replicate_succ, Bool.and_true, Bool.true_and, Bool.not_true, Bool.not_false, decide_true, decide_false, Bool.false_eq_true, reduceCtorEq, and_self, if_false, if_true, hIsi_int_int, hIsi_int_bool, hIsi_int_list, hIsi_int_tuple, hIsi_int_str, hIsi_bool_int, hIsi_bool_bool, hIsi_bool_list, hIsi_bool_tuple, hIsi_bool_str, hIsi_none_int, hIsi_none_bool, hIsi_none_list, hIsi_none_tuple, hIsi_none_str, hIsi_list_int, hIsi_list_bool, hIsi_list_list, hIsi_list_tuple, hIsi_list_str, hIsi_tuple_int, hIsi_tuple_bool, hIsi_tuple_list, hIsi_tuple_tuple, hIsi_tuple_str, hIsi_str_int, hIsi_str_bool, hIsi_str_list, hIsi_str_tuple, hIsi_str_str, List.filter_cons, List.filter_nil, e]
      · simp -implicitDefEqProofs (disch := first | omega | (simp only [List.length_map, List.length_append, List.length_cons, List.length_nil, List.length_range, List.length_take, List.length_drop, List.length_replicate, List.length_set, List.length_reverse] <;> omega) | (refine mulC_small ?_; omega) | (refine mulC_smallR ?_; omega) | (refine divC_small ?_ ?_ <;> omega) | (refine powC_small ?_ ?_ ?_ <;> omega)) only [v_run, v_iTp, tup?_tuple, v_sIfM2, k_ifM2_0, k_ifM2_1, v_srtSet, k_srtSet, v_sZ, k_sZ, v_sReb, v_sClr, k_sClr, v_pinF, k_pin, v_iZp3, k_zp3, v_setP, setPK_of, v_appP, k_appP, k_appP1, k_appP2, k_appP3, k_appP4, List.getElem?_cons_zero, List.getElem?_cons_succ, v_lSortP, k_srtP0, v_lRng, k_rng, hRg1_of, v_seq, v_set', v_setL', v_ret', v_retL', v_if', v_for', v_par', v_aug', v_augK, v_tgt', v_sub', v_mut', v_d1, v_d2, v_d3, v_dB, v_dSc, v_dScs, v_cons, v_tup', v_lst', v_dA, v_dAL, v_and', v_or', v_not', v_dT, v_iL, v_iR1, v_iR2, v_iR3, v_iEn, v_iZp, v_lCut, v_lOf, v_lCat, v_lRep, v_lRepE, k_rep0, v_rt', k_rt, v_idx, k_idx, v_lRev, k_rev, v_lSortI, v_lComp, v_oS, b_assoc, k_cmp, k_seq1, k_seq2, k_seq3, k_seq4, k_set, k_setL, k_ret, k_retL, k_if1, k_if2, k_for, k_par, k_aug2, k_tgt, k_tgt2, k_sub, k_sub1, k_sub2, k_sub3, k_mut, k_mut1, k_mut2, k_d2, k_d3, k_d31, k_d321, k_d322, k_bool, k_cons, k_cons2, k_tup, k_lst, k_al, k_and1, k_and2, k_or1, k_or2, k_not, k_dt, k_en, k_zp, k_cut, k_cut1, k_cut2, k_os, k_cat, k_rep, k_srt0, k_srt, k_comp, k_run1, k_run2, k_go1, k_go2, w_turn, w_turnR, w_turnW, w_nx, w_bk, w_ct, w_rN, w_V, w_C, w_nil, w_oN, w_yes, w_gSet, w_gTup, w_gsCons, w_gsNil, w_add, w_subI, w_lt, w_le, w_gt, w_ge, w_neg, w_isN, w_notN, w_n0, w_n1, w_n2, w_n3, w_n4, w_len1, w_len2, w_min2, w_max2, w_int1, w_int2, w_clr, w_ixL, w_ixT, w_sum, w_any, w_kil0, w_kil1, k_sc_int, k_sc_bool, k_sc_none, k_sc_str, k_scs_of, items?_list, items?_tuple, list?_list, cutD_map, all_int, all_int', List.length_map, hApp_of, hExt_of, hIns_of, hCat_of, hRep_of, hR1_of, hR2_of, hR3_of, hMul_of, hDiv_of, hMod_of, p10_3, p10_4, p10_5, p10_6, p10_7, p10_8, p10_9, p10_12, p10_50, p50_3, p50_4, atI_map, k_scs_int, List.getD_cons_zero, List.getD_cons_succ, List.set_cons_zero, List.set_cons_succ, List.map_cons, List.map_nil, List.cons_append, List.nil_append, List.append_nil, List.length_cons, List.length_nil, Option.bind_some, Option.bind_none, Option.map_some, Option.map_none, ↓reduceIte, Nat.reduceAdd, Nat.reduceSub, Int.reduceAdd, Int.reduceSub, Int.reduceMul, Int.reduceNeg, Nat.reduceLeDiff, Nat.reduceLT, Nat.reduceEqDiff, Nat.zero_add, List.reduceReplicate, List.replicate_zero, List.replicate_one, List.replicate_succ, Bool.and_true, Bool.true_and, Bool.not_true, Bool.not_false, decide_true, decide_false, Bool.false_eq_true, reduceCtorEq, and_self, if_false, if_true, hIsi_int_int, hIsi_int_bool, hIsi_int_list, hIsi_int_tuple, hIsi_int_str, hIsi_bool_int, hIsi_bool_bool, hIsi_bool_list, hIsi_bool_tuple, hIsi_bool_str, hIsi_none_int, hIsi_none_bool, hIsi_none_list, hIsi_none_tuple, hIsi_none_str, hIsi_list_int, hIsi_list_bool, hIsi_list_list, hIsi_list_tuple, hIsi_list_str, hIsi_tuple_int, hIsi_tuple_bool, hIsi_tuple_list, hIsi_tuple_tuple, hIsi_tuple_str, hIsi_str_int, hIsi_str_bool, hIsi_str_list, hIsi_str_tuple, hIsi_str_str, List.filter_cons, List.filter_nil, e, List.map_append, ni]
  · simp -implicitDefEqProofs (disch := first | omega | (simp only [List.length_map, List.length_append, List.length_cons, List.length_nil, List.length_range, List.length_take, List.length_drop, List.length_replicate, List.length_set, List.length_reverse] <;> omega) | (refine mulC_small ?_; omega) | (refine mulC_smallR ?_; omega) | (refine divC_small ?_ ?_ <;> omega) | (refine powC_small ?_ ?_ ?_ <;> omega)) only [v_run, v_iTp, tup?_tuple, v_sIfM2, k_ifM2_0, k_ifM2_1, v_srtSet, k_srtSet, v_sZ, k_sZ, v_sReb, v_sClr, k_sClr, v_pinF, k_pin, v_iZp3, k_zp3, v_setP, setPK_of, v_appP, k_appP, k_appP1, k_appP2, k_appP3, k_appP4, List.getElem?_cons_zero, List.getElem?_cons_succ, v_lSortP, k_srtP0, v_lRng, k_rng, hRg1_of, v_seq, v_set', v_setL', v_ret', v_retL', v_if', v_for', v_par', v_aug', v_augK, v_tgt', v_sub', v_mut', v_d1, v_d2, v_d3, v_dB, v_dSc, v_dScs, v_cons, v_tup', v_lst', v_dA, v_dAL, v_and', v_or', v_not', v_dT, v_iL, v_iR1, v_iR2, v_iR3, v_iEn, v_iZp, v_lCut, v_lOf, v_lCat, v_lRep, v_lRepE, k_rep0, v_rt', k_rt, v_idx, k_idx, v_lRev, k_rev, v_lSortI, v_lComp, v_oS, b_assoc, k_cmp, k_seq1, k_seq2, k_seq3, k_seq4, k_set, k_setL, k_ret, k_retL, k_if1, k_if2, k_for, k_par, k_aug2, k_tgt, k_tgt2, k_sub, k_sub1, k_sub2, k_sub3, k_mut, k_mut1, k_mut2, k_d2, k_d3, k_d31, k_d321, k_d322, k_bool, k_cons, k_cons2, k_tup, k_lst, k_al, k_and1, k_and2, k_or1, k_or2, k_not, k_dt, k_en, k_zp, k_cut, k_cut1, k_cut2, k_os, k_cat, k_rep, k_srt0, k_srt, k_comp, k_run1, k_run2, k_go1, k_go2, w_turn, w_turnR, w_turnW, w_nx, w_bk, w_ct, w_rN, w_V, w_C, w_nil, w_oN, w_yes, w_gSet, w_gTup, w_gsCons, w_gsNil, w_add, w_subI, w_lt, w_le, w_gt, w_ge, w_neg, w_isN, w_notN, w_n0, w_n1, w_n2, w_n3, w_n4, w_len1, w_len2, w_min2, w_max2, w_int1, w_int2, w_clr, w_ixL, w_ixT, w_sum, w_any, w_kil0, w_kil1, k_sc_int, k_sc_bool, k_sc_none, k_sc_str, k_scs_of, items?_list, items?_tuple, list?_list, cutD_map, all_int, all_int', List.length_map, hApp_of, hExt_of, hIns_of, hCat_of, hRep_of, hR1_of, hR2_of, hR3_of, hMul_of, hDiv_of, hMod_of, p10_3, p10_4, p10_5, p10_6, p10_7, p10_8, p10_9, p10_12, p10_50, p50_3, p50_4, atI_map, k_scs_int, List.getD_cons_zero, List.getD_cons_succ, List.set_cons_zero, List.set_cons_succ, List.map_cons, List.map_nil, List.cons_append, List.nil_append, List.append_nil, List.length_cons, List.length_nil, Option.bind_some, Option.bind_none, Option.map_some, Option.map_none, ↓reduceIte, Nat.reduceAdd, Nat.reduceSub, Int.reduceAdd, Int.reduceSub, Int.reduceMul, Int.reduceNeg, Nat.reduceLeDiff, Nat.reduceLT, Nat.reduceEqDiff, Nat.zero_add, List.reduceReplicate, List.replicate_zero, List.replicate_one, List.replicate_succ, Bool.and_true, Bool.true_and, Bool.not_true, Bool.not_false, decide_true, decide_false, Bool.false_eq_true, reduceCtorEq, and_self, if_false, if_true, hIsi_int_int, hIsi_int_bool, hIsi_int_list, hIsi_int_tuple, hIsi_int_str, hIsi_bool_int, hIsi_bool_bool, hIsi_bool_list, hIsi_bool_tuple, hIsi_bool_str, hIsi_none_int, hIsi_none_bool, hIsi_none_list, hIsi_none_tuple, hIsi_none_str, hIsi_list_int, hIsi_list_bool, hIsi_list_list, hIsi_list_tuple, hIsi_list_str, hIsi_tuple_int, hIsi_tuple_bool, hIsi_tuple_list, hIsi_tuple_tuple, hIsi_tuple_str, hIsi_str_int, hIsi_str_bool, hIsi_str_list, hIsi_str_tuple, hIsi_str_str, wD, hs]
theorem count_ev (a b : List Nat) (ha : a.length ≤ 1000) : sem_count_done [wD a, wD b] = some (.int ((a.filter fun k => b.contains k).length : Int)) := by
  simp -implicitDefEqProofs (disch := first | omega | (simp only [List.length_map, List.length_append, List.length_cons, List.length_nil, List.length_range, List.length_take, List.length_drop, List.length_replicate, List.length_set, List.length_reverse] <;> omega) | (refine mulC_small ?_; omega) | (refine mulC_smallR ?_; omega) | (refine divC_small ?_ ?_ <;> omega) | (refine powC_small ?_ ?_ ?_ <;> omega)) only [v_run, v_iTp, tup?_tuple, v_sIfM2, k_ifM2_0, k_ifM2_1, v_srtSet, k_srtSet, v_sZ, k_sZ, v_sReb, v_sClr, k_sClr, v_pinF, k_pin, v_iZp3, k_zp3, v_setP, setPK_of, v_appP, k_appP, k_appP1, k_appP2, k_appP3, k_appP4, List.getElem?_cons_zero, List.getElem?_cons_succ, v_lSortP, k_srtP0, v_lRng, k_rng, hRg1_of, v_seq, v_set', v_setL', v_ret', v_retL', v_if', v_for', v_par', v_aug', v_augK, v_tgt', v_sub', v_mut', v_d1, v_d2, v_d3, v_dB, v_dSc, v_dScs, v_cons, v_tup', v_lst', v_dA, v_dAL, v_and', v_or', v_not', v_dT, v_iL, v_iR1, v_iR2, v_iR3, v_iEn, v_iZp, v_lCut, v_lOf, v_lCat, v_lRep, v_lRepE, k_rep0, v_rt', k_rt, v_idx, k_idx, v_lRev, k_rev, v_lSortI, v_lComp, v_oS, b_assoc, k_cmp, k_seq1, k_seq2, k_seq3, k_seq4, k_set, k_setL, k_ret, k_retL, k_if1, k_if2, k_for, k_par, k_aug2, k_tgt, k_tgt2, k_sub, k_sub1, k_sub2, k_sub3, k_mut, k_mut1, k_mut2, k_d2, k_d3, k_d31, k_d321, k_d322, k_bool, k_cons, k_cons2, k_tup, k_lst, k_al, k_and1, k_and2, k_or1, k_or2, k_not, k_dt, k_en, k_zp, k_cut, k_cut1, k_cut2, k_os, k_cat, k_rep, k_srt0, k_srt, k_comp, k_run1, k_run2, k_go1, k_go2, w_turn, w_turnR, w_turnW, w_nx, w_bk, w_ct, w_rN, w_V, w_C, w_nil, w_oN, w_yes, w_gSet, w_gTup, w_gsCons, w_gsNil, w_add, w_subI, w_lt, w_le, w_gt, w_ge, w_neg, w_isN, w_notN, w_n0, w_n1, w_n2, w_n3, w_n4, w_len1, w_len2, w_min2, w_max2, w_int1, w_int2, w_clr, w_ixL, w_ixT, w_sum, w_any, w_kil0, w_kil1, k_sc_int, k_sc_bool, k_sc_none, k_sc_str, k_scs_of, items?_list, items?_tuple, list?_list, cutD_map, all_int, all_int', List.length_map, hApp_of, hExt_of, hIns_of, hCat_of, hRep_of, hR1_of, hR2_of, hR3_of, hMul_of, hDiv_of, hMod_of, p10_3, p10_4, p10_5, p10_6, p10_7, p10_8, p10_9, p10_12, p10_50, p50_3, p50_4, atI_map, k_scs_int, List.getD_cons_zero, List.getD_cons_succ, List.set_cons_zero, List.set_cons_succ, List.map_cons, List.map_nil, List.cons_append, List.nil_append, List.append_nil, List.length_cons, List.length_nil, Option.bind_some, Option.bind_none, Option.map_some, Option.map_none, ↓reduceIte, Nat.reduceAdd, Nat.reduceSub, Int.reduceAdd, Int.reduceSub, Int.reduceMul, Int.reduceNeg, Nat.reduceLeDiff, Nat.reduceLT, Nat.reduceEqDiff, Nat.zero_add, List.reduceReplicate, List.replicate_zero, List.replicate_one, List.replicate_succ, Bool.and_true, Bool.true_and, Bool.not_true, Bool.not_false, decide_true, decide_false, Bool.false_eq_true, reduceCtorEq, and_self, if_false, if_true, hIsi_int_int, hIsi_int_bool, hIsi_int_list, hIsi_int_tuple, hIsi_int_str, hIsi_bool_int, hIsi_bool_bool, hIsi_bool_list, hIsi_bool_tuple, hIsi_bool_str, hIsi_none_int, hIsi_none_bool, hIsi_none_list, hIsi_none_tuple, hIsi_none_str, hIsi_list_int, hIsi_list_bool, hIsi_list_list, hIsi_list_tuple, hIsi_list_str, hIsi_tuple_int, hIsi_tuple_bool, hIsi_tuple_list, hIsi_tuple_tuple, hIsi_tuple_str, hIsi_str_int, hIsi_str_bool, hIsi_str_list, hIsi_str_tuple, hIsi_str_str, sem_count_done, wD]
  refine b_filter (cv := ni) ni (fun k => b.contains k) a (by omega) (fun w _ => ⟨_, rfl, ?_, fun _ => ?_⟩) ?_
  · simp -implicitDefEqProofs (disch := first | omega | (simp only [List.length_map, List.length_append, List.length_cons, List.length_nil, List.length_range, List.length_take, List.length_drop, List.length_replicate, List.length_set, List.length_reverse] <;> omega) | (refine mulC_small ?_; omega) | (refine mulC_smallR ?_; omega) | (refine divC_small ?_ ?_ <;> omega) | (refine powC_small ?_ ?_ ?_ <;> omega)) only [v_run, v_iTp, tup?_tuple, v_sIfM2, k_ifM2_0, k_ifM2_1, v_srtSet, k_srtSet, v_sZ, k_sZ, v_sReb, v_sClr, k_sClr, v_pinF, k_pin, v_iZp3, k_zp3, v_setP, setPK_of, v_appP, k_appP, k_appP1, k_appP2, k_appP3, k_appP4, List.getElem?_cons_zero, List.getElem?_cons_succ, v_lSortP, k_srtP0, v_lRng, k_rng, hRg1_of, v_seq, v_set', v_setL', v_ret', v_retL', v_if', v_for', v_par', v_aug', v_augK, v_tgt', v_sub', v_mut', v_d1, v_d2, v_d3, v_dB, v_dSc, v_dScs, v_cons, v_tup', v_lst', v_dA, v_dAL, v_and', v_or', v_not', v_dT, v_iL, v_iR1, v_iR2, v_iR3, v_iEn, v_iZp, v_lCut, v_lOf, v_lCat, v_lRep, v_lRepE, k_rep0, v_rt', k_rt, v_idx, k_idx, v_lRev, k_rev, v_lSortI, v_lComp, v_oS, b_assoc, k_cmp, k_seq1, k_seq2, k_seq3, k_seq4, k_set, k_setL, k_ret, k_retL, k_if1, k_if2, k_for, k_par, k_aug2, k_tgt, k_tgt2, k_sub, k_sub1, k_sub2, k_sub3, k_mut, k_mut1, k_mut2, k_d2, k_d3, k_d31, k_d321, k_d322, k_bool, k_cons, k_cons2, k_tup, k_lst, k_al, k_and1, k_and2, k_or1, k_or2, k_not, k_dt, k_en, k_zp, k_cut, k_cut1, k_cut2, k_os, k_cat, k_rep, k_srt0, k_srt, k_comp, k_run1, k_run2, k_go1, k_go2, w_turn, w_turnR, w_turnW, w_nx, w_bk, w_ct, w_rN, w_V, w_C, w_nil, w_oN, w_yes, w_gSet, w_gTup, w_gsCons, w_gsNil, w_add, w_subI, w_lt, w_le, w_gt, w_ge, w_neg, w_isN, w_notN, w_n0, w_n1, w_n2, w_n3, w_n4, w_len1, w_len2, w_min2, w_max2, w_int1, w_int2, w_clr, w_ixL, w_ixT, w_sum, w_any, w_kil0, w_kil1, k_sc_int, k_sc_bool, k_sc_none, k_sc_str, k_scs_of, items?_list, items?_tuple, list?_list, cutD_map, all_int, all_int', List.length_map, hApp_of, hExt_of, hIns_of, hCat_of, hRep_of, hR1_of, hR2_of, hR3_of, hMul_of, hDiv_of, hMod_of, p10_3, p10_4, p10_5, p10_6, p10_7, p10_8, p10_9, p10_12, p10_50, p50_3, p50_4, atI_map, k_scs_int, List.getD_cons_zero, List.getD_cons_succ, List.set_cons_zero, List.set_cons_succ, List.map_cons, List.map_nil, List.cons_append, List.nil_append, List.append_nil, List.length_cons, List.length_nil, Option.bind_some, Option.bind_none, Option.map_some, Option.map_none, ↓reduceIte, Nat.reduceAdd, Nat.reduceSub, Int.reduceAdd, Int.reduceSub, Int.reduceMul, Int.reduceNeg, Nat.reduceLeDiff, Nat.reduceLT, Nat.reduceEqDiff, Nat.zero_add, List.reduceReplicate, List.replicate_zero, List.replicate_one, List.replicate_succ, Bool.and_true, Bool.true_and, Bool.not_true, Bool.not_false, decide_true, decide_false, Bool.false_eq_true, reduceCtorEq, and_self, if_false, if_true, hIsi_int_int, hIsi_int_bool, hIsi_int_list, hIsi_int_tuple, hIsi_int_str, hIsi_bool_int, hIsi_bool_bool, hIsi_bool_list, hIsi_bool_tuple, hIsi_bool_str, hIsi_none_int, hIsi_none_bool, hIsi_none_list, hIsi_none_tuple, hIsi_none_str, hIsi_list_int, hIsi_list_bool, hIsi_list_list, hIsi_list_tuple, hIsi_list_str, hIsi_tuple_int, hIsi_tuple_bool, hIsi_tuple_list, hIsi_tuple_tuple, hIsi_tuple_str, hIsi_str_int, hIsi_str_bool, hIsi_str_list, hIsi_str_tuple, hIsi_str_str, ni, hIn_ni]
  · simp -implicitDefEqProofs (disch := first | omega | (simp only [List.length_map, List.length_append, List.length_cons, List.length_nil, List.length_range, List.length_take, List.length_drop, List.length_replicate, List.length_set, List.length_reverse] <;> omega) | (refine mulC_small ?_; omega) | (refine mulC_smallR ?_; omega) | (refine divC_small ?_ ?_ <;> omega) | (refine powC_small ?_ ?_ ?_ <;> omega)) only [v_run, v_iTp, tup?_tuple, v_sIfM2, k_ifM2_0, k_ifM2_1, v_srtSet, k_srtSet, v_sZ, k_sZ, v_sReb, v_sClr, k_sClr, v_pinF, k_pin, v_iZp3, k_zp3, v_setP, setPK_of, v_appP, k_appP, k_appP1, k_appP2, k_appP3, k_appP4, List.getElem?_cons_zero, List.getElem?_cons_succ, v_lSortP, k_srtP0, v_lRng, k_rng, hRg1_of, v_seq, v_set', v_setL', v_ret', v_retL', v_if', v_for', v_par', v_aug', v_augK, v_tgt', v_sub', v_mut', v_d1, v_d2, v_d3, v_dB, v_dSc, v_dScs, v_cons, v_tup', v_lst', v_dA, v_dAL, v_and', v_or', v_not', v_dT, v_iL, v_iR1, v_iR2, v_iR3, v_iEn, v_iZp, v_lCut, v_lOf, v_lCat, v_lRep, v_lRepE, k_rep0, v_rt', k_rt, v_idx, k_idx, v_lRev, k_rev, v_lSortI, v_lComp, v_oS, b_assoc, k_cmp, k_seq1, k_seq2, k_seq3, k_seq4, k_set, k_setL, k_ret, k_retL, k_if1, k_if2, k_for, k_par, k_aug2, k_tgt, k_tgt2, k_sub, k_sub1, k_sub2, k_sub3, k_mut, k_mut1, k_mut2, k_d2, k_d3, k_d31, k_d321, k_d322, k_bool, k_cons, k_cons2, k_tup, k_lst, k_al, k_and1, k_and2, k_or1, k_or2, k_not, k_dt, k_en, k_zp, k_cut, k_cut1, k_cut2, k_os, k_cat, k_rep, k_srt0, k_srt, k_comp, k_run1, k_run2, k_go1, k_go2, w_turn, w_turnR, w_turnW, w_nx, w_bk, w_ct, w_rN, w_V, w_C, w_nil, w_oN, w_yes, w_gSet, w_gTup, w_gsCons, w_gsNil, w_add, w_subI, w_lt, w_le, w_gt, w_ge, w_neg, w_isN, w_notN, w_n0, w_n1, w_n2, w_n3, w_n4, w_len1, w_len2, w_min2, w_max2, w_int1, w_int2, w_clr, w_ixL, w_ixT, w_sum, w_any, w_kil0, w_kil1, k_sc_int, k_sc_bool, k_sc_none, k_sc_str, k_scs_of, items?_list, items?_tuple, list?_list, cutD_map, all_int, all_int', List.length_map, hApp_of, hExt_of, hIns_of, hCat_of, hRep_of, hR1_of, hR2_of, hR3_of, hMul_of, hDiv_of, hMod_of, p10_3, p10_4, p10_5, p10_6, p10_7, p10_8, p10_9, p10_12, p10_50, p50_3, p50_4, atI_map, k_scs_int, List.getD_cons_zero, List.getD_cons_succ, List.set_cons_zero, List.set_cons_succ, List.map_cons, List.map_nil, List.cons_append, List.nil_append, List.append_nil, List.length_cons, List.length_nil, Option.bind_some, Option.bind_none, Option.map_some, Option.map_none, ↓reduceIte, Nat.reduceAdd, Nat.reduceSub, Int.reduceAdd, Int.reduceSub, Int.reduceMul, Int.reduceNeg, Nat.reduceLeDiff, Nat.reduceLT, Nat.reduceEqDiff, Nat.zero_add, List.reduceReplicate, List.replicate_zero, List.replicate_one, List.replicate_succ, Bool.and_true, Bool.true_and, Bool.not_true, Bool.not_false, decide_true, decide_false, Bool.false_eq_true, reduceCtorEq, and_self, if_false, if_true, hIsi_int_int, hIsi_int_bool, hIsi_int_list, hIsi_int_tuple, hIsi_int_str, hIsi_bool_int, hIsi_bool_bool, hIsi_bool_list, hIsi_bool_tuple, hIsi_bool_str, hIsi_none_int, hIsi_none_bool, hIsi_none_list, hIsi_none_tuple, hIsi_none_str, hIsi_list_int, hIsi_list_bool, hIsi_list_list, hIsi_list_tuple, hIsi_list_str, hIsi_tuple_int, hIsi_tuple_bool, hIsi_tuple_list, hIsi_tuple_tuple, hIsi_tuple_str, hIsi_str_int, hIsi_str_bool, hIsi_str_list, hIsi_str_tuple, hIsi_str_str, ni]
  · simp -implicitDefEqProofs (disch := first | omega | (simp only [List.length_map, List.length_append, List.length_cons, List.length_nil, List.length_range, List.length_take, List.length_drop, List.length_replicate, List.length_set, List.length_reverse] <;> omega) | (refine mulC_small ?_; omega) | (refine mulC_smallR ?_; omega) | (refine divC_small ?_ ?_ <;> omega) | (refine powC_small ?_ ?_ ?_ <;> omega)) only [v_run, v_iTp, tup?_tuple, v_sIfM2, k_ifM2_0, k_ifM2_1, v_srtSet, k_srtSet, v_sZ, k_sZ, v_sReb, v_sClr, k_sClr, v_pinF, k_pin, v_iZp3, k_zp3, v_setP, setPK_of, v_appP, k_appP, k_appP1, k_appP2, k_appP3, k_appP4, List.getElem?_cons_zero, List.getElem?_cons_succ, v_lSortP, k_srtP0, v_lRng, k_rng, hRg1_of, v_seq, v_set', v_setL', v_ret', v_retL', v_if', v_for', v_par', v_aug', v_augK, v_tgt', v_sub', v_mut', v_d1, v_d2, v_d3, v_dB, v_dSc, v_dScs, v_cons, v_tup', v_lst', v_dA, v_dAL, v_and', v_or', v_not', v_dT, v_iL, v_iR1, v_iR2, v_iR3, v_iEn, v_iZp, v_lCut, v_lOf, v_lCat, v_lRep, v_lRepE, k_rep0, v_rt', k_rt, v_idx, k_idx, v_lRev, k_rev, v_lSortI, v_lComp, v_oS, b_assoc, k_cmp, k_seq1, k_seq2, k_seq3, k_seq4, k_set, k_setL, k_ret, k_retL, k_if1, k_if2, k_for, k_par, k_aug2, k_tgt, k_tgt2, k_sub, k_sub1, k_sub2, k_sub3, k_mut, k_mut1, k_mut2, k_d2, k_d3, k_d31, k_d321, k_d322, k_bool, k_cons, k_cons2, k_tup, k_lst, k_al, k_and1, k_and2, k_or1, k_or2, k_not, k_dt, k_en, k_zp, k_cut, k_cut1, k_cut2, k_os, k_cat, k_rep, k_srt0, k_srt, k_comp, k_run1, k_run2, k_go1, k_go2, w_turn, w_turnR, w_turnW, w_nx, w_bk, w_ct, w_rN, w_V, w_C, w_nil, w_oN, w_yes, w_gSet, w_gTup, w_gsCons, w_gsNil, w_add, w_subI, w_lt, w_le, w_gt, w_ge, w_neg, w_isN, w_notN, w_n0, w_n1, w_n2, w_n3, w_n4, w_len1, w_len2, w_min2, w_max2, w_int1, w_int2, w_clr, w_ixL, w_ixT, w_sum, w_any, w_kil0, w_kil1, k_sc_int, k_sc_bool, k_sc_none, k_sc_str, k_scs_of, items?_list, items?_tuple, list?_list, cutD_map, all_int, all_int', List.length_map, hApp_of, hExt_of, hIns_of, hCat_of, hRep_of, hR1_of, hR2_of, hR3_of, hMul_of, hDiv_of, hMod_of, p10_3, p10_4, p10_5, p10_6, p10_7, p10_8, p10_9, p10_12, p10_50, p50_3, p50_4, atI_map, k_scs_int, List.getD_cons_zero, List.getD_cons_succ, List.set_cons_zero, List.set_cons_succ, List.map_cons, List.map_nil, List.cons_append, List.nil_append, List.append_nil, List.length_cons, List.length_nil, Option.bind_some, Option.bind_none, Option.map_some, Option.map_none, ↓reduceIte, Nat.reduceAdd, Nat.reduceSub, Int.reduceAdd, Int.reduceSub, Int.reduceMul, Int.reduceNeg, Nat.reduceLeDiff, Nat.reduceLT, Nat.reduceEqDiff, Nat.zero_add, List.reduceReplicate, List.replicate_zero, List.replicate_one, List.replicate_succ, Bool.and_true, Bool.true_and, Bool.not_true, Bool.not_false, decide_true, decide_false, Bool.false_eq_true, reduceCtorEq, and_self, if_false, if_true, hIsi_int_int, hIsi_int_bool, hIsi_int_list, hIsi_int_tuple, hIsi_int_str, hIsi_bool_int, hIsi_bool_bool, hIsi_bool_list, hIsi_bool_tuple, hIsi_bool_str, hIsi_none_int, hIsi_none_bool, hIsi_none_list, hIsi_none_tuple, hIsi_none_str, hIsi_list_int, hIsi_list_bool, hIsi_list_list, hIsi_list_tuple, hIsi_list_str, hIsi_tuple_int, hIsi_tuple_bool, hIsi_tuple_list, hIsi_tuple_tuple, hIsi_tuple_str, hIsi_str_int, hIsi_str_bool, hIsi_str_list, hIsi_str_tuple, hIsi_str_str]
theorem short_ev (ws : List (List Nat)) (asked done : List Nat) (hv : ws.length ≤ 1000) (ha : asked.length ≤ 1000) (hw : ∀ i, (ws.getD i []).length ≤ 1000) : sem_short_ones [.list (ws.map wD), wD asked, wD done] = some (wD (grpF ws asked done)) := by
  have c := common_ev ws asked hv ha
  have cl := List.length_filter_le (fun i => asked.all fun k => (ws.getD i []).contains k) (List.range ws.length)
  rw [List.length_range] at cl
  have e : grpF ws asked done = ((List.range ws.length).filter fun i => asked.all fun k => (ws.getD i []).contains k).filter fun i => decide ((((ws.getD i []).filter fun k => done.contains k).length : Int) < (asked.length : Int)) := by
    rw [List.filter_filter]
    refine List.filter_congr fun i _ => ?_
    rw [Bool.and_comm]
  rw [e]
  have hm : ∀ i ∈ (List.range ws.length).filter (fun i => asked.all fun k => (ws.getD i []).contains k), i < ws.length := fun i hi => List.mem_range.mp (List.mem_filter.mp hi).1
  generalize (List.range ws.length).filter (fun i => asked.all fun k => (ws.getD i []).contains k) = cm at c cl hm
  simp -implicitDefEqProofs (disch := first | omega | (simp only [List.length_map, List.length_append, List.length_cons, List.length_nil, List.length_range, List.length_take, List.length_drop, List.length_replicate, List.length_set, List.length_reverse] <;> omega) | (refine mulC_small ?_; omega) | (refine mulC_smallR ?_; omega) | (refine divC_small ?_ ?_ <;> omega) | (refine powC_small ?_ ?_ ?_ <;> omega)) only [v_run, v_iTp, tup?_tuple, v_sIfM2, k_ifM2_0, k_ifM2_1, v_srtSet, k_srtSet, v_sZ, k_sZ, v_sReb, v_sClr, k_sClr, v_pinF, k_pin, v_iZp3, k_zp3, v_setP, setPK_of, v_appP, k_appP, k_appP1, k_appP2, k_appP3, k_appP4, List.getElem?_cons_zero, List.getElem?_cons_succ, v_lSortP, k_srtP0, v_lRng, k_rng, hRg1_of, v_seq, v_set', v_setL', v_ret', v_retL', v_if', v_for', v_par', v_aug', v_augK, v_tgt', v_sub', v_mut', v_d1, v_d2, v_d3, v_dB, v_dSc, v_dScs, v_cons, v_tup', v_lst', v_dA, v_dAL, v_and', v_or', v_not', v_dT, v_iL, v_iR1, v_iR2, v_iR3, v_iEn, v_iZp, v_lCut, v_lOf, v_lCat, v_lRep, v_lRepE, k_rep0, v_rt', k_rt, v_idx, k_idx, v_lRev, k_rev, v_lSortI, v_lComp, v_oS, b_assoc, k_cmp, k_seq1, k_seq2, k_seq3, k_seq4, k_set, k_setL, k_ret, k_retL, k_if1, k_if2, k_for, k_par, k_aug2, k_tgt, k_tgt2, k_sub, k_sub1, k_sub2, k_sub3, k_mut, k_mut1, k_mut2, k_d2, k_d3, k_d31, k_d321, k_d322, k_bool, k_cons, k_cons2, k_tup, k_lst, k_al, k_and1, k_and2, k_or1, k_or2, k_not, k_dt, k_en, k_zp, k_cut, k_cut1, k_cut2, k_os, k_cat, k_rep, k_srt0, k_srt, k_comp, k_run1, k_run2, k_go1, k_go2, w_turn, w_turnR, w_turnW, w_nx, w_bk, w_ct, w_rN, w_V, w_C, w_nil, w_oN, w_yes, w_gSet, w_gTup, w_gsCons, w_gsNil, w_add, w_subI, w_lt, w_le, w_gt, w_ge, w_neg, w_isN, w_notN, w_n0, w_n1, w_n2, w_n3, w_n4, w_len1, w_len2, w_min2, w_max2, w_int1, w_int2, w_clr, w_ixL, w_ixT, w_sum, w_any, w_kil0, w_kil1, k_sc_int, k_sc_bool, k_sc_none, k_sc_str, k_scs_of, items?_list, items?_tuple, list?_list, cutD_map, all_int, all_int', List.length_map, hApp_of, hExt_of, hIns_of, hCat_of, hRep_of, hR1_of, hR2_of, hR3_of, hMul_of, hDiv_of, hMod_of, p10_3, p10_4, p10_5, p10_6, p10_7, p10_8, p10_9, p10_12, p10_50, p50_3, p50_4, atI_map, k_scs_int, List.getD_cons_zero, List.getD_cons_succ, List.set_cons_zero, List.set_cons_succ, List.map_cons, List.map_nil, List.cons_append, List.nil_append, List.append_nil, List.length_cons, List.length_nil, Option.bind_some, Option.bind_none, Option.map_some, Option.map_none, ↓reduceIte, Nat.reduceAdd, Nat.reduceSub, Int.reduceAdd, Int.reduceSub, Int.reduceMul, Int.reduceNeg, Nat.reduceLeDiff, Nat.reduceLT, Nat.reduceEqDiff, Nat.zero_add, List.reduceReplicate, List.replicate_zero, List.replicate_one, List.replicate_succ, Bool.and_true, Bool.true_and, Bool.not_true, Bool.not_false, decide_true, decide_false, Bool.false_eq_true, reduceCtorEq, and_self, if_false, if_true, hIsi_int_int, hIsi_int_bool, hIsi_int_list, hIsi_int_tuple, hIsi_int_str, hIsi_bool_int, hIsi_bool_bool, hIsi_bool_list, hIsi_bool_tuple, hIsi_bool_str, hIsi_none_int, hIsi_none_bool, hIsi_none_list, hIsi_none_tuple, hIsi_none_str, hIsi_list_int, hIsi_list_bool, hIsi_list_list, hIsi_list_tuple, hIsi_list_str, hIsi_tuple_int, hIsi_tuple_bool, hIsi_tuple_list, hIsi_tuple_tuple, hIsi_tuple_str, hIsi_str_int, hIsi_str_bool, hIsi_str_list, hIsi_str_tuple, hIsi_str_str, sem_short_ones, c]
  simp -implicitDefEqProofs (disch := first | omega | (simp only [List.length_map, List.length_append, List.length_cons, List.length_nil, List.length_range, List.length_take, List.length_drop, List.length_replicate, List.length_set, List.length_reverse] <;> omega) | (refine mulC_small ?_; omega) | (refine mulC_smallR ?_; omega) | (refine divC_small ?_ ?_ <;> omega) | (refine powC_small ?_ ?_ ?_ <;> omega)) only [v_run, v_iTp, tup?_tuple, v_sIfM2, k_ifM2_0, k_ifM2_1, v_srtSet, k_srtSet, v_sZ, k_sZ, v_sReb, v_sClr, k_sClr, v_pinF, k_pin, v_iZp3, k_zp3, v_setP, setPK_of, v_appP, k_appP, k_appP1, k_appP2, k_appP3, k_appP4, List.getElem?_cons_zero, List.getElem?_cons_succ, v_lSortP, k_srtP0, v_lRng, k_rng, hRg1_of, v_seq, v_set', v_setL', v_ret', v_retL', v_if', v_for', v_par', v_aug', v_augK, v_tgt', v_sub', v_mut', v_d1, v_d2, v_d3, v_dB, v_dSc, v_dScs, v_cons, v_tup', v_lst', v_dA, v_dAL, v_and', v_or', v_not', v_dT, v_iL, v_iR1, v_iR2, v_iR3, v_iEn, v_iZp, v_lCut, v_lOf, v_lCat, v_lRep, v_lRepE, k_rep0, v_rt', k_rt, v_idx, k_idx, v_lRev, k_rev, v_lSortI, v_lComp, v_oS, b_assoc, k_cmp, k_seq1, k_seq2, k_seq3, k_seq4, k_set, k_setL, k_ret, k_retL, k_if1, k_if2, k_for, k_par, k_aug2, k_tgt, k_tgt2, k_sub, k_sub1, k_sub2, k_sub3, k_mut, k_mut1, k_mut2, k_d2, k_d3, k_d31, k_d321, k_d322, k_bool, k_cons, k_cons2, k_tup, k_lst, k_al, k_and1, k_and2, k_or1, k_or2, k_not, k_dt, k_en, k_zp, k_cut, k_cut1, k_cut2, k_os, k_cat, k_rep, k_srt0, k_srt, k_comp, k_run1, k_run2, k_go1, k_go2, w_turn, w_turnR, w_turnW, w_nx, w_bk, w_ct, w_rN, w_V, w_C, w_nil, w_oN, w_yes, w_gSet, w_gTup, w_gsCons, w_gsNil, w_add, w_subI, w_lt, w_le, w_gt, w_ge, w_neg, w_isN, w_notN, w_n0, w_n1, w_n2, w_n3, w_n4, w_len1, w_len2, w_min2, w_max2, w_int1, w_int2, w_clr, w_ixL, w_ixT, w_sum, w_any, w_kil0, w_kil1, k_sc_int, k_sc_bool, k_sc_none, k_sc_str, k_scs_of, items?_list, items?_tuple, list?_list, cutD_map, all_int, all_int', List.length_map, hApp_of, hExt_of, hIns_of, hCat_of, hRep_of, hR1_of, hR2_of, hR3_of, hMul_of, hDiv_of, hMod_of, p10_3, p10_4, p10_5, p10_6, p10_7, p10_8, p10_9, p10_12, p10_50, p50_3, p50_4, atI_map, k_scs_int, List.getD_cons_zero, List.getD_cons_succ, List.set_cons_zero, List.set_cons_succ, List.map_cons, List.map_nil, List.cons_append, List.nil_append, List.append_nil, List.length_cons, List.length_nil, Option.bind_some, Option.bind_none, Option.map_some, Option.map_none, ↓reduceIte, Nat.reduceAdd, Nat.reduceSub, Int.reduceAdd, Int.reduceSub, Int.reduceMul, Int.reduceNeg, Nat.reduceLeDiff, Nat.reduceLT, Nat.reduceEqDiff, Nat.zero_add, List.reduceReplicate, List.replicate_zero, List.replicate_one, List.replicate_succ, Bool.and_true, Bool.true_and, Bool.not_true, Bool.not_false, decide_true, decide_false, Bool.false_eq_true, reduceCtorEq, and_self, if_false, if_true, hIsi_int_int, hIsi_int_bool, hIsi_int_list, hIsi_int_tuple, hIsi_int_str, hIsi_bool_int, hIsi_bool_bool, hIsi_bool_list, hIsi_bool_tuple, hIsi_bool_str, hIsi_none_int, hIsi_none_bool, hIsi_none_list, hIsi_none_tuple, hIsi_none_str, hIsi_list_int, hIsi_list_bool, hIsi_list_list, hIsi_list_tuple, hIsi_list_str, hIsi_tuple_int, hIsi_tuple_bool, hIsi_tuple_list, hIsi_tuple_tuple, hIsi_tuple_str, hIsi_str_int, hIsi_str_bool, hIsi_str_list, hIsi_str_tuple, hIsi_str_str, wD]
  refine b_filter (cv := ni) ni (fun i => decide ((((ws.getD i []).filter fun k => done.contains k).length : Int) < (asked.length : Int))) cm (by omega) (fun i hi => ⟨_, rfl, ?_, fun _ => ?_⟩) ?_
  · have ct := count_ev (ws.getD i []) done (hw i)
    simp -implicitDefEqProofs (disch := first | omega | (simp only [List.length_map, List.length_append, List.length_cons, List.length_nil, List.length_range, List.length_take, List.length_drop, List.length_replicate, List.length_set, List.length_reverse] <;> omega) | (refine mulC_small ?_; omega) | (refine mulC_smallR ?_; omega) | (refine divC_small ?_ ?_ <;> omega) | (refine powC_small ?_ ?_ ?_ <;> omega)) only [v_run, v_iTp, tup?_tuple, v_sIfM2, k_ifM2_0, k_ifM2_1, v_srtSet, k_srtSet, v_sZ, k_sZ, v_sReb, v_sClr, k_sClr, v_pinF, k_pin, v_iZp3, k_zp3, v_setP, setPK_of, v_appP, k_appP, k_appP1, k_appP2, k_appP3, k_appP4, List.getElem?_cons_zero, List.getElem?_cons_succ, v_lSortP, k_srtP0, v_lRng, k_rng, hRg1_of, v_seq, v_set', v_setL', v_ret', v_retL', v_if', v_for', v_par', v_aug', v_augK, v_tgt', v_sub', v_mut', v_d1, v_d2, v_d3, v_dB, v_dSc, v_dScs, v_cons, v_tup', v_lst', v_dA, v_dAL, v_and', v_or', v_not', v_dT, v_iL, v_iR1, v_iR2, v_iR3, v_iEn, v_iZp, v_lCut, v_lOf, v_lCat, v_lRep, v_lRepE, k_rep0, v_rt', k_rt, v_idx, k_idx, v_lRev, k_rev, v_lSortI, v_lComp, v_oS, b_assoc, k_cmp, k_seq1, k_seq2, k_seq3, k_seq4, k_set, k_setL, k_ret, k_retL, k_if1, k_if2, k_for, k_par, k_aug2, k_tgt, k_tgt2, k_sub, k_sub1, k_sub2, k_sub3, k_mut, k_mut1, k_mut2, k_d2, k_d3, k_d31, k_d321, k_d322, k_bool, k_cons, k_cons2, k_tup, k_lst, k_al, k_and1, k_and2, k_or1, k_or2, k_not, k_dt, k_en, k_zp, k_cut, k_cut1, k_cut2, k_os, k_cat, k_rep, k_srt0, k_srt, k_comp, k_run1, k_run2, k_go1, k_go2, w_turn, w_turnR, w_turnW, w_nx, w_bk, w_ct, w_rN, w_V, w_C, w_nil, w_oN, w_yes, w_gSet, w_gTup, w_gsCons, w_gsNil, w_add, w_subI, w_lt, w_le, w_gt, w_ge, w_neg, w_isN, w_notN, w_n0, w_n1, w_n2, w_n3, w_n4, w_len1, w_len2, w_min2, w_max2, w_int1, w_int2, w_clr, w_ixL, w_ixT, w_sum, w_any, w_kil0, w_kil1, k_sc_int, k_sc_bool, k_sc_none, k_sc_str, k_scs_of, items?_list, items?_tuple, list?_list, cutD_map, all_int, all_int', List.length_map, hApp_of, hExt_of, hIns_of, hCat_of, hRep_of, hR1_of, hR2_of, hR3_of, hMul_of, hDiv_of, hMod_of, p10_3, p10_4, p10_5, p10_6, p10_7, p10_8, p10_9, p10_12, p10_50, p50_3, p50_4, atI_map, k_scs_int, List.getD_cons_zero, List.getD_cons_succ, List.set_cons_zero, List.set_cons_succ, List.map_cons, List.map_nil, List.cons_append, List.nil_append, List.append_nil, List.length_cons, List.length_nil, Option.bind_some, Option.bind_none, Option.map_some, Option.map_none, ↓reduceIte, Nat.reduceAdd, Nat.reduceSub, Int.reduceAdd, Int.reduceSub, Int.reduceMul, Int.reduceNeg, Nat.reduceLeDiff, Nat.reduceLT, Nat.reduceEqDiff, Nat.zero_add, List.reduceReplicate, List.replicate_zero, List.replicate_one, List.replicate_succ, Bool.and_true, Bool.true_and, Bool.not_true, Bool.not_false, decide_true, decide_false, Bool.false_eq_true, reduceCtorEq, and_self, if_false, if_true, hIsi_int_int, hIsi_int_bool, hIsi_int_list, hIsi_int_tuple, hIsi_int_str, hIsi_bool_int, hIsi_bool_bool, hIsi_bool_list, hIsi_bool_tuple, hIsi_bool_str, hIsi_none_int, hIsi_none_bool, hIsi_none_list, hIsi_none_tuple, hIsi_none_str, hIsi_list_int, hIsi_list_bool, hIsi_list_list, hIsi_list_tuple, hIsi_list_str, hIsi_tuple_int, hIsi_tuple_bool, hIsi_tuple_list, hIsi_tuple_tuple, hIsi_tuple_str, hIsi_str_int, hIsi_str_bool, hIsi_str_list, hIsi_str_tuple, hIsi_str_str, wD] at ct
    simp -implicitDefEqProofs (disch := first | omega | (simp only [List.length_map, List.length_append, List.length_cons, List.length_nil, List.length_range, List.length_take, List.length_drop, List.length_replicate, List.length_set, List.length_reverse] <;> omega) | (refine mulC_small ?_; omega) | (refine mulC_smallR ?_; omega) | (refine divC_small ?_ ?_ <;> omega) | (refine powC_small ?_ ?_ ?_ <;> omega)) only [v_run, v_iTp, tup?_tuple, v_sIfM2, k_ifM2_0, k_ifM2_1, v_srtSet, k_srtSet, v_sZ, k_sZ, v_sReb, v_sClr, k_sClr, v_pinF, k_pin, v_iZp3, k_zp3, v_setP, setPK_of, v_appP, k_appP, k_appP1, k_appP2, k_appP3, k_appP4, List.getElem?_cons_zero, List.getElem?_cons_succ, v_lSortP, k_srtP0, v_lRng, k_rng, hRg1_of, v_seq, v_set', v_setL', v_ret', v_retL', v_if', v_for', v_par', v_aug', v_augK, v_tgt', v_sub', v_mut', v_d1, v_d2, v_d3, v_dB, v_dSc, v_dScs, v_cons, v_tup', v_lst', v_dA, v_dAL, v_and', v_or', v_not', v_dT, v_iL, v_iR1, v_iR2, v_iR3, v_iEn, v_iZp, v_lCut, v_lOf, v_lCat, v_lRep, v_lRepE, k_rep0, v_rt', k_rt, v_idx, k_idx, v_lRev, k_rev, v_lSortI, v_lComp, v_oS, b_assoc, k_cmp, k_seq1, k_seq2, k_seq3, k_seq4, k_set, k_setL, k_ret, k_retL, k_if1, k_if2, k_for, k_par, k_aug2, k_tgt, k_tgt2, k_sub, k_sub1, k_sub2, k_sub3, k_mut, k_mut1, k_mut2, k_d2, k_d3, k_d31, k_d321, k_d322, k_bool, k_cons, k_cons2, k_tup, k_lst, k_al, k_and1, k_and2, k_or1, k_or2, k_not, k_dt, k_en, k_zp, k_cut, k_cut1, k_cut2, k_os, k_cat, k_rep, k_srt0, k_srt, k_comp, k_run1, k_run2, k_go1, k_go2, w_turn, w_turnR, w_turnW, w_nx, w_bk, w_ct, w_rN, w_V, w_C, w_nil, w_oN, w_yes, w_gSet, w_gTup, w_gsCons, w_gsNil, w_add, w_subI, w_lt, w_le, w_gt, w_ge, w_neg, w_isN, w_notN, w_n0, w_n1, w_n2, w_n3, w_n4, w_len1, w_len2, w_min2, w_max2, w_int1, w_int2, w_clr, w_ixL, w_ixT, w_sum, w_any, w_kil0, w_kil1, k_sc_int, k_sc_bool, k_sc_none, k_sc_str, k_scs_of, items?_list, items?_tuple, list?_list, cutD_map, all_int, all_int', List.length_map, hApp_of, hExt_of, hIns_of, hCat_of, hRep_of, hR1_of, hR2_of, hR3_of, hMul_of, hDiv_of, hMod_of, p10_3, p10_4, p10_5, p10_6, p10_7, p10_8, p10_9, p10_12, p10_50, p50_3, p50_4, atI_map, k_scs_int, List.getD_cons_zero, List.getD_cons_succ, List.set_cons_zero, List.set_cons_succ, List.map_cons, List.map_nil, List.cons_append, List.nil_append, List.append_nil, List.length_cons, List.length_nil, Option.bind_some, Option.bind_none, Option.map_some, Option.map_none, ↓reduceIte, Nat.reduceAdd, Nat.reduceSub, Int.reduceAdd, Int.reduceSub, Int.reduceMul, Int.reduceNeg, Nat.reduceLeDiff, Nat.reduceLT, Nat.reduceEqDiff, Nat.zero_add, List.reduceReplicate, List.replicate_zero, List.replicate_one, List.replicate_succ, Bool.and_true, Bool.true_and, Bool.not_true, Bool.not_false, decide_true, decide_false, Bool.false_eq_true, reduceCtorEq, and_self, if_false, if_true, hIsi_int_int, hIsi_int_bool, hIsi_int_list, hIsi_int_tuple, hIsi_int_str, hIsi_bool_int, hIsi_bool_bool, hIsi_bool_list, hIsi_bool_tuple, hIsi_bool_str, hIsi_none_int, hIsi_none_bool, hIsi_none_list, hIsi_none_tuple, hIsi_none_str, hIsi_list_int, hIsi_list_bool, hIsi_list_list, hIsi_list_tuple, hIsi_list_str, hIsi_tuple_int, hIsi_tuple_bool, hIsi_tuple_list, hIsi_tuple_tuple, hIsi_tuple_str, hIsi_str_int, hIsi_str_bool, hIsi_str_list, hIsi_str_tuple, hIsi_str_str, ni, atI_get0 [] ws i (hm i hi), wD, ct]
  · simp -implicitDefEqProofs (disch := first | omega | (simp only [List.length_map, List.length_append, List.length_cons, List.length_nil, List.length_range, List.length_take, List.length_drop, List.length_replicate, List.length_set, List.length_reverse] <;> omega) | (refine mulC_small ?_; omega) | (refine mulC_smallR ?_; omega) | (refine divC_small ?_ ?_ <;> omega) | (refine powC_small ?_ ?_ ?_ <;> omega)) only [v_run, v_iTp, tup?_tuple, v_sIfM2, k_ifM2_0, k_ifM2_1, v_srtSet, k_srtSet, v_sZ, k_sZ, v_sReb, v_sClr, k_sClr, v_pinF, k_pin, v_iZp3, k_zp3, v_setP, setPK_of, v_appP, k_appP, k_appP1, k_appP2, k_appP3, k_appP4, List.getElem?_cons_zero, List.getElem?_cons_succ, v_lSortP, k_srtP0, v_lRng, k_rng, hRg1_of, v_seq, v_set', v_setL', v_ret', v_retL', v_if', v_for', v_par', v_aug', v_augK, v_tgt', v_sub', v_mut', v_d1, v_d2, v_d3, v_dB, v_dSc, v_dScs, v_cons, v_tup', v_lst', v_dA, v_dAL, v_and', v_or', v_not', v_dT, v_iL, v_iR1, v_iR2, v_iR3, v_iEn, v_iZp, v_lCut, v_lOf, v_lCat, v_lRep, v_lRepE, k_rep0, v_rt', k_rt, v_idx, k_idx, v_lRev, k_rev, v_lSortI, v_lComp, v_oS, b_assoc, k_cmp, k_seq1, k_seq2, k_seq3, k_seq4, k_set, k_setL, k_ret, k_retL, k_if1, k_if2, k_for, k_par, k_aug2, k_tgt, k_tgt2, k_sub, k_sub1, k_sub2, k_sub3, k_mut, k_mut1, k_mut2, k_d2, k_d3, k_d31, k_d321, k_d322, k_bool, k_cons, k_cons2, k_tup, k_lst, k_al, k_and1, k_and2, k_or1, k_or2, k_not, k_dt, k_en, k_zp, k_cut, k_cut1, k_cut2, k_os, k_cat, k_rep, k_srt0, k_srt, k_comp, k_run1, k_run2, k_go1, k_go2, w_turn, w_turnR, w_turnW, w_nx, w_bk, w_ct, w_rN, w_V, w_C, w_nil, w_oN, w_yes, w_gSet, w_gTup, w_gsCons, w_gsNil, w_add, w_subI, w_lt, w_le, w_gt, w_ge, w_neg, w_isN, w_notN, w_n0, w_n1, w_n2, w_n3, w_n4, w_len1, w_len2, w_min2, w_max2, w_int1, w_int2, w_clr, w_ixL, w_ixT, w_sum, w_any, w_kil0, w_kil1, k_sc_int, k_sc_bool, k_sc_none, k_sc_str, k_scs_of, items?_list, items?_tuple, list?_list, cutD_map, all_int, all_int', List.length_map, hApp_of, hExt_of, hIns_of, hCat_of, hRep_of, hR1_of, hR2_of, hR3_of, hMul_of, hDiv_of, hMod_of, p10_3, p10_4, p10_5, p10_6, p10_7, p10_8, p10_9, p10_12, p10_50, p50_3, p50_4, atI_map, k_scs_int, List.getD_cons_zero, List.getD_cons_succ, List.set_cons_zero, List.set_cons_succ, List.map_cons, List.map_nil, List.cons_append, List.nil_append, List.append_nil, List.length_cons, List.length_nil, Option.bind_some, Option.bind_none, Option.map_some, Option.map_none, ↓reduceIte, Nat.reduceAdd, Nat.reduceSub, Int.reduceAdd, Int.reduceSub, Int.reduceMul, Int.reduceNeg, Nat.reduceLeDiff, Nat.reduceLT, Nat.reduceEqDiff, Nat.zero_add, List.reduceReplicate, List.replicate_zero, List.replicate_one, List.replicate_succ, Bool.and_true, Bool.true_and, Bool.not_true, Bool.not_false, decide_true, decide_false, Bool.false_eq_true, reduceCtorEq, and_self, if_false, if_true, hIsi_int_int, hIsi_int_bool, hIsi_int_list, hIsi_int_tuple, hIsi_int_str, hIsi_bool_int, hIsi_bool_bool, hIsi_bool_list, hIsi_bool_tuple, hIsi_bool_str, hIsi_none_int, hIsi_none_bool, hIsi_none_list, hIsi_none_tuple, hIsi_none_str, hIsi_list_int, hIsi_list_bool, hIsi_list_list, hIsi_list_tuple, hIsi_list_str, hIsi_tuple_int, hIsi_tuple_bool, hIsi_tuple_list, hIsi_tuple_tuple, hIsi_tuple_str, hIsi_str_int, hIsi_str_bool, hIsi_str_list, hIsi_str_tuple, hIsi_str_str, ni]
  · simp -implicitDefEqProofs (disch := first | omega | (simp only [List.length_map, List.length_append, List.length_cons, List.length_nil, List.length_range, List.length_take, List.length_drop, List.length_replicate, List.length_set, List.length_reverse] <;> omega) | (refine mulC_small ?_; omega) | (refine mulC_smallR ?_; omega) | (refine divC_small ?_ ?_ <;> omega) | (refine powC_small ?_ ?_ ?_ <;> omega)) only [v_run, v_iTp, tup?_tuple, v_sIfM2, k_ifM2_0, k_ifM2_1, v_srtSet, k_srtSet, v_sZ, k_sZ, v_sReb, v_sClr, k_sClr, v_pinF, k_pin, v_iZp3, k_zp3, v_setP, setPK_of, v_appP, k_appP, k_appP1, k_appP2, k_appP3, k_appP4, List.getElem?_cons_zero, List.getElem?_cons_succ, v_lSortP, k_srtP0, v_lRng, k_rng, hRg1_of, v_seq, v_set', v_setL', v_ret', v_retL', v_if', v_for', v_par', v_aug', v_augK, v_tgt', v_sub', v_mut', v_d1, v_d2, v_d3, v_dB, v_dSc, v_dScs, v_cons, v_tup', v_lst', v_dA, v_dAL, v_and', v_or', v_not', v_dT, v_iL, v_iR1, v_iR2, v_iR3, v_iEn, v_iZp, v_lCut, v_lOf, v_lCat, v_lRep, v_lRepE, k_rep0, v_rt', k_rt, v_idx, k_idx, v_lRev, k_rev, v_lSortI, v_lComp, v_oS, b_assoc, k_cmp, k_seq1, k_seq2, k_seq3, k_seq4, k_set, k_setL, k_ret, k_retL, k_if1, k_if2, k_for, k_par, k_aug2, k_tgt, k_tgt2, k_sub, k_sub1, k_sub2, k_sub3, k_mut, k_mut1, k_mut2, k_d2, k_d3, k_d31, k_d321, k_d322, k_bool, k_cons, k_cons2, k_tup, k_lst, k_al, k_and1, k_and2, k_or1, k_or2, k_not, k_dt, k_en, k_zp, k_cut, k_cut1, k_cut2, k_os, k_cat, k_rep, k_srt0, k_srt, k_comp, k_run1, k_run2, k_go1, k_go2, w_turn, w_turnR, w_turnW, w_nx, w_bk, w_ct, w_rN, w_V, w_C, w_nil, w_oN, w_yes, w_gSet, w_gTup, w_gsCons, w_gsNil, w_add, w_subI, w_lt, w_le, w_gt, w_ge, w_neg, w_isN, w_notN, w_n0, w_n1, w_n2, w_n3, w_n4, w_len1, w_len2, w_min2, w_max2, w_int1, w_int2, w_clr, w_ixL, w_ixT, w_sum, w_any, w_kil0, w_kil1, k_sc_int, k_sc_bool, k_sc_none, k_sc_str, k_scs_of, items?_list, items?_tuple, list?_list, cutD_map, all_int, all_int', List.length_map, hApp_of, hExt_of, hIns_of, hCat_of, hRep_of, hR1_of, hR2_of, hR3_of, hMul_of, hDiv_of, hMod_of, p10_3, p10_4, p10_5, p10_6, p10_7, p10_8, p10_9, p10_12, p10_50, p50_3, p50_4, atI_map, k_scs_int, List.getD_cons_zero, List.getD_cons_succ, List.set_cons_zero, List.set_cons_succ, List.map_cons, List.map_nil, List.cons_append, List.nil_append, List.append_nil, List.length_cons, List.length_nil, Option.bind_some, Option.bind_none, Option.map_some, Option.map_none, ↓reduceIte, Nat.reduceAdd, Nat.reduceSub, Int.reduceAdd, Int.reduceSub, Int.reduceMul, Int.reduceNeg, Nat.reduceLeDiff, Nat.reduceLT, Nat.reduceEqDiff, Nat.zero_add, List.reduceReplicate, List.replicate_zero, List.replicate_one, List.replicate_succ, Bool.and_true, Bool.true_and, Bool.not_true, Bool.not_false, decide_true, decide_false, Bool.false_eq_true, reduceCtorEq, and_self, if_false, if_true, hIsi_int_int, hIsi_int_bool, hIsi_int_list, hIsi_int_tuple, hIsi_int_str, hIsi_bool_int, hIsi_bool_bool, hIsi_bool_list, hIsi_bool_tuple, hIsi_bool_str, hIsi_none_int, hIsi_none_bool, hIsi_none_list, hIsi_none_tuple, hIsi_none_str, hIsi_list_int, hIsi_list_bool, hIsi_list_list, hIsi_list_tuple, hIsi_list_str, hIsi_tuple_int, hIsi_tuple_bool, hIsi_tuple_list, hIsi_tuple_tuple, hIsi_tuple_str, hIsi_str_int, hIsi_str_bool, hIsi_str_list, hIsi_str_tuple, hIsi_str_str]
/-- wronged, where no group is -/
theorem wronged_none (K : Int) (cs : List Int) (ws : List (List Nat)) (done : List Nat) (hc : cs.length < 10) (hv : ws.length ≤ 1000) (hw : ∀ i, (ws.getD i []).length ≤ 1000)
    (h : ∀ asked, asked.Sublist (List.range cs.length) → asked ≠ [] → grpF ws asked done ≠ [] → ¬ ((asked.map fun c => cs.getD c 0).sum * (ws.length : Int) ≤ K * ((grpF ws asked done).length : Int))) :
    sem_wronged [.int K, .list (cs.map PyData.int), .list (ws.map wD), wD done] = some .none := by
  simp -implicitDefEqProofs (disch := first | omega | (simp only [List.length_map, List.length_append, List.length_cons, List.length_nil, List.length_range, List.length_take, List.length_drop, List.length_replicate, List.length_set, List.length_reverse] <;> omega) | (refine mulC_small ?_; omega) | (refine mulC_smallR ?_; omega) | (refine divC_small ?_ ?_ <;> omega) | (refine powC_small ?_ ?_ ?_ <;> omega)) only [v_run, v_iTp, tup?_tuple, v_sIfM2, k_ifM2_0, k_ifM2_1, v_srtSet, k_srtSet, v_sZ, k_sZ, v_sReb, v_sClr, k_sClr, v_pinF, k_pin, v_iZp3, k_zp3, v_setP, setPK_of, v_appP, k_appP, k_appP1, k_appP2, k_appP3, k_appP4, List.getElem?_cons_zero, List.getElem?_cons_succ, v_lSortP, k_srtP0, v_lRng, k_rng, hRg1_of, v_seq, v_set', v_setL', v_ret', v_retL', v_if', v_for', v_par', v_aug', v_augK, v_tgt', v_sub', v_mut', v_d1, v_d2, v_d3, v_dB, v_dSc, v_dScs, v_cons, v_tup', v_lst', v_dA, v_dAL, v_and', v_or', v_not', v_dT, v_iL, v_iR1, v_iR2, v_iR3, v_iEn, v_iZp, v_lCut, v_lOf, v_lCat, v_lRep, v_lRepE, k_rep0, v_rt', k_rt, v_idx, k_idx, v_lRev, k_rev, v_lSortI, v_lComp, v_oS, b_assoc, k_cmp, k_seq1, k_seq2, k_seq3, k_seq4, k_set, k_setL, k_ret, k_retL, k_if1, k_if2, k_for, k_par, k_aug2, k_tgt, k_tgt2, k_sub, k_sub1, k_sub2, k_sub3, k_mut, k_mut1, k_mut2, k_d2, k_d3, k_d31, k_d321, k_d322, k_bool, k_cons, k_cons2, k_tup, k_lst, k_al, k_and1, k_and2, k_or1, k_or2, k_not, k_dt, k_en, k_zp, k_cut, k_cut1, k_cut2, k_os, k_cat, k_rep, k_srt0, k_srt, k_comp, k_run1, k_run2, k_go1, k_go2, w_turn, w_turnR, w_turnW, w_nx, w_bk, w_ct, w_rN, w_V, w_C, w_nil, w_oN, w_yes, w_gSet, w_gTup, w_gsCons, w_gsNil, w_add, w_subI, w_lt, w_le, w_gt, w_ge, w_neg, w_isN, w_notN, w_n0, w_n1, w_n2, w_n3, w_n4, w_len1, w_len2, w_min2, w_max2, w_int1, w_int2, w_clr, w_ixL, w_ixT, w_sum, w_any, w_kil0, w_kil1, k_sc_int, k_sc_bool, k_sc_none, k_sc_str, k_scs_of, items?_list, items?_tuple, list?_list, cutD_map, all_int, all_int', List.length_map, hApp_of, hExt_of, hIns_of, hCat_of, hRep_of, hR1_of, hR2_of, hR3_of, hMul_of, hDiv_of, hMod_of, p10_3, p10_4, p10_5, p10_6, p10_7, p10_8, p10_9, p10_12, p10_50, p50_3, p50_4, atI_map, k_scs_int, List.getD_cons_zero, List.getD_cons_succ, List.set_cons_zero, List.set_cons_succ, List.map_cons, List.map_nil, List.cons_append, List.nil_append, List.append_nil, List.length_cons, List.length_nil, Option.bind_some, Option.bind_none, Option.map_some, Option.map_none, ↓reduceIte, Nat.reduceAdd, Nat.reduceSub, Int.reduceAdd, Int.reduceSub, Int.reduceMul, Int.reduceNeg, Nat.reduceLeDiff, Nat.reduceLT, Nat.reduceEqDiff, Nat.zero_add, List.reduceReplicate, List.replicate_zero, List.replicate_one, List.replicate_succ, Bool.and_true, Bool.true_and, Bool.not_true, Bool.not_false, decide_true, decide_false, Bool.false_eq_true, reduceCtorEq, and_self, if_false, if_true, hIsi_int_int, hIsi_int_bool, hIsi_int_list, hIsi_int_tuple, hIsi_int_str, hIsi_bool_int, hIsi_bool_bool, hIsi_bool_list, hIsi_bool_tuple, hIsi_bool_str, hIsi_none_int, hIsi_none_bool, hIsi_none_list, hIsi_none_tuple, hIsi_none_str, hIsi_list_int, hIsi_list_bool, hIsi_list_list, hIsi_list_tuple, hIsi_list_str, hIsi_tuple_int, hIsi_tuple_bool, hIsi_tuple_list, hIsi_tuple_tuple, hIsi_tuple_str, hIsi_str_int, hIsi_str_bool, hIsi_str_list, hIsi_str_tuple, hIsi_str_str, sem_wronged, rangeD_map]
  rw [show ((cs.length : Int) + 1 - 1).toNat = cs.length by omega]
  refine b_same (cv := fun k : Nat => PyData.int (1 + (k : Int))) (List.range cs.length) (fun k hk => ?_) ?_
  · have hk := List.mem_range.mp hk
    have pk : sem_picks_of [.int 0, .int (cs.length : Int), .int (1 + (k : Int))] = some (.list ((picks (List.range' 0 (cs.length - 0)) (k + 1)).map wD)) := by
      have := picksR_ev cs.length (by omega) (k + 1) 10 0 (by omega) (by omega) (Nat.zero_le _)
      rw [show ((k + 1 : Nat) : Int) = 1 + (k : Int) by omega] at this
      exact this
    simp -implicitDefEqProofs (disch := first | omega | (simp only [List.length_map, List.length_append, List.length_cons, List.length_nil, List.length_range, List.length_take, List.length_drop, List.length_replicate, List.length_set, List.length_reverse] <;> omega) | (refine mulC_small ?_; omega) | (refine mulC_smallR ?_; omega) | (refine divC_small ?_ ?_ <;> omega) | (refine powC_small ?_ ?_ ?_ <;> omega)) only [v_run, v_iTp, tup?_tuple, v_sIfM2, k_ifM2_0, k_ifM2_1, v_srtSet, k_srtSet, v_sZ, k_sZ, v_sReb, v_sClr, k_sClr, v_pinF, k_pin, v_iZp3, k_zp3, v_setP, setPK_of, v_appP, k_appP, k_appP1, k_appP2, k_appP3, k_appP4, List.getElem?_cons_zero, List.getElem?_cons_succ, v_lSortP, k_srtP0, v_lRng, k_rng, hRg1_of, v_seq, v_set', v_setL', v_ret', v_retL', v_if', v_for', v_par', v_aug', v_augK, v_tgt', v_sub', v_mut', v_d1, v_d2, v_d3, v_dB, v_dSc, v_dScs, v_cons, v_tup', v_lst', v_dA, v_dAL, v_and', v_or', v_not', v_dT, v_iL, v_iR1, v_iR2, v_iR3, v_iEn, v_iZp, v_lCut, v_lOf, v_lCat, v_lRep, v_lRepE, k_rep0, v_rt', k_rt, v_idx, k_idx, v_lRev, k_rev, v_lSortI, v_lComp, v_oS, b_assoc, k_cmp, k_seq1, k_seq2, k_seq3, k_seq4, k_set, k_setL, k_ret, k_retL, k_if1, k_if2, k_for, k_par, k_aug2, k_tgt, k_tgt2, k_sub, k_sub1, k_sub2, k_sub3, k_mut, k_mut1, k_mut2, k_d2, k_d3, k_d31, k_d321, k_d322, k_bool, k_cons, k_cons2, k_tup, k_lst, k_al, k_and1, k_and2, k_or1, k_or2, k_not, k_dt, k_en, k_zp, k_cut, k_cut1, k_cut2, k_os, k_cat, k_rep, k_srt0, k_srt, k_comp, k_run1, k_run2, k_go1, k_go2, w_turn, w_turnR, w_turnW, w_nx, w_bk, w_ct, w_rN, w_V, w_C, w_nil, w_oN, w_yes, w_gSet, w_gTup, w_gsCons, w_gsNil, w_add, w_subI, w_lt, w_le, w_gt, w_ge, w_neg, w_isN, w_notN, w_n0, w_n1, w_n2, w_n3, w_n4, w_len1, w_len2, w_min2, w_max2, w_int1, w_int2, w_clr, w_ixL, w_ixT, w_sum, w_any, w_kil0, w_kil1, k_sc_int, k_sc_bool, k_sc_none, k_sc_str, k_scs_of, items?_list, items?_tuple, list?_list, cutD_map, all_int, all_int', List.length_map, hApp_of, hExt_of, hIns_of, hCat_of, hRep_of, hR1_of, hR2_of, hR3_of, hMul_of, hDiv_of, hMod_of, p10_3, p10_4, p10_5, p10_6, p10_7, p10_8, p10_9, p10_12, p10_50, p50_3, p50_4, atI_map, k_scs_int, List.getD_cons_zero, List.getD_cons_succ, List.set_cons_zero, List.set_cons_succ, List.map_cons, List.map_nil, List.cons_append, List.nil_append, List.append_nil, List.length_cons, List.length_nil, Option.bind_some, Option.bind_none, Option.map_some, Option.map_none, ↓reduceIte, Nat.reduceAdd, Nat.reduceSub, Int.reduceAdd, Int.reduceSub, Int.reduceMul, Int.reduceNeg, Nat.reduceLeDiff, Nat.reduceLT, Nat.reduceEqDiff, Nat.zero_add, List.reduceReplicate, List.replicate_zero, List.replicate_one, List.replicate_succ, Bool.and_true, Bool.true_and, Bool.not_true, Bool.not_false, decide_true, decide_false, Bool.false_eq_true, reduceCtorEq, and_self, if_false, if_true, hIsi_int_int, hIsi_int_bool, hIsi_int_list, hIsi_int_tuple, hIsi_int_str, hIsi_bool_int, hIsi_bool_bool, hIsi_bool_list, hIsi_bool_tuple, hIsi_bool_str, hIsi_none_int, hIsi_none_bool, hIsi_none_list, hIsi_none_tuple, hIsi_none_str, hIsi_list_int, hIsi_list_bool, hIsi_list_list, hIsi_list_tuple, hIsi_list_str, hIsi_tuple_int, hIsi_tuple_bool, hIsi_tuple_list, hIsi_tuple_tuple, hIsi_tuple_str, hIsi_str_int, hIsi_str_bool, hIsi_str_list, hIsi_str_tuple, hIsi_str_str, pk]
    refine b_same (cv := wD) (picks (List.range' 0 (cs.length - 0)) (k + 1)) (fun asked ha => ?_) ?_
    · obtain ⟨a1, a2⟩ := picks_mem _ _ _ ha
      rw [Nat.sub_zero, ← List.range_eq_range'] at a1
      have se := short_ev ws asked done hv (by omega) hw
      have ce := cost_ev cs asked (fun a hx => List.mem_range.mp (a1.subset hx)) (by omega)
      have gl := grpF_len ws asked done
      have key := h asked a1 (by intro z; rw [z] at a2; cases a2)
      cases e : (grpF ws asked done == [])
      · have ne : grpF ws asked done ≠ [] := fun z => by rw [z] at e; cases e
        have key := key ne
        simp -implicitDefEqProofs (disch := first | omega | (simp only [List.length_map, List.length_append, List.length_cons, List.length_nil, List.length_range, List.length_take, List.length_drop, List.length_replicate, List.length_set, List.length_reverse] <;> omega) | (refine mulC_small ?_; omega) | (refine mulC_smallR ?_; omega) | (refine divC_small ?_ ?_ <;> omega) | (refine powC_small ?_ ?_ ?_ <;> omega)) only [v_run, v_iTp, tup?_tuple, v_sIfM2, k_ifM2_0, k_ifM2_1, v_srtSet, k_srtSet, v_sZ, k_sZ, v_sReb, v_sClr, k_sClr, v_pinF, k_pin, v_iZp3, k_zp3, v_setP, setPK_of, v_appP, k_appP, k_appP1, k_appP2, k_appP3, k_appP4, List.getElem?_cons_zero, List.getElem?_cons_succ, v_lSortP, k_srtP0, v_lRng, k_rng, hRg1_of, v_seq, v_set', v_setL', v_ret', v_retL', v_if', v_for', v_par', v_aug', v_augK, v_tgt', v_sub', v_mut', v_d1, v_d2, v_d3, v_dB, v_dSc, v_dScs, v_cons, v_tup', v_lst', v_dA, v_dAL, v_and', v_or', v_not', v_dT, v_iL, v_iR1, v_iR2, v_iR3, v_iEn, v_iZp, v_lCut, v_lOf, v_lCat, v_lRep, v_lRepE, k_rep0, v_rt', k_rt, v_idx, k_idx, v_lRev, k_rev, v_lSortI, v_lComp, v_oS, b_assoc, k_cmp, k_seq1, k_seq2, k_seq3, k_seq4, k_set, k_setL, k_ret, k_retL, k_if1, k_if2, k_for, k_par, k_aug2, k_tgt, k_tgt2, k_sub, k_sub1, k_sub2, k_sub3, k_mut, k_mut1, k_mut2, k_d2, k_d3, k_d31, k_d321, k_d322, k_bool, k_cons, k_cons2, k_tup, k_lst, k_al, k_and1, k_and2, k_or1, k_or2, k_not, k_dt, k_en, k_zp, k_cut, k_cut1, k_cut2, k_os, k_cat, k_rep, k_srt0, k_srt, k_comp, k_run1, k_run2, k_go1, k_go2, w_turn, w_turnR, w_turnW, w_nx, w_bk, w_ct, w_rN, w_V, w_C, w_nil, w_oN, w_yes, w_gSet, w_gTup, w_gsCons, w_gsNil, w_add, w_subI, w_lt, w_le, w_gt, w_ge, w_neg, w_isN, w_notN, w_n0, w_n1, w_n2, w_n3, w_n4, w_len1, w_len2, w_min2, w_max2, w_int1, w_int2, w_clr, w_ixL, w_ixT, w_sum, w_any, w_kil0, w_kil1, k_sc_int, k_sc_bool, k_sc_none, k_sc_str, k_scs_of, items?_list, items?_tuple, list?_list, cutD_map, all_int, all_int', List.length_map, hApp_of, hExt_of, hIns_of, hCat_of, hRep_of, hR1_of, hR2_of, hR3_of, hMul_of, hDiv_of, hMod_of, p10_3, p10_4, p10_5, p10_6, p10_7, p10_8, p10_9, p10_12, p10_50, p50_3, p50_4, atI_map, k_scs_int, List.getD_cons_zero, List.getD_cons_succ, List.set_cons_zero, List.set_cons_succ, List.map_cons, List.map_nil, List.cons_append, List.nil_append, List.append_nil, List.length_cons, List.length_nil, Option.bind_some, Option.bind_none, Option.map_some, Option.map_none, ↓reduceIte, Nat.reduceAdd, Nat.reduceSub, Int.reduceAdd, Int.reduceSub, Int.reduceMul, Int.reduceNeg, Nat.reduceLeDiff, Nat.reduceLT, Nat.reduceEqDiff, Nat.zero_add, List.reduceReplicate, List.replicate_zero, List.replicate_one, List.replicate_succ, Bool.and_true, Bool.true_and, Bool.not_true, Bool.not_false, decide_true, decide_false, Bool.false_eq_true, reduceCtorEq, and_self, if_false, if_true, hIsi_int_int, hIsi_int_bool, hIsi_int_list, hIsi_int_tuple, hIsi_int_str, hIsi_bool_int, hIsi_bool_bool, hIsi_bool_list, hIsi_bool_tuple, hIsi_bool_str, hIsi_none_int, hIsi_none_bool, hIsi_none_list, hIsi_none_tuple, hIsi_none_str, hIsi_list_int, hIsi_list_bool, hIsi_list_list, hIsi_list_tuple, hIsi_list_str, hIsi_tuple_int, hIsi_tuple_bool, hIsi_tuple_list, hIsi_tuple_tuple, hIsi_tuple_str, hIsi_str_int, hIsi_str_bool, hIsi_str_list, hIsi_str_tuple, hIsi_str_str, se]
        have hne := hNe_ni (grpF ws asked done) []
        rw [List.map_nil, e] at hne
        simp -implicitDefEqProofs (disch := first | omega | (simp only [List.length_map, List.length_append, List.length_cons, List.length_nil, List.length_range, List.length_take, List.length_drop, List.length_replicate, List.length_set, List.length_reverse] <;> omega) | (refine mulC_small ?_; omega) | (refine mulC_smallR ?_; omega) | (refine divC_small ?_ ?_ <;> omega) | (refine powC_small ?_ ?_ ?_ <;> omega)) only [v_run, v_iTp, tup?_tuple, v_sIfM2, k_ifM2_0, k_ifM2_1, v_srtSet, k_srtSet, v_sZ, k_sZ, v_sReb, v_sClr, k_sClr, v_pinF, k_pin, v_iZp3, k_zp3, v_setP, setPK_of, v_appP, k_appP, k_appP1, k_appP2, k_appP3, k_appP4, List.getElem?_cons_zero, List.getElem?_cons_succ, v_lSortP, k_srtP0, v_lRng, k_rng, hRg1_of, v_seq, v_set', v_setL', v_ret', v_retL', v_if', v_for', v_par', v_aug', v_augK, v_tgt', v_sub', v_mut', v_d1, v_d2, v_d3, v_dB, v_dSc, v_dScs, v_cons, v_tup', v_lst', v_dA, v_dAL, v_and', v_or', v_not', v_dT, v_iL, v_iR1, v_iR2, v_iR3, v_iEn, v_iZp, v_lCut, v_lOf, v_lCat, v_lRep, v_lRepE, k_rep0, v_rt', k_rt, v_idx, k_idx, v_lRev, k_rev, v_lSortI, v_lComp, v_oS, b_assoc, k_cmp, k_seq1, k_seq2, k_seq3, k_seq4, k_set, k_setL, k_ret, k_retL, k_if1, k_if2, k_for, k_par, k_aug2, k_tgt, k_tgt2, k_sub, k_sub1, k_sub2, k_sub3, k_mut, k_mut1, k_mut2, k_d2, k_d3, k_d31, k_d321, k_d322, k_bool, k_cons, k_cons2, k_tup, k_lst, k_al, k_and1, k_and2, k_or1, k_or2, k_not, k_dt, k_en, k_zp, k_cut, k_cut1, k_cut2, k_os, k_cat, k_rep, k_srt0, k_srt, k_comp, k_run1, k_run2, k_go1, k_go2, w_turn, w_turnR, w_turnW, w_nx, w_bk, w_ct, w_rN, w_V, w_C, w_nil, w_oN, w_yes, w_gSet, w_gTup, w_gsCons, w_gsNil, w_add, w_subI, w_lt, w_le, w_gt, w_ge, w_neg, w_isN, w_notN, w_n0, w_n1, w_n2, w_n3, w_n4, w_len1, w_len2, w_min2, w_max2, w_int1, w_int2, w_clr, w_ixL, w_ixT, w_sum, w_any, w_kil0, w_kil1, k_sc_int, k_sc_bool, k_sc_none, k_sc_str, k_scs_of, items?_list, items?_tuple, list?_list, cutD_map, all_int, all_int', List.length_map, hApp_of, hExt_of, hIns_of, hCat_of, hRep_of, hR1_of, hR2_of, hR3_of, hMul_of, hDiv_of, hMod_of, p10_3, p10_4, p10_5, p10_6, p10_7, p10_8, p10_9, p10_12, p10_50, p50_3, p50_4, atI_map, k_scs_int, List.getD_cons_zero, List.getD_cons_succ, List.set_cons_zero, List.set_cons_succ, List.map_cons, List.map_nil, List.cons_append, List.nil_append, List.append_nil, List.length_cons, List.length_nil, Option.bind_some, Option.bind_none, Option.map_some, Option.map_none, ↓reduceIte, Nat.reduceAdd, Nat.reduceSub, Int.reduceAdd, Int.reduceSub, Int.reduceMul, Int.reduceNeg, Nat.reduceLeDiff, Nat.reduceLT, Nat.reduceEqDiff, Nat.zero_add, List.reduceReplicate, List.replicate_zero, List.replicate_one, List.replicate_succ, Bool.and_true, Bool.true_and, Bool.not_true, Bool.not_false, decide_true, decide_false, Bool.false_eq_true, reduceCtorEq, and_self, if_false, if_true, hIsi_int_int, hIsi_int_bool, hIsi_int_list, hIsi_int_tuple, hIsi_int_str, hIsi_bool_int, hIsi_bool_bool, hIsi_bool_list, hIsi_bool_tuple, hIsi_bool_str, hIsi_none_int, hIsi_none_bool, hIsi_none_list, hIsi_none_tuple, hIsi_none_str, hIsi_list_int, hIsi_list_bool, hIsi_list_list, hIsi_list_tuple, hIsi_list_str, hIsi_tuple_int, hIsi_tuple_bool, hIsi_tuple_list, hIsi_tuple_tuple, hIsi_tuple_str, hIsi_str_int, hIsi_str_bool, hIsi_str_list, hIsi_str_tuple, hIsi_str_str, wD, hne, key, ce]
      · simp -implicitDefEqProofs (disch := first | omega | (simp only [List.length_map, List.length_append, List.length_cons, List.length_nil, List.length_range, List.length_take, List.length_drop, List.length_replicate, List.length_set, List.length_reverse] <;> omega) | (refine mulC_small ?_; omega) | (refine mulC_smallR ?_; omega) | (refine divC_small ?_ ?_ <;> omega) | (refine powC_small ?_ ?_ ?_ <;> omega)) only [v_run, v_iTp, tup?_tuple, v_sIfM2, k_ifM2_0, k_ifM2_1, v_srtSet, k_srtSet, v_sZ, k_sZ, v_sReb, v_sClr, k_sClr, v_pinF, k_pin, v_iZp3, k_zp3, v_setP, setPK_of, v_appP, k_appP, k_appP1, k_appP2, k_appP3, k_appP4, List.getElem?_cons_zero, List.getElem?_cons_succ, v_lSortP, k_srtP0, v_lRng, k_rng, hRg1_of, v_seq, v_set', v_setL', v_ret', v_retL', v_if', v_for', v_par', v_aug', v_augK, v_tgt', v_sub', v_mut', v_d1, v_d2, v_d3, v_dB, v_dSc, v_dScs, v_cons, v_tup', v_lst', v_dA, v_dAL, v_and', v_or', v_not', v_dT, v_iL, v_iR1, v_iR2, v_iR3, v_iEn, v_iZp, v_lCut, v_lOf, v_lCat, v_lRep, v_lRepE, k_rep0, v_rt', k_rt, v_idx, k_idx, v_lRev, k_rev, v_lSortI, v_lComp, v_oS, b_assoc, k_cmp, k_seq1, k_seq2, k_seq3, k_seq4, k_set, k_setL, k_ret, k_retL, k_if1, k_if2, k_for, k_par, k_aug2, k_tgt, k_tgt2, k_sub, k_sub1, k_sub2, k_sub3, k_mut, k_mut1, k_mut2, k_d2, k_d3, k_d31, k_d321, k_d322, k_bool, k_cons, k_cons2, k_tup, k_lst, k_al, k_and1, k_and2, k_or1, k_or2, k_not, k_dt, k_en, k_zp, k_cut, k_cut1, k_cut2, k_os, k_cat, k_rep, k_srt0, k_srt, k_comp, k_run1, k_run2, k_go1, k_go2, w_turn, w_turnR, w_turnW, w_nx, w_bk, w_ct, w_rN, w_V, w_C, w_nil, w_oN, w_yes, w_gSet, w_gTup, w_gsCons, w_gsNil, w_add, w_subI, w_lt, w_le, w_gt, w_ge, w_neg, w_isN, w_notN, w_n0, w_n1, w_n2, w_n3, w_n4, w_len1, w_len2, w_min2, w_max2, w_int1, w_int2, w_clr, w_ixL, w_ixT, w_sum, w_any, w_kil0, w_kil1, k_sc_int, k_sc_bool, k_sc_none, k_sc_str, k_scs_of, items?_list, items?_tuple, list?_list, cutD_map, all_int, all_int', List.length_map, hApp_of, hExt_of, hIns_of, hCat_of, hRep_of, hR1_of, hR2_of, hR3_of, hMul_of, hDiv_of, hMod_of, p10_3, p10_4, p10_5, p10_6, p10_7, p10_8, p10_9, p10_12, p10_50, p50_3, p50_4, atI_map, k_scs_int, List.getD_cons_zero, List.getD_cons_succ, List.set_cons_zero, List.set_cons_succ, List.map_cons, List.map_nil, List.cons_append, List.nil_append, List.append_nil, List.length_cons, List.length_nil, Option.bind_some, Option.bind_none, Option.map_some, Option.map_none, ↓reduceIte, Nat.reduceAdd, Nat.reduceSub, Int.reduceAdd, Int.reduceSub, Int.reduceMul, Int.reduceNeg, Nat.reduceLeDiff, Nat.reduceLT, Nat.reduceEqDiff, Nat.zero_add, List.reduceReplicate, List.replicate_zero, List.replicate_one, List.replicate_succ, Bool.and_true, Bool.true_and, Bool.not_true, Bool.not_false, decide_true, decide_false, Bool.false_eq_true, reduceCtorEq, and_self, if_false, if_true, hIsi_int_int, hIsi_int_bool, hIsi_int_list, hIsi_int_tuple, hIsi_int_str, hIsi_bool_int, hIsi_bool_bool, hIsi_bool_list, hIsi_bool_tuple, hIsi_bool_str, hIsi_none_int, hIsi_none_bool, hIsi_none_list, hIsi_none_tuple, hIsi_none_str, hIsi_list_int, hIsi_list_bool, hIsi_list_list, hIsi_list_tuple, hIsi_list_str, hIsi_tuple_int, hIsi_tuple_bool, hIsi_tuple_list, hIsi_tuple_tuple, hIsi_tuple_str, hIsi_str_int, hIsi_str_bool, hIsi_str_list, hIsi_str_tuple, hIsi_str_str, se]
        have hne := hNe_ni (grpF ws asked done) []
        rw [List.map_nil, e] at hne
        simp -implicitDefEqProofs (disch := first | omega | (simp only [List.length_map, List.length_append, List.length_cons, List.length_nil, List.length_range, List.length_take, List.length_drop, List.length_replicate, List.length_set, List.length_reverse] <;> omega) | (refine mulC_small ?_; omega) | (refine mulC_smallR ?_; omega) | (refine divC_small ?_ ?_ <;> omega) | (refine powC_small ?_ ?_ ?_ <;> omega)) only [v_run, v_iTp, tup?_tuple, v_sIfM2, k_ifM2_0, k_ifM2_1, v_srtSet, k_srtSet, v_sZ, k_sZ, v_sReb, v_sClr, k_sClr, v_pinF, k_pin, v_iZp3, k_zp3, v_setP, setPK_of, v_appP, k_appP, k_appP1, k_appP2, k_appP3, k_appP4, List.getElem?_cons_zero, List.getElem?_cons_succ, v_lSortP, k_srtP0, v_lRng, k_rng, hRg1_of, v_seq, v_set', v_setL', v_ret', v_retL', v_if', v_for', v_par', v_aug', v_augK, v_tgt', v_sub', v_mut', v_d1, v_d2, v_d3, v_dB, v_dSc, v_dScs, v_cons, v_tup', v_lst', v_dA, v_dAL, v_and', v_or', v_not', v_dT, v_iL, v_iR1, v_iR2, v_iR3, v_iEn, v_iZp, v_lCut, v_lOf, v_lCat, v_lRep, v_lRepE, k_rep0, v_rt', k_rt, v_idx, k_idx, v_lRev, k_rev, v_lSortI, v_lComp, v_oS, b_assoc, k_cmp, k_seq1, k_seq2, k_seq3, k_seq4, k_set, k_setL, k_ret, k_retL, k_if1, k_if2, k_for, k_par, k_aug2, k_tgt, k_tgt2, k_sub, k_sub1, k_sub2, k_sub3, k_mut, k_mut1, k_mut2, k_d2, k_d3, k_d31, k_d321, k_d322, k_bool, k_cons, k_cons2, k_tup, k_lst, k_al, k_and1, k_and2, k_or1, k_or2, k_not, k_dt, k_en, k_zp, k_cut, k_cut1, k_cut2, k_os, k_cat, k_rep, k_srt0, k_srt, k_comp, k_run1, k_run2, k_go1, k_go2, w_turn, w_turnR, w_turnW, w_nx, w_bk, w_ct, w_rN, w_V, w_C, w_nil, w_oN, w_yes, w_gSet, w_gTup, w_gsCons, w_gsNil, w_add, w_subI, w_lt, w_le, w_gt, w_ge, w_neg, w_isN, w_notN, w_n0, w_n1, w_n2, w_n3, w_n4, w_len1, w_len2, w_min2, w_max2, w_int1, w_int2, w_clr, w_ixL, w_ixT, w_sum, w_any, w_kil0, w_kil1, k_sc_int, k_sc_bool, k_sc_none, k_sc_str, k_scs_of, items?_list, items?_tuple, list?_list, cutD_map, all_int, all_int', List.length_map, hApp_of, hExt_of, hIns_of, hCat_of, hRep_of, hR1_of, hR2_of, hR3_of, hMul_of, hDiv_of, hMod_of, p10_3, p10_4, p10_5, p10_6, p10_7, p10_8, p10_9, p10_12, p10_50, p50_3, p50_4, atI_map, k_scs_int, List.getD_cons_zero, List.getD_cons_succ, List.set_cons_zero, List.set_cons_succ, List.map_cons, List.map_nil, List.cons_append, List.nil_append, List.append_nil, List.length_cons, List.length_nil, Option.bind_some, Option.bind_none, Option.map_some, Option.map_none, ↓reduceIte, Nat.reduceAdd, Nat.reduceSub, Int.reduceAdd, Int.reduceSub, Int.reduceMul, Int.reduceNeg, Nat.reduceLeDiff, Nat.reduceLT, Nat.reduceEqDiff, Nat.zero_add, List.reduceReplicate, List.replicate_zero, List.replicate_one, List.replicate_succ, Bool.and_true, Bool.true_and, Bool.not_true, Bool.not_false, decide_true, decide_false, Bool.false_eq_true, reduceCtorEq, and_self, if_false, if_true, hIsi_int_int, hIsi_int_bool, hIsi_int_list, hIsi_int_tuple, hIsi_int_str, hIsi_bool_int, hIsi_bool_bool, hIsi_bool_list, hIsi_bool_tuple, hIsi_bool_str, hIsi_none_int, hIsi_none_bool, hIsi_none_list, hIsi_none_tuple, hIsi_none_str, hIsi_list_int, hIsi_list_bool, hIsi_list_list, hIsi_list_tuple, hIsi_list_str, hIsi_tuple_int, hIsi_tuple_bool, hIsi_tuple_list, hIsi_tuple_tuple, hIsi_tuple_str, hIsi_str_int, hIsi_str_bool, hIsi_str_list, hIsi_str_tuple, hIsi_str_str, wD, hne]
    · simp -implicitDefEqProofs (disch := first | omega | (simp only [List.length_map, List.length_append, List.length_cons, List.length_nil, List.length_range, List.length_take, List.length_drop, List.length_replicate, List.length_set, List.length_reverse] <;> omega) | (refine mulC_small ?_; omega) | (refine mulC_smallR ?_; omega) | (refine divC_small ?_ ?_ <;> omega) | (refine powC_small ?_ ?_ ?_ <;> omega)) only [v_run, v_iTp, tup?_tuple, v_sIfM2, k_ifM2_0, k_ifM2_1, v_srtSet, k_srtSet, v_sZ, k_sZ, v_sReb, v_sClr, k_sClr, v_pinF, k_pin, v_iZp3, k_zp3, v_setP, setPK_of, v_appP, k_appP, k_appP1, k_appP2, k_appP3, k_appP4, List.getElem?_cons_zero, List.getElem?_cons_succ, v_lSortP, k_srtP0, v_lRng, k_rng, hRg1_of, v_seq, v_set', v_setL', v_ret', v_retL', v_if', v_for', v_par', v_aug', v_augK, v_tgt', v_sub', v_mut', v_d1, v_d2, v_d3, v_dB, v_dSc, v_dScs, v_cons, v_tup', v_lst', v_dA, v_dAL, v_and', v_or', v_not', v_dT, v_iL, v_iR1, v_iR2, v_iR3, v_iEn, v_iZp, v_lCut, v_lOf, v_lCat, v_lRep, v_lRepE, k_rep0, v_rt', k_rt, v_idx, k_idx, v_lRev, k_rev, v_lSortI, v_lComp, v_oS, b_assoc, k_cmp, k_seq1, k_seq2, k_seq3, k_seq4, k_set, k_setL, k_ret, k_retL, k_if1, k_if2, k_for, k_par, k_aug2, k_tgt, k_tgt2, k_sub, k_sub1, k_sub2, k_sub3, k_mut, k_mut1, k_mut2, k_d2, k_d3, k_d31, k_d321, k_d322, k_bool, k_cons, k_cons2, k_tup, k_lst, k_al, k_and1, k_and2, k_or1, k_or2, k_not, k_dt, k_en, k_zp, k_cut, k_cut1, k_cut2, k_os, k_cat, k_rep, k_srt0, k_srt, k_comp, k_run1, k_run2, k_go1, k_go2, w_turn, w_turnR, w_turnW, w_nx, w_bk, w_ct, w_rN, w_V, w_C, w_nil, w_oN, w_yes, w_gSet, w_gTup, w_gsCons, w_gsNil, w_add, w_subI, w_lt, w_le, w_gt, w_ge, w_neg, w_isN, w_notN, w_n0, w_n1, w_n2, w_n3, w_n4, w_len1, w_len2, w_min2, w_max2, w_int1, w_int2, w_clr, w_ixL, w_ixT, w_sum, w_any, w_kil0, w_kil1, k_sc_int, k_sc_bool, k_sc_none, k_sc_str, k_scs_of, items?_list, items?_tuple, list?_list, cutD_map, all_int, all_int', List.length_map, hApp_of, hExt_of, hIns_of, hCat_of, hRep_of, hR1_of, hR2_of, hR3_of, hMul_of, hDiv_of, hMod_of, p10_3, p10_4, p10_5, p10_6, p10_7, p10_8, p10_9, p10_12, p10_50, p50_3, p50_4, atI_map, k_scs_int, List.getD_cons_zero, List.getD_cons_succ, List.set_cons_zero, List.set_cons_succ, List.map_cons, List.map_nil, List.cons_append, List.nil_append, List.append_nil, List.length_cons, List.length_nil, Option.bind_some, Option.bind_none, Option.map_some, Option.map_none, ↓reduceIte, Nat.reduceAdd, Nat.reduceSub, Int.reduceAdd, Int.reduceSub, Int.reduceMul, Int.reduceNeg, Nat.reduceLeDiff, Nat.reduceLT, Nat.reduceEqDiff, Nat.zero_add, List.reduceReplicate, List.replicate_zero, List.replicate_one, List.replicate_succ, Bool.and_true, Bool.true_and, Bool.not_true, Bool.not_false, decide_true, decide_false, Bool.false_eq_true, reduceCtorEq, and_self, if_false, if_true, hIsi_int_int, hIsi_int_bool, hIsi_int_list, hIsi_int_tuple, hIsi_int_str, hIsi_bool_int, hIsi_bool_bool, hIsi_bool_list, hIsi_bool_tuple, hIsi_bool_str, hIsi_none_int, hIsi_none_bool, hIsi_none_list, hIsi_none_tuple, hIsi_none_str, hIsi_list_int, hIsi_list_bool, hIsi_list_list, hIsi_list_tuple, hIsi_list_str, hIsi_tuple_int, hIsi_tuple_bool, hIsi_tuple_list, hIsi_tuple_tuple, hIsi_tuple_str, hIsi_str_int, hIsi_str_bool, hIsi_str_list, hIsi_str_tuple, hIsi_str_str]
  · simp -implicitDefEqProofs (disch := first | omega | (simp only [List.length_map, List.length_append, List.length_cons, List.length_nil, List.length_range, List.length_take, List.length_drop, List.length_replicate, List.length_set, List.length_reverse] <;> omega) | (refine mulC_small ?_; omega) | (refine mulC_smallR ?_; omega) | (refine divC_small ?_ ?_ <;> omega) | (refine powC_small ?_ ?_ ?_ <;> omega)) only [v_run, v_iTp, tup?_tuple, v_sIfM2, k_ifM2_0, k_ifM2_1, v_srtSet, k_srtSet, v_sZ, k_sZ, v_sReb, v_sClr, k_sClr, v_pinF, k_pin, v_iZp3, k_zp3, v_setP, setPK_of, v_appP, k_appP, k_appP1, k_appP2, k_appP3, k_appP4, List.getElem?_cons_zero, List.getElem?_cons_succ, v_lSortP, k_srtP0, v_lRng, k_rng, hRg1_of, v_seq, v_set', v_setL', v_ret', v_retL', v_if', v_for', v_par', v_aug', v_augK, v_tgt', v_sub', v_mut', v_d1, v_d2, v_d3, v_dB, v_dSc, v_dScs, v_cons, v_tup', v_lst', v_dA, v_dAL, v_and', v_or', v_not', v_dT, v_iL, v_iR1, v_iR2, v_iR3, v_iEn, v_iZp, v_lCut, v_lOf, v_lCat, v_lRep, v_lRepE, k_rep0, v_rt', k_rt, v_idx, k_idx, v_lRev, k_rev, v_lSortI, v_lComp, v_oS, b_assoc, k_cmp, k_seq1, k_seq2, k_seq3, k_seq4, k_set, k_setL, k_ret, k_retL, k_if1, k_if2, k_for, k_par, k_aug2, k_tgt, k_tgt2, k_sub, k_sub1, k_sub2, k_sub3, k_mut, k_mut1, k_mut2, k_d2, k_d3, k_d31, k_d321, k_d322, k_bool, k_cons, k_cons2, k_tup, k_lst, k_al, k_and1, k_and2, k_or1, k_or2, k_not, k_dt, k_en, k_zp, k_cut, k_cut1, k_cut2, k_os, k_cat, k_rep, k_srt0, k_srt, k_comp, k_run1, k_run2, k_go1, k_go2, w_turn, w_turnR, w_turnW, w_nx, w_bk, w_ct, w_rN, w_V, w_C, w_nil, w_oN, w_yes, w_gSet, w_gTup, w_gsCons, w_gsNil, w_add, w_subI, w_lt, w_le, w_gt, w_ge, w_neg, w_isN, w_notN, w_n0, w_n1, w_n2, w_n3, w_n4, w_len1, w_len2, w_min2, w_max2, w_int1, w_int2, w_clr, w_ixL, w_ixT, w_sum, w_any, w_kil0, w_kil1, k_sc_int, k_sc_bool, k_sc_none, k_sc_str, k_scs_of, items?_list, items?_tuple, list?_list, cutD_map, all_int, all_int', List.length_map, hApp_of, hExt_of, hIns_of, hCat_of, hRep_of, hR1_of, hR2_of, hR3_of, hMul_of, hDiv_of, hMod_of, p10_3, p10_4, p10_5, p10_6, p10_7, p10_8, p10_9, p10_12, p10_50, p50_3, p50_4, atI_map, k_scs_int, List.getD_cons_zero, List.getD_cons_succ, List.set_cons_zero, List.set_cons_succ, List.map_cons, List.map_nil, List.cons_append, List.nil_append, List.append_nil, List.length_cons, List.length_nil, Option.bind_some, Option.bind_none, Option.map_some, Option.map_none, ↓reduceIte, Nat.reduceAdd, Nat.reduceSub, Int.reduceAdd, Int.reduceSub, Int.reduceMul, Int.reduceNeg, Nat.reduceLeDiff, Nat.reduceLT, Nat.reduceEqDiff, Nat.zero_add, List.reduceReplicate, List.replicate_zero, List.replicate_one, List.replicate_succ, Bool.and_true, Bool.true_and, Bool.not_true, Bool.not_false, decide_true, decide_false, Bool.false_eq_true, reduceCtorEq, and_self, if_false, if_true, hIsi_int_int, hIsi_int_bool, hIsi_int_list, hIsi_int_tuple, hIsi_int_str, hIsi_bool_int, hIsi_bool_bool, hIsi_bool_list, hIsi_bool_tuple, hIsi_bool_str, hIsi_none_int, hIsi_none_bool, hIsi_none_list, hIsi_none_tuple, hIsi_none_str, hIsi_list_int, hIsi_list_bool, hIsi_list_list, hIsi_list_tuple, hIsi_list_str, hIsi_tuple_int, hIsi_tuple_bool, hIsi_tuple_list, hIsi_tuple_tuple, hIsi_tuple_str, hIsi_str_int, hIsi_str_bool, hIsi_str_list, hIsi_str_tuple, hIsi_str_str]

def subsF : Nat → List (List Nat)
  | 0 => [[]]
  | n + 1 => subsF n ++ (subsF n).map fun one => one ++ [n]
theorem subsF_len : ∀ n, (subsF n).length = 2 ^ n
  | 0 => rfl
  | n + 1 => by
    rw [subsF, List.length_append, List.length_map, subsF_len n, Nat.pow_succ]
    omega
theorem subsF_sub : ∀ n, ∀ l ∈ subsF n, l.Sublist (List.range n)
  | 0, l, h => by rw [List.mem_singleton.mp h]; exact .slnil
  | n + 1, l, h => by
    rw [List.range_succ]
    rcases List.mem_append.mp h with h | h
    · exact (subsF_sub n l h).trans (List.sublist_append_left _ _)
    · obtain ⟨o, ho, rfl⟩ := List.mem_map.mp h
      exact (subsF_sub n o ho).append (List.Sublist.refl _)
theorem sets_ev (W : Nat) (hW : W ≤ 12) : sem_law_sets [.int (W : Int)] = some (.list (((subsF W).drop 1).map wD)) := by
  simp -implicitDefEqProofs (disch := first | omega | (simp only [List.length_map, List.length_append, List.length_cons, List.length_nil, List.length_range, List.length_take, List.length_drop, List.length_replicate, List.length_set, List.length_reverse] <;> omega) | (refine mulC_small ?_; omega) | (refine mulC_smallR ?_; omega) | (refine divC_small ?_ ?_ <;> omega) | (refine powC_small ?_ ?_ ?_ <;> omega)) only [v_run, v_iTp, tup?_tuple, v_sIfM2, k_ifM2_0, k_ifM2_1, v_srtSet, k_srtSet, v_sZ, k_sZ, v_sReb, v_sClr, k_sClr, v_pinF, k_pin, v_iZp3, k_zp3, v_setP, setPK_of, v_appP, k_appP, k_appP1, k_appP2, k_appP3, k_appP4, List.getElem?_cons_zero, List.getElem?_cons_succ, v_lSortP, k_srtP0, v_lRng, k_rng, hRg1_of, v_seq, v_set', v_setL', v_ret', v_retL', v_if', v_for', v_par', v_aug', v_augK, v_tgt', v_sub', v_mut', v_d1, v_d2, v_d3, v_dB, v_dSc, v_dScs, v_cons, v_tup', v_lst', v_dA, v_dAL, v_and', v_or', v_not', v_dT, v_iL, v_iR1, v_iR2, v_iR3, v_iEn, v_iZp, v_lCut, v_lOf, v_lCat, v_lRep, v_lRepE, k_rep0, v_rt', k_rt, v_idx, k_idx, v_lRev, k_rev, v_lSortI, v_lComp, v_oS, b_assoc, k_cmp, k_seq1, k_seq2, k_seq3, k_seq4, k_set, k_setL, k_ret, k_retL, k_if1, k_if2, k_for, k_par, k_aug2, k_tgt, k_tgt2, k_sub, k_sub1, k_sub2, k_sub3, k_mut, k_mut1, k_mut2, k_d2, k_d3, k_d31, k_d321, k_d322, k_bool, k_cons, k_cons2, k_tup, k_lst, k_al, k_and1, k_and2, k_or1, k_or2, k_not, k_dt, k_en, k_zp, k_cut, k_cut1, k_cut2, k_os, k_cat, k_rep, k_srt0, k_srt, k_comp, k_run1, k_run2, k_go1, k_go2, w_turn, w_turnR, w_turnW, w_nx, w_bk, w_ct, w_rN, w_V, w_C, w_nil, w_oN, w_yes, w_gSet, w_gTup, w_gsCons, w_gsNil, w_add, w_subI, w_lt, w_le, w_gt, w_ge, w_neg, w_isN, w_notN, w_n0, w_n1, w_n2, w_n3, w_n4, w_len1, w_len2, w_min2, w_max2, w_int1, w_int2, w_clr, w_ixL, w_ixT, w_sum, w_any, w_kil0, w_kil1, k_sc_int, k_sc_bool, k_sc_none, k_sc_str, k_scs_of, items?_list, items?_tuple, list?_list, cutD_map, all_int, all_int', List.length_map, hApp_of, hExt_of, hIns_of, hCat_of, hRep_of, hR1_of, hR2_of, hR3_of, hMul_of, hDiv_of, hMod_of, p10_3, p10_4, p10_5, p10_6, p10_7, p10_8, p10_9, p10_12, p10_50, p50_3, p50_4, atI_map, k_scs_int, List.getD_cons_zero, List.getD_cons_succ, List.set_cons_zero, List.set_cons_succ, List.map_cons, List.map_nil, List.cons_append, List.nil_append, List.append_nil, List.length_cons, List.length_nil, Option.bind_some, Option.bind_none, Option.map_some, Option.map_none, ↓reduceIte, Nat.reduceAdd, Nat.reduceSub, Int.reduceAdd, Int.reduceSub, Int.reduceMul, Int.reduceNeg, Nat.reduceLeDiff, Nat.reduceLT, Nat.reduceEqDiff, Nat.zero_add, List.reduceReplicate, List.replicate_zero, List.replicate_one, List.replicate_succ, Bool.and_true, Bool.true_and, Bool.not_true, Bool.not_false, decide_true, decide_false, Bool.false_eq_true, reduceCtorEq, and_self, if_false, if_true, hIsi_int_int, hIsi_int_bool, hIsi_int_list, hIsi_int_tuple, hIsi_int_str, hIsi_bool_int, hIsi_bool_bool, hIsi_bool_list, hIsi_bool_tuple, hIsi_bool_str, hIsi_none_int, hIsi_none_bool, hIsi_none_list, hIsi_none_tuple, hIsi_none_str, hIsi_list_int, hIsi_list_bool, hIsi_list_list, hIsi_list_tuple, hIsi_list_str, hIsi_tuple_int, hIsi_tuple_bool, hIsi_tuple_list, hIsi_tuple_tuple, hIsi_tuple_str, hIsi_str_int, hIsi_str_bool, hIsi_str_list, hIsi_str_tuple, hIsi_str_str, sem_law_sets, range_ni]
  rw [Int.toNat_natCast]
  refine b_word (enc := fun s : List (List Nat) => [some (.int (W : Int)), some (.list (s.map wD)), none, none]) (cv := ni) (fun q s => s = subsF q.length) (List.range W) [[]] rfl ?_ (fun s hs => ?_)
  · intro q k r s hx hs
    obtain ⟨hqx, _, hlt⟩ := range_split hx
    have sl : s.length = 2 ^ q.length := by rw [hs]; exact subsF_len _
    have p2 : 2 ^ q.length ≤ 2 ^ 12 := Nat.pow_le_pow_right (by decide) (by omega)
    refine ⟨subsF (q.length + 1), ?_, by rw [List.length_append, List.length_singleton]⟩
    rw [subsF, ← hs, ← hqx]
    simp -implicitDefEqProofs (disch := first | omega | (simp only [List.length_map, List.length_append, List.length_cons, List.length_nil, List.length_range, List.length_take, List.length_drop, List.length_replicate, List.length_set, List.length_reverse] <;> omega) | (refine mulC_small ?_; omega) | (refine mulC_smallR ?_; omega) | (refine divC_small ?_ ?_ <;> omega) | (refine powC_small ?_ ?_ ?_ <;> omega)) only [v_run, v_iTp, tup?_tuple, v_sIfM2, k_ifM2_0, k_ifM2_1, v_srtSet, k_srtSet, v_sZ, k_sZ, v_sReb, v_sClr, k_sClr, v_pinF, k_pin, v_iZp3, k_zp3, v_setP, setPK_of, v_appP, k_appP, k_appP1, k_appP2, k_appP3, k_appP4, List.getElem?_cons_zero, List.getElem?_cons_succ, v_lSortP, k_srtP0, v_lRng, k_rng, hRg1_of, v_seq, v_set', v_setL', v_ret', v_retL', v_if', v_for', v_par', v_aug', v_augK, v_tgt', v_sub', v_mut', v_d1, v_d2, v_d3, v_dB, v_dSc, v_dScs, v_cons, v_tup', v_lst', v_dA, v_dAL, v_and', v_or', v_not', v_dT, v_iL, v_iR1, v_iR2, v_iR3, v_iEn, v_iZp, v_lCut, v_lOf, v_lCat, v_lRep, v_lRepE, k_rep0, v_rt', k_rt, v_idx, k_idx, v_lRev, k_rev, v_lSortI, v_lComp, v_oS, b_assoc, k_cmp, k_seq1, k_seq2, k_seq3, k_seq4, k_set, k_setL, k_ret, k_retL, k_if1, k_if2, k_for, k_par, k_aug2, k_tgt, k_tgt2, k_sub, k_sub1, k_sub2, k_sub3, k_mut, k_mut1, k_mut2, k_d2, k_d3, k_d31, k_d321, k_d322, k_bool, k_cons, k_cons2, k_tup, k_lst, k_al, k_and1, k_and2, k_or1, k_or2, k_not, k_dt, k_en, k_zp, k_cut, k_cut1, k_cut2, k_os, k_cat, k_rep, k_srt0, k_srt, k_comp, k_run1, k_run2, k_go1, k_go2, w_turn, w_turnR, w_turnW, w_nx, w_bk, w_ct, w_rN, w_V, w_C, w_nil, w_oN, w_yes, w_gSet, w_gTup, w_gsCons, w_gsNil, w_add, w_subI, w_lt, w_le, w_gt, w_ge, w_neg, w_isN, w_notN, w_n0, w_n1, w_n2, w_n3, w_n4, w_len1, w_len2, w_min2, w_max2, w_int1, w_int2, w_clr, w_ixL, w_ixT, w_sum, w_any, w_kil0, w_kil1, k_sc_int, k_sc_bool, k_sc_none, k_sc_str, k_scs_of, items?_list, items?_tuple, list?_list, cutD_map, all_int, all_int', List.length_map, hApp_of, hExt_of, hIns_of, hCat_of, hRep_of, hR1_of, hR2_of, hR3_of, hMul_of, hDiv_of, hMod_of, p10_3, p10_4, p10_5, p10_6, p10_7, p10_8, p10_9, p10_12, p10_50, p50_3, p50_4, atI_map, k_scs_int, List.getD_cons_zero, List.getD_cons_succ, List.set_cons_zero, List.set_cons_succ, List.map_cons, List.map_nil, List.cons_append, List.nil_append, List.append_nil, List.length_cons, List.length_nil, Option.bind_some, Option.bind_none, Option.map_some, Option.map_none, ↓reduceIte, Nat.reduceAdd, Nat.reduceSub, Int.reduceAdd, Int.reduceSub, Int.reduceMul, Int.reduceNeg, Nat.reduceLeDiff, Nat.reduceLT, Nat.reduceEqDiff, Nat.zero_add, List.reduceReplicate, List.replicate_zero, List.replicate_one, List.replicate_succ, Bool.and_true, Bool.true_and, Bool.not_true, Bool.not_false, decide_true, decide_false, Bool.false_eq_true, reduceCtorEq, and_self, if_false, if_true, hIsi_int_int, hIsi_int_bool, hIsi_int_list, hIsi_int_tuple, hIsi_int_str, hIsi_bool_int, hIsi_bool_bool, hIsi_bool_list, hIsi_bool_tuple, hIsi_bool_str, hIsi_none_int, hIsi_none_bool, hIsi_none_list, hIsi_none_tuple, hIsi_none_str, hIsi_list_int, hIsi_list_bool, hIsi_list_list, hIsi_list_tuple, hIsi_list_str, hIsi_tuple_int, hIsi_tuple_bool, hIsi_tuple_list, hIsi_tuple_tuple, hIsi_tuple_str, hIsi_str_int, hIsi_str_bool, hIsi_str_list, hIsi_str_tuple, hIsi_str_str, ni]
    refine b_map (cv := wD) (fun l => wD (l ++ [k])) s (by omega) (fun l hl => ⟨_, rfl, rfl, ?_⟩) ?_
    · have ll : l.length ≤ 1000 := by
        rw [hs] at hl
        have := (subsF_sub _ l hl).length_le
        rw [List.length_range] at this
        omega
      simp -implicitDefEqProofs (disch := first | omega | (simp only [List.length_map, List.length_append, List.length_cons, List.length_nil, List.length_range, List.length_take, List.length_drop, List.length_replicate, List.length_set, List.length_reverse] <;> omega) | (refine mulC_small ?_; omega) | (refine mulC_smallR ?_; omega) | (refine divC_small ?_ ?_ <;> omega) | (refine powC_small ?_ ?_ ?_ <;> omega)) only [v_run, v_iTp, tup?_tuple, v_sIfM2, k_ifM2_0, k_ifM2_1, v_srtSet, k_srtSet, v_sZ, k_sZ, v_sReb, v_sClr, k_sClr, v_pinF, k_pin, v_iZp3, k_zp3, v_setP, setPK_of, v_appP, k_appP, k_appP1, k_appP2, k_appP3, k_appP4, List.getElem?_cons_zero, List.getElem?_cons_succ, v_lSortP, k_srtP0, v_lRng, k_rng, hRg1_of, v_seq, v_set', v_setL', v_ret', v_retL', v_if', v_for', v_par', v_aug', v_augK, v_tgt', v_sub', v_mut', v_d1, v_d2, v_d3, v_dB, v_dSc, v_dScs, v_cons, v_tup', v_lst', v_dA, v_dAL, v_and', v_or', v_not', v_dT, v_iL, v_iR1, v_iR2, v_iR3, v_iEn, v_iZp, v_lCut, v_lOf, v_lCat, v_lRep, v_lRepE, k_rep0, v_rt', k_rt, v_idx, k_idx, v_lRev, k_rev, v_lSortI, v_lComp, v_oS, b_assoc, k_cmp, k_seq1, k_seq2, k_seq3, k_seq4, k_set, k_setL, k_ret, k_retL, k_if1, k_if2, k_for, k_par, k_aug2, k_tgt, k_tgt2, k_sub, k_sub1, k_sub2, k_sub3, k_mut, k_mut1, k_mut2, k_d2, k_d3, k_d31, k_d321, k_d322, k_bool, k_cons, k_cons2, k_tup, k_lst, k_al, k_and1, k_and2, k_or1, k_or2, k_not, k_dt, k_en, k_zp, k_cut, k_cut1, k_cut2, k_os, k_cat, k_rep, k_srt0, k_srt, k_comp, k_run1, k_run2, k_go1, k_go2, w_turn, w_turnR, w_turnW, w_nx, w_bk, w_ct, w_rN, w_V, w_C, w_nil, w_oN, w_yes, w_gSet, w_gTup, w_gsCons, w_gsNil, w_add, w_subI, w_lt, w_le, w_gt, w_ge, w_neg, w_isN, w_notN, w_n0, w_n1, w_n2, w_n3, w_n4, w_len1, w_len2, w_min2, w_max2, w_int1, w_int2, w_clr, w_ixL, w_ixT, w_sum, w_any, w_kil0, w_kil1, k_sc_int, k_sc_bool, k_sc_none, k_sc_str, k_scs_of, items?_list, items?_tuple, list?_list, cutD_map, all_int, all_int', List.length_map, hApp_of, hExt_of, hIns_of, hCat_of, hRep_of, hR1_of, hR2_of, hR3_of, hMul_of, hDiv_of, hMod_of, p10_3, p10_4, p10_5, p10_6, p10_7, p10_8, p10_9, p10_12, p10_50, p50_3, p50_4, atI_map, k_scs_int, List.getD_cons_zero, List.getD_cons_succ, List.set_cons_zero, List.set_cons_succ, List.map_cons, List.map_nil, List.cons_append, List.nil_append, List.append_nil, List.length_cons, List.length_nil, Option.bind_some, Option.bind_none, Option.map_some, Option.map_none, ↓reduceIte, Nat.reduceAdd, Nat.reduceSub, Int.reduceAdd, Int.reduceSub, Int.reduceMul, Int.reduceNeg, Nat.reduceLeDiff, Nat.reduceLT, Nat.reduceEqDiff, Nat.zero_add, List.reduceReplicate, List.replicate_zero, List.replicate_one, List.replicate_succ, Bool.and_true, Bool.true_and, Bool.not_true, Bool.not_false, decide_true, decide_false, Bool.false_eq_true, reduceCtorEq, and_self, if_false, if_true, hIsi_int_int, hIsi_int_bool, hIsi_int_list, hIsi_int_tuple, hIsi_int_str, hIsi_bool_int, hIsi_bool_bool, hIsi_bool_list, hIsi_bool_tuple, hIsi_bool_str, hIsi_none_int, hIsi_none_bool, hIsi_none_list, hIsi_none_tuple, hIsi_none_str, hIsi_list_int, hIsi_list_bool, hIsi_list_list, hIsi_list_tuple, hIsi_list_str, hIsi_tuple_int, hIsi_tuple_bool, hIsi_tuple_list, hIsi_tuple_tuple, hIsi_tuple_str, hIsi_str_int, hIsi_str_bool, hIsi_str_list, hIsi_str_tuple, hIsi_str_str, wD, List.map_append]
      rfl
    · simp -implicitDefEqProofs (disch := first | omega | (simp only [List.length_map, List.length_append, List.length_cons, List.length_nil, List.length_range, List.length_take, List.length_drop, List.length_replicate, List.length_set, List.length_reverse] <;> omega) | (refine mulC_small ?_; omega) | (refine mulC_smallR ?_; omega) | (refine divC_small ?_ ?_ <;> omega) | (refine powC_small ?_ ?_ ?_ <;> omega)) only [v_run, v_iTp, tup?_tuple, v_sIfM2, k_ifM2_0, k_ifM2_1, v_srtSet, k_srtSet, v_sZ, k_sZ, v_sReb, v_sClr, k_sClr, v_pinF, k_pin, v_iZp3, k_zp3, v_setP, setPK_of, v_appP, k_appP, k_appP1, k_appP2, k_appP3, k_appP4, List.getElem?_cons_zero, List.getElem?_cons_succ, v_lSortP, k_srtP0, v_lRng, k_rng, hRg1_of, v_seq, v_set', v_setL', v_ret', v_retL', v_if', v_for', v_par', v_aug', v_augK, v_tgt', v_sub', v_mut', v_d1, v_d2, v_d3, v_dB, v_dSc, v_dScs, v_cons, v_tup', v_lst', v_dA, v_dAL, v_and', v_or', v_not', v_dT, v_iL, v_iR1, v_iR2, v_iR3, v_iEn, v_iZp, v_lCut, v_lOf, v_lCat, v_lRep, v_lRepE, k_rep0, v_rt', k_rt, v_idx, k_idx, v_lRev, k_rev, v_lSortI, v_lComp, v_oS, b_assoc, k_cmp, k_seq1, k_seq2, k_seq3, k_seq4, k_set, k_setL, k_ret, k_retL, k_if1, k_if2, k_for, k_par, k_aug2, k_tgt, k_tgt2, k_sub, k_sub1, k_sub2, k_sub3, k_mut, k_mut1, k_mut2, k_d2, k_d3, k_d31, k_d321, k_d322, k_bool, k_cons, k_cons2, k_tup, k_lst, k_al, k_and1, k_and2, k_or1, k_or2, k_not, k_dt, k_en, k_zp, k_cut, k_cut1, k_cut2, k_os, k_cat, k_rep, k_srt0, k_srt, k_comp, k_run1, k_run2, k_go1, k_go2, w_turn, w_turnR, w_turnW, w_nx, w_bk, w_ct, w_rN, w_V, w_C, w_nil, w_oN, w_yes, w_gSet, w_gTup, w_gsCons, w_gsNil, w_add, w_subI, w_lt, w_le, w_gt, w_ge, w_neg, w_isN, w_notN, w_n0, w_n1, w_n2, w_n3, w_n4, w_len1, w_len2, w_min2, w_max2, w_int1, w_int2, w_clr, w_ixL, w_ixT, w_sum, w_any, w_kil0, w_kil1, k_sc_int, k_sc_bool, k_sc_none, k_sc_str, k_scs_of, items?_list, items?_tuple, list?_list, cutD_map, all_int, all_int', List.length_map, hApp_of, hExt_of, hIns_of, hCat_of, hRep_of, hR1_of, hR2_of, hR3_of, hMul_of, hDiv_of, hMod_of, p10_3, p10_4, p10_5, p10_6, p10_7, p10_8, p10_9, p10_12, p10_50, p50_3, p50_4, atI_map, k_scs_int, List.getD_cons_zero, List.getD_cons_succ, List.set_cons_zero, List.set_cons_succ, List.map_cons, List.map_nil, List.cons_append, List.nil_append, List.append_nil, List.length_cons, List.length_nil, Option.bind_some, Option.bind_none, Option.map_some, Option.map_none, ↓reduceIte, Nat.reduceAdd, Nat.reduceSub, Int.reduceAdd, Int.reduceSub, Int.reduceMul, Int.reduceNeg, Nat.reduceLeDiff, Nat.reduceLT, Nat.reduceEqDiff, Nat.zero_add, List.reduceReplicate, List.replicate_zero, List.replicate_one, List.replicate_succ, Bool.and_true, Bool.true_and, Bool.not_true, Bool.not_false, decide_true, decide_false, Bool.false_eq_true, reduceCtorEq, and_self, if_false, if_true, hIsi_int_int, hIsi_int_bool, hIsi_int_list, hIsi_int_tuple, hIsi_int_str, hIsi_bool_int, hIsi_bool_bool, hIsi_bool_list, hIsi_bool_tuple, hIsi_bool_str, hIsi_none_int, hIsi_none_bool, hIsi_none_list, hIsi_none_tuple, hIsi_none_str, hIsi_list_int, hIsi_list_bool, hIsi_list_list, hIsi_list_tuple, hIsi_list_str, hIsi_tuple_int, hIsi_tuple_bool, hIsi_tuple_list, hIsi_tuple_tuple, hIsi_tuple_str, hIsi_str_int, hIsi_str_bool, hIsi_str_list, hIsi_str_tuple, hIsi_str_str, List.map_append, List.map_map]
      rfl
  · rw [List.length_range] at hs
    have e : cutL s (some 1) none = s.drop 1 := by
      have sl : 1 ≤ s.length := by rw [hs, subsF_len]; exact Nat.pow_pos (by decide)
      unfold cutL HT.sIx
      simp only [show ¬ ((1 : Int) < 0) by decide, if_false, show (1 : Int).toNat = 1 from rfl, Nat.min_eq_left sl]
      exact List.take_of_length_le (by rw [List.length_drop]; omega)
    simp -implicitDefEqProofs (disch := first | omega | (simp only [List.length_map, List.length_append, List.length_cons, List.length_nil, List.length_range, List.length_take, List.length_drop, List.length_replicate, List.length_set, List.length_reverse] <;> omega) | (refine mulC_small ?_; omega) | (refine mulC_smallR ?_; omega) | (refine divC_small ?_ ?_ <;> omega) | (refine powC_small ?_ ?_ ?_ <;> omega)) only [v_run, v_iTp, tup?_tuple, v_sIfM2, k_ifM2_0, k_ifM2_1, v_srtSet, k_srtSet, v_sZ, k_sZ, v_sReb, v_sClr, k_sClr, v_pinF, k_pin, v_iZp3, k_zp3, v_setP, setPK_of, v_appP, k_appP, k_appP1, k_appP2, k_appP3, k_appP4, List.getElem?_cons_zero, List.getElem?_cons_succ, v_lSortP, k_srtP0, v_lRng, k_rng, hRg1_of, v_seq, v_set', v_setL', v_ret', v_retL', v_if', v_for', v_par', v_aug', v_augK, v_tgt', v_sub', v_mut', v_d1, v_d2, v_d3, v_dB, v_dSc, v_dScs, v_cons, v_tup', v_lst', v_dA, v_dAL, v_and', v_or', v_not', v_dT, v_iL, v_iR1, v_iR2, v_iR3, v_iEn, v_iZp, v_lCut, v_lOf, v_lCat, v_lRep, v_lRepE, k_rep0, v_rt', k_rt, v_idx, k_idx, v_lRev, k_rev, v_lSortI, v_lComp, v_oS, b_assoc, k_cmp, k_seq1, k_seq2, k_seq3, k_seq4, k_set, k_setL, k_ret, k_retL, k_if1, k_if2, k_for, k_par, k_aug2, k_tgt, k_tgt2, k_sub, k_sub1, k_sub2, k_sub3, k_mut, k_mut1, k_mut2, k_d2, k_d3, k_d31, k_d321, k_d322, k_bool, k_cons, k_cons2, k_tup, k_lst, k_al, k_and1, k_and2, k_or1, k_or2, k_not, k_dt, k_en, k_zp, k_cut, k_cut1, k_cut2, k_os, k_cat, k_rep, k_srt0, k_srt, k_comp, k_run1, k_run2, k_go1, k_go2, w_turn, w_turnR, w_turnW, w_nx, w_bk, w_ct, w_rN, w_V, w_C, w_nil, w_oN, w_yes, w_gSet, w_gTup, w_gsCons, w_gsNil, w_add, w_subI, w_lt, w_le, w_gt, w_ge, w_neg, w_isN, w_notN, w_n0, w_n1, w_n2, w_n3, w_n4, w_len1, w_len2, w_min2, w_max2, w_int1, w_int2, w_clr, w_ixL, w_ixT, w_sum, w_any, w_kil0, w_kil1, k_sc_int, k_sc_bool, k_sc_none, k_sc_str, k_scs_of, items?_list, items?_tuple, list?_list, cutD_map, all_int, all_int', List.length_map, hApp_of, hExt_of, hIns_of, hCat_of, hRep_of, hR1_of, hR2_of, hR3_of, hMul_of, hDiv_of, hMod_of, p10_3, p10_4, p10_5, p10_6, p10_7, p10_8, p10_9, p10_12, p10_50, p50_3, p50_4, atI_map, k_scs_int, List.getD_cons_zero, List.getD_cons_succ, List.set_cons_zero, List.set_cons_succ, List.map_cons, List.map_nil, List.cons_append, List.nil_append, List.append_nil, List.length_cons, List.length_nil, Option.bind_some, Option.bind_none, Option.map_some, Option.map_none, ↓reduceIte, Nat.reduceAdd, Nat.reduceSub, Int.reduceAdd, Int.reduceSub, Int.reduceMul, Int.reduceNeg, Nat.reduceLeDiff, Nat.reduceLT, Nat.reduceEqDiff, Nat.zero_add, List.reduceReplicate, List.replicate_zero, List.replicate_one, List.replicate_succ, Bool.and_true, Bool.true_and, Bool.not_true, Bool.not_false, decide_true, decide_false, Bool.false_eq_true, reduceCtorEq, and_self, if_false, if_true, hIsi_int_int, hIsi_int_bool, hIsi_int_list, hIsi_int_tuple, hIsi_int_str, hIsi_bool_int, hIsi_bool_bool, hIsi_bool_list, hIsi_bool_tuple, hIsi_bool_str, hIsi_none_int, hIsi_none_bool, hIsi_none_list, hIsi_none_tuple, hIsi_none_str, hIsi_list_int, hIsi_list_bool, hIsi_list_list, hIsi_list_tuple, hIsi_list_str, hIsi_tuple_int, hIsi_tuple_bool, hIsi_tuple_list, hIsi_tuple_tuple, hIsi_tuple_str, hIsi_str_int, hIsi_str_bool, hIsi_str_list, hIsi_str_tuple, hIsi_str_str, e]
    rw [hs]

open PySem.W in
theorem listLt_self : ∀ a : List Int, listLt a a = false
  | [] => rfl
  | x :: a => by rw [listLt, if_pos rfl]; exact listLt_self a
open PySem.W in
theorem listLt_asym : ∀ a b : List Int, listLt a b = true → listLt b a = false
  | [], [], h => by cases h
  | [], _ :: _, _ => rfl
  | _ :: _, [], h => by cases h
  | x :: a, y :: b, h => by
    rw [listLt] at h ⊢
    by_cases e : x = y
    · rw [if_pos e] at h
      rw [if_pos e.symm]
      exact listLt_asym a b h
    · rw [if_neg e] at h
      rw [if_neg (fun z => e z.symm)]
      have h : decide (x < y) = true := h
      have := of_decide_eq_true h
      exact decide_eq_false (by omega)
def ci (l : List Nat) : List Int := l.map fun i : Nat => (i : Int)
theorem ci_inj {a b : List Nat} (h : ci a = ci b) : a = b := (List.map_inj_right (fun a b h => Int.ofNat.inj h)).mp h
def ltN (a b : List Nat) : Prop := PySem.W.listLt (ci a) (ci b) = true
theorem ltN_cons (w : Nat) {p q : List Nat} (h : ltN p q) : ltN (w :: p) (w :: q) := by
  unfold ltN ci at h ⊢
  rw [List.map_cons, List.map_cons, PySem.W.listLt, if_pos rfl]
  exact h
theorem ltN_lt {w v : Nat} (p q : List Nat) (h : w < v) : ltN (w :: p) (v :: q) := by
  unfold ltN ci
  rw [List.map_cons, List.map_cons, PySem.W.listLt, if_neg (by omega)]
  exact decide_eq_true (by omega)
theorem picks_lt : ∀ (l : List Nat) (s : Nat), l.Pairwise (· < ·) → (picks l s).Pairwise ltN
  | l, 0, _ => by rw [picks_0]; exact List.pairwise_singleton _ _
  | [], s + 1, _ => List.Pairwise.nil
  | w :: l, s + 1, h => by
    obtain ⟨h1, h2⟩ := List.pairwise_cons.mp h
    rw [picks_s]
    refine List.pairwise_append.mpr ⟨List.pairwise_map.mpr ((picks_lt l s h2).imp fun h => ltN_cons w h), picks_lt l (s + 1) h2, fun a ha b hb => ?_⟩
    obtain ⟨r, _, rfl⟩ := List.mem_map.mp ha
    obtain ⟨b1, b2⟩ := picks_mem l (s + 1) b hb
    cases b with
    | nil => cases b2
    | cons v q => exact ltN_lt r q (h1 v (b1.subset List.mem_cons_self))
theorem picks_all : ∀ (l : List Nat) (p : List Nat), p.Sublist l → p ∈ picks l p.length
  | _, [], _ => by rw [List.length_nil, picks_0]; exact List.mem_singleton.mpr rfl
  | [], _ :: _, h => by cases h
  | w :: l, v :: p, h => by
    rw [List.length_cons, picks_s]
    cases h with
    | cons _ h =>
      have := picks_all l (v :: p) h
      rw [List.length_cons] at this
      exact List.mem_append_right _ this
    | cons_cons _ h => exact List.mem_append_left _ (List.mem_map.mpr ⟨p, picks_all l p h, rfl⟩)
theorem subsF_all : ∀ (n : Nat) (p : List Nat), p.Sublist (List.range n) → p ∈ subsF n
  | 0, p, h => by
    have : p = [] := List.sublist_nil.mp h
    rw [this]
    exact List.mem_singleton.mpr rfl
  | n + 1, p, h => by
    rw [List.range_succ] at h
    obtain ⟨p1, p2, rfl, h1, h2⟩ := List.sublist_append_iff.mp h
    rw [subsF]
    have i1 := subsF_all n p1 h1
    cases p2 with
    | nil => rw [List.append_nil]; exact List.mem_append_left _ i1
    | cons v q =>
      have hv : v = n ∧ q = [] := by
        have hl := h2.length_le
        rw [List.length_cons, List.length_singleton] at hl
        have hq : q = [] := List.length_eq_zero_iff.mp (by omega)
        have := h2.subset List.mem_cons_self
        exact ⟨List.mem_singleton.mp this, hq⟩
      rw [hv.1, hv.2]
      exact List.mem_append_right _ (List.mem_map.mpr ⟨p1, i1, rfl⟩)
theorem subsF_drop (n : Nat) : ∃ r, subsF n = [] :: r := by
  induction n with
  | zero => exact ⟨[], rfl⟩
  | succ n ih =>
    obtain ⟨r, h⟩ := ih
    rw [subsF, h]
    exact ⟨_, rfl⟩
theorem sets_all (n : Nat) (p : List Nat) (h : p.Sublist (List.range n)) (hne : p ≠ []) : p ∈ (subsF n).drop 1 := by
  have := subsF_all n p h
  obtain ⟨r, e⟩ := subsF_drop n
  rw [e] at this ⊢
  rcases List.mem_cons.mp this with z | z
  · exact absurd z hne
  · exact z
/-- the lists that wrong a group -/
def wrB (K : Int) (cs : List Int) (ws : List (List Nat)) (done a : List Nat) : Bool := !(grpF ws a done == []) && decide ((a.map fun c => cs.getD c 0).sum * (ws.length : Int) ≤ K * ((grpF ws a done).length : Int))
def pairD (ws : List (List Nat)) (done a : List Nat) : D := .tuple [wD a, wD (grpF ws a done)]
def triD (ws : List (List Nat)) (done a : List Nat) : D := .tuple [.int (a.length : Int), wD a, wD (grpF ws a done)]
def sizeF (K : Int) (cs : List Int) (ws : List (List Nat)) (done : List Nat) (k : Nat) : Option D := (picks (List.range' 0 (cs.length - 0)) (k + 1)).findSome? fun a => if wrB K cs ws done a = true then some (pairD ws done a) else none
def wrongF (K : Int) (cs : List Int) (ws : List (List Nat)) (done : List Nat) : Option D := (List.range cs.length).findSome? (sizeF K cs ws done)
def ond (o : Option D) : D := match o with
  | none => .none
  | some d => d
theorem wronged_ev (K : Int) (cs : List Int) (ws : List (List Nat)) (done : List Nat) (hc : cs.length < 10) (hv : ws.length ≤ 1000) (hw : ∀ i, (ws.getD i []).length ≤ 1000) :
    sem_wronged [.int K, .list (cs.map PyData.int), .list (ws.map wD), wD done] = some (ond (wrongF K cs ws done)) := by
  have inner : ∀ (k : Nat) (x : D) (a : List Nat), a ∈ picks (List.range' 0 (cs.length - 0)) (k + 1) → k < cs.length →
      ((wrB K cs ws done a = false → turn (gSet 5) (sSeq (sSet 6 (dLst (dAL sem_short_ones (dCons (dV 2) (dCons (dV 5) (dCons (dV 3) dNil))))))
  (sIf (tAndD (dB (d2 hNe (dV 6) (dLst dNil))) (dB (d2 hGe (d2 hMul (dV 0) (dA hLen (dCons (dV 6) dNil))) (d2 hMul (dA sem_cost_of (dCons (dV 1) (dCons (dV 5) dNil))) (dA hLen (dCons (dV 2) dNil))))))
  (sRet (dTup (dCons (dV 5) (dCons (dV 6) dNil)))) sNx)) [5, 6] (wD a) [some (.int K), some (.list (cs.map PyData.int)), some (.list (ws.map wD)), some (wD done), some x, none, none] [some (.int K), some (.list (cs.map PyData.int)), some (.list (ws.map wD)), some (wD done), some x, none, none]) ∧
      (wrB K cs ws done a = true → ((gSet 5 (wD a) [some (.int K), some (.list (cs.map PyData.int)), some (.list (ws.map wD)), some (wD done), some x, none, none]).bind (sSeq (sSet 6 (dLst (dAL sem_short_ones (dCons (dV 2) (dCons (dV 5) (dCons (dV 3) dNil))))))
  (sIf (tAndD (dB (d2 hNe (dV 6) (dLst dNil))) (dB (d2 hGe (d2 hMul (dV 0) (dA hLen (dCons (dV 6) dNil))) (d2 hMul (dA sem_cost_of (dCons (dV 1) (dCons (dV 5) dNil))) (dA hLen (dCons (dV 2) dNil))))))
  (sRet (dTup (dCons (dV 5) (dCons (dV 6) dNil)))) sNx))) = some (.rt (pairD ws done a)))) := fun k x a ha hk => by
    obtain ⟨a1, a2⟩ := picks_mem _ _ _ ha
    rw [Nat.sub_zero, ← List.range_eq_range'] at a1
    have se := short_ev ws a done hv (by omega) hw
    have ce := cost_ev cs a (fun z hx => List.mem_range.mp (a1.subset hx)) (by omega)
    have gl := grpF_len ws a done
    have hne := hNe_ni (grpF ws a done) []
    rw [List.map_nil] at hne
    unfold wrB
    constructor
    · intro h
      cases e : (grpF ws a done == [])
      · rw [e] at h hne
        have h : ¬ ((a.map fun c => cs.getD c 0).sum * (ws.length : Int) ≤ K * ((grpF ws a done).length : Int)) := by simpa using h
        simp -implicitDefEqProofs (disch := first | omega | (simp only [List.length_map, List.length_append, List.length_cons, List.length_nil, List.length_range, List.length_take, List.length_drop, List.length_replicate, List.length_set, List.length_reverse] <;> omega) | (refine mulC_small ?_; omega) | (refine mulC_smallR ?_; omega) | (refine divC_small ?_ ?_ <;> omega) | (refine powC_small ?_ ?_ ?_ <;> omega)) only [v_run, v_iTp, tup?_tuple, v_sIfM2, k_ifM2_0, k_ifM2_1, v_srtSet, k_srtSet, v_sZ, k_sZ, v_sReb, v_sClr, k_sClr, v_pinF, k_pin, v_iZp3, k_zp3, v_setP, setPK_of, v_appP, k_appP, k_appP1, k_appP2, k_appP3, k_appP4, List.getElem?_cons_zero, List.getElem?_cons_succ, v_lSortP, k_srtP0, v_lRng, k_rng, hRg1_of, v_seq, v_set', v_setL', v_ret', v_retL', v_if', v_for', v_par', v_aug', v_augK, v_tgt', v_sub', v_mut', v_d1, v_d2, v_d3, v_dB, v_dSc, v_dScs, v_cons, v_tup', v_lst', v_dA, v_dAL, v_and', v_or', v_not', v_dT, v_iL, v_iR1, v_iR2, v_iR3, v_iEn, v_iZp, v_lCut, v_lOf, v_lCat, v_lRep, v_lRepE, k_rep0, v_rt', k_rt, v_idx, k_idx, v_lRev, k_rev, v_lSortI, v_lComp, v_oS, b_assoc, k_cmp, k_seq1, k_seq2, k_seq3, k_seq4, k_set, k_setL, k_ret, k_retL, k_if1, k_if2, k_for, k_par, k_aug2, k_tgt, k_tgt2, k_sub, k_sub1, k_sub2, k_sub3, k_mut, k_mut1, k_mut2, k_d2, k_d3, k_d31, k_d321, k_d322, k_bool, k_cons, k_cons2, k_tup, k_lst, k_al, k_and1, k_and2, k_or1, k_or2, k_not, k_dt, k_en, k_zp, k_cut, k_cut1, k_cut2, k_os, k_cat, k_rep, k_srt0, k_srt, k_comp, k_run1, k_run2, k_go1, k_go2, w_turn, w_turnR, w_turnW, w_nx, w_bk, w_ct, w_rN, w_V, w_C, w_nil, w_oN, w_yes, w_gSet, w_gTup, w_gsCons, w_gsNil, w_add, w_subI, w_lt, w_le, w_gt, w_ge, w_neg, w_isN, w_notN, w_n0, w_n1, w_n2, w_n3, w_n4, w_len1, w_len2, w_min2, w_max2, w_int1, w_int2, w_clr, w_ixL, w_ixT, w_sum, w_any, w_kil0, w_kil1, k_sc_int, k_sc_bool, k_sc_none, k_sc_str, k_scs_of, items?_list, items?_tuple, list?_list, cutD_map, all_int, all_int', List.length_map, hApp_of, hExt_of, hIns_of, hCat_of, hRep_of, hR1_of, hR2_of, hR3_of, hMul_of, hDiv_of, hMod_of, p10_3, p10_4, p10_5, p10_6, p10_7, p10_8, p10_9, p10_12, p10_50, p50_3, p50_4, atI_map, k_scs_int, List.getD_cons_zero, List.getD_cons_succ, List.set_cons_zero, List.set_cons_succ, List.map_cons, List.map_nil, List.cons_append, List.nil_append, List.append_nil, List.length_cons, List.length_nil, Option.bind_some, Option.bind_none, Option.map_some, Option.map_none, ↓reduceIte, Nat.reduceAdd, Nat.reduceSub, Int.reduceAdd, Int.reduceSub, Int.reduceMul, Int.reduceNeg, Nat.reduceLeDiff, Nat.reduceLT, Nat.reduceEqDiff, Nat.zero_add, List.reduceReplicate, List.replicate_zero, List.replicate_one, List.replicate_succ, Bool.and_true, Bool.true_and, Bool.not_true, Bool.not_false, decide_true, decide_false, Bool.false_eq_true, reduceCtorEq, and_self, if_false, if_true, hIsi_int_int, hIsi_int_bool, hIsi_int_list, hIsi_int_tuple, hIsi_int_str, hIsi_bool_int, hIsi_bool_bool, hIsi_bool_list, hIsi_bool_tuple, hIsi_bool_str, hIsi_none_int, hIsi_none_bool, hIsi_none_list, hIsi_none_tuple, hIsi_none_str, hIsi_list_int, hIsi_list_bool, hIsi_list_list, hIsi_list_tuple, hIsi_list_str, hIsi_tuple_int, hIsi_tuple_bool, hIsi_tuple_list, hIsi_tuple_tuple, hIsi_tuple_str, hIsi_str_int, hIsi_str_bool, hIsi_str_list, hIsi_str_tuple, hIsi_str_str, se]
        simp -implicitDefEqProofs (disch := first | omega | (simp only [List.length_map, List.length_append, List.length_cons, List.length_nil, List.length_range, List.length_take, List.length_drop, List.length_replicate, List.length_set, List.length_reverse] <;> omega) | (refine mulC_small ?_; omega) | (refine mulC_smallR ?_; omega) | (refine divC_small ?_ ?_ <;> omega) | (refine powC_small ?_ ?_ ?_ <;> omega)) only [v_run, v_iTp, tup?_tuple, v_sIfM2, k_ifM2_0, k_ifM2_1, v_srtSet, k_srtSet, v_sZ, k_sZ, v_sReb, v_sClr, k_sClr, v_pinF, k_pin, v_iZp3, k_zp3, v_setP, setPK_of, v_appP, k_appP, k_appP1, k_appP2, k_appP3, k_appP4, List.getElem?_cons_zero, List.getElem?_cons_succ, v_lSortP, k_srtP0, v_lRng, k_rng, hRg1_of, v_seq, v_set', v_setL', v_ret', v_retL', v_if', v_for', v_par', v_aug', v_augK, v_tgt', v_sub', v_mut', v_d1, v_d2, v_d3, v_dB, v_dSc, v_dScs, v_cons, v_tup', v_lst', v_dA, v_dAL, v_and', v_or', v_not', v_dT, v_iL, v_iR1, v_iR2, v_iR3, v_iEn, v_iZp, v_lCut, v_lOf, v_lCat, v_lRep, v_lRepE, k_rep0, v_rt', k_rt, v_idx, k_idx, v_lRev, k_rev, v_lSortI, v_lComp, v_oS, b_assoc, k_cmp, k_seq1, k_seq2, k_seq3, k_seq4, k_set, k_setL, k_ret, k_retL, k_if1, k_if2, k_for, k_par, k_aug2, k_tgt, k_tgt2, k_sub, k_sub1, k_sub2, k_sub3, k_mut, k_mut1, k_mut2, k_d2, k_d3, k_d31, k_d321, k_d322, k_bool, k_cons, k_cons2, k_tup, k_lst, k_al, k_and1, k_and2, k_or1, k_or2, k_not, k_dt, k_en, k_zp, k_cut, k_cut1, k_cut2, k_os, k_cat, k_rep, k_srt0, k_srt, k_comp, k_run1, k_run2, k_go1, k_go2, w_turn, w_turnR, w_turnW, w_nx, w_bk, w_ct, w_rN, w_V, w_C, w_nil, w_oN, w_yes, w_gSet, w_gTup, w_gsCons, w_gsNil, w_add, w_subI, w_lt, w_le, w_gt, w_ge, w_neg, w_isN, w_notN, w_n0, w_n1, w_n2, w_n3, w_n4, w_len1, w_len2, w_min2, w_max2, w_int1, w_int2, w_clr, w_ixL, w_ixT, w_sum, w_any, w_kil0, w_kil1, k_sc_int, k_sc_bool, k_sc_none, k_sc_str, k_scs_of, items?_list, items?_tuple, list?_list, cutD_map, all_int, all_int', List.length_map, hApp_of, hExt_of, hIns_of, hCat_of, hRep_of, hR1_of, hR2_of, hR3_of, hMul_of, hDiv_of, hMod_of, p10_3, p10_4, p10_5, p10_6, p10_7, p10_8, p10_9, p10_12, p10_50, p50_3, p50_4, atI_map, k_scs_int, List.getD_cons_zero, List.getD_cons_succ, List.set_cons_zero, List.set_cons_succ, List.map_cons, List.map_nil, List.cons_append, List.nil_append, List.append_nil, List.length_cons, List.length_nil, Option.bind_some, Option.bind_none, Option.map_some, Option.map_none, ↓reduceIte, Nat.reduceAdd, Nat.reduceSub, Int.reduceAdd, Int.reduceSub, Int.reduceMul, Int.reduceNeg, Nat.reduceLeDiff, Nat.reduceLT, Nat.reduceEqDiff, Nat.zero_add, List.reduceReplicate, List.replicate_zero, List.replicate_one, List.replicate_succ, Bool.and_true, Bool.true_and, Bool.not_true, Bool.not_false, decide_true, decide_false, Bool.false_eq_true, reduceCtorEq, and_self, if_false, if_true, hIsi_int_int, hIsi_int_bool, hIsi_int_list, hIsi_int_tuple, hIsi_int_str, hIsi_bool_int, hIsi_bool_bool, hIsi_bool_list, hIsi_bool_tuple, hIsi_bool_str, hIsi_none_int, hIsi_none_bool, hIsi_none_list, hIsi_none_tuple, hIsi_none_str, hIsi_list_int, hIsi_list_bool, hIsi_list_list, hIsi_list_tuple, hIsi_list_str, hIsi_tuple_int, hIsi_tuple_bool, hIsi_tuple_list, hIsi_tuple_tuple, hIsi_tuple_str, hIsi_str_int, hIsi_str_bool, hIsi_str_list, hIsi_str_tuple, hIsi_str_str, wD, hne, h, ce]
      · rw [e] at hne
        simp -implicitDefEqProofs (disch := first | omega | (simp only [List.length_map, List.length_append, List.length_cons, List.length_nil, List.length_range, List.length_take, List.length_drop, List.length_replicate, List.length_set, List.length_reverse] <;> omega) | (refine mulC_small ?_; omega) | (refine mulC_smallR ?_; omega) | (refine divC_small ?_ ?_ <;> omega) | (refine powC_small ?_ ?_ ?_ <;> omega)) only [v_run, v_iTp, tup?_tuple, v_sIfM2, k_ifM2_0, k_ifM2_1, v_srtSet, k_srtSet, v_sZ, k_sZ, v_sReb, v_sClr, k_sClr, v_pinF, k_pin, v_iZp3, k_zp3, v_setP, setPK_of, v_appP, k_appP, k_appP1, k_appP2, k_appP3, k_appP4, List.getElem?_cons_zero, List.getElem?_cons_succ, v_lSortP, k_srtP0, v_lRng, k_rng, hRg1_of, v_seq, v_set', v_setL', v_ret', v_retL', v_if', v_for', v_par', v_aug', v_augK, v_tgt', v_sub', v_mut', v_d1, v_d2, v_d3, v_dB, v_dSc, v_dScs, v_cons, v_tup', v_lst', v_dA, v_dAL, v_and', v_or', v_not', v_dT, v_iL, v_iR1, v_iR2, v_iR3, v_iEn, v_iZp, v_lCut, v_lOf, v_lCat, v_lRep, v_lRepE, k_rep0, v_rt', k_rt, v_idx, k_idx, v_lRev, k_rev, v_lSortI, v_lComp, v_oS, b_assoc, k_cmp, k_seq1, k_seq2, k_seq3, k_seq4, k_set, k_setL, k_ret, k_retL, k_if1, k_if2, k_for, k_par, k_aug2, k_tgt, k_tgt2, k_sub, k_sub1, k_sub2, k_sub3, k_mut, k_mut1, k_mut2, k_d2, k_d3, k_d31, k_d321, k_d322, k_bool, k_cons, k_cons2, k_tup, k_lst, k_al, k_and1, k_and2, k_or1, k_or2, k_not, k_dt, k_en, k_zp, k_cut, k_cut1, k_cut2, k_os, k_cat, k_rep, k_srt0, k_srt, k_comp, k_run1, k_run2, k_go1, k_go2, w_turn, w_turnR, w_turnW, w_nx, w_bk, w_ct, w_rN, w_V, w_C, w_nil, w_oN, w_yes, w_gSet, w_gTup, w_gsCons, w_gsNil, w_add, w_subI, w_lt, w_le, w_gt, w_ge, w_neg, w_isN, w_notN, w_n0, w_n1, w_n2, w_n3, w_n4, w_len1, w_len2, w_min2, w_max2, w_int1, w_int2, w_clr, w_ixL, w_ixT, w_sum, w_any, w_kil0, w_kil1, k_sc_int, k_sc_bool, k_sc_none, k_sc_str, k_scs_of, items?_list, items?_tuple, list?_list, cutD_map, all_int, all_int', List.length_map, hApp_of, hExt_of, hIns_of, hCat_of, hRep_of, hR1_of, hR2_of, hR3_of, hMul_of, hDiv_of, hMod_of, p10_3, p10_4, p10_5, p10_6, p10_7, p10_8, p10_9, p10_12, p10_50, p50_3, p50_4, atI_map, k_scs_int, List.getD_cons_zero, List.getD_cons_succ, List.set_cons_zero, List.set_cons_succ, List.map_cons, List.map_nil, List.cons_append, List.nil_append, List.append_nil, List.length_cons, List.length_nil, Option.bind_some, Option.bind_none, Option.map_some, Option.map_none, ↓reduceIte, Nat.reduceAdd, Nat.reduceSub, Int.reduceAdd, Int.reduceSub, Int.reduceMul, Int.reduceNeg, Nat.reduceLeDiff, Nat.reduceLT, Nat.reduceEqDiff, Nat.zero_add, List.reduceReplicate, List.replicate_zero, List.replicate_one, List.replicate_succ, Bool.and_true, Bool.true_and, Bool.not_true, Bool.not_false, decide_true, decide_false, Bool.false_eq_true, reduceCtorEq, and_self, if_false, if_true, hIsi_int_int, hIsi_int_bool, hIsi_int_list, hIsi_int_tuple, hIsi_int_str, hIsi_bool_int, hIsi_bool_bool, hIsi_bool_list, hIsi_bool_tuple, hIsi_bool_str, hIsi_none_int, hIsi_none_bool, hIsi_none_list, hIsi_none_tuple, hIsi_none_str, hIsi_list_int, hIsi_list_bool, hIsi_list_list, hIsi_list_tuple, hIsi_list_str, hIsi_tuple_int, hIsi_tuple_bool, hIsi_tuple_list, hIsi_tuple_tuple, hIsi_tuple_str, hIsi_str_int, hIsi_str_bool, hIsi_str_list, hIsi_str_tuple, hIsi_str_str, se]
        simp -implicitDefEqProofs (disch := first | omega | (simp only [List.length_map, List.length_append, List.length_cons, List.length_nil, List.length_range, List.length_take, List.length_drop, List.length_replicate, List.length_set, List.length_reverse] <;> omega) | (refine mulC_small ?_; omega) | (refine mulC_smallR ?_; omega) | (refine divC_small ?_ ?_ <;> omega) | (refine powC_small ?_ ?_ ?_ <;> omega)) only [v_run, v_iTp, tup?_tuple, v_sIfM2, k_ifM2_0, k_ifM2_1, v_srtSet, k_srtSet, v_sZ, k_sZ, v_sReb, v_sClr, k_sClr, v_pinF, k_pin, v_iZp3, k_zp3, v_setP, setPK_of, v_appP, k_appP, k_appP1, k_appP2, k_appP3, k_appP4, List.getElem?_cons_zero, List.getElem?_cons_succ, v_lSortP, k_srtP0, v_lRng, k_rng, hRg1_of, v_seq, v_set', v_setL', v_ret', v_retL', v_if', v_for', v_par', v_aug', v_augK, v_tgt', v_sub', v_mut', v_d1, v_d2, v_d3, v_dB, v_dSc, v_dScs, v_cons, v_tup', v_lst', v_dA, v_dAL, v_and', v_or', v_not', v_dT, v_iL, v_iR1, v_iR2, v_iR3, v_iEn, v_iZp, v_lCut, v_lOf, v_lCat, v_lRep, v_lRepE, k_rep0, v_rt', k_rt, v_idx, k_idx, v_lRev, k_rev, v_lSortI, v_lComp, v_oS, b_assoc, k_cmp, k_seq1, k_seq2, k_seq3, k_seq4, k_set, k_setL, k_ret, k_retL, k_if1, k_if2, k_for, k_par, k_aug2, k_tgt, k_tgt2, k_sub, k_sub1, k_sub2, k_sub3, k_mut, k_mut1, k_mut2, k_d2, k_d3, k_d31, k_d321, k_d322, k_bool, k_cons, k_cons2, k_tup, k_lst, k_al, k_and1, k_and2, k_or1, k_or2, k_not, k_dt, k_en, k_zp, k_cut, k_cut1, k_cut2, k_os, k_cat, k_rep, k_srt0, k_srt, k_comp, k_run1, k_run2, k_go1, k_go2, w_turn, w_turnR, w_turnW, w_nx, w_bk, w_ct, w_rN, w_V, w_C, w_nil, w_oN, w_yes, w_gSet, w_gTup, w_gsCons, w_gsNil, w_add, w_subI, w_lt, w_le, w_gt, w_ge, w_neg, w_isN, w_notN, w_n0, w_n1, w_n2, w_n3, w_n4, w_len1, w_len2, w_min2, w_max2, w_int1, w_int2, w_clr, w_ixL, w_ixT, w_sum, w_any, w_kil0, w_kil1, k_sc_int, k_sc_bool, k_sc_none, k_sc_str, k_scs_of, items?_list, items?_tuple, list?_list, cutD_map, all_int, all_int', List.length_map, hApp_of, hExt_of, hIns_of, hCat_of, hRep_of, hR1_of, hR2_of, hR3_of, hMul_of, hDiv_of, hMod_of, p10_3, p10_4, p10_5, p10_6, p10_7, p10_8, p10_9, p10_12, p10_50, p50_3, p50_4, atI_map, k_scs_int, List.getD_cons_zero, List.getD_cons_succ, List.set_cons_zero, List.set_cons_succ, List.map_cons, List.map_nil, List.cons_append, List.nil_append, List.append_nil, List.length_cons, List.length_nil, Option.bind_some, Option.bind_none, Option.map_some, Option.map_none, ↓reduceIte, Nat.reduceAdd, Nat.reduceSub, Int.reduceAdd, Int.reduceSub, Int.reduceMul, Int.reduceNeg, Nat.reduceLeDiff, Nat.reduceLT, Nat.reduceEqDiff, Nat.zero_add, List.reduceReplicate, List.replicate_zero, List.replicate_one, List.replicate_succ, Bool.and_true, Bool.true_and, Bool.not_true, Bool.not_false, decide_true, decide_false, Bool.false_eq_true, reduceCtorEq, and_self, if_false, if_true, hIsi_int_int, hIsi_int_bool, hIsi_int_list, hIsi_int_tuple, hIsi_int_str, hIsi_bool_int, hIsi_bool_bool, hIsi_bool_list, hIsi_bool_tuple, hIsi_bool_str, hIsi_none_int, hIsi_none_bool, hIsi_none_list, hIsi_none_tuple, hIsi_none_str, hIsi_list_int, hIsi_list_bool, hIsi_list_list, hIsi_list_tuple, hIsi_list_str, hIsi_tuple_int, hIsi_tuple_bool, hIsi_tuple_list, hIsi_tuple_tuple, hIsi_tuple_str, hIsi_str_int, hIsi_str_bool, hIsi_str_list, hIsi_str_tuple, hIsi_str_str, wD, hne]
    · intro h
      rw [Bool.and_eq_true] at h
      have h2 := of_decide_eq_true h.2
      rw [h.1] at hne
      simp -implicitDefEqProofs (disch := first | omega | (simp only [List.length_map, List.length_append, List.length_cons, List.length_nil, List.length_range, List.length_take, List.length_drop, List.length_replicate, List.length_set, List.length_reverse] <;> omega) | (refine mulC_small ?_; omega) | (refine mulC_smallR ?_; omega) | (refine divC_small ?_ ?_ <;> omega) | (refine powC_small ?_ ?_ ?_ <;> omega)) only [v_run, v_iTp, tup?_tuple, v_sIfM2, k_ifM2_0, k_ifM2_1, v_srtSet, k_srtSet, v_sZ, k_sZ, v_sReb, v_sClr, k_sClr, v_pinF, k_pin, v_iZp3, k_zp3, v_setP, setPK_of, v_appP, k_appP, k_appP1, k_appP2, k_appP3, k_appP4, List.getElem?_cons_zero, List.getElem?_cons_succ, v_lSortP, k_srtP0, v_lRng, k_rng, hRg1_of, v_seq, v_set', v_setL', v_ret', v_retL', v_if', v_for', v_par', v_aug', v_augK, v_tgt', v_sub', v_mut', v_d1, v_d2, v_d3, v_dB, v_dSc, v_dScs, v_cons, v_tup', v_lst', v_dA, v_dAL, v_and', v_or', v_not', v_dT, v_iL, v_iR1, v_iR2, v_iR3, v_iEn, v_iZp, v_lCut, v_lOf, v_lCat, v_lRep, v_lRepE, k_rep0, v_rt', k_rt, v_idx, k_idx, v_lRev, k_rev, v_lSortI, v_lComp, v_oS, b_assoc, k_cmp, k_seq1, k_seq2, k_seq3, k_seq4, k_set, k_setL, k_ret, k_retL, k_if1, k_if2, k_for, k_par, k_aug2, k_tgt, k_tgt2, k_sub, k_sub1, k_sub2, k_sub3, k_mut, k_mut1, k_mut2, k_d2, k_d3, k_d31, k_d321, k_d322, k_bool, k_cons, k_cons2, k_tup, k_lst, k_al, k_and1, k_and2, k_or1, k_or2, k_not, k_dt, k_en, k_zp, k_cut, k_cut1, k_cut2, k_os, k_cat, k_rep, k_srt0, k_srt, k_comp, k_run1, k_run2, k_go1, k_go2, w_turn, w_turnR, w_turnW, w_nx, w_bk, w_ct, w_rN, w_V, w_C, w_nil, w_oN, w_yes, w_gSet, w_gTup, w_gsCons, w_gsNil, w_add, w_subI, w_lt, w_le, w_gt, w_ge, w_neg, w_isN, w_notN, w_n0, w_n1, w_n2, w_n3, w_n4, w_len1, w_len2, w_min2, w_max2, w_int1, w_int2, w_clr, w_ixL, w_ixT, w_sum, w_any, w_kil0, w_kil1, k_sc_int, k_sc_bool, k_sc_none, k_sc_str, k_scs_of, items?_list, items?_tuple, list?_list, cutD_map, all_int, all_int', List.length_map, hApp_of, hExt_of, hIns_of, hCat_of, hRep_of, hR1_of, hR2_of, hR3_of, hMul_of, hDiv_of, hMod_of, p10_3, p10_4, p10_5, p10_6, p10_7, p10_8, p10_9, p10_12, p10_50, p50_3, p50_4, atI_map, k_scs_int, List.getD_cons_zero, List.getD_cons_succ, List.set_cons_zero, List.set_cons_succ, List.map_cons, List.map_nil, List.cons_append, List.nil_append, List.append_nil, List.length_cons, List.length_nil, Option.bind_some, Option.bind_none, Option.map_some, Option.map_none, ↓reduceIte, Nat.reduceAdd, Nat.reduceSub, Int.reduceAdd, Int.reduceSub, Int.reduceMul, Int.reduceNeg, Nat.reduceLeDiff, Nat.reduceLT, Nat.reduceEqDiff, Nat.zero_add, List.reduceReplicate, List.replicate_zero, List.replicate_one, List.replicate_succ, Bool.and_true, Bool.true_and, Bool.not_true, Bool.not_false, decide_true, decide_false, Bool.false_eq_true, reduceCtorEq, and_self, if_false, if_true, hIsi_int_int, hIsi_int_bool, hIsi_int_list, hIsi_int_tuple, hIsi_int_str, hIsi_bool_int, hIsi_bool_bool, hIsi_bool_list, hIsi_bool_tuple, hIsi_bool_str, hIsi_none_int, hIsi_none_bool, hIsi_none_list, hIsi_none_tuple, hIsi_none_str, hIsi_list_int, hIsi_list_bool, hIsi_list_list, hIsi_list_tuple, hIsi_list_str, hIsi_tuple_int, hIsi_tuple_bool, hIsi_tuple_list, hIsi_tuple_tuple, hIsi_tuple_str, hIsi_str_int, hIsi_str_bool, hIsi_str_list, hIsi_str_tuple, hIsi_str_str, se]
      simp -implicitDefEqProofs (disch := first | omega | (simp only [List.length_map, List.length_append, List.length_cons, List.length_nil, List.length_range, List.length_take, List.length_drop, List.length_replicate, List.length_set, List.length_reverse] <;> omega) | (refine mulC_small ?_; omega) | (refine mulC_smallR ?_; omega) | (refine divC_small ?_ ?_ <;> omega) | (refine powC_small ?_ ?_ ?_ <;> omega)) only [v_run, v_iTp, tup?_tuple, v_sIfM2, k_ifM2_0, k_ifM2_1, v_srtSet, k_srtSet, v_sZ, k_sZ, v_sReb, v_sClr, k_sClr, v_pinF, k_pin, v_iZp3, k_zp3, v_setP, setPK_of, v_appP, k_appP, k_appP1, k_appP2, k_appP3, k_appP4, List.getElem?_cons_zero, List.getElem?_cons_succ, v_lSortP, k_srtP0, v_lRng, k_rng, hRg1_of, v_seq, v_set', v_setL', v_ret', v_retL', v_if', v_for', v_par', v_aug', v_augK, v_tgt', v_sub', v_mut', v_d1, v_d2, v_d3, v_dB, v_dSc, v_dScs, v_cons, v_tup', v_lst', v_dA, v_dAL, v_and', v_or', v_not', v_dT, v_iL, v_iR1, v_iR2, v_iR3, v_iEn, v_iZp, v_lCut, v_lOf, v_lCat, v_lRep, v_lRepE, k_rep0, v_rt', k_rt, v_idx, k_idx, v_lRev, k_rev, v_lSortI, v_lComp, v_oS, b_assoc, k_cmp, k_seq1, k_seq2, k_seq3, k_seq4, k_set, k_setL, k_ret, k_retL, k_if1, k_if2, k_for, k_par, k_aug2, k_tgt, k_tgt2, k_sub, k_sub1, k_sub2, k_sub3, k_mut, k_mut1, k_mut2, k_d2, k_d3, k_d31, k_d321, k_d322, k_bool, k_cons, k_cons2, k_tup, k_lst, k_al, k_and1, k_and2, k_or1, k_or2, k_not, k_dt, k_en, k_zp, k_cut, k_cut1, k_cut2, k_os, k_cat, k_rep, k_srt0, k_srt, k_comp, k_run1, k_run2, k_go1, k_go2, w_turn, w_turnR, w_turnW, w_nx, w_bk, w_ct, w_rN, w_V, w_C, w_nil, w_oN, w_yes, w_gSet, w_gTup, w_gsCons, w_gsNil, w_add, w_subI, w_lt, w_le, w_gt, w_ge, w_neg, w_isN, w_notN, w_n0, w_n1, w_n2, w_n3, w_n4, w_len1, w_len2, w_min2, w_max2, w_int1, w_int2, w_clr, w_ixL, w_ixT, w_sum, w_any, w_kil0, w_kil1, k_sc_int, k_sc_bool, k_sc_none, k_sc_str, k_scs_of, items?_list, items?_tuple, list?_list, cutD_map, all_int, all_int', List.length_map, hApp_of, hExt_of, hIns_of, hCat_of, hRep_of, hR1_of, hR2_of, hR3_of, hMul_of, hDiv_of, hMod_of, p10_3, p10_4, p10_5, p10_6, p10_7, p10_8, p10_9, p10_12, p10_50, p50_3, p50_4, atI_map, k_scs_int, List.getD_cons_zero, List.getD_cons_succ, List.set_cons_zero, List.set_cons_succ, List.map_cons, List.map_nil, List.cons_append, List.nil_append, List.append_nil, List.length_cons, List.length_nil, Option.bind_some, Option.bind_none, Option.map_some, Option.map_none, ↓reduceIte, Nat.reduceAdd, Nat.reduceSub, Int.reduceAdd, Int.reduceSub, Int.reduceMul, Int.reduceNeg, Nat.reduceLeDiff, Nat.reduceLT, Nat.reduceEqDiff, Nat.zero_add, List.reduceReplicate, List.replicate_zero, List.replicate_one, List.replicate_succ, Bool.and_true, Bool.true_and, Bool.not_true, Bool.not_false, decide_true, decide_false, Bool.false_eq_true, reduceCtorEq, and_self, if_false, if_true, hIsi_int_int, hIsi_int_bool, hIsi_int_list, hIsi_int_tuple, hIsi_int_str, hIsi_bool_int, hIsi_bool_bool, hIsi_bool_list, hIsi_bool_tuple, hIsi_bool_str, hIsi_none_int, hIsi_none_bool, hIsi_none_list, hIsi_none_tuple, hIsi_none_str, hIsi_list_int, hIsi_list_bool, hIsi_list_list, hIsi_list_tuple, hIsi_list_str, hIsi_tuple_int, hIsi_tuple_bool, hIsi_tuple_list, hIsi_tuple_tuple, hIsi_tuple_str, hIsi_str_int, hIsi_str_bool, hIsi_str_list, hIsi_str_tuple, hIsi_str_str, wD, hne, h2, ce, pairD]
  simp -implicitDefEqProofs (disch := first | omega | (simp only [List.length_map, List.length_append, List.length_cons, List.length_nil, List.length_range, List.length_take, List.length_drop, List.length_replicate, List.length_set, List.length_reverse] <;> omega) | (refine mulC_small ?_; omega) | (refine mulC_smallR ?_; omega) | (refine divC_small ?_ ?_ <;> omega) | (refine powC_small ?_ ?_ ?_ <;> omega)) only [v_run, v_iTp, tup?_tuple, v_sIfM2, k_ifM2_0, k_ifM2_1, v_srtSet, k_srtSet, v_sZ, k_sZ, v_sReb, v_sClr, k_sClr, v_pinF, k_pin, v_iZp3, k_zp3, v_setP, setPK_of, v_appP, k_appP, k_appP1, k_appP2, k_appP3, k_appP4, List.getElem?_cons_zero, List.getElem?_cons_succ, v_lSortP, k_srtP0, v_lRng, k_rng, hRg1_of, v_seq, v_set', v_setL', v_ret', v_retL', v_if', v_for', v_par', v_aug', v_augK, v_tgt', v_sub', v_mut', v_d1, v_d2, v_d3, v_dB, v_dSc, v_dScs, v_cons, v_tup', v_lst', v_dA, v_dAL, v_and', v_or', v_not', v_dT, v_iL, v_iR1, v_iR2, v_iR3, v_iEn, v_iZp, v_lCut, v_lOf, v_lCat, v_lRep, v_lRepE, k_rep0, v_rt', k_rt, v_idx, k_idx, v_lRev, k_rev, v_lSortI, v_lComp, v_oS, b_assoc, k_cmp, k_seq1, k_seq2, k_seq3, k_seq4, k_set, k_setL, k_ret, k_retL, k_if1, k_if2, k_for, k_par, k_aug2, k_tgt, k_tgt2, k_sub, k_sub1, k_sub2, k_sub3, k_mut, k_mut1, k_mut2, k_d2, k_d3, k_d31, k_d321, k_d322, k_bool, k_cons, k_cons2, k_tup, k_lst, k_al, k_and1, k_and2, k_or1, k_or2, k_not, k_dt, k_en, k_zp, k_cut, k_cut1, k_cut2, k_os, k_cat, k_rep, k_srt0, k_srt, k_comp, k_run1, k_run2, k_go1, k_go2, w_turn, w_turnR, w_turnW, w_nx, w_bk, w_ct, w_rN, w_V, w_C, w_nil, w_oN, w_yes, w_gSet, w_gTup, w_gsCons, w_gsNil, w_add, w_subI, w_lt, w_le, w_gt, w_ge, w_neg, w_isN, w_notN, w_n0, w_n1, w_n2, w_n3, w_n4, w_len1, w_len2, w_min2, w_max2, w_int1, w_int2, w_clr, w_ixL, w_ixT, w_sum, w_any, w_kil0, w_kil1, k_sc_int, k_sc_bool, k_sc_none, k_sc_str, k_scs_of, items?_list, items?_tuple, list?_list, cutD_map, all_int, all_int', List.length_map, hApp_of, hExt_of, hIns_of, hCat_of, hRep_of, hR1_of, hR2_of, hR3_of, hMul_of, hDiv_of, hMod_of, p10_3, p10_4, p10_5, p10_6, p10_7, p10_8, p10_9, p10_12, p10_50, p50_3, p50_4, atI_map, k_scs_int, List.getD_cons_zero, List.getD_cons_succ, List.set_cons_zero, List.set_cons_succ, List.map_cons, List.map_nil, List.cons_append, List.nil_append, List.append_nil, List.length_cons, List.length_nil, Option.bind_some, Option.bind_none, Option.map_some, Option.map_none, ↓reduceIte, Nat.reduceAdd, Nat.reduceSub, Int.reduceAdd, Int.reduceSub, Int.reduceMul, Int.reduceNeg, Nat.reduceLeDiff, Nat.reduceLT, Nat.reduceEqDiff, Nat.zero_add, List.reduceReplicate, List.replicate_zero, List.replicate_one, List.replicate_succ, Bool.and_true, Bool.true_and, Bool.not_true, Bool.not_false, decide_true, decide_false, Bool.false_eq_true, reduceCtorEq, and_self, if_false, if_true, hIsi_int_int, hIsi_int_bool, hIsi_int_list, hIsi_int_tuple, hIsi_int_str, hIsi_bool_int, hIsi_bool_bool, hIsi_bool_list, hIsi_bool_tuple, hIsi_bool_str, hIsi_none_int, hIsi_none_bool, hIsi_none_list, hIsi_none_tuple, hIsi_none_str, hIsi_list_int, hIsi_list_bool, hIsi_list_list, hIsi_list_tuple, hIsi_list_str, hIsi_tuple_int, hIsi_tuple_bool, hIsi_tuple_list, hIsi_tuple_tuple, hIsi_tuple_str, hIsi_str_int, hIsi_str_bool, hIsi_str_list, hIsi_str_tuple, hIsi_str_str, sem_wronged, rangeD_map]
  rw [show ((cs.length : Int) + 1 - 1).toNat = cs.length by omega]
  have pk : ∀ k, k < cs.length → sem_picks_of [.int 0, .int (cs.length : Int), .int (1 + (k : Int))] = some (.list ((picks (List.range' 0 (cs.length - 0)) (k + 1)).map wD)) := fun k hk => by
    have := picksR_ev cs.length (by omega) (k + 1) 10 0 (by omega) (by omega) (Nat.zero_le _)
    rw [show ((k + 1 : Nat) : Int) = 1 + (k : Int) by omega] at this
    exact this
  have fs : ∀ k, k < cs.length → ∀ a d, a ∈ picks (List.range' 0 (cs.length - 0)) (k + 1) → (if wrB K cs ws done a = true then some (pairD ws done a) else none) = some d → wrB K cs ws done a = true ∧ d = pairD ws done a := fun k hk a d _ h => by
    by_cases q : wrB K cs ws done a = true
    · rw [if_pos q] at h
      exact ⟨q, (Option.some.inj h).symm⟩
    · rw [if_neg q] at h; cases h
  have fn : ∀ a, (if wrB K cs ws done a = true then some (pairD ws done a) else none) = none → wrB K cs ws done a = false := fun a h => by
    cases q : wrB K cs ws done a
    · rfl
    · rw [if_pos q] at h; cases h
  refine b_find (cv := fun k : Nat => PyData.int (1 + (k : Int))) (sizeF K cs ws done) (List.range cs.length) (fun k hk hn => ?_) (fun k d hk hd => ?_) ?_
  · have hk := List.mem_range.mp hk
    simp -implicitDefEqProofs (disch := first | omega | (simp only [List.length_map, List.length_append, List.length_cons, List.length_nil, List.length_range, List.length_take, List.length_drop, List.length_replicate, List.length_set, List.length_reverse] <;> omega) | (refine mulC_small ?_; omega) | (refine mulC_smallR ?_; omega) | (refine divC_small ?_ ?_ <;> omega) | (refine powC_small ?_ ?_ ?_ <;> omega)) only [v_run, v_iTp, tup?_tuple, v_sIfM2, k_ifM2_0, k_ifM2_1, v_srtSet, k_srtSet, v_sZ, k_sZ, v_sReb, v_sClr, k_sClr, v_pinF, k_pin, v_iZp3, k_zp3, v_setP, setPK_of, v_appP, k_appP, k_appP1, k_appP2, k_appP3, k_appP4, List.getElem?_cons_zero, List.getElem?_cons_succ, v_lSortP, k_srtP0, v_lRng, k_rng, hRg1_of, v_seq, v_set', v_setL', v_ret', v_retL', v_if', v_for', v_par', v_aug', v_augK, v_tgt', v_sub', v_mut', v_d1, v_d2, v_d3, v_dB, v_dSc, v_dScs, v_cons, v_tup', v_lst', v_dA, v_dAL, v_and', v_or', v_not', v_dT, v_iL, v_iR1, v_iR2, v_iR3, v_iEn, v_iZp, v_lCut, v_lOf, v_lCat, v_lRep, v_lRepE, k_rep0, v_rt', k_rt, v_idx, k_idx, v_lRev, k_rev, v_lSortI, v_lComp, v_oS, b_assoc, k_cmp, k_seq1, k_seq2, k_seq3, k_seq4, k_set, k_setL, k_ret, k_retL, k_if1, k_if2, k_for, k_par, k_aug2, k_tgt, k_tgt2, k_sub, k_sub1, k_sub2, k_sub3, k_mut, k_mut1, k_mut2, k_d2, k_d3, k_d31, k_d321, k_d322, k_bool, k_cons, k_cons2, k_tup, k_lst, k_al, k_and1, k_and2, k_or1, k_or2, k_not, k_dt, k_en, k_zp, k_cut, k_cut1, k_cut2, k_os, k_cat, k_rep, k_srt0, k_srt, k_comp, k_run1, k_run2, k_go1, k_go2, w_turn, w_turnR, w_turnW, w_nx, w_bk, w_ct, w_rN, w_V, w_C, w_nil, w_oN, w_yes, w_gSet, w_gTup, w_gsCons, w_gsNil, w_add, w_subI, w_lt, w_le, w_gt, w_ge, w_neg, w_isN, w_notN, w_n0, w_n1, w_n2, w_n3, w_n4, w_len1, w_len2, w_min2, w_max2, w_int1, w_int2, w_clr, w_ixL, w_ixT, w_sum, w_any, w_kil0, w_kil1, k_sc_int, k_sc_bool, k_sc_none, k_sc_str, k_scs_of, items?_list, items?_tuple, list?_list, cutD_map, all_int, all_int', List.length_map, hApp_of, hExt_of, hIns_of, hCat_of, hRep_of, hR1_of, hR2_of, hR3_of, hMul_of, hDiv_of, hMod_of, p10_3, p10_4, p10_5, p10_6, p10_7, p10_8, p10_9, p10_12, p10_50, p50_3, p50_4, atI_map, k_scs_int, List.getD_cons_zero, List.getD_cons_succ, List.set_cons_zero, List.set_cons_succ, List.map_cons, List.map_nil, List.cons_append, List.nil_append, List.append_nil, List.length_cons, List.length_nil, Option.bind_some, Option.bind_none, Option.map_some, Option.map_none, ↓reduceIte, Nat.reduceAdd, Nat.reduceSub, Int.reduceAdd, Int.reduceSub, Int.reduceMul, Int.reduceNeg, Nat.reduceLeDiff, Nat.reduceLT, Nat.reduceEqDiff, Nat.zero_add, List.reduceReplicate, List.replicate_zero, List.replicate_one, List.replicate_succ, Bool.and_true, Bool.true_and, Bool.not_true, Bool.not_false, decide_true, decide_false, Bool.false_eq_true, reduceCtorEq, and_self, if_false, if_true, hIsi_int_int, hIsi_int_bool, hIsi_int_list, hIsi_int_tuple, hIsi_int_str, hIsi_bool_int, hIsi_bool_bool, hIsi_bool_list, hIsi_bool_tuple, hIsi_bool_str, hIsi_none_int, hIsi_none_bool, hIsi_none_list, hIsi_none_tuple, hIsi_none_str, hIsi_list_int, hIsi_list_bool, hIsi_list_list, hIsi_list_tuple, hIsi_list_str, hIsi_tuple_int, hIsi_tuple_bool, hIsi_tuple_list, hIsi_tuple_tuple, hIsi_tuple_str, hIsi_str_int, hIsi_str_bool, hIsi_str_list, hIsi_str_tuple, hIsi_str_str, pk k hk]
    refine b_find (cv := wD) (fun a => if wrB K cs ws done a = true then some (pairD ws done a) else none) (picks (List.range' 0 (cs.length - 0)) (k + 1)) (fun a ha h => (inner k _ a ha hk).1 (fn a h)) (fun a d ha h => ?_) ?_
    · obtain ⟨h1, rfl⟩ := fs k hk a d ha h
      exact (inner k _ a ha hk).2 h1
    · unfold sizeF at hn
      rw [hn]
      simp -implicitDefEqProofs (disch := first | omega | (simp only [List.length_map, List.length_append, List.length_cons, List.length_nil, List.length_range, List.length_take, List.length_drop, List.length_replicate, List.length_set, List.length_reverse] <;> omega) | (refine mulC_small ?_; omega) | (refine mulC_smallR ?_; omega) | (refine divC_small ?_ ?_ <;> omega) | (refine powC_small ?_ ?_ ?_ <;> omega)) only [v_run, v_iTp, tup?_tuple, v_sIfM2, k_ifM2_0, k_ifM2_1, v_srtSet, k_srtSet, v_sZ, k_sZ, v_sReb, v_sClr, k_sClr, v_pinF, k_pin, v_iZp3, k_zp3, v_setP, setPK_of, v_appP, k_appP, k_appP1, k_appP2, k_appP3, k_appP4, List.getElem?_cons_zero, List.getElem?_cons_succ, v_lSortP, k_srtP0, v_lRng, k_rng, hRg1_of, v_seq, v_set', v_setL', v_ret', v_retL', v_if', v_for', v_par', v_aug', v_augK, v_tgt', v_sub', v_mut', v_d1, v_d2, v_d3, v_dB, v_dSc, v_dScs, v_cons, v_tup', v_lst', v_dA, v_dAL, v_and', v_or', v_not', v_dT, v_iL, v_iR1, v_iR2, v_iR3, v_iEn, v_iZp, v_lCut, v_lOf, v_lCat, v_lRep, v_lRepE, k_rep0, v_rt', k_rt, v_idx, k_idx, v_lRev, k_rev, v_lSortI, v_lComp, v_oS, b_assoc, k_cmp, k_seq1, k_seq2, k_seq3, k_seq4, k_set, k_setL, k_ret, k_retL, k_if1, k_if2, k_for, k_par, k_aug2, k_tgt, k_tgt2, k_sub, k_sub1, k_sub2, k_sub3, k_mut, k_mut1, k_mut2, k_d2, k_d3, k_d31, k_d321, k_d322, k_bool, k_cons, k_cons2, k_tup, k_lst, k_al, k_and1, k_and2, k_or1, k_or2, k_not, k_dt, k_en, k_zp, k_cut, k_cut1, k_cut2, k_os, k_cat, k_rep, k_srt0, k_srt, k_comp, k_run1, k_run2, k_go1, k_go2, w_turn, w_turnR, w_turnW, w_nx, w_bk, w_ct, w_rN, w_V, w_C, w_nil, w_oN, w_yes, w_gSet, w_gTup, w_gsCons, w_gsNil, w_add, w_subI, w_lt, w_le, w_gt, w_ge, w_neg, w_isN, w_notN, w_n0, w_n1, w_n2, w_n3, w_n4, w_len1, w_len2, w_min2, w_max2, w_int1, w_int2, w_clr, w_ixL, w_ixT, w_sum, w_any, w_kil0, w_kil1, k_sc_int, k_sc_bool, k_sc_none, k_sc_str, k_scs_of, items?_list, items?_tuple, list?_list, cutD_map, all_int, all_int', List.length_map, hApp_of, hExt_of, hIns_of, hCat_of, hRep_of, hR1_of, hR2_of, hR3_of, hMul_of, hDiv_of, hMod_of, p10_3, p10_4, p10_5, p10_6, p10_7, p10_8, p10_9, p10_12, p10_50, p50_3, p50_4, atI_map, k_scs_int, List.getD_cons_zero, List.getD_cons_succ, List.set_cons_zero, List.set_cons_succ, List.map_cons, List.map_nil, List.cons_append, List.nil_append, List.append_nil, List.length_cons, List.length_nil, Option.bind_some, Option.bind_none, Option.map_some, Option.map_none, ↓reduceIte, Nat.reduceAdd, Nat.reduceSub, Int.reduceAdd, Int.reduceSub, Int.reduceMul, Int.reduceNeg, Nat.reduceLeDiff, Nat.reduceLT, Nat.reduceEqDiff, Nat.zero_add, List.reduceReplicate, List.replicate_zero, List.replicate_one, List.replicate_succ, Bool.and_true, Bool.true_and, Bool.not_true, Bool.not_false, decide_true, decide_false, Bool.false_eq_true, reduceCtorEq, and_self, if_false, if_true, hIsi_int_int, hIsi_int_bool, hIsi_int_list, hIsi_int_tuple, hIsi_int_str, hIsi_bool_int, hIsi_bool_bool, hIsi_bool_list, hIsi_bool_tuple, hIsi_bool_str, hIsi_none_int, hIsi_none_bool, hIsi_none_list, hIsi_none_tuple, hIsi_none_str, hIsi_list_int, hIsi_list_bool, hIsi_list_list, hIsi_list_tuple, hIsi_list_str, hIsi_tuple_int, hIsi_tuple_bool, hIsi_tuple_list, hIsi_tuple_tuple, hIsi_tuple_str, hIsi_str_int, hIsi_str_bool, hIsi_str_list, hIsi_str_tuple, hIsi_str_str]
  · have hk := List.mem_range.mp hk
    simp -implicitDefEqProofs (disch := first | omega | (simp only [List.length_map, List.length_append, List.length_cons, List.length_nil, List.length_range, List.length_take, List.length_drop, List.length_replicate, List.length_set, List.length_reverse] <;> omega) | (refine mulC_small ?_; omega) | (refine mulC_smallR ?_; omega) | (refine divC_small ?_ ?_ <;> omega) | (refine powC_small ?_ ?_ ?_ <;> omega)) only [v_run, v_iTp, tup?_tuple, v_sIfM2, k_ifM2_0, k_ifM2_1, v_srtSet, k_srtSet, v_sZ, k_sZ, v_sReb, v_sClr, k_sClr, v_pinF, k_pin, v_iZp3, k_zp3, v_setP, setPK_of, v_appP, k_appP, k_appP1, k_appP2, k_appP3, k_appP4, List.getElem?_cons_zero, List.getElem?_cons_succ, v_lSortP, k_srtP0, v_lRng, k_rng, hRg1_of, v_seq, v_set', v_setL', v_ret', v_retL', v_if', v_for', v_par', v_aug', v_augK, v_tgt', v_sub', v_mut', v_d1, v_d2, v_d3, v_dB, v_dSc, v_dScs, v_cons, v_tup', v_lst', v_dA, v_dAL, v_and', v_or', v_not', v_dT, v_iL, v_iR1, v_iR2, v_iR3, v_iEn, v_iZp, v_lCut, v_lOf, v_lCat, v_lRep, v_lRepE, k_rep0, v_rt', k_rt, v_idx, k_idx, v_lRev, k_rev, v_lSortI, v_lComp, v_oS, b_assoc, k_cmp, k_seq1, k_seq2, k_seq3, k_seq4, k_set, k_setL, k_ret, k_retL, k_if1, k_if2, k_for, k_par, k_aug2, k_tgt, k_tgt2, k_sub, k_sub1, k_sub2, k_sub3, k_mut, k_mut1, k_mut2, k_d2, k_d3, k_d31, k_d321, k_d322, k_bool, k_cons, k_cons2, k_tup, k_lst, k_al, k_and1, k_and2, k_or1, k_or2, k_not, k_dt, k_en, k_zp, k_cut, k_cut1, k_cut2, k_os, k_cat, k_rep, k_srt0, k_srt, k_comp, k_run1, k_run2, k_go1, k_go2, w_turn, w_turnR, w_turnW, w_nx, w_bk, w_ct, w_rN, w_V, w_C, w_nil, w_oN, w_yes, w_gSet, w_gTup, w_gsCons, w_gsNil, w_add, w_subI, w_lt, w_le, w_gt, w_ge, w_neg, w_isN, w_notN, w_n0, w_n1, w_n2, w_n3, w_n4, w_len1, w_len2, w_min2, w_max2, w_int1, w_int2, w_clr, w_ixL, w_ixT, w_sum, w_any, w_kil0, w_kil1, k_sc_int, k_sc_bool, k_sc_none, k_sc_str, k_scs_of, items?_list, items?_tuple, list?_list, cutD_map, all_int, all_int', List.length_map, hApp_of, hExt_of, hIns_of, hCat_of, hRep_of, hR1_of, hR2_of, hR3_of, hMul_of, hDiv_of, hMod_of, p10_3, p10_4, p10_5, p10_6, p10_7, p10_8, p10_9, p10_12, p10_50, p50_3, p50_4, atI_map, k_scs_int, List.getD_cons_zero, List.getD_cons_succ, List.set_cons_zero, List.set_cons_succ, List.map_cons, List.map_nil, List.cons_append, List.nil_append, List.append_nil, List.length_cons, List.length_nil, Option.bind_some, Option.bind_none, Option.map_some, Option.map_none, ↓reduceIte, Nat.reduceAdd, Nat.reduceSub, Int.reduceAdd, Int.reduceSub, Int.reduceMul, Int.reduceNeg, Nat.reduceLeDiff, Nat.reduceLT, Nat.reduceEqDiff, Nat.zero_add, List.reduceReplicate, List.replicate_zero, List.replicate_one, List.replicate_succ, Bool.and_true, Bool.true_and, Bool.not_true, Bool.not_false, decide_true, decide_false, Bool.false_eq_true, reduceCtorEq, and_self, if_false, if_true, hIsi_int_int, hIsi_int_bool, hIsi_int_list, hIsi_int_tuple, hIsi_int_str, hIsi_bool_int, hIsi_bool_bool, hIsi_bool_list, hIsi_bool_tuple, hIsi_bool_str, hIsi_none_int, hIsi_none_bool, hIsi_none_list, hIsi_none_tuple, hIsi_none_str, hIsi_list_int, hIsi_list_bool, hIsi_list_list, hIsi_list_tuple, hIsi_list_str, hIsi_tuple_int, hIsi_tuple_bool, hIsi_tuple_list, hIsi_tuple_tuple, hIsi_tuple_str, hIsi_str_int, hIsi_str_bool, hIsi_str_list, hIsi_str_tuple, hIsi_str_str, pk k hk]
    rw [forL_find (cv := wD) _ (fun a => if wrB K cs ws done a = true then some (pairD ws done a) else none) (picks (List.range' 0 (cs.length - 0)) (k + 1)) (fun a ha h => (inner k _ a ha hk).1 (fn a h)) (fun a d ha h => by
      obtain ⟨h1, rfl⟩ := fs k hk a d ha h
      exact (inner k _ a ha hk).2 h1)]
    unfold sizeF at hd
    rw [hd]
  · unfold wrongF
    cases (List.range cs.length).findSome? (sizeF K cs ws done) with
    | none => simp -implicitDefEqProofs (disch := first | omega | (simp only [List.length_map, List.length_append, List.length_cons, List.length_nil, List.length_range, List.length_take, List.length_drop, List.length_replicate, List.length_set, List.length_reverse] <;> omega) | (refine mulC_small ?_; omega) | (refine mulC_smallR ?_; omega) | (refine divC_small ?_ ?_ <;> omega) | (refine powC_small ?_ ?_ ?_ <;> omega)) only [v_run, v_iTp, tup?_tuple, v_sIfM2, k_ifM2_0, k_ifM2_1, v_srtSet, k_srtSet, v_sZ, k_sZ, v_sReb, v_sClr, k_sClr, v_pinF, k_pin, v_iZp3, k_zp3, v_setP, setPK_of, v_appP, k_appP, k_appP1, k_appP2, k_appP3, k_appP4, List.getElem?_cons_zero, List.getElem?_cons_succ, v_lSortP, k_srtP0, v_lRng, k_rng, hRg1_of, v_seq, v_set', v_setL', v_ret', v_retL', v_if', v_for', v_par', v_aug', v_augK, v_tgt', v_sub', v_mut', v_d1, v_d2, v_d3, v_dB, v_dSc, v_dScs, v_cons, v_tup', v_lst', v_dA, v_dAL, v_and', v_or', v_not', v_dT, v_iL, v_iR1, v_iR2, v_iR3, v_iEn, v_iZp, v_lCut, v_lOf, v_lCat, v_lRep, v_lRepE, k_rep0, v_rt', k_rt, v_idx, k_idx, v_lRev, k_rev, v_lSortI, v_lComp, v_oS, b_assoc, k_cmp, k_seq1, k_seq2, k_seq3, k_seq4, k_set, k_setL, k_ret, k_retL, k_if1, k_if2, k_for, k_par, k_aug2, k_tgt, k_tgt2, k_sub, k_sub1, k_sub2, k_sub3, k_mut, k_mut1, k_mut2, k_d2, k_d3, k_d31, k_d321, k_d322, k_bool, k_cons, k_cons2, k_tup, k_lst, k_al, k_and1, k_and2, k_or1, k_or2, k_not, k_dt, k_en, k_zp, k_cut, k_cut1, k_cut2, k_os, k_cat, k_rep, k_srt0, k_srt, k_comp, k_run1, k_run2, k_go1, k_go2, w_turn, w_turnR, w_turnW, w_nx, w_bk, w_ct, w_rN, w_V, w_C, w_nil, w_oN, w_yes, w_gSet, w_gTup, w_gsCons, w_gsNil, w_add, w_subI, w_lt, w_le, w_gt, w_ge, w_neg, w_isN, w_notN, w_n0, w_n1, w_n2, w_n3, w_n4, w_len1, w_len2, w_min2, w_max2, w_int1, w_int2, w_clr, w_ixL, w_ixT, w_sum, w_any, w_kil0, w_kil1, k_sc_int, k_sc_bool, k_sc_none, k_sc_str, k_scs_of, items?_list, items?_tuple, list?_list, cutD_map, all_int, all_int', List.length_map, hApp_of, hExt_of, hIns_of, hCat_of, hRep_of, hR1_of, hR2_of, hR3_of, hMul_of, hDiv_of, hMod_of, p10_3, p10_4, p10_5, p10_6, p10_7, p10_8, p10_9, p10_12, p10_50, p50_3, p50_4, atI_map, k_scs_int, List.getD_cons_zero, List.getD_cons_succ, List.set_cons_zero, List.set_cons_succ, List.map_cons, List.map_nil, List.cons_append, List.nil_append, List.append_nil, List.length_cons, List.length_nil, Option.bind_some, Option.bind_none, Option.map_some, Option.map_none, ↓reduceIte, Nat.reduceAdd, Nat.reduceSub, Int.reduceAdd, Int.reduceSub, Int.reduceMul, Int.reduceNeg, Nat.reduceLeDiff, Nat.reduceLT, Nat.reduceEqDiff, Nat.zero_add, List.reduceReplicate, List.replicate_zero, List.replicate_one, List.replicate_succ, Bool.and_true, Bool.true_and, Bool.not_true, Bool.not_false, decide_true, decide_false, Bool.false_eq_true, reduceCtorEq, and_self, if_false, if_true, hIsi_int_int, hIsi_int_bool, hIsi_int_list, hIsi_int_tuple, hIsi_int_str, hIsi_bool_int, hIsi_bool_bool, hIsi_bool_list, hIsi_bool_tuple, hIsi_bool_str, hIsi_none_int, hIsi_none_bool, hIsi_none_list, hIsi_none_tuple, hIsi_none_str, hIsi_list_int, hIsi_list_bool, hIsi_list_list, hIsi_list_tuple, hIsi_list_str, hIsi_tuple_int, hIsi_tuple_bool, hIsi_tuple_list, hIsi_tuple_tuple, hIsi_tuple_str, hIsi_str_int, hIsi_str_bool, hIsi_str_list, hIsi_str_tuple, hIsi_str_str]
              rfl
    | some d => simp -implicitDefEqProofs (disch := first | omega | (simp only [List.length_map, List.length_append, List.length_cons, List.length_nil, List.length_range, List.length_take, List.length_drop, List.length_replicate, List.length_set, List.length_reverse] <;> omega) | (refine mulC_small ?_; omega) | (refine mulC_smallR ?_; omega) | (refine divC_small ?_ ?_ <;> omega) | (refine powC_small ?_ ?_ ?_ <;> omega)) only [v_run, v_iTp, tup?_tuple, v_sIfM2, k_ifM2_0, k_ifM2_1, v_srtSet, k_srtSet, v_sZ, k_sZ, v_sReb, v_sClr, k_sClr, v_pinF, k_pin, v_iZp3, k_zp3, v_setP, setPK_of, v_appP, k_appP, k_appP1, k_appP2, k_appP3, k_appP4, List.getElem?_cons_zero, List.getElem?_cons_succ, v_lSortP, k_srtP0, v_lRng, k_rng, hRg1_of, v_seq, v_set', v_setL', v_ret', v_retL', v_if', v_for', v_par', v_aug', v_augK, v_tgt', v_sub', v_mut', v_d1, v_d2, v_d3, v_dB, v_dSc, v_dScs, v_cons, v_tup', v_lst', v_dA, v_dAL, v_and', v_or', v_not', v_dT, v_iL, v_iR1, v_iR2, v_iR3, v_iEn, v_iZp, v_lCut, v_lOf, v_lCat, v_lRep, v_lRepE, k_rep0, v_rt', k_rt, v_idx, k_idx, v_lRev, k_rev, v_lSortI, v_lComp, v_oS, b_assoc, k_cmp, k_seq1, k_seq2, k_seq3, k_seq4, k_set, k_setL, k_ret, k_retL, k_if1, k_if2, k_for, k_par, k_aug2, k_tgt, k_tgt2, k_sub, k_sub1, k_sub2, k_sub3, k_mut, k_mut1, k_mut2, k_d2, k_d3, k_d31, k_d321, k_d322, k_bool, k_cons, k_cons2, k_tup, k_lst, k_al, k_and1, k_and2, k_or1, k_or2, k_not, k_dt, k_en, k_zp, k_cut, k_cut1, k_cut2, k_os, k_cat, k_rep, k_srt0, k_srt, k_comp, k_run1, k_run2, k_go1, k_go2, w_turn, w_turnR, w_turnW, w_nx, w_bk, w_ct, w_rN, w_V, w_C, w_nil, w_oN, w_yes, w_gSet, w_gTup, w_gsCons, w_gsNil, w_add, w_subI, w_lt, w_le, w_gt, w_ge, w_neg, w_isN, w_notN, w_n0, w_n1, w_n2, w_n3, w_n4, w_len1, w_len2, w_min2, w_max2, w_int1, w_int2, w_clr, w_ixL, w_ixT, w_sum, w_any, w_kil0, w_kil1, k_sc_int, k_sc_bool, k_sc_none, k_sc_str, k_scs_of, items?_list, items?_tuple, list?_list, cutD_map, all_int, all_int', List.length_map, hApp_of, hExt_of, hIns_of, hCat_of, hRep_of, hR1_of, hR2_of, hR3_of, hMul_of, hDiv_of, hMod_of, p10_3, p10_4, p10_5, p10_6, p10_7, p10_8, p10_9, p10_12, p10_50, p50_3, p50_4, atI_map, k_scs_int, List.getD_cons_zero, List.getD_cons_succ, List.set_cons_zero, List.set_cons_succ, List.map_cons, List.map_nil, List.cons_append, List.nil_append, List.append_nil, List.length_cons, List.length_nil, Option.bind_some, Option.bind_none, Option.map_some, Option.map_none, ↓reduceIte, Nat.reduceAdd, Nat.reduceSub, Int.reduceAdd, Int.reduceSub, Int.reduceMul, Int.reduceNeg, Nat.reduceLeDiff, Nat.reduceLT, Nat.reduceEqDiff, Nat.zero_add, List.reduceReplicate, List.replicate_zero, List.replicate_one, List.replicate_succ, Bool.and_true, Bool.true_and, Bool.not_true, Bool.not_false, decide_true, decide_false, Bool.false_eq_true, reduceCtorEq, and_self, if_false, if_true, hIsi_int_int, hIsi_int_bool, hIsi_int_list, hIsi_int_tuple, hIsi_int_str, hIsi_bool_int, hIsi_bool_bool, hIsi_bool_list, hIsi_bool_tuple, hIsi_bool_str, hIsi_none_int, hIsi_none_bool, hIsi_none_list, hIsi_none_tuple, hIsi_none_str, hIsi_list_int, hIsi_list_bool, hIsi_list_list, hIsi_list_tuple, hIsi_list_str, hIsi_tuple_int, hIsi_tuple_bool, hIsi_tuple_list, hIsi_tuple_tuple, hIsi_tuple_str, hIsi_str_int, hIsi_str_bool, hIsi_str_list, hIsi_str_tuple, hIsi_str_str]
                rfl
/-- what wronged tells is the least one -/
theorem wrong_spec (K : Int) (cs : List Int) (ws : List (List Nat)) (done : List Nat) :
    (wrongF K cs ws done = none ∧ ∀ a, a.Sublist (List.range cs.length) → a ≠ [] → wrB K cs ws done a = false) ∨
    ∃ a, wrongF K cs ws done = some (pairD ws done a) ∧ a.Sublist (List.range cs.length) ∧ a ≠ [] ∧ wrB K cs ws done a = true ∧ ∀ b, b.Sublist (List.range cs.length) → b ≠ [] → wrB K cs ws done b = true → b ≠ a → a.length < b.length ∨ (a.length = b.length ∧ ltN a b) := by
  have at_size : ∀ b : List Nat, b.Sublist (List.range cs.length) → b ≠ [] → ∃ k, k < cs.length ∧ b.length = k + 1 ∧ b ∈ picks (List.range' 0 (cs.length - 0)) (k + 1) := fun b hb hne => by
    have l1 := hb.length_le
    rw [List.length_range] at l1
    have l0 := List.length_pos_iff.mpr hne
    refine ⟨b.length - 1, by omega, by omega, ?_⟩
    rw [Nat.sub_zero, ← List.range_eq_range', show b.length - 1 + 1 = b.length by omega]
    exact picks_all _ b hb
  unfold wrongF
  cases e : (List.range cs.length).findSome? (sizeF K cs ws done) with
  | none =>
    left
    refine ⟨rfl, fun a ha hne => ?_⟩
    obtain ⟨k, k1, _, k3⟩ := at_size a ha hne
    have h1 := List.findSome?_eq_none_iff.mp e k (List.mem_range.mpr k1)
    unfold sizeF at h1
    have h2 := List.findSome?_eq_none_iff.mp h1 a k3
    cases q : wrB K cs ws done a
    · rfl
    · rw [if_pos q] at h2; cases h2
  | some d =>
    right
    obtain ⟨l1, k, l2, hl, hk, hb⟩ := List.findSome?_eq_some_iff.mp e
    obtain ⟨hk1, hk2, hk3⟩ := range_split hl.symm
    unfold sizeF at hk
    obtain ⟨p1, a, p2, hp, ha, hpb⟩ := List.findSome?_eq_some_iff.mp hk
    have wa : wrB K cs ws done a = true ∧ d = pairD ws done a := by
      by_cases q : wrB K cs ws done a = true
      · rw [if_pos q] at ha
        exact ⟨q, (Option.some.inj ha).symm⟩
      · rw [if_neg q] at ha; cases ha
    have am : a ∈ picks (List.range' 0 (cs.length - 0)) (k + 1) := by rw [hp]; simp
    obtain ⟨a1, a2⟩ := picks_mem _ _ _ am
    have a1' := a1
    rw [Nat.sub_zero, ← List.range_eq_range'] at a1'
    refine ⟨a, by rw [wa.2], a1', (by intro z; rw [z] at a2; cases a2), wa.1, fun b hb hne hwb hba => ?_⟩
    obtain ⟨j, j1, j2, j3⟩ := at_size b hb hne
    rcases Nat.lt_trichotomy j k with z | z | z
    · exfalso
      have : j ∈ l1 := by rw [hk2, ← hk1]; exact List.mem_range.mpr z
      have := hpb
      have h1 := hb
      have hj := List.findSome?_eq_some_iff.mp e
      have hn : sizeF K cs ws done j = none := by
        have := ‹∀ x ∈ l1, sizeF K cs ws done x = none› j ‹j ∈ l1›
        exact this
      unfold sizeF at hn
      have h2 := List.findSome?_eq_none_iff.mp hn b j3
      rw [if_pos hwb] at h2
      cases h2
    · subst z
      right
      refine ⟨by omega, ?_⟩
      rw [hp] at j3
      rcases List.mem_append.mp j3 with y | y
      · have := hpb b y
        rw [if_pos hwb] at this
        cases this
      · rcases List.mem_cons.mp y with y | y
        · exact absurd y hba
        · have pw := picks_lt (List.range' 0 (cs.length - 0)) (j + 1) (by rw [Nat.sub_zero, ← List.range_eq_range']; exact range_lt _)
          rw [hp] at pw
          exact (List.pairwise_cons.mp (List.pairwise_append.mp pw).2.1).1 b y
    · left
      omega

theorem wD_ci (a : List Nat) : wD a = .list ((ci a).map PyData.int) := by
  unfold wD ci
  rw [ni_map]
theorem minD_is (t : D) : ∀ (xs : List D) (x : D), t ∈ x :: xs → (∀ y ∈ x :: xs, y ≠ t → PySem.W.dataLt t y = true ∧ PySem.W.dataLt y t = false) → PySem.W.minD x xs = t
  | [], x, h, _ => (List.mem_singleton.mp h).symm
  | y :: ys, x, h, hd => by
    have e : PySem.W.minD x (y :: ys) = PySem.W.minD (if PySem.W.dataLt y x then y else x) ys := rfl
    rw [e]
    have hx : ∀ z ∈ (if PySem.W.dataLt y x then y else x) :: ys, z ≠ t → PySem.W.dataLt t z = true ∧ PySem.W.dataLt z t = false := fun z hz => hd z (by
      rcases List.mem_cons.mp hz with q | q
      · rw [q]
        split
        · exact List.mem_cons_of_mem _ List.mem_cons_self
        · exact List.mem_cons_self
      · exact List.mem_cons_of_mem _ (List.mem_cons_of_mem _ q))
    refine minD_is t ys _ ?_ hx
    by_cases ex : x = t
    · by_cases ey : y = t
      · rw [ex, ey, ite_self]
        exact List.mem_cons_self
      · have := (hd y (List.mem_cons_of_mem _ List.mem_cons_self) ey).2
        rw [ex, this]
        exact List.mem_cons_self
    · by_cases ey : y = t
      · have := (hd x List.mem_cons_self ex).1
        rw [ey, this]
        exact List.mem_cons_self
      · rcases List.mem_cons.mp h with q | q
        · exact absurd q.symm ex
        · rcases List.mem_cons.mp q with q | q
          · exact absurd q.symm ey
          · exact List.mem_cons_of_mem _ q
theorem al_ci (a b : List Nat) : PySem.W.alike (wD a) (wD b) = true := by
  rw [wD_ci, wD_ci]
  exact PySem.W.DatumOrd.alike (ci a) (ci b)
theorem lt_ci (a b : List Nat) : PySem.W.dataLt (wD a) (wD b) = PySem.W.listLt (ci a) (ci b) := by
  rw [wD_ci, wD_ci]
  exact PySem.W.DatumOrd.lt_eq (ci a) (ci b)
theorem tri_lt {ws : List (List Nat)} {done a b : List Nat} (h : a.length < b.length ∨ (a.length = b.length ∧ ltN a b)) : PySem.W.dataLt (triD ws done a) (triD ws done b) = true ∧ PySem.W.dataLt (triD ws done b) (triD ws done a) = false := by
  have ai : ∀ x y : Int, PySem.W.alike (.int x) (.int y) = true := fun x y => by simp only [PySem.W.alike]
  unfold triD
  rcases h with h | ⟨h, hl⟩
  · have e1 : PyData.eqv (.int (a.length : Int)) (.int (b.length : Int)) = false := by rw [eqv_int, beq_eq_false_iff_ne]; omega
    have e2 : PyData.eqv (.int (b.length : Int)) (.int (a.length : Int)) = false := by rw [eqv_int, beq_eq_false_iff_ne]; omega
    rw [PySem.W.dataLt_tuple, PySem.W.dataLt_tuple, PySem.W.dataLt_all_no (ai _ _) e1, PySem.W.dataLt_all_no (ai _ _) e2, PySem.W.dataLt_int, PySem.W.dataLt_int]
    exact ⟨decide_eq_true (by omega), decide_eq_false (by omega)⟩
  · have e1 : PyData.eqv (.int (a.length : Int)) (.int (b.length : Int)) = true := by rw [eqv_int, beq_iff_eq]; omega
    have e2 : PyData.eqv (.int (b.length : Int)) (.int (a.length : Int)) = true := by rw [eqv_int, beq_iff_eq]; omega
    have ne : ci a ≠ ci b := fun z => by
      unfold ltN at hl
      rw [z, listLt_self] at hl
      cases hl
    have f1 : PyData.eqv (wD a) (wD b) = false := by
      rw [wD_ci, wD_ci]
      simp only [PyData.eqv, eqv_ints]
      rw [beq_eq_false_iff_ne]
      exact ne
    have f2 : PyData.eqv (wD b) (wD a) = false := by
      rw [wD_ci, wD_ci]
      simp only [PyData.eqv, eqv_ints]
      rw [beq_eq_false_iff_ne]
      exact fun z => ne z.symm
    rw [PySem.W.dataLt_tuple, PySem.W.dataLt_tuple, PySem.W.dataLt_all_yes (ai _ _) e1, PySem.W.dataLt_all_yes (ai _ _) e2, PySem.W.dataLt_all_no (al_ci _ _) f1, PySem.W.dataLt_all_no (al_ci _ _) f2, lt_ci, lt_ci]
    exact ⟨hl, listLt_asym _ _ hl⟩
theorem ok_tri (ws : List (List Nat)) (done a : List Nat) : okD 2 (triD ws done a) := okD_tuple fun d hd => by
  simp only [List.mem_cons, List.not_mem_nil, or_false] at hd
  rcases hd with rfl | rfl | rfl
  · exact okD_mono (okD_sc rfl) (by decide)
  · exact ok_wD _
  · exact ok_wD _
theorem al_tri (ws : List (List Nat)) (done : List Nat) (l : List (List Nat)) : alB (l.map (triD ws done)) = true := by
  unfold alB
  rw [Bool.and_eq_true, Bool.and_eq_true, decide_eq_true_eq, List.all_eq_true, List.all_eq_true]
  refine ⟨⟨fun x hx => List.all_eq_true.mpr fun y hy => ?_, fun x hx => ?_⟩, Nat.le_trans (okAll (n := 2) fun d hd => ?_).2 (by decide)⟩
  · obtain ⟨a, _, rfl⟩ := List.mem_map.mp hx
    obtain ⟨b, _, rfl⟩ := List.mem_map.mp hy
    unfold triD
    show PySem.W.alike (.tuple _) (.tuple _) = true
    rw [PySem.W.alike, PySem.W.alikeAll, PySem.W.alikeAll, PySem.W.alikeAll, al_ci, al_ci]
    simp [PySem.W.alike, PySem.W.alikeAll]
  · obtain ⟨a, _, rfl⟩ := List.mem_map.mp hx
    rfl
  · obtain ⟨a, _, rfl⟩ := List.mem_map.mp hd
    exact ok_tri ws done a
theorem lgroup_ev (ws : List (List Nat)) (asked done : List Nat) (hv : ws.length ≤ 1000) (ha : asked.length ≤ 1000) (hw : ∀ i, (ws.getD i []).length ≤ 1000) : sem_law_group [.list (ws.map wD), wD asked, wD done] = some (wD (grpF ws asked done)) := by
  simp -implicitDefEqProofs (disch := first | omega | (simp only [List.length_map, List.length_append, List.length_cons, List.length_nil, List.length_range, List.length_take, List.length_drop, List.length_replicate, List.length_set, List.length_reverse] <;> omega) | (refine mulC_small ?_; omega) | (refine mulC_smallR ?_; omega) | (refine divC_small ?_ ?_ <;> omega) | (refine powC_small ?_ ?_ ?_ <;> omega)) only [v_run, v_iTp, tup?_tuple, v_sIfM2, k_ifM2_0, k_ifM2_1, v_srtSet, k_srtSet, v_sZ, k_sZ, v_sReb, v_sClr, k_sClr, v_pinF, k_pin, v_iZp3, k_zp3, v_setP, setPK_of, v_appP, k_appP, k_appP1, k_appP2, k_appP3, k_appP4, List.getElem?_cons_zero, List.getElem?_cons_succ, v_lSortP, k_srtP0, v_lRng, k_rng, hRg1_of, v_seq, v_set', v_setL', v_ret', v_retL', v_if', v_for', v_par', v_aug', v_augK, v_tgt', v_sub', v_mut', v_d1, v_d2, v_d3, v_dB, v_dSc, v_dScs, v_cons, v_tup', v_lst', v_dA, v_dAL, v_and', v_or', v_not', v_dT, v_iL, v_iR1, v_iR2, v_iR3, v_iEn, v_iZp, v_lCut, v_lOf, v_lCat, v_lRep, v_lRepE, k_rep0, v_rt', k_rt, v_idx, k_idx, v_lRev, k_rev, v_lSortI, v_lComp, v_oS, b_assoc, k_cmp, k_seq1, k_seq2, k_seq3, k_seq4, k_set, k_setL, k_ret, k_retL, k_if1, k_if2, k_for, k_par, k_aug2, k_tgt, k_tgt2, k_sub, k_sub1, k_sub2, k_sub3, k_mut, k_mut1, k_mut2, k_d2, k_d3, k_d31, k_d321, k_d322, k_bool, k_cons, k_cons2, k_tup, k_lst, k_al, k_and1, k_and2, k_or1, k_or2, k_not, k_dt, k_en, k_zp, k_cut, k_cut1, k_cut2, k_os, k_cat, k_rep, k_srt0, k_srt, k_comp, k_run1, k_run2, k_go1, k_go2, w_turn, w_turnR, w_turnW, w_nx, w_bk, w_ct, w_rN, w_V, w_C, w_nil, w_oN, w_yes, w_gSet, w_gTup, w_gsCons, w_gsNil, w_add, w_subI, w_lt, w_le, w_gt, w_ge, w_neg, w_isN, w_notN, w_n0, w_n1, w_n2, w_n3, w_n4, w_len1, w_len2, w_min2, w_max2, w_int1, w_int2, w_clr, w_ixL, w_ixT, w_sum, w_any, w_kil0, w_kil1, k_sc_int, k_sc_bool, k_sc_none, k_sc_str, k_scs_of, items?_list, items?_tuple, list?_list, cutD_map, all_int, all_int', List.length_map, hApp_of, hExt_of, hIns_of, hCat_of, hRep_of, hR1_of, hR2_of, hR3_of, hMul_of, hDiv_of, hMod_of, p10_3, p10_4, p10_5, p10_6, p10_7, p10_8, p10_9, p10_12, p10_50, p50_3, p50_4, atI_map, k_scs_int, List.getD_cons_zero, List.getD_cons_succ, List.set_cons_zero, List.set_cons_succ, List.map_cons, List.map_nil, List.cons_append, List.nil_append, List.append_nil, List.length_cons, List.length_nil, Option.bind_some, Option.bind_none, Option.map_some, Option.map_none, ↓reduceIte, Nat.reduceAdd, Nat.reduceSub, Int.reduceAdd, Int.reduceSub, Int.reduceMul, Int.reduceNeg, Nat.reduceLeDiff, Nat.reduceLT, Nat.reduceEqDiff, Nat.zero_add, List.reduceReplicate, List.replicate_zero, List.replicate_one, List.replicate_succ, Bool.and_true, Bool.true_and, Bool.not_true, Bool.not_false, decide_true, decide_false, Bool.false_eq_true, reduceCtorEq, and_self, if_false, if_true, hIsi_int_int, hIsi_int_bool, hIsi_int_list, hIsi_int_tuple, hIsi_int_str, hIsi_bool_int, hIsi_bool_bool, hIsi_bool_list, hIsi_bool_tuple, hIsi_bool_str, hIsi_none_int, hIsi_none_bool, hIsi_none_list, hIsi_none_tuple, hIsi_none_str, hIsi_list_int, hIsi_list_bool, hIsi_list_list, hIsi_list_tuple, hIsi_list_str, hIsi_tuple_int, hIsi_tuple_bool, hIsi_tuple_list, hIsi_tuple_tuple, hIsi_tuple_str, hIsi_str_int, hIsi_str_bool, hIsi_str_list, hIsi_str_tuple, hIsi_str_str, sem_law_group, enumD_map wD []]
  refine b_word (enc := fun s : List Nat => [some (.list (ws.map wD)), some (wD asked), some (wD done), some (wD s), none, none, none]) (cv := fun i => PyData.tuple [.int (i : Nat), wD (ws.getD i [])])
    (fun q s => s = q.filter fun i => asked.all (fun k => (ws.getD i []).contains k) && decide ((((ws.getD i []).filter fun k => done.contains k).length : Int) < (asked.length : Int))) (List.range ws.length) [] rfl ?_ (fun s hs => ?_)
  · intro q i r s hx hs
    obtain ⟨hqx, _, hlt⟩ := range_split hx
    have hn := hEq_ni (asked.filter fun k => !(ws.getD i []).contains k) []
    have eb : (asked.filter (fun k => !(ws.getD i []).contains k) == []) = asked.all fun k => (ws.getD i []).contains k := by
      have := filter_any (fun k => !(ws.getD i []).contains k) asked
      rw [List.any_eq_not_all_not] at this
      simpa using this
    rw [List.map_nil, eb] at hn
    have hsl : s.length ≤ ws.length := by
      rw [hs]
      have := List.length_filter_le (fun i => asked.all (fun k => (ws.getD i []).contains k) && decide ((((ws.getD i []).filter fun k => done.contains k).length : Int) < (asked.length : Int))) q
      omega
    refine ⟨_, ?_, rfl⟩
    rw [List.filter_append, ← hs]
    simp -implicitDefEqProofs (disch := first | omega | (simp only [List.length_map, List.length_append, List.length_cons, List.length_nil, List.length_range, List.length_take, List.length_drop, List.length_replicate, List.length_set, List.length_reverse] <;> omega) | (refine mulC_small ?_; omega) | (refine mulC_smallR ?_; omega) | (refine divC_small ?_ ?_ <;> omega) | (refine powC_small ?_ ?_ ?_ <;> omega)) only [v_run, v_iTp, tup?_tuple, v_sIfM2, k_ifM2_0, k_ifM2_1, v_srtSet, k_srtSet, v_sZ, k_sZ, v_sReb, v_sClr, k_sClr, v_pinF, k_pin, v_iZp3, k_zp3, v_setP, setPK_of, v_appP, k_appP, k_appP1, k_appP2, k_appP3, k_appP4, List.getElem?_cons_zero, List.getElem?_cons_succ, v_lSortP, k_srtP0, v_lRng, k_rng, hRg1_of, v_seq, v_set', v_setL', v_ret', v_retL', v_if', v_for', v_par', v_aug', v_augK, v_tgt', v_sub', v_mut', v_d1, v_d2, v_d3, v_dB, v_dSc, v_dScs, v_cons, v_tup', v_lst', v_dA, v_dAL, v_and', v_or', v_not', v_dT, v_iL, v_iR1, v_iR2, v_iR3, v_iEn, v_iZp, v_lCut, v_lOf, v_lCat, v_lRep, v_lRepE, k_rep0, v_rt', k_rt, v_idx, k_idx, v_lRev, k_rev, v_lSortI, v_lComp, v_oS, b_assoc, k_cmp, k_seq1, k_seq2, k_seq3, k_seq4, k_set, k_setL, k_ret, k_retL, k_if1, k_if2, k_for, k_par, k_aug2, k_tgt, k_tgt2, k_sub, k_sub1, k_sub2, k_sub3, k_mut, k_mut1, k_mut2, k_d2, k_d3, k_d31, k_d321, k_d322, k_bool, k_cons, k_cons2, k_tup, k_lst, k_al, k_and1, k_and2, k_or1, k_or2, k_not, k_dt, k_en, k_zp, k_cut, k_cut1, k_cut2, k_os, k_cat, k_rep, k_srt0, k_srt, k_comp, k_run1, k_run2, k_go1, k_go2, w_turn, w_turnR, w_turnW, w_nx, w_bk, w_ct, w_rN, w_V, w_C, w_nil, w_oN, w_yes, w_gSet, w_gTup, w_gsCons, w_gsNil, w_add, w_subI, w_lt, w_le, w_gt, w_ge, w_neg, w_isN, w_notN, w_n0, w_n1, w_n2, w_n3, w_n4, w_len1, w_len2, w_min2, w_max2, w_int1, w_int2, w_clr, w_ixL, w_ixT, w_sum, w_any, w_kil0, w_kil1, k_sc_int, k_sc_bool, k_sc_none, k_sc_str, k_scs_of, items?_list, items?_tuple, list?_list, cutD_map, all_int, all_int', List.length_map, hApp_of, hExt_of, hIns_of, hCat_of, hRep_of, hR1_of, hR2_of, hR3_of, hMul_of, hDiv_of, hMod_of, p10_3, p10_4, p10_5, p10_6, p10_7, p10_8, p10_9, p10_12, p10_50, p50_3, p50_4, atI_map, k_scs_int, List.getD_cons_zero, List.getD_cons_succ, List.set_cons_zero, List.set_cons_succ, List.map_cons, List.map_nil, List.cons_append, List.nil_append, List.append_nil, List.length_cons, List.length_nil, Option.bind_some, Option.bind_none, Option.map_some, Option.map_none, ↓reduceIte, Nat.reduceAdd, Nat.reduceSub, Int.reduceAdd, Int.reduceSub, Int.reduceMul, Int.reduceNeg, Nat.reduceLeDiff, Nat.reduceLT, Nat.reduceEqDiff, Nat.zero_add, List.reduceReplicate, List.replicate_zero, List.replicate_one, List.replicate_succ, Bool.and_true, Bool.true_and, Bool.not_true, Bool.not_false, decide_true, decide_false, Bool.false_eq_true, reduceCtorEq, and_self, if_false, if_true, hIsi_int_int, hIsi_int_bool, hIsi_int_list, hIsi_int_tuple, hIsi_int_str, hIsi_bool_int, hIsi_bool_bool, hIsi_bool_list, hIsi_bool_tuple, hIsi_bool_str, hIsi_none_int, hIsi_none_bool, hIsi_none_list, hIsi_none_tuple, hIsi_none_str, hIsi_list_int, hIsi_list_bool, hIsi_list_list, hIsi_list_tuple, hIsi_list_str, hIsi_tuple_int, hIsi_tuple_bool, hIsi_tuple_list, hIsi_tuple_tuple, hIsi_tuple_str, hIsi_str_int, hIsi_str_bool, hIsi_str_list, hIsi_str_tuple, hIsi_str_str, wD]
    refine b_filter (cv := ni) ni (fun k => !(ws.getD i []).contains k) asked (by omega) (fun w _ => ⟨_, rfl, ?_, fun _ => ?_⟩) ?_
    · simp -implicitDefEqProofs (disch := first | omega | (simp only [List.length_map, List.length_append, List.length_cons, List.length_nil, List.length_range, List.length_take, List.length_drop, List.length_replicate, List.length_set, List.length_reverse] <;> omega) | (refine mulC_small ?_; omega) | (refine mulC_smallR ?_; omega) | (refine divC_small ?_ ?_ <;> omega) | (refine powC_small ?_ ?_ ?_ <;> omega)) only [v_run, v_iTp, tup?_tuple, v_sIfM2, k_ifM2_0, k_ifM2_1, v_srtSet, k_srtSet, v_sZ, k_sZ, v_sReb, v_sClr, k_sClr, v_pinF, k_pin, v_iZp3, k_zp3, v_setP, setPK_of, v_appP, k_appP, k_appP1, k_appP2, k_appP3, k_appP4, List.getElem?_cons_zero, List.getElem?_cons_succ, v_lSortP, k_srtP0, v_lRng, k_rng, hRg1_of, v_seq, v_set', v_setL', v_ret', v_retL', v_if', v_for', v_par', v_aug', v_augK, v_tgt', v_sub', v_mut', v_d1, v_d2, v_d3, v_dB, v_dSc, v_dScs, v_cons, v_tup', v_lst', v_dA, v_dAL, v_and', v_or', v_not', v_dT, v_iL, v_iR1, v_iR2, v_iR3, v_iEn, v_iZp, v_lCut, v_lOf, v_lCat, v_lRep, v_lRepE, k_rep0, v_rt', k_rt, v_idx, k_idx, v_lRev, k_rev, v_lSortI, v_lComp, v_oS, b_assoc, k_cmp, k_seq1, k_seq2, k_seq3, k_seq4, k_set, k_setL, k_ret, k_retL, k_if1, k_if2, k_for, k_par, k_aug2, k_tgt, k_tgt2, k_sub, k_sub1, k_sub2, k_sub3, k_mut, k_mut1, k_mut2, k_d2, k_d3, k_d31, k_d321, k_d322, k_bool, k_cons, k_cons2, k_tup, k_lst, k_al, k_and1, k_and2, k_or1, k_or2, k_not, k_dt, k_en, k_zp, k_cut, k_cut1, k_cut2, k_os, k_cat, k_rep, k_srt0, k_srt, k_comp, k_run1, k_run2, k_go1, k_go2, w_turn, w_turnR, w_turnW, w_nx, w_bk, w_ct, w_rN, w_V, w_C, w_nil, w_oN, w_yes, w_gSet, w_gTup, w_gsCons, w_gsNil, w_add, w_subI, w_lt, w_le, w_gt, w_ge, w_neg, w_isN, w_notN, w_n0, w_n1, w_n2, w_n3, w_n4, w_len1, w_len2, w_min2, w_max2, w_int1, w_int2, w_clr, w_ixL, w_ixT, w_sum, w_any, w_kil0, w_kil1, k_sc_int, k_sc_bool, k_sc_none, k_sc_str, k_scs_of, items?_list, items?_tuple, list?_list, cutD_map, all_int, all_int', List.length_map, hApp_of, hExt_of, hIns_of, hCat_of, hRep_of, hR1_of, hR2_of, hR3_of, hMul_of, hDiv_of, hMod_of, p10_3, p10_4, p10_5, p10_6, p10_7, p10_8, p10_9, p10_12, p10_50, p50_3, p50_4, atI_map, k_scs_int, List.getD_cons_zero, List.getD_cons_succ, List.set_cons_zero, List.set_cons_succ, List.map_cons, List.map_nil, List.cons_append, List.nil_append, List.append_nil, List.length_cons, List.length_nil, Option.bind_some, Option.bind_none, Option.map_some, Option.map_none, ↓reduceIte, Nat.reduceAdd, Nat.reduceSub, Int.reduceAdd, Int.reduceSub, Int.reduceMul, Int.reduceNeg, Nat.reduceLeDiff, Nat.reduceLT, Nat.reduceEqDiff, Nat.zero_add, List.reduceReplicate, List.replicate_zero, List.replicate_one, List.replicate_succ, Bool.and_true, Bool.true_and, Bool.not_true, Bool.not_false, decide_true, decide_false, Bool.false_eq_true, reduceCtorEq, and_self, if_false, if_true, hIsi_int_int, hIsi_int_bool, hIsi_int_list, hIsi_int_tuple, hIsi_int_str, hIsi_bool_int, hIsi_bool_bool, hIsi_bool_list, hIsi_bool_tuple, hIsi_bool_str, hIsi_none_int, hIsi_none_bool, hIsi_none_list, hIsi_none_tuple, hIsi_none_str, hIsi_list_int, hIsi_list_bool, hIsi_list_list, hIsi_list_tuple, hIsi_list_str, hIsi_tuple_int, hIsi_tuple_bool, hIsi_tuple_list, hIsi_tuple_tuple, hIsi_tuple_str, hIsi_str_int, hIsi_str_bool, hIsi_str_list, hIsi_str_tuple, hIsi_str_str, ni, hNotIn_ns]
    · simp -implicitDefEqProofs (disch := first | omega | (simp only [List.length_map, List.length_append, List.length_cons, List.length_nil, List.length_range, List.length_take, List.length_drop, List.length_replicate, List.length_set, List.length_reverse] <;> omega) | (refine mulC_small ?_; omega) | (refine mulC_smallR ?_; omega) | (refine divC_small ?_ ?_ <;> omega) | (refine powC_small ?_ ?_ ?_ <;> omega)) only [v_run, v_iTp, tup?_tuple, v_sIfM2, k_ifM2_0, k_ifM2_1, v_srtSet, k_srtSet, v_sZ, k_sZ, v_sReb, v_sClr, k_sClr, v_pinF, k_pin, v_iZp3, k_zp3, v_setP, setPK_of, v_appP, k_appP, k_appP1, k_appP2, k_appP3, k_appP4, List.getElem?_cons_zero, List.getElem?_cons_succ, v_lSortP, k_srtP0, v_lRng, k_rng, hRg1_of, v_seq, v_set', v_setL', v_ret', v_retL', v_if', v_for', v_par', v_aug', v_augK, v_tgt', v_sub', v_mut', v_d1, v_d2, v_d3, v_dB, v_dSc, v_dScs, v_cons, v_tup', v_lst', v_dA, v_dAL, v_and', v_or', v_not', v_dT, v_iL, v_iR1, v_iR2, v_iR3, v_iEn, v_iZp, v_lCut, v_lOf, v_lCat, v_lRep, v_lRepE, k_rep0, v_rt', k_rt, v_idx, k_idx, v_lRev, k_rev, v_lSortI, v_lComp, v_oS, b_assoc, k_cmp, k_seq1, k_seq2, k_seq3, k_seq4, k_set, k_setL, k_ret, k_retL, k_if1, k_if2, k_for, k_par, k_aug2, k_tgt, k_tgt2, k_sub, k_sub1, k_sub2, k_sub3, k_mut, k_mut1, k_mut2, k_d2, k_d3, k_d31, k_d321, k_d322, k_bool, k_cons, k_cons2, k_tup, k_lst, k_al, k_and1, k_and2, k_or1, k_or2, k_not, k_dt, k_en, k_zp, k_cut, k_cut1, k_cut2, k_os, k_cat, k_rep, k_srt0, k_srt, k_comp, k_run1, k_run2, k_go1, k_go2, w_turn, w_turnR, w_turnW, w_nx, w_bk, w_ct, w_rN, w_V, w_C, w_nil, w_oN, w_yes, w_gSet, w_gTup, w_gsCons, w_gsNil, w_add, w_subI, w_lt, w_le, w_gt, w_ge, w_neg, w_isN, w_notN, w_n0, w_n1, w_n2, w_n3, w_n4, w_len1, w_len2, w_min2, w_max2, w_int1, w_int2, w_clr, w_ixL, w_ixT, w_sum, w_any, w_kil0, w_kil1, k_sc_int, k_sc_bool, k_sc_none, k_sc_str, k_scs_of, items?_list, items?_tuple, list?_list, cutD_map, all_int, all_int', List.length_map, hApp_of, hExt_of, hIns_of, hCat_of, hRep_of, hR1_of, hR2_of, hR3_of, hMul_of, hDiv_of, hMod_of, p10_3, p10_4, p10_5, p10_6, p10_7, p10_8, p10_9, p10_12, p10_50, p50_3, p50_4, atI_map, k_scs_int, List.getD_cons_zero, List.getD_cons_succ, List.set_cons_zero, List.set_cons_succ, List.map_cons, List.map_nil, List.cons_append, List.nil_append, List.append_nil, List.length_cons, List.length_nil, Option.bind_some, Option.bind_none, Option.map_some, Option.map_none, ↓reduceIte, Nat.reduceAdd, Nat.reduceSub, Int.reduceAdd, Int.reduceSub, Int.reduceMul, Int.reduceNeg, Nat.reduceLeDiff, Nat.reduceLT, Nat.reduceEqDiff, Nat.zero_add, List.reduceReplicate, List.replicate_zero, List.replicate_one, List.replicate_succ, Bool.and_true, Bool.true_and, Bool.not_true, Bool.not_false, decide_true, decide_false, Bool.false_eq_true, reduceCtorEq, and_self, if_false, if_true, hIsi_int_int, hIsi_int_bool, hIsi_int_list, hIsi_int_tuple, hIsi_int_str, hIsi_bool_int, hIsi_bool_bool, hIsi_bool_list, hIsi_bool_tuple, hIsi_bool_str, hIsi_none_int, hIsi_none_bool, hIsi_none_list, hIsi_none_tuple, hIsi_none_str, hIsi_list_int, hIsi_list_bool, hIsi_list_list, hIsi_list_tuple, hIsi_list_str, hIsi_tuple_int, hIsi_tuple_bool, hIsi_tuple_list, hIsi_tuple_tuple, hIsi_tuple_str, hIsi_str_int, hIsi_str_bool, hIsi_str_list, hIsi_str_tuple, hIsi_str_str, ni]
    simp -implicitDefEqProofs (disch := first | omega | (simp only [List.length_map, List.length_append, List.length_cons, List.length_nil, List.length_range, List.length_take, List.length_drop, List.length_replicate, List.length_set, List.length_reverse] <;> omega) | (refine mulC_small ?_; omega) | (refine mulC_smallR ?_; omega) | (refine divC_small ?_ ?_ <;> omega) | (refine powC_small ?_ ?_ ?_ <;> omega)) only [v_run, v_iTp, tup?_tuple, v_sIfM2, k_ifM2_0, k_ifM2_1, v_srtSet, k_srtSet, v_sZ, k_sZ, v_sReb, v_sClr, k_sClr, v_pinF, k_pin, v_iZp3, k_zp3, v_setP, setPK_of, v_appP, k_appP, k_appP1, k_appP2, k_appP3, k_appP4, List.getElem?_cons_zero, List.getElem?_cons_succ, v_lSortP, k_srtP0, v_lRng, k_rng, hRg1_of, v_seq, v_set', v_setL', v_ret', v_retL', v_if', v_for', v_par', v_aug', v_augK, v_tgt', v_sub', v_mut', v_d1, v_d2, v_d3, v_dB, v_dSc, v_dScs, v_cons, v_tup', v_lst', v_dA, v_dAL, v_and', v_or', v_not', v_dT, v_iL, v_iR1, v_iR2, v_iR3, v_iEn, v_iZp, v_lCut, v_lOf, v_lCat, v_lRep, v_lRepE, k_rep0, v_rt', k_rt, v_idx, k_idx, v_lRev, k_rev, v_lSortI, v_lComp, v_oS, b_assoc, k_cmp, k_seq1, k_seq2, k_seq3, k_seq4, k_set, k_setL, k_ret, k_retL, k_if1, k_if2, k_for, k_par, k_aug2, k_tgt, k_tgt2, k_sub, k_sub1, k_sub2, k_sub3, k_mut, k_mut1, k_mut2, k_d2, k_d3, k_d31, k_d321, k_d322, k_bool, k_cons, k_cons2, k_tup, k_lst, k_al, k_and1, k_and2, k_or1, k_or2, k_not, k_dt, k_en, k_zp, k_cut, k_cut1, k_cut2, k_os, k_cat, k_rep, k_srt0, k_srt, k_comp, k_run1, k_run2, k_go1, k_go2, w_turn, w_turnR, w_turnW, w_nx, w_bk, w_ct, w_rN, w_V, w_C, w_nil, w_oN, w_yes, w_gSet, w_gTup, w_gsCons, w_gsNil, w_add, w_subI, w_lt, w_le, w_gt, w_ge, w_neg, w_isN, w_notN, w_n0, w_n1, w_n2, w_n3, w_n4, w_len1, w_len2, w_min2, w_max2, w_int1, w_int2, w_clr, w_ixL, w_ixT, w_sum, w_any, w_kil0, w_kil1, k_sc_int, k_sc_bool, k_sc_none, k_sc_str, k_scs_of, items?_list, items?_tuple, list?_list, cutD_map, all_int, all_int', List.length_map, hApp_of, hExt_of, hIns_of, hCat_of, hRep_of, hR1_of, hR2_of, hR3_of, hMul_of, hDiv_of, hMod_of, p10_3, p10_4, p10_5, p10_6, p10_7, p10_8, p10_9, p10_12, p10_50, p50_3, p50_4, atI_map, k_scs_int, List.getD_cons_zero, List.getD_cons_succ, List.set_cons_zero, List.set_cons_succ, List.map_cons, List.map_nil, List.cons_append, List.nil_append, List.append_nil, List.length_cons, List.length_nil, Option.bind_some, Option.bind_none, Option.map_some, Option.map_none, ↓reduceIte, Nat.reduceAdd, Nat.reduceSub, Int.reduceAdd, Int.reduceSub, Int.reduceMul, Int.reduceNeg, Nat.reduceLeDiff, Nat.reduceLT, Nat.reduceEqDiff, Nat.zero_add, List.reduceReplicate, List.replicate_zero, List.replicate_one, List.replicate_succ, Bool.and_true, Bool.true_and, Bool.not_true, Bool.not_false, decide_true, decide_false, Bool.false_eq_true, reduceCtorEq, and_self, if_false, if_true, hIsi_int_int, hIsi_int_bool, hIsi_int_list, hIsi_int_tuple, hIsi_int_str, hIsi_bool_int, hIsi_bool_bool, hIsi_bool_list, hIsi_bool_tuple, hIsi_bool_str, hIsi_none_int, hIsi_none_bool, hIsi_none_list, hIsi_none_tuple, hIsi_none_str, hIsi_list_int, hIsi_list_bool, hIsi_list_list, hIsi_list_tuple, hIsi_list_str, hIsi_tuple_int, hIsi_tuple_bool, hIsi_tuple_list, hIsi_tuple_tuple, hIsi_tuple_str, hIsi_str_int, hIsi_str_bool, hIsi_str_list, hIsi_str_tuple, hIsi_str_str, hn]
    cases e : asked.all fun k => (ws.getD i []).contains k
    · simp -implicitDefEqProofs (disch := first | omega | (simp only [List.length_map, List.length_append, List.length_cons, List.length_nil, List.length_range, List.length_take, List.length_drop, List.length_replicate, List.length_set, List.length_reverse] <;> omega) | (refine mulC_small ?_; omega) | (refine mulC_smallR ?_; omega) | (refine divC_small ?_ ?_ <;> omega) | (refine powC_small ?_ ?_ ?_ <;> omega)) only [v_run, v_iTp, tup?_tuple, v_sIfM2, k_ifM2_0, k_ifM2_1, v_srtSet, k_srtSet, v_sZ, k_sZ, v_sReb, v_sClr, k_sClr, v_pinF, k_pin, v_iZp3, k_zp3, v_setP, setPK_of, v_appP, k_appP, k_appP1, k_appP2, k_appP3, k_appP4, List.getElem?_cons_zero, List.getElem?_cons_succ, v_lSortP, k_srtP0, v_lRng, k_rng, hRg1_of, v_seq, v_set', v_setL', v_ret', v_retL', v_if', v_for', v_par', v_aug', v_augK, v_tgt', v_sub', v_mut', v_d1, v_d2, v_d3, v_dB, v_dSc, v_dScs, v_cons, v_tup', v_lst', v_dA, v_dAL, v_and', v_or', v_not', v_dT, v_iL, v_iR1, v_iR2, v_iR3, v_iEn, v_iZp, v_lCut, v_lOf, v_lCat, v_lRep, v_lRepE, k_rep0, v_rt', k_rt, v_idx, k_idx, v_lRev, k_rev, v_lSortI, v_lComp, v_oS, b_assoc, k_cmp, k_seq1, k_seq2, k_seq3, k_seq4, k_set, k_setL, k_ret, k_retL, k_if1, k_if2, k_for, k_par, k_aug2, k_tgt, k_tgt2, k_sub, k_sub1, k_sub2, k_sub3, k_mut, k_mut1, k_mut2, k_d2, k_d3, k_d31, k_d321, k_d322, k_bool, k_cons, k_cons2, k_tup, k_lst, k_al, k_and1, k_and2, k_or1, k_or2, k_not, k_dt, k_en, k_zp, k_cut, k_cut1, k_cut2, k_os, k_cat, k_rep, k_srt0, k_srt, k_comp, k_run1, k_run2, k_go1, k_go2, w_turn, w_turnR, w_turnW, w_nx, w_bk, w_ct, w_rN, w_V, w_C, w_nil, w_oN, w_yes, w_gSet, w_gTup, w_gsCons, w_gsNil, w_add, w_subI, w_lt, w_le, w_gt, w_ge, w_neg, w_isN, w_notN, w_n0, w_n1, w_n2, w_n3, w_n4, w_len1, w_len2, w_min2, w_max2, w_int1, w_int2, w_clr, w_ixL, w_ixT, w_sum, w_any, w_kil0, w_kil1, k_sc_int, k_sc_bool, k_sc_none, k_sc_str, k_scs_of, items?_list, items?_tuple, list?_list, cutD_map, all_int, all_int', List.length_map, hApp_of, hExt_of, hIns_of, hCat_of, hRep_of, hR1_of, hR2_of, hR3_of, hMul_of, hDiv_of, hMod_of, p10_3, p10_4, p10_5, p10_6, p10_7, p10_8, p10_9, p10_12, p10_50, p50_3, p50_4, atI_map, k_scs_int, List.getD_cons_zero, List.getD_cons_succ, List.set_cons_zero, List.set_cons_succ, List.map_cons, List.map_nil, List.cons_append, List.nil_append, List.append_nil, List.length_cons, List.length_nil, Option.bind_some, Option.bind_none, Option.map_some, Option.map_none, ↓reduceIte, Nat.reduceAdd, Nat.reduceSub, Int.reduceAdd, Int.reduceSub, Int.reduceMul, Int.reduceNeg, Nat.reduceLeDiff, Nat.reduceLT, Nat.reduceEqDiff, Nat.zero_add, List.reduceReplicate, List.replicate_zero, List.replicate_one, List.replicate_succ, Bool.and_true, Bool.true_and, Bool.not_true, Bool.not_false, decide_true, decide_false, Bool.false_eq_true, reduceCtorEq, and_self, if_false, if_true, hIsi_int_int, hIsi_int_bool, hIsi_int_list, hIsi_int_tuple, hIsi_int_str, hIsi_bool_int, hIsi_bool_bool, hIsi_bool_list, hIsi_bool_tuple, hIsi_bool_str, hIsi_none_int, hIsi_none_bool, hIsi_none_list, hIsi_none_tuple, hIsi_none_str, hIsi_list_int, hIsi_list_bool, hIsi_list_list, hIsi_list_tuple, hIsi_list_str, hIsi_tuple_int, hIsi_tuple_bool, hIsi_tuple_list, hIsi_tuple_tuple, hIsi_tuple_str, hIsi_str_int, hIsi_str_bool, hIsi_str_list, hIsi_str_tuple, hIsi_str_str, List.filter_cons, List.filter_nil, e, Bool.false_and]
    · simp -implicitDefEqProofs (disch := first | omega | (simp only [List.length_map, List.length_append, List.length_cons, List.length_nil, List.length_range, List.length_take, List.length_drop, List.length_replicate, List.length_set, List.length_reverse] <;> omega) | (refine mulC_small ?_; omega) | (refine mulC_smallR ?_; omega) | (refine divC_small ?_ ?_ <;> omega) | (refine powC_small ?_ ?_ ?_ <;> omega)) only [v_run, v_iTp, tup?_tuple, v_sIfM2, k_ifM2_0, k_ifM2_1, v_srtSet, k_srtSet, v_sZ, k_sZ, v_sReb, v_sClr, k_sClr, v_pinF, k_pin, v_iZp3, k_zp3, v_setP, setPK_of, v_appP, k_appP, k_appP1, k_appP2, k_appP3, k_appP4, List.getElem?_cons_zero, List.getElem?_cons_succ, v_lSortP, k_srtP0, v_lRng, k_rng, hRg1_of, v_seq, v_set', v_setL', v_ret', v_retL', v_if', v_for', v_par', v_aug', v_augK, v_tgt', v_sub', v_mut', v_d1, v_d2, v_d3, v_dB, v_dSc, v_dScs, v_cons, v_tup', v_lst', v_dA, v_dAL, v_and', v_or', v_not', v_dT, v_iL, v_iR1, v_iR2, v_iR3, v_iEn, v_iZp, v_lCut, v_lOf, v_lCat, v_lRep, v_lRepE, k_rep0, v_rt', k_rt, v_idx, k_idx, v_lRev, k_rev, v_lSortI, v_lComp, v_oS, b_assoc, k_cmp, k_seq1, k_seq2, k_seq3, k_seq4, k_set, k_setL, k_ret, k_retL, k_if1, k_if2, k_for, k_par, k_aug2, k_tgt, k_tgt2, k_sub, k_sub1, k_sub2, k_sub3, k_mut, k_mut1, k_mut2, k_d2, k_d3, k_d31, k_d321, k_d322, k_bool, k_cons, k_cons2, k_tup, k_lst, k_al, k_and1, k_and2, k_or1, k_or2, k_not, k_dt, k_en, k_zp, k_cut, k_cut1, k_cut2, k_os, k_cat, k_rep, k_srt0, k_srt, k_comp, k_run1, k_run2, k_go1, k_go2, w_turn, w_turnR, w_turnW, w_nx, w_bk, w_ct, w_rN, w_V, w_C, w_nil, w_oN, w_yes, w_gSet, w_gTup, w_gsCons, w_gsNil, w_add, w_subI, w_lt, w_le, w_gt, w_ge, w_neg, w_isN, w_notN, w_n0, w_n1, w_n2, w_n3, w_n4, w_len1, w_len2, w_min2, w_max2, w_int1, w_int2, w_clr, w_ixL, w_ixT, w_sum, w_any, w_kil0, w_kil1, k_sc_int, k_sc_bool, k_sc_none, k_sc_str, k_scs_of, items?_list, items?_tuple, list?_list, cutD_map, all_int, all_int', List.length_map, hApp_of, hExt_of, hIns_of, hCat_of, hRep_of, hR1_of, hR2_of, hR3_of, hMul_of, hDiv_of, hMod_of, p10_3, p10_4, p10_5, p10_6, p10_7, p10_8, p10_9, p10_12, p10_50, p50_3, p50_4, atI_map, k_scs_int, List.getD_cons_zero, List.getD_cons_succ, List.set_cons_zero, List.set_cons_succ, List.map_cons, List.map_nil, List.cons_append, List.nil_append, List.append_nil, List.length_cons, List.length_nil, Option.bind_some, Option.bind_none, Option.map_some, Option.map_none, ↓reduceIte, Nat.reduceAdd, Nat.reduceSub, Int.reduceAdd, Int.reduceSub, Int.reduceMul, Int.reduceNeg, Nat.reduceLeDiff, Nat.reduceLT, Nat.reduceEqDiff, Nat.zero_add, List.reduceReplicate, List.replicate_zero, List.replicate_one, List.replicate_succ, Bool.and_true, Bool.true_and, Bool.not_true, Bool.not_false, decide_true, decide_false, Bool.false_eq_true, reduceCtorEq, and_self, if_false, if_true, hIsi_int_int, hIsi_int_bool, hIsi_int_list, hIsi_int_tuple, hIsi_int_str, hIsi_bool_int, hIsi_bool_bool, hIsi_bool_list, hIsi_bool_tuple, hIsi_bool_str, hIsi_none_int, hIsi_none_bool, hIsi_none_list, hIsi_none_tuple, hIsi_none_str, hIsi_list_int, hIsi_list_bool, hIsi_list_list, hIsi_list_tuple, hIsi_list_str, hIsi_tuple_int, hIsi_tuple_bool, hIsi_tuple_list, hIsi_tuple_tuple, hIsi_tuple_str, hIsi_str_int, hIsi_str_bool, hIsi_str_list, hIsi_str_tuple, hIsi_str_str, wD]
      refine b_filter (cv := ni) ni (fun k => done.contains k) (ws.getD i []) (by have := hw i; omega) (fun w _ => ⟨_, rfl, ?_, fun _ => ?_⟩) ?_
      · simp -implicitDefEqProofs (disch := first | omega | (simp only [List.length_map, List.length_append, List.length_cons, List.length_nil, List.length_range, List.length_take, List.length_drop, List.length_replicate, List.length_set, List.length_reverse] <;> omega) | (refine mulC_small ?_; omega) | (refine mulC_smallR ?_; omega) | (refine divC_small ?_ ?_ <;> omega) | (refine powC_small ?_ ?_ ?_ <;> omega)) only [v_run, v_iTp, tup?_tuple, v_sIfM2, k_ifM2_0, k_ifM2_1, v_srtSet, k_srtSet, v_sZ, k_sZ, v_sReb, v_sClr, k_sClr, v_pinF, k_pin, v_iZp3, k_zp3, v_setP, setPK_of, v_appP, k_appP, k_appP1, k_appP2, k_appP3, k_appP4, List.getElem?_cons_zero, List.getElem?_cons_succ, v_lSortP, k_srtP0, v_lRng, k_rng, hRg1_of, v_seq, v_set', v_setL', v_ret', v_retL', v_if', v_for', v_par', v_aug', v_augK, v_tgt', v_sub', v_mut', v_d1, v_d2, v_d3, v_dB, v_dSc, v_dScs, v_cons, v_tup', v_lst', v_dA, v_dAL, v_and', v_or', v_not', v_dT, v_iL, v_iR1, v_iR2, v_iR3, v_iEn, v_iZp, v_lCut, v_lOf, v_lCat, v_lRep, v_lRepE, k_rep0, v_rt', k_rt, v_idx, k_idx, v_lRev, k_rev, v_lSortI, v_lComp, v_oS, b_assoc, k_cmp, k_seq1, k_seq2, k_seq3, k_seq4, k_set, k_setL, k_ret, k_retL, k_if1, k_if2, k_for, k_par, k_aug2, k_tgt, k_tgt2, k_sub, k_sub1, k_sub2, k_sub3, k_mut, k_mut1, k_mut2, k_d2, k_d3, k_d31, k_d321, k_d322, k_bool, k_cons, k_cons2, k_tup, k_lst, k_al, k_and1, k_and2, k_or1, k_or2, k_not, k_dt, k_en, k_zp, k_cut, k_cut1, k_cut2, k_os, k_cat, k_rep, k_srt0, k_srt, k_comp, k_run1, k_run2, k_go1, k_go2, w_turn, w_turnR, w_turnW, w_nx, w_bk, w_ct, w_rN, w_V, w_C, w_nil, w_oN, w_yes, w_gSet, w_gTup, w_gsCons, w_gsNil, w_add, w_subI, w_lt, w_le, w_gt, w_ge, w_neg, w_isN, w_notN, w_n0, w_n1, w_n2, w_n3, w_n4, w_len1, w_len2, w_min2, w_max2, w_int1, w_int2, w_clr, w_ixL, w_ixT, w_sum, w_any, w_kil0, w_kil1, k_sc_int, k_sc_bool, k_sc_none, k_sc_str, k_scs_of, items?_list, items?_tuple, list?_list, cutD_map, all_int, all_int', List.length_map, hApp_of, hExt_of, hIns_of, hCat_of, hRep_of, hR1_of, hR2_of, hR3_of, hMul_of, hDiv_of, hMod_of, p10_3, p10_4, p10_5, p10_6, p10_7, p10_8, p10_9, p10_12, p10_50, p50_3, p50_4, atI_map, k_scs_int, List.getD_cons_zero, List.getD_cons_succ, List.set_cons_zero, List.set_cons_succ, List.map_cons, List.map_nil, List.cons_append, List.nil_append, List.append_nil, List.length_cons, List.length_nil, Option.bind_some, Option.bind_none, Option.map_some, Option.map_none, ↓reduceIte, Nat.reduceAdd, Nat.reduceSub, Int.reduceAdd, Int.reduceSub, Int.reduceMul, Int.reduceNeg, Nat.reduceLeDiff, Nat.reduceLT, Nat.reduceEqDiff, Nat.zero_add, List.reduceReplicate, List.replicate_zero, List.replicate_one, List.replicate_succ, Bool.and_true, Bool.true_and, Bool.not_true, Bool.not_false, decide_true, decide_false, Bool.false_eq_true, reduceCtorEq, and_self, if_false, if_true, hIsi_int_int, hIsi_int_bool, hIsi_int_list, hIsi_int_tuple, hIsi_int_str, hIsi_bool_int, hIsi_bool_bool, hIsi_bool_list, hIsi_bool_tuple, hIsi_bool_str, hIsi_none_int, hIsi_none_bool, hIsi_none_list, hIsi_none_tuple, hIsi_none_str, hIsi_list_int, hIsi_list_bool, hIsi_list_list, hIsi_list_tuple, hIsi_list_str, hIsi_tuple_int, hIsi_tuple_bool, hIsi_tuple_list, hIsi_tuple_tuple, hIsi_tuple_str, hIsi_str_int, hIsi_str_bool, hIsi_str_list, hIsi_str_tuple, hIsi_str_str, ni, hIn_ni]
      · simp -implicitDefEqProofs (disch := first | omega | (simp only [List.length_map, List.length_append, List.length_cons, List.length_nil, List.length_range, List.length_take, List.length_drop, List.length_replicate, List.length_set, List.length_reverse] <;> omega) | (refine mulC_small ?_; omega) | (refine mulC_smallR ?_; omega) | (refine divC_small ?_ ?_ <;> omega) | (refine powC_small ?_ ?_ ?_ <;> omega)) only [v_run, v_iTp, tup?_tuple, v_sIfM2, k_ifM2_0, k_ifM2_1, v_srtSet, k_srtSet, v_sZ, k_sZ, v_sReb, v_sClr, k_sClr, v_pinF, k_pin, v_iZp3, k_zp3, v_setP, setPK_of, v_appP, k_appP, k_appP1, k_appP2, k_appP3, k_appP4, List.getElem?_cons_zero, List.getElem?_cons_succ, v_lSortP, k_srtP0, v_lRng, k_rng, hRg1_of, v_seq, v_set', v_setL', v_ret', v_retL', v_if', v_for', v_par', v_aug', v_augK, v_tgt', v_sub', v_mut', v_d1, v_d2, v_d3, v_dB, v_dSc, v_dScs, v_cons, v_tup', v_lst', v_dA, v_dAL, v_and', v_or', v_not', v_dT, v_iL, v_iR1, v_iR2, v_iR3, v_iEn, v_iZp, v_lCut, v_lOf, v_lCat, v_lRep, v_lRepE, k_rep0, v_rt', k_rt, v_idx, k_idx, v_lRev, k_rev, v_lSortI, v_lComp, v_oS, b_assoc, k_cmp, k_seq1, k_seq2, k_seq3, k_seq4, k_set, k_setL, k_ret, k_retL, k_if1, k_if2, k_for, k_par, k_aug2, k_tgt, k_tgt2, k_sub, k_sub1, k_sub2, k_sub3, k_mut, k_mut1, k_mut2, k_d2, k_d3, k_d31, k_d321, k_d322, k_bool, k_cons, k_cons2, k_tup, k_lst, k_al, k_and1, k_and2, k_or1, k_or2, k_not, k_dt, k_en, k_zp, k_cut, k_cut1, k_cut2, k_os, k_cat, k_rep, k_srt0, k_srt, k_comp, k_run1, k_run2, k_go1, k_go2, w_turn, w_turnR, w_turnW, w_nx, w_bk, w_ct, w_rN, w_V, w_C, w_nil, w_oN, w_yes, w_gSet, w_gTup, w_gsCons, w_gsNil, w_add, w_subI, w_lt, w_le, w_gt, w_ge, w_neg, w_isN, w_notN, w_n0, w_n1, w_n2, w_n3, w_n4, w_len1, w_len2, w_min2, w_max2, w_int1, w_int2, w_clr, w_ixL, w_ixT, w_sum, w_any, w_kil0, w_kil1, k_sc_int, k_sc_bool, k_sc_none, k_sc_str, k_scs_of, items?_list, items?_tuple, list?_list, cutD_map, all_int, all_int', List.length_map, hApp_of, hExt_of, hIns_of, hCat_of, hRep_of, hR1_of, hR2_of, hR3_of, hMul_of, hDiv_of, hMod_of, p10_3, p10_4, p10_5, p10_6, p10_7, p10_8, p10_9, p10_12, p10_50, p50_3, p50_4, atI_map, k_scs_int, List.getD_cons_zero, List.getD_cons_succ, List.set_cons_zero, List.set_cons_succ, List.map_cons, List.map_nil, List.cons_append, List.nil_append, List.append_nil, List.length_cons, List.length_nil, Option.bind_some, Option.bind_none, Option.map_some, Option.map_none, ↓reduceIte, Nat.reduceAdd, Nat.reduceSub, Int.reduceAdd, Int.reduceSub, Int.reduceMul, Int.reduceNeg, Nat.reduceLeDiff, Nat.reduceLT, Nat.reduceEqDiff, Nat.zero_add, List.reduceReplicate, List.replicate_zero, List.replicate_one, List.replicate_succ, Bool.and_true, Bool.true_and, Bool.not_true, Bool.not_false, decide_true, decide_false, Bool.false_eq_true, reduceCtorEq, and_self, if_false, if_true, hIsi_int_int, hIsi_int_bool, hIsi_int_list, hIsi_int_tuple, hIsi_int_str, hIsi_bool_int, hIsi_bool_bool, hIsi_bool_list, hIsi_bool_tuple, hIsi_bool_str, hIsi_none_int, hIsi_none_bool, hIsi_none_list, hIsi_none_tuple, hIsi_none_str, hIsi_list_int, hIsi_list_bool, hIsi_list_list, hIsi_list_tuple, hIsi_list_str, hIsi_tuple_int, hIsi_tuple_bool, hIsi_tuple_list, hIsi_tuple_tuple, hIsi_tuple_str, hIsi_str_int, hIsi_str_bool, hIsi_str_list, hIsi_str_tuple, hIsi_str_str, ni]
      by_cases q2 : (((ws.getD i []).filter fun k => done.contains k).length : Int) < (asked.length : Int)
      · simp -implicitDefEqProofs (disch := first | omega | (simp only [List.length_map, List.length_append, List.length_cons, List.length_nil, List.length_range, List.length_take, List.length_drop, List.length_replicate, List.length_set, List.length_reverse] <;> omega) | (refine mulC_small ?_; omega) | (refine mulC_smallR ?_; omega) | (refine divC_small ?_ ?_ <;> omega) | (refine powC_small ?_ ?_ ?_ <;> omega)) only [v_run, v_iTp, tup?_tuple, v_sIfM2, k_ifM2_0, k_ifM2_1, v_srtSet, k_srtSet, v_sZ, k_sZ, v_sReb, v_sClr, k_sClr, v_pinF, k_pin, v_iZp3, k_zp3, v_setP, setPK_of, v_appP, k_appP, k_appP1, k_appP2, k_appP3, k_appP4, List.getElem?_cons_zero, List.getElem?_cons_succ, v_lSortP, k_srtP0, v_lRng, k_rng, hRg1_of, v_seq, v_set', v_setL', v_ret', v_retL', v_if', v_for', v_par', v_aug', v_augK, v_tgt', v_sub', v_mut', v_d1, v_d2, v_d3, v_dB, v_dSc, v_dScs, v_cons, v_tup', v_lst', v_dA, v_dAL, v_and', v_or', v_not', v_dT, v_iL, v_iR1, v_iR2, v_iR3, v_iEn, v_iZp, v_lCut, v_lOf, v_lCat, v_lRep, v_lRepE, k_rep0, v_rt', k_rt, v_idx, k_idx, v_lRev, k_rev, v_lSortI, v_lComp, v_oS, b_assoc, k_cmp, k_seq1, k_seq2, k_seq3, k_seq4, k_set, k_setL, k_ret, k_retL, k_if1, k_if2, k_for, k_par, k_aug2, k_tgt, k_tgt2, k_sub, k_sub1, k_sub2, k_sub3, k_mut, k_mut1, k_mut2, k_d2, k_d3, k_d31, k_d321, k_d322, k_bool, k_cons, k_cons2, k_tup, k_lst, k_al, k_and1, k_and2, k_or1, k_or2, k_not, k_dt, k_en, k_zp, k_cut, k_cut1, k_cut2, k_os, k_cat, k_rep, k_srt0, k_srt, k_comp, k_run1, k_run2, k_go1, k_go2, w_turn, w_turnR, w_turnW, w_nx, w_bk, w_ct, w_rN, w_V, w_C, w_nil, w_oN, w_yes, w_gSet, w_gTup, w_gsCons, w_gsNil, w_add, w_subI, w_lt, w_le, w_gt, w_ge, w_neg, w_isN, w_notN, w_n0, w_n1, w_n2, w_n3, w_n4, w_len1, w_len2, w_min2, w_max2, w_int1, w_int2, w_clr, w_ixL, w_ixT, w_sum, w_any, w_kil0, w_kil1, k_sc_int, k_sc_bool, k_sc_none, k_sc_str, k_scs_of, items?_list, items?_tuple, list?_list, cutD_map, all_int, all_int', List.length_map, hApp_of, hExt_of, hIns_of, hCat_of, hRep_of, hR1_of, hR2_of, hR3_of, hMul_of, hDiv_of, hMod_of, p10_3, p10_4, p10_5, p10_6, p10_7, p10_8, p10_9, p10_12, p10_50, p50_3, p50_4, atI_map, k_scs_int, List.getD_cons_zero, List.getD_cons_succ, List.set_cons_zero, List.set_cons_succ, List.map_cons, List.map_nil, List.cons_append, List.nil_append, List.append_nil, List.length_cons, List.length_nil, Option.bind_some, Option.bind_none, Option.map_some, Option.map_none, ↓reduceIte, Nat.reduceAdd, Nat.reduceSub, Int.reduceAdd, Int.reduceSub, Int.reduceMul, Int.reduceNeg, Nat.reduceLeDiff, Nat.reduceLT, Nat.reduceEqDiff, Nat.zero_add, List.reduceReplicate, List.replicate_zero, List.replicate_one, List.replicate_succ, Bool.and_true, Bool.true_and, Bool.not_true, Bool.not_false, decide_true, decide_false, Bool.false_eq_true, reduceCtorEq, and_self, if_false, if_true, hIsi_int_int, hIsi_int_bool, hIsi_int_list, hIsi_int_tuple, hIsi_int_str, hIsi_bool_int, hIsi_bool_bool, hIsi_bool_list, hIsi_bool_tuple, hIsi_bool_str, hIsi_none_int, hIsi_none_bool, hIsi_none_list, hIsi_none_tuple, hIsi_none_str, hIsi_list_int, hIsi_list_bool, hIsi_list_list, hIsi_list_tuple, hIsi_list_str, hIsi_tuple_int, hIsi_tuple_bool, hIsi_tuple_list, hIsi_tuple_tuple, hIsi_tuple_str, hIsi_str_int, hIsi_str_bool, hIsi_str_list, hIsi_str_tuple, hIsi_str_str, q2, List.filter_cons, List.filter_nil, e, List.map_append, ni]
      · simp -implicitDefEqProofs (disch := first | omega | (simp only [List.length_map, List.length_append, List.length_cons, List.length_nil, List.length_range, List.length_take, List.length_drop, List.length_replicate, List.length_set, List.length_reverse] <;> omega) | (refine mulC_small ?_; omega) | (refine mulC_smallR ?_; omega) | (refine divC_small ?_ ?_ <;> omega) | (refine powC_small ?_ ?_ ?_ <;> omega)) only [v_run, v_iTp, tup?_tuple, v_sIfM2, k_ifM2_0, k_ifM2_1, v_srtSet, k_srtSet, v_sZ, k_sZ, v_sReb, v_sClr, k_sClr, v_pinF, k_pin, v_iZp3, k_zp3, v_setP, setPK_of, v_appP, k_appP, k_appP1, k_appP2, k_appP3, k_appP4, List.getElem?_cons_zero, List.getElem?_cons_succ, v_lSortP, k_srtP0, v_lRng, k_rng, hRg1_of, v_seq, v_set', v_setL', v_ret', v_retL', v_if', v_for', v_par', v_aug', v_augK, v_tgt', v_sub', v_mut', v_d1, v_d2, v_d3, v_dB, v_dSc, v_dScs, v_cons, v_tup', v_lst', v_dA, v_dAL, v_and', v_or', v_not', v_dT, v_iL, v_iR1, v_iR2, v_iR3, v_iEn, v_iZp, v_lCut, v_lOf, v_lCat, v_lRep, v_lRepE, k_rep0, v_rt', k_rt, v_idx, k_idx, v_lRev, k_rev, v_lSortI, v_lComp, v_oS, b_assoc, k_cmp, k_seq1, k_seq2, k_seq3, k_seq4, k_set, k_setL, k_ret, k_retL, k_if1, k_if2, k_for, k_par, k_aug2, k_tgt, k_tgt2, k_sub, k_sub1, k_sub2, k_sub3, k_mut, k_mut1, k_mut2, k_d2, k_d3, k_d31, k_d321, k_d322, k_bool, k_cons, k_cons2, k_tup, k_lst, k_al, k_and1, k_and2, k_or1, k_or2, k_not, k_dt, k_en, k_zp, k_cut, k_cut1, k_cut2, k_os, k_cat, k_rep, k_srt0, k_srt, k_comp, k_run1, k_run2, k_go1, k_go2, w_turn, w_turnR, w_turnW, w_nx, w_bk, w_ct, w_rN, w_V, w_C, w_nil, w_oN, w_yes, w_gSet, w_gTup, w_gsCons, w_gsNil, w_add, w_subI, w_lt, w_le, w_gt, w_ge, w_neg, w_isN, w_notN, w_n0, w_n1, w_n2, w_n3, w_n4, w_len1, w_len2, w_min2, w_max2, w_int1, w_int2, w_clr, w_ixL, w_ixT, w_sum, w_any, w_kil0, w_kil1, k_sc_int, k_sc_bool, k_sc_none, k_sc_str, k_scs_of, items?_list, items?_tuple, list?_list, cutD_map, all_int, all_int', List.length_map, hApp_of, hExt_of, hIns_of, hCat_of, hRep_of, hR1_of, hR2_of, hR3_of, hMul_of, hDiv_of, hMod_of, p10_3, p10_4, p10_5, p10_6, p10_7, p10_8, p10_9, p10_12, p10_50, p50_3, p50_4, atI_map, k_scs_int, List.getD_cons_zero, List.getD_cons_succ, List.set_cons_zero, List.set_cons_succ, List.map_cons, List.map_nil, List.cons_append, List.nil_append, List.append_nil, List.length_cons, List.length_nil, Option.bind_some, Option.bind_none, Option.map_some, Option.map_none, ↓reduceIte, Nat.reduceAdd, Nat.reduceSub, Int.reduceAdd, Int.reduceSub, Int.reduceMul, Int.reduceNeg, Nat.reduceLeDiff, Nat.reduceLT, Nat.reduceEqDiff, Nat.zero_add, List.reduceReplicate, List.replicate_zero, List.replicate_one, List.replicate_succ, Bool.and_true, Bool.true_and, Bool.not_true, Bool.not_false, decide_true, decide_false, Bool.false_eq_true, reduceCtorEq, and_self, if_false, if_true, hIsi_int_int, hIsi_int_bool, hIsi_int_list, hIsi_int_tuple, hIsi_int_str, hIsi_bool_int, hIsi_bool_bool, hIsi_bool_list, hIsi_bool_tuple, hIsi_bool_str, hIsi_none_int, hIsi_none_bool, hIsi_none_list, hIsi_none_tuple, hIsi_none_str, hIsi_list_int, hIsi_list_bool, hIsi_list_list, hIsi_list_tuple, hIsi_list_str, hIsi_tuple_int, hIsi_tuple_bool, hIsi_tuple_list, hIsi_tuple_tuple, hIsi_tuple_str, hIsi_str_int, hIsi_str_bool, hIsi_str_list, hIsi_str_tuple, hIsi_str_str, q2, List.filter_cons, List.filter_nil, e]
  · simp -implicitDefEqProofs (disch := first | omega | (simp only [List.length_map, List.length_append, List.length_cons, List.length_nil, List.length_range, List.length_take, List.length_drop, List.length_replicate, List.length_set, List.length_reverse] <;> omega) | (refine mulC_small ?_; omega) | (refine mulC_smallR ?_; omega) | (refine divC_small ?_ ?_ <;> omega) | (refine powC_small ?_ ?_ ?_ <;> omega)) only [v_run, v_iTp, tup?_tuple, v_sIfM2, k_ifM2_0, k_ifM2_1, v_srtSet, k_srtSet, v_sZ, k_sZ, v_sReb, v_sClr, k_sClr, v_pinF, k_pin, v_iZp3, k_zp3, v_setP, setPK_of, v_appP, k_appP, k_appP1, k_appP2, k_appP3, k_appP4, List.getElem?_cons_zero, List.getElem?_cons_succ, v_lSortP, k_srtP0, v_lRng, k_rng, hRg1_of, v_seq, v_set', v_setL', v_ret', v_retL', v_if', v_for', v_par', v_aug', v_augK, v_tgt', v_sub', v_mut', v_d1, v_d2, v_d3, v_dB, v_dSc, v_dScs, v_cons, v_tup', v_lst', v_dA, v_dAL, v_and', v_or', v_not', v_dT, v_iL, v_iR1, v_iR2, v_iR3, v_iEn, v_iZp, v_lCut, v_lOf, v_lCat, v_lRep, v_lRepE, k_rep0, v_rt', k_rt, v_idx, k_idx, v_lRev, k_rev, v_lSortI, v_lComp, v_oS, b_assoc, k_cmp, k_seq1, k_seq2, k_seq3, k_seq4, k_set, k_setL, k_ret, k_retL, k_if1, k_if2, k_for, k_par, k_aug2, k_tgt, k_tgt2, k_sub, k_sub1, k_sub2, k_sub3, k_mut, k_mut1, k_mut2, k_d2, k_d3, k_d31, k_d321, k_d322, k_bool, k_cons, k_cons2, k_tup, k_lst, k_al, k_and1, k_and2, k_or1, k_or2, k_not, k_dt, k_en, k_zp, k_cut, k_cut1, k_cut2, k_os, k_cat, k_rep, k_srt0, k_srt, k_comp, k_run1, k_run2, k_go1, k_go2, w_turn, w_turnR, w_turnW, w_nx, w_bk, w_ct, w_rN, w_V, w_C, w_nil, w_oN, w_yes, w_gSet, w_gTup, w_gsCons, w_gsNil, w_add, w_subI, w_lt, w_le, w_gt, w_ge, w_neg, w_isN, w_notN, w_n0, w_n1, w_n2, w_n3, w_n4, w_len1, w_len2, w_min2, w_max2, w_int1, w_int2, w_clr, w_ixL, w_ixT, w_sum, w_any, w_kil0, w_kil1, k_sc_int, k_sc_bool, k_sc_none, k_sc_str, k_scs_of, items?_list, items?_tuple, list?_list, cutD_map, all_int, all_int', List.length_map, hApp_of, hExt_of, hIns_of, hCat_of, hRep_of, hR1_of, hR2_of, hR3_of, hMul_of, hDiv_of, hMod_of, p10_3, p10_4, p10_5, p10_6, p10_7, p10_8, p10_9, p10_12, p10_50, p50_3, p50_4, atI_map, k_scs_int, List.getD_cons_zero, List.getD_cons_succ, List.set_cons_zero, List.set_cons_succ, List.map_cons, List.map_nil, List.cons_append, List.nil_append, List.append_nil, List.length_cons, List.length_nil, Option.bind_some, Option.bind_none, Option.map_some, Option.map_none, ↓reduceIte, Nat.reduceAdd, Nat.reduceSub, Int.reduceAdd, Int.reduceSub, Int.reduceMul, Int.reduceNeg, Nat.reduceLeDiff, Nat.reduceLT, Nat.reduceEqDiff, Nat.zero_add, List.reduceReplicate, List.replicate_zero, List.replicate_one, List.replicate_succ, Bool.and_true, Bool.true_and, Bool.not_true, Bool.not_false, decide_true, decide_false, Bool.false_eq_true, reduceCtorEq, and_self, if_false, if_true, hIsi_int_int, hIsi_int_bool, hIsi_int_list, hIsi_int_tuple, hIsi_int_str, hIsi_bool_int, hIsi_bool_bool, hIsi_bool_list, hIsi_bool_tuple, hIsi_bool_str, hIsi_none_int, hIsi_none_bool, hIsi_none_list, hIsi_none_tuple, hIsi_none_str, hIsi_list_int, hIsi_list_bool, hIsi_list_list, hIsi_list_tuple, hIsi_list_str, hIsi_tuple_int, hIsi_tuple_bool, hIsi_tuple_list, hIsi_tuple_tuple, hIsi_tuple_str, hIsi_str_int, hIsi_str_bool, hIsi_str_list, hIsi_str_tuple, hIsi_str_str, wD, hs]
    rfl
theorem due_ev (K : Int) (cs : List Int) (ws : List (List Nat)) (done : List Nat) (hc : cs.length < 10) (hv : ws.length ≤ 1000) (hw : ∀ i, (ws.getD i []).length ≤ 1000) :
    sem_law_due [.int K, .list (cs.map PyData.int), .list (ws.map wD), wD done] = some (ond (wrongF K cs ws done)) := by
  simp -implicitDefEqProofs (disch := first | omega | (simp only [List.length_map, List.length_append, List.length_cons, List.length_nil, List.length_range, List.length_take, List.length_drop, List.length_replicate, List.length_set, List.length_reverse] <;> omega) | (refine mulC_small ?_; omega) | (refine mulC_smallR ?_; omega) | (refine divC_small ?_ ?_ <;> omega) | (refine powC_small ?_ ?_ ?_ <;> omega)) only [v_run, v_iTp, tup?_tuple, v_sIfM2, k_ifM2_0, k_ifM2_1, v_srtSet, k_srtSet, v_sZ, k_sZ, v_sReb, v_sClr, k_sClr, v_pinF, k_pin, v_iZp3, k_zp3, v_setP, setPK_of, v_appP, k_appP, k_appP1, k_appP2, k_appP3, k_appP4, List.getElem?_cons_zero, List.getElem?_cons_succ, v_lSortP, k_srtP0, v_lRng, k_rng, hRg1_of, v_seq, v_set', v_setL', v_ret', v_retL', v_if', v_for', v_par', v_aug', v_augK, v_tgt', v_sub', v_mut', v_d1, v_d2, v_d3, v_dB, v_dSc, v_dScs, v_cons, v_tup', v_lst', v_dA, v_dAL, v_and', v_or', v_not', v_dT, v_iL, v_iR1, v_iR2, v_iR3, v_iEn, v_iZp, v_lCut, v_lOf, v_lCat, v_lRep, v_lRepE, k_rep0, v_rt', k_rt, v_idx, k_idx, v_lRev, k_rev, v_lSortI, v_lComp, v_oS, b_assoc, k_cmp, k_seq1, k_seq2, k_seq3, k_seq4, k_set, k_setL, k_ret, k_retL, k_if1, k_if2, k_for, k_par, k_aug2, k_tgt, k_tgt2, k_sub, k_sub1, k_sub2, k_sub3, k_mut, k_mut1, k_mut2, k_d2, k_d3, k_d31, k_d321, k_d322, k_bool, k_cons, k_cons2, k_tup, k_lst, k_al, k_and1, k_and2, k_or1, k_or2, k_not, k_dt, k_en, k_zp, k_cut, k_cut1, k_cut2, k_os, k_cat, k_rep, k_srt0, k_srt, k_comp, k_run1, k_run2, k_go1, k_go2, w_turn, w_turnR, w_turnW, w_nx, w_bk, w_ct, w_rN, w_V, w_C, w_nil, w_oN, w_yes, w_gSet, w_gTup, w_gsCons, w_gsNil, w_add, w_subI, w_lt, w_le, w_gt, w_ge, w_neg, w_isN, w_notN, w_n0, w_n1, w_n2, w_n3, w_n4, w_len1, w_len2, w_min2, w_max2, w_int1, w_int2, w_clr, w_ixL, w_ixT, w_sum, w_any, w_kil0, w_kil1, k_sc_int, k_sc_bool, k_sc_none, k_sc_str, k_scs_of, items?_list, items?_tuple, list?_list, cutD_map, all_int, all_int', List.length_map, hApp_of, hExt_of, hIns_of, hCat_of, hRep_of, hR1_of, hR2_of, hR3_of, hMul_of, hDiv_of, hMod_of, p10_3, p10_4, p10_5, p10_6, p10_7, p10_8, p10_9, p10_12, p10_50, p50_3, p50_4, atI_map, k_scs_int, List.getD_cons_zero, List.getD_cons_succ, List.set_cons_zero, List.set_cons_succ, List.map_cons, List.map_nil, List.cons_append, List.nil_append, List.append_nil, List.length_cons, List.length_nil, Option.bind_some, Option.bind_none, Option.map_some, Option.map_none, ↓reduceIte, Nat.reduceAdd, Nat.reduceSub, Int.reduceAdd, Int.reduceSub, Int.reduceMul, Int.reduceNeg, Nat.reduceLeDiff, Nat.reduceLT, Nat.reduceEqDiff, Nat.zero_add, List.reduceReplicate, List.replicate_zero, List.replicate_one, List.replicate_succ, Bool.and_true, Bool.true_and, Bool.not_true, Bool.not_false, decide_true, decide_false, Bool.false_eq_true, reduceCtorEq, and_self, if_false, if_true, hIsi_int_int, hIsi_int_bool, hIsi_int_list, hIsi_int_tuple, hIsi_int_str, hIsi_bool_int, hIsi_bool_bool, hIsi_bool_list, hIsi_bool_tuple, hIsi_bool_str, hIsi_none_int, hIsi_none_bool, hIsi_none_list, hIsi_none_tuple, hIsi_none_str, hIsi_list_int, hIsi_list_bool, hIsi_list_list, hIsi_list_tuple, hIsi_list_str, hIsi_tuple_int, hIsi_tuple_bool, hIsi_tuple_list, hIsi_tuple_tuple, hIsi_tuple_str, hIsi_str_int, hIsi_str_bool, hIsi_str_list, hIsi_str_tuple, hIsi_str_str, sem_law_due, sets_ev cs.length (by omega)]
  have sl : ((subsF cs.length).drop 1).length ≤ 512 := by
    rw [List.length_drop, subsF_len]
    have : 2 ^ cs.length ≤ 2 ^ 9 := Nat.pow_le_pow_right (by decide) (by omega)
    omega
  refine b_word (enc := fun s : List (List Nat) => [some (.int K), some (.list (cs.map PyData.int)), some (.list (ws.map wD)), some (wD done), some (.list (s.map (triD ws done))), none, none, none, none, none]) (cv := wD)
    (fun q s => s = q.filter (wrB K cs ws done)) ((subsF cs.length).drop 1) [] rfl ?_ (fun s hs => ?_)
  · intro q a r s hx hs
    have am : a ∈ (subsF cs.length).drop 1 := by rw [← hx]; simp
    have as := subsF_sub cs.length a (List.mem_of_mem_drop am)
    have al := as.length_le
    rw [List.length_range] at al
    have ge := lgroup_ev ws a done hv (by omega) hw
    have gl := grpF_len ws a done
    have lq : q.length ≤ 512 := by
      have := congrArg List.length hx
      rw [List.length_append] at this
      omega
    have hsl : s.length ≤ 512 := by
      rw [hs]
      have := List.length_filter_le (wrB K cs ws done) q
      omega
    have hne := hNe_ni (grpF ws a done) []
    rw [List.map_nil] at hne
    refine ⟨_, ?_, rfl⟩
    rw [List.filter_append, ← hs]
    simp -implicitDefEqProofs (disch := first | omega | (simp only [List.length_map, List.length_append, List.length_cons, List.length_nil, List.length_range, List.length_take, List.length_drop, List.length_replicate, List.length_set, List.length_reverse] <;> omega) | (refine mulC_small ?_; omega) | (refine mulC_smallR ?_; omega) | (refine divC_small ?_ ?_ <;> omega) | (refine powC_small ?_ ?_ ?_ <;> omega)) only [v_run, v_iTp, tup?_tuple, v_sIfM2, k_ifM2_0, k_ifM2_1, v_srtSet, k_srtSet, v_sZ, k_sZ, v_sReb, v_sClr, k_sClr, v_pinF, k_pin, v_iZp3, k_zp3, v_setP, setPK_of, v_appP, k_appP, k_appP1, k_appP2, k_appP3, k_appP4, List.getElem?_cons_zero, List.getElem?_cons_succ, v_lSortP, k_srtP0, v_lRng, k_rng, hRg1_of, v_seq, v_set', v_setL', v_ret', v_retL', v_if', v_for', v_par', v_aug', v_augK, v_tgt', v_sub', v_mut', v_d1, v_d2, v_d3, v_dB, v_dSc, v_dScs, v_cons, v_tup', v_lst', v_dA, v_dAL, v_and', v_or', v_not', v_dT, v_iL, v_iR1, v_iR2, v_iR3, v_iEn, v_iZp, v_lCut, v_lOf, v_lCat, v_lRep, v_lRepE, k_rep0, v_rt', k_rt, v_idx, k_idx, v_lRev, k_rev, v_lSortI, v_lComp, v_oS, b_assoc, k_cmp, k_seq1, k_seq2, k_seq3, k_seq4, k_set, k_setL, k_ret, k_retL, k_if1, k_if2, k_for, k_par, k_aug2, k_tgt, k_tgt2, k_sub, k_sub1, k_sub2, k_sub3, k_mut, k_mut1, k_mut2, k_d2, k_d3, k_d31, k_d321, k_d322, k_bool, k_cons, k_cons2, k_tup, k_lst, k_al, k_and1, k_and2, k_or1, k_or2, k_not, k_dt, k_en, k_zp, k_cut, k_cut1, k_cut2, k_os, k_cat, k_rep, k_srt0, k_srt, k_comp, k_run1, k_run2, k_go1, k_go2, w_turn, w_turnR, w_turnW, w_nx, w_bk, w_ct, w_rN, w_V, w_C, w_nil, w_oN, w_yes, w_gSet, w_gTup, w_gsCons, w_gsNil, w_add, w_subI, w_lt, w_le, w_gt, w_ge, w_neg, w_isN, w_notN, w_n0, w_n1, w_n2, w_n3, w_n4, w_len1, w_len2, w_min2, w_max2, w_int1, w_int2, w_clr, w_ixL, w_ixT, w_sum, w_any, w_kil0, w_kil1, k_sc_int, k_sc_bool, k_sc_none, k_sc_str, k_scs_of, items?_list, items?_tuple, list?_list, cutD_map, all_int, all_int', List.length_map, hApp_of, hExt_of, hIns_of, hCat_of, hRep_of, hR1_of, hR2_of, hR3_of, hMul_of, hDiv_of, hMod_of, p10_3, p10_4, p10_5, p10_6, p10_7, p10_8, p10_9, p10_12, p10_50, p50_3, p50_4, atI_map, k_scs_int, List.getD_cons_zero, List.getD_cons_succ, List.set_cons_zero, List.set_cons_succ, List.map_cons, List.map_nil, List.cons_append, List.nil_append, List.append_nil, List.length_cons, List.length_nil, Option.bind_some, Option.bind_none, Option.map_some, Option.map_none, ↓reduceIte, Nat.reduceAdd, Nat.reduceSub, Int.reduceAdd, Int.reduceSub, Int.reduceMul, Int.reduceNeg, Nat.reduceLeDiff, Nat.reduceLT, Nat.reduceEqDiff, Nat.zero_add, List.reduceReplicate, List.replicate_zero, List.replicate_one, List.replicate_succ, Bool.and_true, Bool.true_and, Bool.not_true, Bool.not_false, decide_true, decide_false, Bool.false_eq_true, reduceCtorEq, and_self, if_false, if_true, hIsi_int_int, hIsi_int_bool, hIsi_int_list, hIsi_int_tuple, hIsi_int_str, hIsi_bool_int, hIsi_bool_bool, hIsi_bool_list, hIsi_bool_tuple, hIsi_bool_str, hIsi_none_int, hIsi_none_bool, hIsi_none_list, hIsi_none_tuple, hIsi_none_str, hIsi_list_int, hIsi_list_bool, hIsi_list_list, hIsi_list_tuple, hIsi_list_str, hIsi_tuple_int, hIsi_tuple_bool, hIsi_tuple_list, hIsi_tuple_tuple, hIsi_tuple_str, hIsi_str_int, hIsi_str_bool, hIsi_str_list, hIsi_str_tuple, hIsi_str_str, ge]
    simp -implicitDefEqProofs (disch := first | omega | (simp only [List.length_map, List.length_append, List.length_cons, List.length_nil, List.length_range, List.length_take, List.length_drop, List.length_replicate, List.length_set, List.length_reverse] <;> omega) | (refine mulC_small ?_; omega) | (refine mulC_smallR ?_; omega) | (refine divC_small ?_ ?_ <;> omega) | (refine powC_small ?_ ?_ ?_ <;> omega)) only [v_run, v_iTp, tup?_tuple, v_sIfM2, k_ifM2_0, k_ifM2_1, v_srtSet, k_srtSet, v_sZ, k_sZ, v_sReb, v_sClr, k_sClr, v_pinF, k_pin, v_iZp3, k_zp3, v_setP, setPK_of, v_appP, k_appP, k_appP1, k_appP2, k_appP3, k_appP4, List.getElem?_cons_zero, List.getElem?_cons_succ, v_lSortP, k_srtP0, v_lRng, k_rng, hRg1_of, v_seq, v_set', v_setL', v_ret', v_retL', v_if', v_for', v_par', v_aug', v_augK, v_tgt', v_sub', v_mut', v_d1, v_d2, v_d3, v_dB, v_dSc, v_dScs, v_cons, v_tup', v_lst', v_dA, v_dAL, v_and', v_or', v_not', v_dT, v_iL, v_iR1, v_iR2, v_iR3, v_iEn, v_iZp, v_lCut, v_lOf, v_lCat, v_lRep, v_lRepE, k_rep0, v_rt', k_rt, v_idx, k_idx, v_lRev, k_rev, v_lSortI, v_lComp, v_oS, b_assoc, k_cmp, k_seq1, k_seq2, k_seq3, k_seq4, k_set, k_setL, k_ret, k_retL, k_if1, k_if2, k_for, k_par, k_aug2, k_tgt, k_tgt2, k_sub, k_sub1, k_sub2, k_sub3, k_mut, k_mut1, k_mut2, k_d2, k_d3, k_d31, k_d321, k_d322, k_bool, k_cons, k_cons2, k_tup, k_lst, k_al, k_and1, k_and2, k_or1, k_or2, k_not, k_dt, k_en, k_zp, k_cut, k_cut1, k_cut2, k_os, k_cat, k_rep, k_srt0, k_srt, k_comp, k_run1, k_run2, k_go1, k_go2, w_turn, w_turnR, w_turnW, w_nx, w_bk, w_ct, w_rN, w_V, w_C, w_nil, w_oN, w_yes, w_gSet, w_gTup, w_gsCons, w_gsNil, w_add, w_subI, w_lt, w_le, w_gt, w_ge, w_neg, w_isN, w_notN, w_n0, w_n1, w_n2, w_n3, w_n4, w_len1, w_len2, w_min2, w_max2, w_int1, w_int2, w_clr, w_ixL, w_ixT, w_sum, w_any, w_kil0, w_kil1, k_sc_int, k_sc_bool, k_sc_none, k_sc_str, k_scs_of, items?_list, items?_tuple, list?_list, cutD_map, all_int, all_int', List.length_map, hApp_of, hExt_of, hIns_of, hCat_of, hRep_of, hR1_of, hR2_of, hR3_of, hMul_of, hDiv_of, hMod_of, p10_3, p10_4, p10_5, p10_6, p10_7, p10_8, p10_9, p10_12, p10_50, p50_3, p50_4, atI_map, k_scs_int, List.getD_cons_zero, List.getD_cons_succ, List.set_cons_zero, List.set_cons_succ, List.map_cons, List.map_nil, List.cons_append, List.nil_append, List.append_nil, List.length_cons, List.length_nil, Option.bind_some, Option.bind_none, Option.map_some, Option.map_none, ↓reduceIte, Nat.reduceAdd, Nat.reduceSub, Int.reduceAdd, Int.reduceSub, Int.reduceMul, Int.reduceNeg, Nat.reduceLeDiff, Nat.reduceLT, Nat.reduceEqDiff, Nat.zero_add, List.reduceReplicate, List.replicate_zero, List.replicate_one, List.replicate_succ, Bool.and_true, Bool.true_and, Bool.not_true, Bool.not_false, decide_true, decide_false, Bool.false_eq_true, reduceCtorEq, and_self, if_false, if_true, hIsi_int_int, hIsi_int_bool, hIsi_int_list, hIsi_int_tuple, hIsi_int_str, hIsi_bool_int, hIsi_bool_bool, hIsi_bool_list, hIsi_bool_tuple, hIsi_bool_str, hIsi_none_int, hIsi_none_bool, hIsi_none_list, hIsi_none_tuple, hIsi_none_str, hIsi_list_int, hIsi_list_bool, hIsi_list_list, hIsi_list_tuple, hIsi_list_str, hIsi_tuple_int, hIsi_tuple_bool, hIsi_tuple_list, hIsi_tuple_tuple, hIsi_tuple_str, hIsi_str_int, hIsi_str_bool, hIsi_str_list, hIsi_str_tuple, hIsi_str_str, wD]
    refine b_mapI (cv := ni) (fun c => cs.getD c 0) a (by omega) (fun c hc => ⟨_, rfl, rfl, ?_⟩) ?_
    · simp -implicitDefEqProofs (disch := first | omega | (simp only [List.length_map, List.length_append, List.length_cons, List.length_nil, List.length_range, List.length_take, List.length_drop, List.length_replicate, List.length_set, List.length_reverse] <;> omega) | (refine mulC_small ?_; omega) | (refine mulC_smallR ?_; omega) | (refine divC_small ?_ ?_ <;> omega) | (refine powC_small ?_ ?_ ?_ <;> omega)) only [v_run, v_iTp, tup?_tuple, v_sIfM2, k_ifM2_0, k_ifM2_1, v_srtSet, k_srtSet, v_sZ, k_sZ, v_sReb, v_sClr, k_sClr, v_pinF, k_pin, v_iZp3, k_zp3, v_setP, setPK_of, v_appP, k_appP, k_appP1, k_appP2, k_appP3, k_appP4, List.getElem?_cons_zero, List.getElem?_cons_succ, v_lSortP, k_srtP0, v_lRng, k_rng, hRg1_of, v_seq, v_set', v_setL', v_ret', v_retL', v_if', v_for', v_par', v_aug', v_augK, v_tgt', v_sub', v_mut', v_d1, v_d2, v_d3, v_dB, v_dSc, v_dScs, v_cons, v_tup', v_lst', v_dA, v_dAL, v_and', v_or', v_not', v_dT, v_iL, v_iR1, v_iR2, v_iR3, v_iEn, v_iZp, v_lCut, v_lOf, v_lCat, v_lRep, v_lRepE, k_rep0, v_rt', k_rt, v_idx, k_idx, v_lRev, k_rev, v_lSortI, v_lComp, v_oS, b_assoc, k_cmp, k_seq1, k_seq2, k_seq3, k_seq4, k_set, k_setL, k_ret, k_retL, k_if1, k_if2, k_for, k_par, k_aug2, k_tgt, k_tgt2, k_sub, k_sub1, k_sub2, k_sub3, k_mut, k_mut1, k_mut2, k_d2, k_d3, k_d31, k_d321, k_d322, k_bool, k_cons, k_cons2, k_tup, k_lst, k_al, k_and1, k_and2, k_or1, k_or2, k_not, k_dt, k_en, k_zp, k_cut, k_cut1, k_cut2, k_os, k_cat, k_rep, k_srt0, k_srt, k_comp, k_run1, k_run2, k_go1, k_go2, w_turn, w_turnR, w_turnW, w_nx, w_bk, w_ct, w_rN, w_V, w_C, w_nil, w_oN, w_yes, w_gSet, w_gTup, w_gsCons, w_gsNil, w_add, w_subI, w_lt, w_le, w_gt, w_ge, w_neg, w_isN, w_notN, w_n0, w_n1, w_n2, w_n3, w_n4, w_len1, w_len2, w_min2, w_max2, w_int1, w_int2, w_clr, w_ixL, w_ixT, w_sum, w_any, w_kil0, w_kil1, k_sc_int, k_sc_bool, k_sc_none, k_sc_str, k_scs_of, items?_list, items?_tuple, list?_list, cutD_map, all_int, all_int', List.length_map, hApp_of, hExt_of, hIns_of, hCat_of, hRep_of, hR1_of, hR2_of, hR3_of, hMul_of, hDiv_of, hMod_of, p10_3, p10_4, p10_5, p10_6, p10_7, p10_8, p10_9, p10_12, p10_50, p50_3, p50_4, atI_map, k_scs_int, List.getD_cons_zero, List.getD_cons_succ, List.set_cons_zero, List.set_cons_succ, List.map_cons, List.map_nil, List.cons_append, List.nil_append, List.append_nil, List.length_cons, List.length_nil, Option.bind_some, Option.bind_none, Option.map_some, Option.map_none, ↓reduceIte, Nat.reduceAdd, Nat.reduceSub, Int.reduceAdd, Int.reduceSub, Int.reduceMul, Int.reduceNeg, Nat.reduceLeDiff, Nat.reduceLT, Nat.reduceEqDiff, Nat.zero_add, List.reduceReplicate, List.replicate_zero, List.replicate_one, List.replicate_succ, Bool.and_true, Bool.true_and, Bool.not_true, Bool.not_false, decide_true, decide_false, Bool.false_eq_true, reduceCtorEq, and_self, if_false, if_true, hIsi_int_int, hIsi_int_bool, hIsi_int_list, hIsi_int_tuple, hIsi_int_str, hIsi_bool_int, hIsi_bool_bool, hIsi_bool_list, hIsi_bool_tuple, hIsi_bool_str, hIsi_none_int, hIsi_none_bool, hIsi_none_list, hIsi_none_tuple, hIsi_none_str, hIsi_list_int, hIsi_list_bool, hIsi_list_list, hIsi_list_tuple, hIsi_list_str, hIsi_tuple_int, hIsi_tuple_bool, hIsi_tuple_list, hIsi_tuple_tuple, hIsi_tuple_str, hIsi_str_int, hIsi_str_bool, hIsi_str_list, hIsi_str_tuple, hIsi_str_str, ni, atI_get0 0 cs c (List.mem_range.mp (as.subset hc))]
    cases e : (grpF ws a done == [])
    · rw [e] at hne
      by_cases q2 : (a.map fun c => cs.getD c 0).sum * (ws.length : Int) ≤ K * ((grpF ws a done).length : Int)
      · have wb : wrB K cs ws done a = true := by unfold wrB; rw [e, decide_eq_true q2]; rfl
        simp -implicitDefEqProofs (disch := first | omega | (simp only [List.length_map, List.length_append, List.length_cons, List.length_nil, List.length_range, List.length_take, List.length_drop, List.length_replicate, List.length_set, List.length_reverse] <;> omega) | (refine mulC_small ?_; omega) | (refine mulC_smallR ?_; omega) | (refine divC_small ?_ ?_ <;> omega) | (refine powC_small ?_ ?_ ?_ <;> omega)) only [v_run, v_iTp, tup?_tuple, v_sIfM2, k_ifM2_0, k_ifM2_1, v_srtSet, k_srtSet, v_sZ, k_sZ, v_sReb, v_sClr, k_sClr, v_pinF, k_pin, v_iZp3, k_zp3, v_setP, setPK_of, v_appP, k_appP, k_appP1, k_appP2, k_appP3, k_appP4, List.getElem?_cons_zero, List.getElem?_cons_succ, v_lSortP, k_srtP0, v_lRng, k_rng, hRg1_of, v_seq, v_set', v_setL', v_ret', v_retL', v_if', v_for', v_par', v_aug', v_augK, v_tgt', v_sub', v_mut', v_d1, v_d2, v_d3, v_dB, v_dSc, v_dScs, v_cons, v_tup', v_lst', v_dA, v_dAL, v_and', v_or', v_not', v_dT, v_iL, v_iR1, v_iR2, v_iR3, v_iEn, v_iZp, v_lCut, v_lOf, v_lCat, v_lRep, v_lRepE, k_rep0, v_rt', k_rt, v_idx, k_idx, v_lRev, k_rev, v_lSortI, v_lComp, v_oS, b_assoc, k_cmp, k_seq1, k_seq2, k_seq3, k_seq4, k_set, k_setL, k_ret, k_retL, k_if1, k_if2, k_for, k_par, k_aug2, k_tgt, k_tgt2, k_sub, k_sub1, k_sub2, k_sub3, k_mut, k_mut1, k_mut2, k_d2, k_d3, k_d31, k_d321, k_d322, k_bool, k_cons, k_cons2, k_tup, k_lst, k_al, k_and1, k_and2, k_or1, k_or2, k_not, k_dt, k_en, k_zp, k_cut, k_cut1, k_cut2, k_os, k_cat, k_rep, k_srt0, k_srt, k_comp, k_run1, k_run2, k_go1, k_go2, w_turn, w_turnR, w_turnW, w_nx, w_bk, w_ct, w_rN, w_V, w_C, w_nil, w_oN, w_yes, w_gSet, w_gTup, w_gsCons, w_gsNil, w_add, w_subI, w_lt, w_le, w_gt, w_ge, w_neg, w_isN, w_notN, w_n0, w_n1, w_n2, w_n3, w_n4, w_len1, w_len2, w_min2, w_max2, w_int1, w_int2, w_clr, w_ixL, w_ixT, w_sum, w_any, w_kil0, w_kil1, k_sc_int, k_sc_bool, k_sc_none, k_sc_str, k_scs_of, items?_list, items?_tuple, list?_list, cutD_map, all_int, all_int', List.length_map, hApp_of, hExt_of, hIns_of, hCat_of, hRep_of, hR1_of, hR2_of, hR3_of, hMul_of, hDiv_of, hMod_of, p10_3, p10_4, p10_5, p10_6, p10_7, p10_8, p10_9, p10_12, p10_50, p50_3, p50_4, atI_map, k_scs_int, List.getD_cons_zero, List.getD_cons_succ, List.set_cons_zero, List.set_cons_succ, List.map_cons, List.map_nil, List.cons_append, List.nil_append, List.append_nil, List.length_cons, List.length_nil, Option.bind_some, Option.bind_none, Option.map_some, Option.map_none, ↓reduceIte, Nat.reduceAdd, Nat.reduceSub, Int.reduceAdd, Int.reduceSub, Int.reduceMul, Int.reduceNeg, Nat.reduceLeDiff, Nat.reduceLT, Nat.reduceEqDiff, Nat.zero_add, List.reduceReplicate, List.replicate_zero, List.replicate_one, List.replicate_succ, Bool.and_true, Bool.true_and, Bool.not_true, Bool.not_false, decide_true, decide_false, Bool.false_eq_true, reduceCtorEq, and_self, if_false, if_true, hIsi_int_int, hIsi_int_bool, hIsi_int_list, hIsi_int_tuple, hIsi_int_str, hIsi_bool_int, hIsi_bool_bool, hIsi_bool_list, hIsi_bool_tuple, hIsi_bool_str, hIsi_none_int, hIsi_none_bool, hIsi_none_list, hIsi_none_tuple, hIsi_none_str, hIsi_list_int, hIsi_list_bool, hIsi_list_list, hIsi_list_tuple, hIsi_list_str, hIsi_tuple_int, hIsi_tuple_bool, hIsi_tuple_list, hIsi_tuple_tuple, hIsi_tuple_str, hIsi_str_int, hIsi_str_bool, hIsi_str_list, hIsi_str_tuple, hIsi_str_str, hne, q2, List.filter_cons, List.filter_nil, wb, List.map_append, triD, wD]
      · have wb : wrB K cs ws done a = false := by unfold wrB; rw [e, decide_eq_false q2]; rfl
        simp -implicitDefEqProofs (disch := first | omega | (simp only [List.length_map, List.length_append, List.length_cons, List.length_nil, List.length_range, List.length_take, List.length_drop, List.length_replicate, List.length_set, List.length_reverse] <;> omega) | (refine mulC_small ?_; omega) | (refine mulC_smallR ?_; omega) | (refine divC_small ?_ ?_ <;> omega) | (refine powC_small ?_ ?_ ?_ <;> omega)) only [v_run, v_iTp, tup?_tuple, v_sIfM2, k_ifM2_0, k_ifM2_1, v_srtSet, k_srtSet, v_sZ, k_sZ, v_sReb, v_sClr, k_sClr, v_pinF, k_pin, v_iZp3, k_zp3, v_setP, setPK_of, v_appP, k_appP, k_appP1, k_appP2, k_appP3, k_appP4, List.getElem?_cons_zero, List.getElem?_cons_succ, v_lSortP, k_srtP0, v_lRng, k_rng, hRg1_of, v_seq, v_set', v_setL', v_ret', v_retL', v_if', v_for', v_par', v_aug', v_augK, v_tgt', v_sub', v_mut', v_d1, v_d2, v_d3, v_dB, v_dSc, v_dScs, v_cons, v_tup', v_lst', v_dA, v_dAL, v_and', v_or', v_not', v_dT, v_iL, v_iR1, v_iR2, v_iR3, v_iEn, v_iZp, v_lCut, v_lOf, v_lCat, v_lRep, v_lRepE, k_rep0, v_rt', k_rt, v_idx, k_idx, v_lRev, k_rev, v_lSortI, v_lComp, v_oS, b_assoc, k_cmp, k_seq1, k_seq2, k_seq3, k_seq4, k_set, k_setL, k_ret, k_retL, k_if1, k_if2, k_for, k_par, k_aug2, k_tgt, k_tgt2, k_sub, k_sub1, k_sub2, k_sub3, k_mut, k_mut1, k_mut2, k_d2, k_d3, k_d31, k_d321, k_d322, k_bool, k_cons, k_cons2, k_tup, k_lst, k_al, k_and1, k_and2, k_or1, k_or2, k_not, k_dt, k_en, k_zp, k_cut, k_cut1, k_cut2, k_os, k_cat, k_rep, k_srt0, k_srt, k_comp, k_run1, k_run2, k_go1, k_go2, w_turn, w_turnR, w_turnW, w_nx, w_bk, w_ct, w_rN, w_V, w_C, w_nil, w_oN, w_yes, w_gSet, w_gTup, w_gsCons, w_gsNil, w_add, w_subI, w_lt, w_le, w_gt, w_ge, w_neg, w_isN, w_notN, w_n0, w_n1, w_n2, w_n3, w_n4, w_len1, w_len2, w_min2, w_max2, w_int1, w_int2, w_clr, w_ixL, w_ixT, w_sum, w_any, w_kil0, w_kil1, k_sc_int, k_sc_bool, k_sc_none, k_sc_str, k_scs_of, items?_list, items?_tuple, list?_list, cutD_map, all_int, all_int', List.length_map, hApp_of, hExt_of, hIns_of, hCat_of, hRep_of, hR1_of, hR2_of, hR3_of, hMul_of, hDiv_of, hMod_of, p10_3, p10_4, p10_5, p10_6, p10_7, p10_8, p10_9, p10_12, p10_50, p50_3, p50_4, atI_map, k_scs_int, List.getD_cons_zero, List.getD_cons_succ, List.set_cons_zero, List.set_cons_succ, List.map_cons, List.map_nil, List.cons_append, List.nil_append, List.append_nil, List.length_cons, List.length_nil, Option.bind_some, Option.bind_none, Option.map_some, Option.map_none, ↓reduceIte, Nat.reduceAdd, Nat.reduceSub, Int.reduceAdd, Int.reduceSub, Int.reduceMul, Int.reduceNeg, Nat.reduceLeDiff, Nat.reduceLT, Nat.reduceEqDiff, Nat.zero_add, List.reduceReplicate, List.replicate_zero, List.replicate_one, List.replicate_succ, Bool.and_true, Bool.true_and, Bool.not_true, Bool.not_false, decide_true, decide_false, Bool.false_eq_true, reduceCtorEq, and_self, if_false, if_true, hIsi_int_int, hIsi_int_bool, hIsi_int_list, hIsi_int_tuple, hIsi_int_str, hIsi_bool_int, hIsi_bool_bool, hIsi_bool_list, hIsi_bool_tuple, hIsi_bool_str, hIsi_none_int, hIsi_none_bool, hIsi_none_list, hIsi_none_tuple, hIsi_none_str, hIsi_list_int, hIsi_list_bool, hIsi_list_list, hIsi_list_tuple, hIsi_list_str, hIsi_tuple_int, hIsi_tuple_bool, hIsi_tuple_list, hIsi_tuple_tuple, hIsi_tuple_str, hIsi_str_int, hIsi_str_bool, hIsi_str_list, hIsi_str_tuple, hIsi_str_str, hne, q2, List.filter_cons, List.filter_nil, wb]
    · rw [e] at hne
      have wb : wrB K cs ws done a = false := by unfold wrB; rw [e]; rfl
      simp -implicitDefEqProofs (disch := first | omega | (simp only [List.length_map, List.length_append, List.length_cons, List.length_nil, List.length_range, List.length_take, List.length_drop, List.length_replicate, List.length_set, List.length_reverse] <;> omega) | (refine mulC_small ?_; omega) | (refine mulC_smallR ?_; omega) | (refine divC_small ?_ ?_ <;> omega) | (refine powC_small ?_ ?_ ?_ <;> omega)) only [v_run, v_iTp, tup?_tuple, v_sIfM2, k_ifM2_0, k_ifM2_1, v_srtSet, k_srtSet, v_sZ, k_sZ, v_sReb, v_sClr, k_sClr, v_pinF, k_pin, v_iZp3, k_zp3, v_setP, setPK_of, v_appP, k_appP, k_appP1, k_appP2, k_appP3, k_appP4, List.getElem?_cons_zero, List.getElem?_cons_succ, v_lSortP, k_srtP0, v_lRng, k_rng, hRg1_of, v_seq, v_set', v_setL', v_ret', v_retL', v_if', v_for', v_par', v_aug', v_augK, v_tgt', v_sub', v_mut', v_d1, v_d2, v_d3, v_dB, v_dSc, v_dScs, v_cons, v_tup', v_lst', v_dA, v_dAL, v_and', v_or', v_not', v_dT, v_iL, v_iR1, v_iR2, v_iR3, v_iEn, v_iZp, v_lCut, v_lOf, v_lCat, v_lRep, v_lRepE, k_rep0, v_rt', k_rt, v_idx, k_idx, v_lRev, k_rev, v_lSortI, v_lComp, v_oS, b_assoc, k_cmp, k_seq1, k_seq2, k_seq3, k_seq4, k_set, k_setL, k_ret, k_retL, k_if1, k_if2, k_for, k_par, k_aug2, k_tgt, k_tgt2, k_sub, k_sub1, k_sub2, k_sub3, k_mut, k_mut1, k_mut2, k_d2, k_d3, k_d31, k_d321, k_d322, k_bool, k_cons, k_cons2, k_tup, k_lst, k_al, k_and1, k_and2, k_or1, k_or2, k_not, k_dt, k_en, k_zp, k_cut, k_cut1, k_cut2, k_os, k_cat, k_rep, k_srt0, k_srt, k_comp, k_run1, k_run2, k_go1, k_go2, w_turn, w_turnR, w_turnW, w_nx, w_bk, w_ct, w_rN, w_V, w_C, w_nil, w_oN, w_yes, w_gSet, w_gTup, w_gsCons, w_gsNil, w_add, w_subI, w_lt, w_le, w_gt, w_ge, w_neg, w_isN, w_notN, w_n0, w_n1, w_n2, w_n3, w_n4, w_len1, w_len2, w_min2, w_max2, w_int1, w_int2, w_clr, w_ixL, w_ixT, w_sum, w_any, w_kil0, w_kil1, k_sc_int, k_sc_bool, k_sc_none, k_sc_str, k_scs_of, items?_list, items?_tuple, list?_list, cutD_map, all_int, all_int', List.length_map, hApp_of, hExt_of, hIns_of, hCat_of, hRep_of, hR1_of, hR2_of, hR3_of, hMul_of, hDiv_of, hMod_of, p10_3, p10_4, p10_5, p10_6, p10_7, p10_8, p10_9, p10_12, p10_50, p50_3, p50_4, atI_map, k_scs_int, List.getD_cons_zero, List.getD_cons_succ, List.set_cons_zero, List.set_cons_succ, List.map_cons, List.map_nil, List.cons_append, List.nil_append, List.append_nil, List.length_cons, List.length_nil, Option.bind_some, Option.bind_none, Option.map_some, Option.map_none, ↓reduceIte, Nat.reduceAdd, Nat.reduceSub, Int.reduceAdd, Int.reduceSub, Int.reduceMul, Int.reduceNeg, Nat.reduceLeDiff, Nat.reduceLT, Nat.reduceEqDiff, Nat.zero_add, List.reduceReplicate, List.replicate_zero, List.replicate_one, List.replicate_succ, Bool.and_true, Bool.true_and, Bool.not_true, Bool.not_false, decide_true, decide_false, Bool.false_eq_true, reduceCtorEq, and_self, if_false, if_true, hIsi_int_int, hIsi_int_bool, hIsi_int_list, hIsi_int_tuple, hIsi_int_str, hIsi_bool_int, hIsi_bool_bool, hIsi_bool_list, hIsi_bool_tuple, hIsi_bool_str, hIsi_none_int, hIsi_none_bool, hIsi_none_list, hIsi_none_tuple, hIsi_none_str, hIsi_list_int, hIsi_list_bool, hIsi_list_list, hIsi_list_tuple, hIsi_list_str, hIsi_tuple_int, hIsi_tuple_bool, hIsi_tuple_list, hIsi_tuple_tuple, hIsi_tuple_str, hIsi_str_int, hIsi_str_bool, hIsi_str_list, hIsi_str_tuple, hIsi_str_str, hne, List.filter_cons, List.filter_nil, wb]
  · have wnil : wrB K cs ws done [] = false := by
      have : grpF ws [] done = [] := List.filter_eq_nil_iff.mpr fun i _ h => by
        rw [Bool.and_eq_true] at h
        have := of_decide_eq_true h.2
        rw [List.length_nil] at this
        omega
      unfold wrB
      rw [this]
      rfl
    have smem : ∀ b, b ∈ s ↔ b ∈ (subsF cs.length).drop 1 ∧ wrB K cs ws done b = true := fun b => by rw [hs]; exact List.mem_filter
    rcases wrong_spec K cs ws done with ⟨h1, h2⟩ | ⟨a, h1, a1, a2, a3, h2⟩
    · have e : s = [] := by
        rw [hs, List.filter_eq_nil_iff]
        intro b hb hw2
        have bs := subsF_sub cs.length b (List.mem_of_mem_drop hb)
        by_cases hb0 : b = []
        · rw [hb0, wnil] at hw2; cases hw2
        · rw [h2 b bs hb0] at hw2; cases hw2
      have e0 : hEq (.list []) (.list []) = some (.bool true) := hEq_ints [] []
      rw [h1, e]
      simp -implicitDefEqProofs (disch := first | omega | (simp only [List.length_map, List.length_append, List.length_cons, List.length_nil, List.length_range, List.length_take, List.length_drop, List.length_replicate, List.length_set, List.length_reverse] <;> omega) | (refine mulC_small ?_; omega) | (refine mulC_smallR ?_; omega) | (refine divC_small ?_ ?_ <;> omega) | (refine powC_small ?_ ?_ ?_ <;> omega)) only [v_run, v_iTp, tup?_tuple, v_sIfM2, k_ifM2_0, k_ifM2_1, v_srtSet, k_srtSet, v_sZ, k_sZ, v_sReb, v_sClr, k_sClr, v_pinF, k_pin, v_iZp3, k_zp3, v_setP, setPK_of, v_appP, k_appP, k_appP1, k_appP2, k_appP3, k_appP4, List.getElem?_cons_zero, List.getElem?_cons_succ, v_lSortP, k_srtP0, v_lRng, k_rng, hRg1_of, v_seq, v_set', v_setL', v_ret', v_retL', v_if', v_for', v_par', v_aug', v_augK, v_tgt', v_sub', v_mut', v_d1, v_d2, v_d3, v_dB, v_dSc, v_dScs, v_cons, v_tup', v_lst', v_dA, v_dAL, v_and', v_or', v_not', v_dT, v_iL, v_iR1, v_iR2, v_iR3, v_iEn, v_iZp, v_lCut, v_lOf, v_lCat, v_lRep, v_lRepE, k_rep0, v_rt', k_rt, v_idx, k_idx, v_lRev, k_rev, v_lSortI, v_lComp, v_oS, b_assoc, k_cmp, k_seq1, k_seq2, k_seq3, k_seq4, k_set, k_setL, k_ret, k_retL, k_if1, k_if2, k_for, k_par, k_aug2, k_tgt, k_tgt2, k_sub, k_sub1, k_sub2, k_sub3, k_mut, k_mut1, k_mut2, k_d2, k_d3, k_d31, k_d321, k_d322, k_bool, k_cons, k_cons2, k_tup, k_lst, k_al, k_and1, k_and2, k_or1, k_or2, k_not, k_dt, k_en, k_zp, k_cut, k_cut1, k_cut2, k_os, k_cat, k_rep, k_srt0, k_srt, k_comp, k_run1, k_run2, k_go1, k_go2, w_turn, w_turnR, w_turnW, w_nx, w_bk, w_ct, w_rN, w_V, w_C, w_nil, w_oN, w_yes, w_gSet, w_gTup, w_gsCons, w_gsNil, w_add, w_subI, w_lt, w_le, w_gt, w_ge, w_neg, w_isN, w_notN, w_n0, w_n1, w_n2, w_n3, w_n4, w_len1, w_len2, w_min2, w_max2, w_int1, w_int2, w_clr, w_ixL, w_ixT, w_sum, w_any, w_kil0, w_kil1, k_sc_int, k_sc_bool, k_sc_none, k_sc_str, k_scs_of, items?_list, items?_tuple, list?_list, cutD_map, all_int, all_int', List.length_map, hApp_of, hExt_of, hIns_of, hCat_of, hRep_of, hR1_of, hR2_of, hR3_of, hMul_of, hDiv_of, hMod_of, p10_3, p10_4, p10_5, p10_6, p10_7, p10_8, p10_9, p10_12, p10_50, p50_3, p50_4, atI_map, k_scs_int, List.getD_cons_zero, List.getD_cons_succ, List.set_cons_zero, List.set_cons_succ, List.map_cons, List.map_nil, List.cons_append, List.nil_append, List.append_nil, List.length_cons, List.length_nil, Option.bind_some, Option.bind_none, Option.map_some, Option.map_none, ↓reduceIte, Nat.reduceAdd, Nat.reduceSub, Int.reduceAdd, Int.reduceSub, Int.reduceMul, Int.reduceNeg, Nat.reduceLeDiff, Nat.reduceLT, Nat.reduceEqDiff, Nat.zero_add, List.reduceReplicate, List.replicate_zero, List.replicate_one, List.replicate_succ, Bool.and_true, Bool.true_and, Bool.not_true, Bool.not_false, decide_true, decide_false, Bool.false_eq_true, reduceCtorEq, and_self, if_false, if_true, hIsi_int_int, hIsi_int_bool, hIsi_int_list, hIsi_int_tuple, hIsi_int_str, hIsi_bool_int, hIsi_bool_bool, hIsi_bool_list, hIsi_bool_tuple, hIsi_bool_str, hIsi_none_int, hIsi_none_bool, hIsi_none_list, hIsi_none_tuple, hIsi_none_str, hIsi_list_int, hIsi_list_bool, hIsi_list_list, hIsi_list_tuple, hIsi_list_str, hIsi_tuple_int, hIsi_tuple_bool, hIsi_tuple_list, hIsi_tuple_tuple, hIsi_tuple_str, hIsi_str_int, hIsi_str_bool, hIsi_str_list, hIsi_str_tuple, hIsi_str_str, sem_law_due_t2, e0]
      rfl
    · have ain : a ∈ s := (smem a).mpr ⟨sets_all cs.length a a1 a2, a3⟩
      cases hs2 : s with
      | nil => rw [hs2] at ain; cases ain
      | cons x xs =>
        have hm : hMinL [.list ((x :: xs).map (triD ws done))] = some (triD ws done a) := by
          have al := al_tri ws done (x :: xs)
          have mi := minD_is (triD ws done a) (xs.map (triD ws done)) (triD ws done x) (by
            rw [← List.map_cons, ← hs2]
            exact List.mem_map.mpr ⟨a, ain, rfl⟩) (fun y hy hne => by
            rw [← List.map_cons, ← hs2] at hy
            obtain ⟨b, hb, rfl⟩ := List.mem_map.mp hy
            obtain ⟨b1, b2⟩ := (smem b).mp hb
            have hba : b ≠ a := fun z => hne (by rw [z])
            have hb0 : b ≠ [] := fun z => by rw [z, wnil] at b2; cases b2
            exact tri_lt (h2 b (subsF_sub cs.length b (List.mem_of_mem_drop b1)) hb0 b2 hba))
          rw [List.map_cons] at al ⊢
          rw [← mi]
          exact if_pos al
        have e1 := hEq_cons_nil (n := 3) (d := triD ws done x) (ds := xs.map (triD ws done)) (ok_map (triD ws done) (x :: xs) (fun z => ok_tri ws done z)) (by decide)
        rw [h1]
        rw [List.map_cons] at hm ⊢
        have hm2 : hMinL [.list (triD ws done x :: xs.map (triD ws done))] = some (.tuple [.int (a.length : Int), wD a, wD (grpF ws a done)]) := hm
        simp -implicitDefEqProofs (disch := first | omega | (simp only [List.length_map, List.length_append, List.length_cons, List.length_nil, List.length_range, List.length_take, List.length_drop, List.length_replicate, List.length_set, List.length_reverse] <;> omega) | (refine mulC_small ?_; omega) | (refine mulC_smallR ?_; omega) | (refine divC_small ?_ ?_ <;> omega) | (refine powC_small ?_ ?_ ?_ <;> omega)) only [v_run, v_iTp, tup?_tuple, v_sIfM2, k_ifM2_0, k_ifM2_1, v_srtSet, k_srtSet, v_sZ, k_sZ, v_sReb, v_sClr, k_sClr, v_pinF, k_pin, v_iZp3, k_zp3, v_setP, setPK_of, v_appP, k_appP, k_appP1, k_appP2, k_appP3, k_appP4, List.getElem?_cons_zero, List.getElem?_cons_succ, v_lSortP, k_srtP0, v_lRng, k_rng, hRg1_of, v_seq, v_set', v_setL', v_ret', v_retL', v_if', v_for', v_par', v_aug', v_augK, v_tgt', v_sub', v_mut', v_d1, v_d2, v_d3, v_dB, v_dSc, v_dScs, v_cons, v_tup', v_lst', v_dA, v_dAL, v_and', v_or', v_not', v_dT, v_iL, v_iR1, v_iR2, v_iR3, v_iEn, v_iZp, v_lCut, v_lOf, v_lCat, v_lRep, v_lRepE, k_rep0, v_rt', k_rt, v_idx, k_idx, v_lRev, k_rev, v_lSortI, v_lComp, v_oS, b_assoc, k_cmp, k_seq1, k_seq2, k_seq3, k_seq4, k_set, k_setL, k_ret, k_retL, k_if1, k_if2, k_for, k_par, k_aug2, k_tgt, k_tgt2, k_sub, k_sub1, k_sub2, k_sub3, k_mut, k_mut1, k_mut2, k_d2, k_d3, k_d31, k_d321, k_d322, k_bool, k_cons, k_cons2, k_tup, k_lst, k_al, k_and1, k_and2, k_or1, k_or2, k_not, k_dt, k_en, k_zp, k_cut, k_cut1, k_cut2, k_os, k_cat, k_rep, k_srt0, k_srt, k_comp, k_run1, k_run2, k_go1, k_go2, w_turn, w_turnR, w_turnW, w_nx, w_bk, w_ct, w_rN, w_V, w_C, w_nil, w_oN, w_yes, w_gSet, w_gTup, w_gsCons, w_gsNil, w_add, w_subI, w_lt, w_le, w_gt, w_ge, w_neg, w_isN, w_notN, w_n0, w_n1, w_n2, w_n3, w_n4, w_len1, w_len2, w_min2, w_max2, w_int1, w_int2, w_clr, w_ixL, w_ixT, w_sum, w_any, w_kil0, w_kil1, k_sc_int, k_sc_bool, k_sc_none, k_sc_str, k_scs_of, items?_list, items?_tuple, list?_list, cutD_map, all_int, all_int', List.length_map, hApp_of, hExt_of, hIns_of, hCat_of, hRep_of, hR1_of, hR2_of, hR3_of, hMul_of, hDiv_of, hMod_of, p10_3, p10_4, p10_5, p10_6, p10_7, p10_8, p10_9, p10_12, p10_50, p50_3, p50_4, atI_map, k_scs_int, List.getD_cons_zero, List.getD_cons_succ, List.set_cons_zero, List.set_cons_succ, List.map_cons, List.map_nil, List.cons_append, List.nil_append, List.append_nil, List.length_cons, List.length_nil, Option.bind_some, Option.bind_none, Option.map_some, Option.map_none, ↓reduceIte, Nat.reduceAdd, Nat.reduceSub, Int.reduceAdd, Int.reduceSub, Int.reduceMul, Int.reduceNeg, Nat.reduceLeDiff, Nat.reduceLT, Nat.reduceEqDiff, Nat.zero_add, List.reduceReplicate, List.replicate_zero, List.replicate_one, List.replicate_succ, Bool.and_true, Bool.true_and, Bool.not_true, Bool.not_false, decide_true, decide_false, Bool.false_eq_true, reduceCtorEq, and_self, if_false, if_true, hIsi_int_int, hIsi_int_bool, hIsi_int_list, hIsi_int_tuple, hIsi_int_str, hIsi_bool_int, hIsi_bool_bool, hIsi_bool_list, hIsi_bool_tuple, hIsi_bool_str, hIsi_none_int, hIsi_none_bool, hIsi_none_list, hIsi_none_tuple, hIsi_none_str, hIsi_list_int, hIsi_list_bool, hIsi_list_list, hIsi_list_tuple, hIsi_list_str, hIsi_tuple_int, hIsi_tuple_bool, hIsi_tuple_list, hIsi_tuple_tuple, hIsi_tuple_str, hIsi_str_int, hIsi_str_bool, hIsi_str_list, hIsi_str_tuple, hIsi_str_str, sem_law_due_t2, e1, sem_law_due_t3, hm2]
        rfl
theorem alike_ev (ws : List (List Nat)) (done : List Nat) (o : Option (List Nat)) (hl : ∀ a, o = some a → a.length ≤ 1000) (hv : ws.length ≤ 1000) : sem_law_alike [ond (o.map (pairD ws done)), ond (o.map (pairD ws done))] = some (.bool true) := by
  cases o with
  | none => simp -implicitDefEqProofs (disch := first | omega | (simp only [List.length_map, List.length_append, List.length_cons, List.length_nil, List.length_range, List.length_take, List.length_drop, List.length_replicate, List.length_set, List.length_reverse] <;> omega) | (refine mulC_small ?_; omega) | (refine mulC_smallR ?_; omega) | (refine divC_small ?_ ?_ <;> omega) | (refine powC_small ?_ ?_ ?_ <;> omega)) only [v_run, v_iTp, tup?_tuple, v_sIfM2, k_ifM2_0, k_ifM2_1, v_srtSet, k_srtSet, v_sZ, k_sZ, v_sReb, v_sClr, k_sClr, v_pinF, k_pin, v_iZp3, k_zp3, v_setP, setPK_of, v_appP, k_appP, k_appP1, k_appP2, k_appP3, k_appP4, List.getElem?_cons_zero, List.getElem?_cons_succ, v_lSortP, k_srtP0, v_lRng, k_rng, hRg1_of, v_seq, v_set', v_setL', v_ret', v_retL', v_if', v_for', v_par', v_aug', v_augK, v_tgt', v_sub', v_mut', v_d1, v_d2, v_d3, v_dB, v_dSc, v_dScs, v_cons, v_tup', v_lst', v_dA, v_dAL, v_and', v_or', v_not', v_dT, v_iL, v_iR1, v_iR2, v_iR3, v_iEn, v_iZp, v_lCut, v_lOf, v_lCat, v_lRep, v_lRepE, k_rep0, v_rt', k_rt, v_idx, k_idx, v_lRev, k_rev, v_lSortI, v_lComp, v_oS, b_assoc, k_cmp, k_seq1, k_seq2, k_seq3, k_seq4, k_set, k_setL, k_ret, k_retL, k_if1, k_if2, k_for, k_par, k_aug2, k_tgt, k_tgt2, k_sub, k_sub1, k_sub2, k_sub3, k_mut, k_mut1, k_mut2, k_d2, k_d3, k_d31, k_d321, k_d322, k_bool, k_cons, k_cons2, k_tup, k_lst, k_al, k_and1, k_and2, k_or1, k_or2, k_not, k_dt, k_en, k_zp, k_cut, k_cut1, k_cut2, k_os, k_cat, k_rep, k_srt0, k_srt, k_comp, k_run1, k_run2, k_go1, k_go2, w_turn, w_turnR, w_turnW, w_nx, w_bk, w_ct, w_rN, w_V, w_C, w_nil, w_oN, w_yes, w_gSet, w_gTup, w_gsCons, w_gsNil, w_add, w_subI, w_lt, w_le, w_gt, w_ge, w_neg, w_isN, w_notN, w_n0, w_n1, w_n2, w_n3, w_n4, w_len1, w_len2, w_min2, w_max2, w_int1, w_int2, w_clr, w_ixL, w_ixT, w_sum, w_any, w_kil0, w_kil1, k_sc_int, k_sc_bool, k_sc_none, k_sc_str, k_scs_of, items?_list, items?_tuple, list?_list, cutD_map, all_int, all_int', List.length_map, hApp_of, hExt_of, hIns_of, hCat_of, hRep_of, hR1_of, hR2_of, hR3_of, hMul_of, hDiv_of, hMod_of, p10_3, p10_4, p10_5, p10_6, p10_7, p10_8, p10_9, p10_12, p10_50, p50_3, p50_4, atI_map, k_scs_int, List.getD_cons_zero, List.getD_cons_succ, List.set_cons_zero, List.set_cons_succ, List.map_cons, List.map_nil, List.cons_append, List.nil_append, List.append_nil, List.length_cons, List.length_nil, Option.bind_some, Option.bind_none, Option.map_some, Option.map_none, ↓reduceIte, Nat.reduceAdd, Nat.reduceSub, Int.reduceAdd, Int.reduceSub, Int.reduceMul, Int.reduceNeg, Nat.reduceLeDiff, Nat.reduceLT, Nat.reduceEqDiff, Nat.zero_add, List.reduceReplicate, List.replicate_zero, List.replicate_one, List.replicate_succ, Bool.and_true, Bool.true_and, Bool.not_true, Bool.not_false, decide_true, decide_false, Bool.false_eq_true, reduceCtorEq, and_self, if_false, if_true, hIsi_int_int, hIsi_int_bool, hIsi_int_list, hIsi_int_tuple, hIsi_int_str, hIsi_bool_int, hIsi_bool_bool, hIsi_bool_list, hIsi_bool_tuple, hIsi_bool_str, hIsi_none_int, hIsi_none_bool, hIsi_none_list, hIsi_none_tuple, hIsi_none_str, hIsi_list_int, hIsi_list_bool, hIsi_list_list, hIsi_list_tuple, hIsi_list_str, hIsi_tuple_int, hIsi_tuple_bool, hIsi_tuple_list, hIsi_tuple_tuple, hIsi_tuple_str, hIsi_str_int, hIsi_str_bool, hIsi_str_list, hIsi_str_tuple, hIsi_str_str, sem_law_alike, ond, Option.map_none]
  | some a =>
    have la := hl a rfl
    have lg := grpF_len ws a done
    have okp : okD 2 (pairD ws done a) := okD_tuple fun d hd => by
      simp only [List.mem_cons, List.not_mem_nil, or_false] at hd
      rcases hd with rfl | rfl <;> exact ok_wD _
    have e2 : (((2 : Nat) : Int) == 2) = true := rfl
    have he := hEq_self okp (by decide)
    unfold pairD at he
    simp -implicitDefEqProofs (disch := first | omega | (simp only [List.length_map, List.length_append, List.length_cons, List.length_nil, List.length_range, List.length_take, List.length_drop, List.length_replicate, List.length_set, List.length_reverse] <;> omega) | (refine mulC_small ?_; omega) | (refine mulC_smallR ?_; omega) | (refine divC_small ?_ ?_ <;> omega) | (refine powC_small ?_ ?_ ?_ <;> omega)) only [v_run, v_iTp, tup?_tuple, v_sIfM2, k_ifM2_0, k_ifM2_1, v_srtSet, k_srtSet, v_sZ, k_sZ, v_sReb, v_sClr, k_sClr, v_pinF, k_pin, v_iZp3, k_zp3, v_setP, setPK_of, v_appP, k_appP, k_appP1, k_appP2, k_appP3, k_appP4, List.getElem?_cons_zero, List.getElem?_cons_succ, v_lSortP, k_srtP0, v_lRng, k_rng, hRg1_of, v_seq, v_set', v_setL', v_ret', v_retL', v_if', v_for', v_par', v_aug', v_augK, v_tgt', v_sub', v_mut', v_d1, v_d2, v_d3, v_dB, v_dSc, v_dScs, v_cons, v_tup', v_lst', v_dA, v_dAL, v_and', v_or', v_not', v_dT, v_iL, v_iR1, v_iR2, v_iR3, v_iEn, v_iZp, v_lCut, v_lOf, v_lCat, v_lRep, v_lRepE, k_rep0, v_rt', k_rt, v_idx, k_idx, v_lRev, k_rev, v_lSortI, v_lComp, v_oS, b_assoc, k_cmp, k_seq1, k_seq2, k_seq3, k_seq4, k_set, k_setL, k_ret, k_retL, k_if1, k_if2, k_for, k_par, k_aug2, k_tgt, k_tgt2, k_sub, k_sub1, k_sub2, k_sub3, k_mut, k_mut1, k_mut2, k_d2, k_d3, k_d31, k_d321, k_d322, k_bool, k_cons, k_cons2, k_tup, k_lst, k_al, k_and1, k_and2, k_or1, k_or2, k_not, k_dt, k_en, k_zp, k_cut, k_cut1, k_cut2, k_os, k_cat, k_rep, k_srt0, k_srt, k_comp, k_run1, k_run2, k_go1, k_go2, w_turn, w_turnR, w_turnW, w_nx, w_bk, w_ct, w_rN, w_V, w_C, w_nil, w_oN, w_yes, w_gSet, w_gTup, w_gsCons, w_gsNil, w_add, w_subI, w_lt, w_le, w_gt, w_ge, w_neg, w_isN, w_notN, w_n0, w_n1, w_n2, w_n3, w_n4, w_len1, w_len2, w_min2, w_max2, w_int1, w_int2, w_clr, w_ixL, w_ixT, w_sum, w_any, w_kil0, w_kil1, k_sc_int, k_sc_bool, k_sc_none, k_sc_str, k_scs_of, items?_list, items?_tuple, list?_list, cutD_map, all_int, all_int', List.length_map, hApp_of, hExt_of, hIns_of, hCat_of, hRep_of, hR1_of, hR2_of, hR3_of, hMul_of, hDiv_of, hMod_of, p10_3, p10_4, p10_5, p10_6, p10_7, p10_8, p10_9, p10_12, p10_50, p50_3, p50_4, atI_map, k_scs_int, List.getD_cons_zero, List.getD_cons_succ, List.set_cons_zero, List.set_cons_succ, List.map_cons, List.map_nil, List.cons_append, List.nil_append, List.append_nil, List.length_cons, List.length_nil, Option.bind_some, Option.bind_none, Option.map_some, Option.map_none, ↓reduceIte, Nat.reduceAdd, Nat.reduceSub, Int.reduceAdd, Int.reduceSub, Int.reduceMul, Int.reduceNeg, Nat.reduceLeDiff, Nat.reduceLT, Nat.reduceEqDiff, Nat.zero_add, List.reduceReplicate, List.replicate_zero, List.replicate_one, List.replicate_succ, Bool.and_true, Bool.true_and, Bool.not_true, Bool.not_false, decide_true, decide_false, Bool.false_eq_true, reduceCtorEq, and_self, if_false, if_true, hIsi_int_int, hIsi_int_bool, hIsi_int_list, hIsi_int_tuple, hIsi_int_str, hIsi_bool_int, hIsi_bool_bool, hIsi_bool_list, hIsi_bool_tuple, hIsi_bool_str, hIsi_none_int, hIsi_none_bool, hIsi_none_list, hIsi_none_tuple, hIsi_none_str, hIsi_list_int, hIsi_list_bool, hIsi_list_list, hIsi_list_tuple, hIsi_list_str, hIsi_tuple_int, hIsi_tuple_bool, hIsi_tuple_list, hIsi_tuple_tuple, hIsi_tuple_str, hIsi_str_int, hIsi_str_bool, hIsi_str_list, hIsi_str_tuple, hIsi_str_str, sem_law_alike, ond, Option.map_some, pairD, sem_law_alike_t1, hNe_int, e2, Int.reduceBEq, sem_law_alike_t2]
    refine b_same (cv := wD) [a, grpF ws a done] (fun l hlm => ?_) ?_
    · have ll : l.length ≤ 1000 := by
        rcases List.mem_cons.mp hlm with z | z
        · rw [z]; exact la
        · rw [List.mem_singleton.mp z]; omega
      simp -implicitDefEqProofs (disch := first | omega | (simp only [List.length_map, List.length_append, List.length_cons, List.length_nil, List.length_range, List.length_take, List.length_drop, List.length_replicate, List.length_set, List.length_reverse] <;> omega) | (refine mulC_small ?_; omega) | (refine mulC_smallR ?_; omega) | (refine divC_small ?_ ?_ <;> omega) | (refine powC_small ?_ ?_ ?_ <;> omega)) only [v_run, v_iTp, tup?_tuple, v_sIfM2, k_ifM2_0, k_ifM2_1, v_srtSet, k_srtSet, v_sZ, k_sZ, v_sReb, v_sClr, k_sClr, v_pinF, k_pin, v_iZp3, k_zp3, v_setP, setPK_of, v_appP, k_appP, k_appP1, k_appP2, k_appP3, k_appP4, List.getElem?_cons_zero, List.getElem?_cons_succ, v_lSortP, k_srtP0, v_lRng, k_rng, hRg1_of, v_seq, v_set', v_setL', v_ret', v_retL', v_if', v_for', v_par', v_aug', v_augK, v_tgt', v_sub', v_mut', v_d1, v_d2, v_d3, v_dB, v_dSc, v_dScs, v_cons, v_tup', v_lst', v_dA, v_dAL, v_and', v_or', v_not', v_dT, v_iL, v_iR1, v_iR2, v_iR3, v_iEn, v_iZp, v_lCut, v_lOf, v_lCat, v_lRep, v_lRepE, k_rep0, v_rt', k_rt, v_idx, k_idx, v_lRev, k_rev, v_lSortI, v_lComp, v_oS, b_assoc, k_cmp, k_seq1, k_seq2, k_seq3, k_seq4, k_set, k_setL, k_ret, k_retL, k_if1, k_if2, k_for, k_par, k_aug2, k_tgt, k_tgt2, k_sub, k_sub1, k_sub2, k_sub3, k_mut, k_mut1, k_mut2, k_d2, k_d3, k_d31, k_d321, k_d322, k_bool, k_cons, k_cons2, k_tup, k_lst, k_al, k_and1, k_and2, k_or1, k_or2, k_not, k_dt, k_en, k_zp, k_cut, k_cut1, k_cut2, k_os, k_cat, k_rep, k_srt0, k_srt, k_comp, k_run1, k_run2, k_go1, k_go2, w_turn, w_turnR, w_turnW, w_nx, w_bk, w_ct, w_rN, w_V, w_C, w_nil, w_oN, w_yes, w_gSet, w_gTup, w_gsCons, w_gsNil, w_add, w_subI, w_lt, w_le, w_gt, w_ge, w_neg, w_isN, w_notN, w_n0, w_n1, w_n2, w_n3, w_n4, w_len1, w_len2, w_min2, w_max2, w_int1, w_int2, w_clr, w_ixL, w_ixT, w_sum, w_any, w_kil0, w_kil1, k_sc_int, k_sc_bool, k_sc_none, k_sc_str, k_scs_of, items?_list, items?_tuple, list?_list, cutD_map, all_int, all_int', List.length_map, hApp_of, hExt_of, hIns_of, hCat_of, hRep_of, hR1_of, hR2_of, hR3_of, hMul_of, hDiv_of, hMod_of, p10_3, p10_4, p10_5, p10_6, p10_7, p10_8, p10_9, p10_12, p10_50, p50_3, p50_4, atI_map, k_scs_int, List.getD_cons_zero, List.getD_cons_succ, List.set_cons_zero, List.set_cons_succ, List.map_cons, List.map_nil, List.cons_append, List.nil_append, List.append_nil, List.length_cons, List.length_nil, Option.bind_some, Option.bind_none, Option.map_some, Option.map_none, ↓reduceIte, Nat.reduceAdd, Nat.reduceSub, Int.reduceAdd, Int.reduceSub, Int.reduceMul, Int.reduceNeg, Nat.reduceLeDiff, Nat.reduceLT, Nat.reduceEqDiff, Nat.zero_add, List.reduceReplicate, List.replicate_zero, List.replicate_one, List.replicate_succ, Bool.and_true, Bool.true_and, Bool.not_true, Bool.not_false, decide_true, decide_false, Bool.false_eq_true, reduceCtorEq, and_self, if_false, if_true, hIsi_int_int, hIsi_int_bool, hIsi_int_list, hIsi_int_tuple, hIsi_int_str, hIsi_bool_int, hIsi_bool_bool, hIsi_bool_list, hIsi_bool_tuple, hIsi_bool_str, hIsi_none_int, hIsi_none_bool, hIsi_none_list, hIsi_none_tuple, hIsi_none_str, hIsi_list_int, hIsi_list_bool, hIsi_list_list, hIsi_list_tuple, hIsi_list_str, hIsi_tuple_int, hIsi_tuple_bool, hIsi_tuple_list, hIsi_tuple_tuple, hIsi_tuple_str, hIsi_str_int, hIsi_str_bool, hIsi_str_list, hIsi_str_tuple, hIsi_str_str, wD]
      refine b_filter (cv := ni) ni (fun _ => false) l (by omega) (fun w _ => ⟨_, rfl, ?_, fun z => by cases z⟩) ?_
      · simp -implicitDefEqProofs (disch := first | omega | (simp only [List.length_map, List.length_append, List.length_cons, List.length_nil, List.length_range, List.length_take, List.length_drop, List.length_replicate, List.length_set, List.length_reverse] <;> omega) | (refine mulC_small ?_; omega) | (refine mulC_smallR ?_; omega) | (refine divC_small ?_ ?_ <;> omega) | (refine powC_small ?_ ?_ ?_ <;> omega)) only [v_run, v_iTp, tup?_tuple, v_sIfM2, k_ifM2_0, k_ifM2_1, v_srtSet, k_srtSet, v_sZ, k_sZ, v_sReb, v_sClr, k_sClr, v_pinF, k_pin, v_iZp3, k_zp3, v_setP, setPK_of, v_appP, k_appP, k_appP1, k_appP2, k_appP3, k_appP4, List.getElem?_cons_zero, List.getElem?_cons_succ, v_lSortP, k_srtP0, v_lRng, k_rng, hRg1_of, v_seq, v_set', v_setL', v_ret', v_retL', v_if', v_for', v_par', v_aug', v_augK, v_tgt', v_sub', v_mut', v_d1, v_d2, v_d3, v_dB, v_dSc, v_dScs, v_cons, v_tup', v_lst', v_dA, v_dAL, v_and', v_or', v_not', v_dT, v_iL, v_iR1, v_iR2, v_iR3, v_iEn, v_iZp, v_lCut, v_lOf, v_lCat, v_lRep, v_lRepE, k_rep0, v_rt', k_rt, v_idx, k_idx, v_lRev, k_rev, v_lSortI, v_lComp, v_oS, b_assoc, k_cmp, k_seq1, k_seq2, k_seq3, k_seq4, k_set, k_setL, k_ret, k_retL, k_if1, k_if2, k_for, k_par, k_aug2, k_tgt, k_tgt2, k_sub, k_sub1, k_sub2, k_sub3, k_mut, k_mut1, k_mut2, k_d2, k_d3, k_d31, k_d321, k_d322, k_bool, k_cons, k_cons2, k_tup, k_lst, k_al, k_and1, k_and2, k_or1, k_or2, k_not, k_dt, k_en, k_zp, k_cut, k_cut1, k_cut2, k_os, k_cat, k_rep, k_srt0, k_srt, k_comp, k_run1, k_run2, k_go1, k_go2, w_turn, w_turnR, w_turnW, w_nx, w_bk, w_ct, w_rN, w_V, w_C, w_nil, w_oN, w_yes, w_gSet, w_gTup, w_gsCons, w_gsNil, w_add, w_subI, w_lt, w_le, w_gt, w_ge, w_neg, w_isN, w_notN, w_n0, w_n1, w_n2, w_n3, w_n4, w_len1, w_len2, w_min2, w_max2, w_int1, w_int2, w_clr, w_ixL, w_ixT, w_sum, w_any, w_kil0, w_kil1, k_sc_int, k_sc_bool, k_sc_none, k_sc_str, k_scs_of, items?_list, items?_tuple, list?_list, cutD_map, all_int, all_int', List.length_map, hApp_of, hExt_of, hIns_of, hCat_of, hRep_of, hR1_of, hR2_of, hR3_of, hMul_of, hDiv_of, hMod_of, p10_3, p10_4, p10_5, p10_6, p10_7, p10_8, p10_9, p10_12, p10_50, p50_3, p50_4, atI_map, k_scs_int, List.getD_cons_zero, List.getD_cons_succ, List.set_cons_zero, List.set_cons_succ, List.map_cons, List.map_nil, List.cons_append, List.nil_append, List.append_nil, List.length_cons, List.length_nil, Option.bind_some, Option.bind_none, Option.map_some, Option.map_none, ↓reduceIte, Nat.reduceAdd, Nat.reduceSub, Int.reduceAdd, Int.reduceSub, Int.reduceMul, Int.reduceNeg, Nat.reduceLeDiff, Nat.reduceLT, Nat.reduceEqDiff, Nat.zero_add, List.reduceReplicate, List.replicate_zero, List.replicate_one, List.replicate_succ, Bool.and_true, Bool.true_and, Bool.not_true, Bool.not_false, decide_true, decide_false, Bool.false_eq_true, reduceCtorEq, and_self, if_false, if_true, hIsi_int_int, hIsi_int_bool, hIsi_int_list, hIsi_int_tuple, hIsi_int_str, hIsi_bool_int, hIsi_bool_bool, hIsi_bool_list, hIsi_bool_tuple, hIsi_bool_str, hIsi_none_int, hIsi_none_bool, hIsi_none_list, hIsi_none_tuple, hIsi_none_str, hIsi_list_int, hIsi_list_bool, hIsi_list_list, hIsi_list_tuple, hIsi_list_str, hIsi_tuple_int, hIsi_tuple_bool, hIsi_tuple_list, hIsi_tuple_tuple, hIsi_tuple_str, hIsi_str_int, hIsi_str_bool, hIsi_str_list, hIsi_str_tuple, hIsi_str_str, ni, whole_ev]
      rw [show l.filter (fun _ => false) = [] by simp]
      simp -implicitDefEqProofs (disch := first | omega | (simp only [List.length_map, List.length_append, List.length_cons, List.length_nil, List.length_range, List.length_take, List.length_drop, List.length_replicate, List.length_set, List.length_reverse] <;> omega) | (refine mulC_small ?_; omega) | (refine mulC_smallR ?_; omega) | (refine divC_small ?_ ?_ <;> omega) | (refine powC_small ?_ ?_ ?_ <;> omega)) only [v_run, v_iTp, tup?_tuple, v_sIfM2, k_ifM2_0, k_ifM2_1, v_srtSet, k_srtSet, v_sZ, k_sZ, v_sReb, v_sClr, k_sClr, v_pinF, k_pin, v_iZp3, k_zp3, v_setP, setPK_of, v_appP, k_appP, k_appP1, k_appP2, k_appP3, k_appP4, List.getElem?_cons_zero, List.getElem?_cons_succ, v_lSortP, k_srtP0, v_lRng, k_rng, hRg1_of, v_seq, v_set', v_setL', v_ret', v_retL', v_if', v_for', v_par', v_aug', v_augK, v_tgt', v_sub', v_mut', v_d1, v_d2, v_d3, v_dB, v_dSc, v_dScs, v_cons, v_tup', v_lst', v_dA, v_dAL, v_and', v_or', v_not', v_dT, v_iL, v_iR1, v_iR2, v_iR3, v_iEn, v_iZp, v_lCut, v_lOf, v_lCat, v_lRep, v_lRepE, k_rep0, v_rt', k_rt, v_idx, k_idx, v_lRev, k_rev, v_lSortI, v_lComp, v_oS, b_assoc, k_cmp, k_seq1, k_seq2, k_seq3, k_seq4, k_set, k_setL, k_ret, k_retL, k_if1, k_if2, k_for, k_par, k_aug2, k_tgt, k_tgt2, k_sub, k_sub1, k_sub2, k_sub3, k_mut, k_mut1, k_mut2, k_d2, k_d3, k_d31, k_d321, k_d322, k_bool, k_cons, k_cons2, k_tup, k_lst, k_al, k_and1, k_and2, k_or1, k_or2, k_not, k_dt, k_en, k_zp, k_cut, k_cut1, k_cut2, k_os, k_cat, k_rep, k_srt0, k_srt, k_comp, k_run1, k_run2, k_go1, k_go2, w_turn, w_turnR, w_turnW, w_nx, w_bk, w_ct, w_rN, w_V, w_C, w_nil, w_oN, w_yes, w_gSet, w_gTup, w_gsCons, w_gsNil, w_add, w_subI, w_lt, w_le, w_gt, w_ge, w_neg, w_isN, w_notN, w_n0, w_n1, w_n2, w_n3, w_n4, w_len1, w_len2, w_min2, w_max2, w_int1, w_int2, w_clr, w_ixL, w_ixT, w_sum, w_any, w_kil0, w_kil1, k_sc_int, k_sc_bool, k_sc_none, k_sc_str, k_scs_of, items?_list, items?_tuple, list?_list, cutD_map, all_int, all_int', List.length_map, hApp_of, hExt_of, hIns_of, hCat_of, hRep_of, hR1_of, hR2_of, hR3_of, hMul_of, hDiv_of, hMod_of, p10_3, p10_4, p10_5, p10_6, p10_7, p10_8, p10_9, p10_12, p10_50, p50_3, p50_4, atI_map, k_scs_int, List.getD_cons_zero, List.getD_cons_succ, List.set_cons_zero, List.set_cons_succ, List.map_cons, List.map_nil, List.cons_append, List.nil_append, List.append_nil, List.length_cons, List.length_nil, Option.bind_some, Option.bind_none, Option.map_some, Option.map_none, ↓reduceIte, Nat.reduceAdd, Nat.reduceSub, Int.reduceAdd, Int.reduceSub, Int.reduceMul, Int.reduceNeg, Nat.reduceLeDiff, Nat.reduceLT, Nat.reduceEqDiff, Nat.zero_add, List.reduceReplicate, List.replicate_zero, List.replicate_one, List.replicate_succ, Bool.and_true, Bool.true_and, Bool.not_true, Bool.not_false, decide_true, decide_false, Bool.false_eq_true, reduceCtorEq, and_self, if_false, if_true, hIsi_int_int, hIsi_int_bool, hIsi_int_list, hIsi_int_tuple, hIsi_int_str, hIsi_bool_int, hIsi_bool_bool, hIsi_bool_list, hIsi_bool_tuple, hIsi_bool_str, hIsi_none_int, hIsi_none_bool, hIsi_none_list, hIsi_none_tuple, hIsi_none_str, hIsi_list_int, hIsi_list_bool, hIsi_list_list, hIsi_list_tuple, hIsi_list_str, hIsi_tuple_int, hIsi_tuple_bool, hIsi_tuple_list, hIsi_tuple_tuple, hIsi_tuple_str, hIsi_str_int, hIsi_str_bool, hIsi_str_list, hIsi_str_tuple, hIsi_str_str, hNe_nil2]
    · simp -implicitDefEqProofs (disch := first | omega | (simp only [List.length_map, List.length_append, List.length_cons, List.length_nil, List.length_range, List.length_take, List.length_drop, List.length_replicate, List.length_set, List.length_reverse] <;> omega) | (refine mulC_small ?_; omega) | (refine mulC_smallR ?_; omega) | (refine divC_small ?_ ?_ <;> omega) | (refine powC_small ?_ ?_ ?_ <;> omega)) only [v_run, v_iTp, tup?_tuple, v_sIfM2, k_ifM2_0, k_ifM2_1, v_srtSet, k_srtSet, v_sZ, k_sZ, v_sReb, v_sClr, k_sClr, v_pinF, k_pin, v_iZp3, k_zp3, v_setP, setPK_of, v_appP, k_appP, k_appP1, k_appP2, k_appP3, k_appP4, List.getElem?_cons_zero, List.getElem?_cons_succ, v_lSortP, k_srtP0, v_lRng, k_rng, hRg1_of, v_seq, v_set', v_setL', v_ret', v_retL', v_if', v_for', v_par', v_aug', v_augK, v_tgt', v_sub', v_mut', v_d1, v_d2, v_d3, v_dB, v_dSc, v_dScs, v_cons, v_tup', v_lst', v_dA, v_dAL, v_and', v_or', v_not', v_dT, v_iL, v_iR1, v_iR2, v_iR3, v_iEn, v_iZp, v_lCut, v_lOf, v_lCat, v_lRep, v_lRepE, k_rep0, v_rt', k_rt, v_idx, k_idx, v_lRev, k_rev, v_lSortI, v_lComp, v_oS, b_assoc, k_cmp, k_seq1, k_seq2, k_seq3, k_seq4, k_set, k_setL, k_ret, k_retL, k_if1, k_if2, k_for, k_par, k_aug2, k_tgt, k_tgt2, k_sub, k_sub1, k_sub2, k_sub3, k_mut, k_mut1, k_mut2, k_d2, k_d3, k_d31, k_d321, k_d322, k_bool, k_cons, k_cons2, k_tup, k_lst, k_al, k_and1, k_and2, k_or1, k_or2, k_not, k_dt, k_en, k_zp, k_cut, k_cut1, k_cut2, k_os, k_cat, k_rep, k_srt0, k_srt, k_comp, k_run1, k_run2, k_go1, k_go2, w_turn, w_turnR, w_turnW, w_nx, w_bk, w_ct, w_rN, w_V, w_C, w_nil, w_oN, w_yes, w_gSet, w_gTup, w_gsCons, w_gsNil, w_add, w_subI, w_lt, w_le, w_gt, w_ge, w_neg, w_isN, w_notN, w_n0, w_n1, w_n2, w_n3, w_n4, w_len1, w_len2, w_min2, w_max2, w_int1, w_int2, w_clr, w_ixL, w_ixT, w_sum, w_any, w_kil0, w_kil1, k_sc_int, k_sc_bool, k_sc_none, k_sc_str, k_scs_of, items?_list, items?_tuple, list?_list, cutD_map, all_int, all_int', List.length_map, hApp_of, hExt_of, hIns_of, hCat_of, hRep_of, hR1_of, hR2_of, hR3_of, hMul_of, hDiv_of, hMod_of, p10_3, p10_4, p10_5, p10_6, p10_7, p10_8, p10_9, p10_12, p10_50, p50_3, p50_4, atI_map, k_scs_int, List.getD_cons_zero, List.getD_cons_succ, List.set_cons_zero, List.set_cons_succ, List.map_cons, List.map_nil, List.cons_append, List.nil_append, List.append_nil, List.length_cons, List.length_nil, Option.bind_some, Option.bind_none, Option.map_some, Option.map_none, ↓reduceIte, Nat.reduceAdd, Nat.reduceSub, Int.reduceAdd, Int.reduceSub, Int.reduceMul, Int.reduceNeg, Nat.reduceLeDiff, Nat.reduceLT, Nat.reduceEqDiff, Nat.zero_add, List.reduceReplicate, List.replicate_zero, List.replicate_one, List.replicate_succ, Bool.and_true, Bool.true_and, Bool.not_true, Bool.not_false, decide_true, decide_false, Bool.false_eq_true, reduceCtorEq, and_self, if_false, if_true, hIsi_int_int, hIsi_int_bool, hIsi_int_list, hIsi_int_tuple, hIsi_int_str, hIsi_bool_int, hIsi_bool_bool, hIsi_bool_list, hIsi_bool_tuple, hIsi_bool_str, hIsi_none_int, hIsi_none_bool, hIsi_none_list, hIsi_none_tuple, hIsi_none_str, hIsi_list_int, hIsi_list_bool, hIsi_list_list, hIsi_list_tuple, hIsi_list_str, hIsi_tuple_int, hIsi_tuple_bool, hIsi_tuple_list, hIsi_tuple_tuple, hIsi_tuple_str, hIsi_str_int, hIsi_str_bool, hIsi_str_list, hIsi_str_tuple, hIsi_str_str, sem_law_alike_t3, he]
theorem law_true (ns : List Int) (hl : ns.length ≤ 63) (hb : ∀ z ∈ ns, Builtin.Int.intBits z ≤ 1048576) : sem_law [.list (ns.map PyData.int)] = some (.bool true) := by
  obtain ⟨K, cs, ws, t1, c0, cl, wl1, wl, wsub⟩ := town_ex ns
  have wlen : ∀ i, (ws.getD i []).length ≤ 1000 := fun i => by
    by_cases h : i < ws.length
    · rw [List.getD_eq_getElem?_getD, List.getElem?_eq_getElem h]
      have := (wsub _ (List.getElem_mem h)).length_le
      rw [List.length_range] at this
      show (ws[i]).length ≤ 1000
      omega
    · rw [List.getD_eq_getElem?_getD, List.getElem?_eq_none (by omega)]
      exact Nat.zero_le _
  have d9 : sem_law_draws [.int (cellat ns 2), .int 9] = _ := draws_ev (cellat ns 2) 9 (by decide)
  have at9 : ∀ k : Int, 0 ≤ k → k < 9 → atI (draws (cellat ns 2) 9) k = some (drawf (cellat ns 2) k) := fun k h0 h1 => draws_at _ 9 k h0 (by omega)
  obtain ⟨p, hp⟩ : ∃ p : Nat → Bool, p = fun k : Nat => (drawf (cellat ns 2) 8 % 4 == 1) || (decide (1 < drawf (cellat ns 2) 8 % 4) && (drawf (cellat ns 2) (k : Int) % 2 == 0)) := ⟨_, rfl⟩
  have dl : ((List.range cs.length).filter p).length ≤ 8 := by
    have := List.length_filter_le p (List.range cs.length)
    rw [List.length_range] at this
    omega
  simp -implicitDefEqProofs (disch := first | omega | (simp only [List.length_map, List.length_append, List.length_cons, List.length_nil, List.length_range, List.length_take, List.length_drop, List.length_replicate, List.length_set, List.length_reverse] <;> omega) | (refine mulC_small ?_; omega) | (refine mulC_smallR ?_; omega) | (refine divC_small ?_ ?_ <;> omega) | (refine powC_small ?_ ?_ ?_ <;> omega)) only [v_run, v_iTp, tup?_tuple, v_sIfM2, k_ifM2_0, k_ifM2_1, v_srtSet, k_srtSet, v_sZ, k_sZ, v_sReb, v_sClr, k_sClr, v_pinF, k_pin, v_iZp3, k_zp3, v_setP, setPK_of, v_appP, k_appP, k_appP1, k_appP2, k_appP3, k_appP4, List.getElem?_cons_zero, List.getElem?_cons_succ, v_lSortP, k_srtP0, v_lRng, k_rng, hRg1_of, v_seq, v_set', v_setL', v_ret', v_retL', v_if', v_for', v_par', v_aug', v_augK, v_tgt', v_sub', v_mut', v_d1, v_d2, v_d3, v_dB, v_dSc, v_dScs, v_cons, v_tup', v_lst', v_dA, v_dAL, v_and', v_or', v_not', v_dT, v_iL, v_iR1, v_iR2, v_iR3, v_iEn, v_iZp, v_lCut, v_lOf, v_lCat, v_lRep, v_lRepE, k_rep0, v_rt', k_rt, v_idx, k_idx, v_lRev, k_rev, v_lSortI, v_lComp, v_oS, b_assoc, k_cmp, k_seq1, k_seq2, k_seq3, k_seq4, k_set, k_setL, k_ret, k_retL, k_if1, k_if2, k_for, k_par, k_aug2, k_tgt, k_tgt2, k_sub, k_sub1, k_sub2, k_sub3, k_mut, k_mut1, k_mut2, k_d2, k_d3, k_d31, k_d321, k_d322, k_bool, k_cons, k_cons2, k_tup, k_lst, k_al, k_and1, k_and2, k_or1, k_or2, k_not, k_dt, k_en, k_zp, k_cut, k_cut1, k_cut2, k_os, k_cat, k_rep, k_srt0, k_srt, k_comp, k_run1, k_run2, k_go1, k_go2, w_turn, w_turnR, w_turnW, w_nx, w_bk, w_ct, w_rN, w_V, w_C, w_nil, w_oN, w_yes, w_gSet, w_gTup, w_gsCons, w_gsNil, w_add, w_subI, w_lt, w_le, w_gt, w_ge, w_neg, w_isN, w_notN, w_n0, w_n1, w_n2, w_n3, w_n4, w_len1, w_len2, w_min2, w_max2, w_int1, w_int2, w_clr, w_ixL, w_ixT, w_sum, w_any, w_kil0, w_kil1, k_sc_int, k_sc_bool, k_sc_none, k_sc_str, k_scs_of, items?_list, items?_tuple, list?_list, cutD_map, all_int, all_int', List.length_map, hApp_of, hExt_of, hIns_of, hCat_of, hRep_of, hR1_of, hR2_of, hR3_of, hMul_of, hDiv_of, hMod_of, p10_3, p10_4, p10_5, p10_6, p10_7, p10_8, p10_9, p10_12, p10_50, p50_3, p50_4, atI_map, k_scs_int, List.getD_cons_zero, List.getD_cons_succ, List.set_cons_zero, List.set_cons_succ, List.map_cons, List.map_nil, List.cons_append, List.nil_append, List.append_nil, List.length_cons, List.length_nil, Option.bind_some, Option.bind_none, Option.map_some, Option.map_none, ↓reduceIte, Nat.reduceAdd, Nat.reduceSub, Int.reduceAdd, Int.reduceSub, Int.reduceMul, Int.reduceNeg, Nat.reduceLeDiff, Nat.reduceLT, Nat.reduceEqDiff, Nat.zero_add, List.reduceReplicate, List.replicate_zero, List.replicate_one, List.replicate_succ, Bool.and_true, Bool.true_and, Bool.not_true, Bool.not_false, decide_true, decide_false, Bool.false_eq_true, reduceCtorEq, and_self, if_false, if_true, hIsi_int_int, hIsi_int_bool, hIsi_int_list, hIsi_int_tuple, hIsi_int_str, hIsi_bool_int, hIsi_bool_bool, hIsi_bool_list, hIsi_bool_tuple, hIsi_bool_str, hIsi_none_int, hIsi_none_bool, hIsi_none_list, hIsi_none_tuple, hIsi_none_str, hIsi_list_int, hIsi_list_bool, hIsi_list_list, hIsi_list_tuple, hIsi_list_str, hIsi_tuple_int, hIsi_tuple_bool, hIsi_tuple_list, hIsi_tuple_tuple, hIsi_tuple_str, hIsi_str_int, hIsi_str_bool, hIsi_str_list, hIsi_str_tuple, hIsi_str_str, sem_law, t1, cellat_ev ns 2 (by decide), d9, range_ni]
  rw [Int.toNat_natCast]
  refine b_filter (cv := ni) ni p (List.range cs.length) (by rw [List.length_range]; omega) (fun k hk => ⟨_, rfl, ?_, fun _ => ?_⟩) ?_
  · have := List.mem_range.mp hk
    rw [hp]
    cases e1 : (drawf (cellat ns 2) 8 % 4 == 1)
    · by_cases e2 : 1 < drawf (cellat ns 2) 8 % 4
      · simp -implicitDefEqProofs (disch := first | omega | (simp only [List.length_map, List.length_append, List.length_cons, List.length_nil, List.length_range, List.length_take, List.length_drop, List.length_replicate, List.length_set, List.length_reverse] <;> omega) | (refine mulC_small ?_; omega) | (refine mulC_smallR ?_; omega) | (refine divC_small ?_ ?_ <;> omega) | (refine powC_small ?_ ?_ ?_ <;> omega)) only [v_run, v_iTp, tup?_tuple, v_sIfM2, k_ifM2_0, k_ifM2_1, v_srtSet, k_srtSet, v_sZ, k_sZ, v_sReb, v_sClr, k_sClr, v_pinF, k_pin, v_iZp3, k_zp3, v_setP, setPK_of, v_appP, k_appP, k_appP1, k_appP2, k_appP3, k_appP4, List.getElem?_cons_zero, List.getElem?_cons_succ, v_lSortP, k_srtP0, v_lRng, k_rng, hRg1_of, v_seq, v_set', v_setL', v_ret', v_retL', v_if', v_for', v_par', v_aug', v_augK, v_tgt', v_sub', v_mut', v_d1, v_d2, v_d3, v_dB, v_dSc, v_dScs, v_cons, v_tup', v_lst', v_dA, v_dAL, v_and', v_or', v_not', v_dT, v_iL, v_iR1, v_iR2, v_iR3, v_iEn, v_iZp, v_lCut, v_lOf, v_lCat, v_lRep, v_lRepE, k_rep0, v_rt', k_rt, v_idx, k_idx, v_lRev, k_rev, v_lSortI, v_lComp, v_oS, b_assoc, k_cmp, k_seq1, k_seq2, k_seq3, k_seq4, k_set, k_setL, k_ret, k_retL, k_if1, k_if2, k_for, k_par, k_aug2, k_tgt, k_tgt2, k_sub, k_sub1, k_sub2, k_sub3, k_mut, k_mut1, k_mut2, k_d2, k_d3, k_d31, k_d321, k_d322, k_bool, k_cons, k_cons2, k_tup, k_lst, k_al, k_and1, k_and2, k_or1, k_or2, k_not, k_dt, k_en, k_zp, k_cut, k_cut1, k_cut2, k_os, k_cat, k_rep, k_srt0, k_srt, k_comp, k_run1, k_run2, k_go1, k_go2, w_turn, w_turnR, w_turnW, w_nx, w_bk, w_ct, w_rN, w_V, w_C, w_nil, w_oN, w_yes, w_gSet, w_gTup, w_gsCons, w_gsNil, w_add, w_subI, w_lt, w_le, w_gt, w_ge, w_neg, w_isN, w_notN, w_n0, w_n1, w_n2, w_n3, w_n4, w_len1, w_len2, w_min2, w_max2, w_int1, w_int2, w_clr, w_ixL, w_ixT, w_sum, w_any, w_kil0, w_kil1, k_sc_int, k_sc_bool, k_sc_none, k_sc_str, k_scs_of, items?_list, items?_tuple, list?_list, cutD_map, all_int, all_int', List.length_map, hApp_of, hExt_of, hIns_of, hCat_of, hRep_of, hR1_of, hR2_of, hR3_of, hMul_of, hDiv_of, hMod_of, p10_3, p10_4, p10_5, p10_6, p10_7, p10_8, p10_9, p10_12, p10_50, p50_3, p50_4, atI_map, k_scs_int, List.getD_cons_zero, List.getD_cons_succ, List.set_cons_zero, List.set_cons_succ, List.map_cons, List.map_nil, List.cons_append, List.nil_append, List.append_nil, List.length_cons, List.length_nil, Option.bind_some, Option.bind_none, Option.map_some, Option.map_none, ↓reduceIte, Nat.reduceAdd, Nat.reduceSub, Int.reduceAdd, Int.reduceSub, Int.reduceMul, Int.reduceNeg, Nat.reduceLeDiff, Nat.reduceLT, Nat.reduceEqDiff, Nat.zero_add, List.reduceReplicate, List.replicate_zero, List.replicate_one, List.replicate_succ, Bool.and_true, Bool.true_and, Bool.not_true, Bool.not_false, decide_true, decide_false, Bool.false_eq_true, reduceCtorEq, and_self, if_false, if_true, hIsi_int_int, hIsi_int_bool, hIsi_int_list, hIsi_int_tuple, hIsi_int_str, hIsi_bool_int, hIsi_bool_bool, hIsi_bool_list, hIsi_bool_tuple, hIsi_bool_str, hIsi_none_int, hIsi_none_bool, hIsi_none_list, hIsi_none_tuple, hIsi_none_str, hIsi_list_int, hIsi_list_bool, hIsi_list_list, hIsi_list_tuple, hIsi_list_str, hIsi_tuple_int, hIsi_tuple_bool, hIsi_tuple_list, hIsi_tuple_tuple, hIsi_tuple_str, hIsi_str_int, hIsi_str_bool, hIsi_str_list, hIsi_str_tuple, hIsi_str_str, ni, at9, hEq_int, e1, e2, Bool.false_or]
      · simp -implicitDefEqProofs (disch := first | omega | (simp only [List.length_map, List.length_append, List.length_cons, List.length_nil, List.length_range, List.length_take, List.length_drop, List.length_replicate, List.length_set, List.length_reverse] <;> omega) | (refine mulC_small ?_; omega) | (refine mulC_smallR ?_; omega) | (refine divC_small ?_ ?_ <;> omega) | (refine powC_small ?_ ?_ ?_ <;> omega)) only [v_run, v_iTp, tup?_tuple, v_sIfM2, k_ifM2_0, k_ifM2_1, v_srtSet, k_srtSet, v_sZ, k_sZ, v_sReb, v_sClr, k_sClr, v_pinF, k_pin, v_iZp3, k_zp3, v_setP, setPK_of, v_appP, k_appP, k_appP1, k_appP2, k_appP3, k_appP4, List.getElem?_cons_zero, List.getElem?_cons_succ, v_lSortP, k_srtP0, v_lRng, k_rng, hRg1_of, v_seq, v_set', v_setL', v_ret', v_retL', v_if', v_for', v_par', v_aug', v_augK, v_tgt', v_sub', v_mut', v_d1, v_d2, v_d3, v_dB, v_dSc, v_dScs, v_cons, v_tup', v_lst', v_dA, v_dAL, v_and', v_or', v_not', v_dT, v_iL, v_iR1, v_iR2, v_iR3, v_iEn, v_iZp, v_lCut, v_lOf, v_lCat, v_lRep, v_lRepE, k_rep0, v_rt', k_rt, v_idx, k_idx, v_lRev, k_rev, v_lSortI, v_lComp, v_oS, b_assoc, k_cmp, k_seq1, k_seq2, k_seq3, k_seq4, k_set, k_setL, k_ret, k_retL, k_if1, k_if2, k_for, k_par, k_aug2, k_tgt, k_tgt2, k_sub, k_sub1, k_sub2, k_sub3, k_mut, k_mut1, k_mut2, k_d2, k_d3, k_d31, k_d321, k_d322, k_bool, k_cons, k_cons2, k_tup, k_lst, k_al, k_and1, k_and2, k_or1, k_or2, k_not, k_dt, k_en, k_zp, k_cut, k_cut1, k_cut2, k_os, k_cat, k_rep, k_srt0, k_srt, k_comp, k_run1, k_run2, k_go1, k_go2, w_turn, w_turnR, w_turnW, w_nx, w_bk, w_ct, w_rN, w_V, w_C, w_nil, w_oN, w_yes, w_gSet, w_gTup, w_gsCons, w_gsNil, w_add, w_subI, w_lt, w_le, w_gt, w_ge, w_neg, w_isN, w_notN, w_n0, w_n1, w_n2, w_n3, w_n4, w_len1, w_len2, w_min2, w_max2, w_int1, w_int2, w_clr, w_ixL, w_ixT, w_sum, w_any, w_kil0, w_kil1, k_sc_int, k_sc_bool, k_sc_none, k_sc_str, k_scs_of, items?_list, items?_tuple, list?_list, cutD_map, all_int, all_int', List.length_map, hApp_of, hExt_of, hIns_of, hCat_of, hRep_of, hR1_of, hR2_of, hR3_of, hMul_of, hDiv_of, hMod_of, p10_3, p10_4, p10_5, p10_6, p10_7, p10_8, p10_9, p10_12, p10_50, p50_3, p50_4, atI_map, k_scs_int, List.getD_cons_zero, List.getD_cons_succ, List.set_cons_zero, List.set_cons_succ, List.map_cons, List.map_nil, List.cons_append, List.nil_append, List.append_nil, List.length_cons, List.length_nil, Option.bind_some, Option.bind_none, Option.map_some, Option.map_none, ↓reduceIte, Nat.reduceAdd, Nat.reduceSub, Int.reduceAdd, Int.reduceSub, Int.reduceMul, Int.reduceNeg, Nat.reduceLeDiff, Nat.reduceLT, Nat.reduceEqDiff, Nat.zero_add, List.reduceReplicate, List.replicate_zero, List.replicate_one, List.replicate_succ, Bool.and_true, Bool.true_and, Bool.not_true, Bool.not_false, decide_true, decide_false, Bool.false_eq_true, reduceCtorEq, and_self, if_false, if_true, hIsi_int_int, hIsi_int_bool, hIsi_int_list, hIsi_int_tuple, hIsi_int_str, hIsi_bool_int, hIsi_bool_bool, hIsi_bool_list, hIsi_bool_tuple, hIsi_bool_str, hIsi_none_int, hIsi_none_bool, hIsi_none_list, hIsi_none_tuple, hIsi_none_str, hIsi_list_int, hIsi_list_bool, hIsi_list_list, hIsi_list_tuple, hIsi_list_str, hIsi_tuple_int, hIsi_tuple_bool, hIsi_tuple_list, hIsi_tuple_tuple, hIsi_tuple_str, hIsi_str_int, hIsi_str_bool, hIsi_str_list, hIsi_str_tuple, hIsi_str_str, ni, at9, hEq_int, e1, e2, Bool.false_or, Bool.false_and]
    · simp -implicitDefEqProofs (disch := first | omega | (simp only [List.length_map, List.length_append, List.length_cons, List.length_nil, List.length_range, List.length_take, List.length_drop, List.length_replicate, List.length_set, List.length_reverse] <;> omega) | (refine mulC_small ?_; omega) | (refine mulC_smallR ?_; omega) | (refine divC_small ?_ ?_ <;> omega) | (refine powC_small ?_ ?_ ?_ <;> omega)) only [v_run, v_iTp, tup?_tuple, v_sIfM2, k_ifM2_0, k_ifM2_1, v_srtSet, k_srtSet, v_sZ, k_sZ, v_sReb, v_sClr, k_sClr, v_pinF, k_pin, v_iZp3, k_zp3, v_setP, setPK_of, v_appP, k_appP, k_appP1, k_appP2, k_appP3, k_appP4, List.getElem?_cons_zero, List.getElem?_cons_succ, v_lSortP, k_srtP0, v_lRng, k_rng, hRg1_of, v_seq, v_set', v_setL', v_ret', v_retL', v_if', v_for', v_par', v_aug', v_augK, v_tgt', v_sub', v_mut', v_d1, v_d2, v_d3, v_dB, v_dSc, v_dScs, v_cons, v_tup', v_lst', v_dA, v_dAL, v_and', v_or', v_not', v_dT, v_iL, v_iR1, v_iR2, v_iR3, v_iEn, v_iZp, v_lCut, v_lOf, v_lCat, v_lRep, v_lRepE, k_rep0, v_rt', k_rt, v_idx, k_idx, v_lRev, k_rev, v_lSortI, v_lComp, v_oS, b_assoc, k_cmp, k_seq1, k_seq2, k_seq3, k_seq4, k_set, k_setL, k_ret, k_retL, k_if1, k_if2, k_for, k_par, k_aug2, k_tgt, k_tgt2, k_sub, k_sub1, k_sub2, k_sub3, k_mut, k_mut1, k_mut2, k_d2, k_d3, k_d31, k_d321, k_d322, k_bool, k_cons, k_cons2, k_tup, k_lst, k_al, k_and1, k_and2, k_or1, k_or2, k_not, k_dt, k_en, k_zp, k_cut, k_cut1, k_cut2, k_os, k_cat, k_rep, k_srt0, k_srt, k_comp, k_run1, k_run2, k_go1, k_go2, w_turn, w_turnR, w_turnW, w_nx, w_bk, w_ct, w_rN, w_V, w_C, w_nil, w_oN, w_yes, w_gSet, w_gTup, w_gsCons, w_gsNil, w_add, w_subI, w_lt, w_le, w_gt, w_ge, w_neg, w_isN, w_notN, w_n0, w_n1, w_n2, w_n3, w_n4, w_len1, w_len2, w_min2, w_max2, w_int1, w_int2, w_clr, w_ixL, w_ixT, w_sum, w_any, w_kil0, w_kil1, k_sc_int, k_sc_bool, k_sc_none, k_sc_str, k_scs_of, items?_list, items?_tuple, list?_list, cutD_map, all_int, all_int', List.length_map, hApp_of, hExt_of, hIns_of, hCat_of, hRep_of, hR1_of, hR2_of, hR3_of, hMul_of, hDiv_of, hMod_of, p10_3, p10_4, p10_5, p10_6, p10_7, p10_8, p10_9, p10_12, p10_50, p50_3, p50_4, atI_map, k_scs_int, List.getD_cons_zero, List.getD_cons_succ, List.set_cons_zero, List.set_cons_succ, List.map_cons, List.map_nil, List.cons_append, List.nil_append, List.append_nil, List.length_cons, List.length_nil, Option.bind_some, Option.bind_none, Option.map_some, Option.map_none, ↓reduceIte, Nat.reduceAdd, Nat.reduceSub, Int.reduceAdd, Int.reduceSub, Int.reduceMul, Int.reduceNeg, Nat.reduceLeDiff, Nat.reduceLT, Nat.reduceEqDiff, Nat.zero_add, List.reduceReplicate, List.replicate_zero, List.replicate_one, List.replicate_succ, Bool.and_true, Bool.true_and, Bool.not_true, Bool.not_false, decide_true, decide_false, Bool.false_eq_true, reduceCtorEq, and_self, if_false, if_true, hIsi_int_int, hIsi_int_bool, hIsi_int_list, hIsi_int_tuple, hIsi_int_str, hIsi_bool_int, hIsi_bool_bool, hIsi_bool_list, hIsi_bool_tuple, hIsi_bool_str, hIsi_none_int, hIsi_none_bool, hIsi_none_list, hIsi_none_tuple, hIsi_none_str, hIsi_list_int, hIsi_list_bool, hIsi_list_list, hIsi_list_tuple, hIsi_list_str, hIsi_tuple_int, hIsi_tuple_bool, hIsi_tuple_list, hIsi_tuple_tuple, hIsi_tuple_str, hIsi_str_int, hIsi_str_bool, hIsi_str_list, hIsi_str_tuple, hIsi_str_str, ni, at9, hEq_int, e1, Bool.true_or]
  · simp -implicitDefEqProofs (disch := first | omega | (simp only [List.length_map, List.length_append, List.length_cons, List.length_nil, List.length_range, List.length_take, List.length_drop, List.length_replicate, List.length_set, List.length_reverse] <;> omega) | (refine mulC_small ?_; omega) | (refine mulC_smallR ?_; omega) | (refine divC_small ?_ ?_ <;> omega) | (refine powC_small ?_ ?_ ?_ <;> omega)) only [v_run, v_iTp, tup?_tuple, v_sIfM2, k_ifM2_0, k_ifM2_1, v_srtSet, k_srtSet, v_sZ, k_sZ, v_sReb, v_sClr, k_sClr, v_pinF, k_pin, v_iZp3, k_zp3, v_setP, setPK_of, v_appP, k_appP, k_appP1, k_appP2, k_appP3, k_appP4, List.getElem?_cons_zero, List.getElem?_cons_succ, v_lSortP, k_srtP0, v_lRng, k_rng, hRg1_of, v_seq, v_set', v_setL', v_ret', v_retL', v_if', v_for', v_par', v_aug', v_augK, v_tgt', v_sub', v_mut', v_d1, v_d2, v_d3, v_dB, v_dSc, v_dScs, v_cons, v_tup', v_lst', v_dA, v_dAL, v_and', v_or', v_not', v_dT, v_iL, v_iR1, v_iR2, v_iR3, v_iEn, v_iZp, v_lCut, v_lOf, v_lCat, v_lRep, v_lRepE, k_rep0, v_rt', k_rt, v_idx, k_idx, v_lRev, k_rev, v_lSortI, v_lComp, v_oS, b_assoc, k_cmp, k_seq1, k_seq2, k_seq3, k_seq4, k_set, k_setL, k_ret, k_retL, k_if1, k_if2, k_for, k_par, k_aug2, k_tgt, k_tgt2, k_sub, k_sub1, k_sub2, k_sub3, k_mut, k_mut1, k_mut2, k_d2, k_d3, k_d31, k_d321, k_d322, k_bool, k_cons, k_cons2, k_tup, k_lst, k_al, k_and1, k_and2, k_or1, k_or2, k_not, k_dt, k_en, k_zp, k_cut, k_cut1, k_cut2, k_os, k_cat, k_rep, k_srt0, k_srt, k_comp, k_run1, k_run2, k_go1, k_go2, w_turn, w_turnR, w_turnW, w_nx, w_bk, w_ct, w_rN, w_V, w_C, w_nil, w_oN, w_yes, w_gSet, w_gTup, w_gsCons, w_gsNil, w_add, w_subI, w_lt, w_le, w_gt, w_ge, w_neg, w_isN, w_notN, w_n0, w_n1, w_n2, w_n3, w_n4, w_len1, w_len2, w_min2, w_max2, w_int1, w_int2, w_clr, w_ixL, w_ixT, w_sum, w_any, w_kil0, w_kil1, k_sc_int, k_sc_bool, k_sc_none, k_sc_str, k_scs_of, items?_list, items?_tuple, list?_list, cutD_map, all_int, all_int', List.length_map, hApp_of, hExt_of, hIns_of, hCat_of, hRep_of, hR1_of, hR2_of, hR3_of, hMul_of, hDiv_of, hMod_of, p10_3, p10_4, p10_5, p10_6, p10_7, p10_8, p10_9, p10_12, p10_50, p50_3, p50_4, atI_map, k_scs_int, List.getD_cons_zero, List.getD_cons_succ, List.set_cons_zero, List.set_cons_succ, List.map_cons, List.map_nil, List.cons_append, List.nil_append, List.append_nil, List.length_cons, List.length_nil, Option.bind_some, Option.bind_none, Option.map_some, Option.map_none, ↓reduceIte, Nat.reduceAdd, Nat.reduceSub, Int.reduceAdd, Int.reduceSub, Int.reduceMul, Int.reduceNeg, Nat.reduceLeDiff, Nat.reduceLT, Nat.reduceEqDiff, Nat.zero_add, List.reduceReplicate, List.replicate_zero, List.replicate_one, List.replicate_succ, Bool.and_true, Bool.true_and, Bool.not_true, Bool.not_false, decide_true, decide_false, Bool.false_eq_true, reduceCtorEq, and_self, if_false, if_true, hIsi_int_int, hIsi_int_bool, hIsi_int_list, hIsi_int_tuple, hIsi_int_str, hIsi_bool_int, hIsi_bool_bool, hIsi_bool_list, hIsi_bool_tuple, hIsi_bool_str, hIsi_none_int, hIsi_none_bool, hIsi_none_list, hIsi_none_tuple, hIsi_none_str, hIsi_list_int, hIsi_list_bool, hIsi_list_list, hIsi_list_tuple, hIsi_list_str, hIsi_tuple_int, hIsi_tuple_bool, hIsi_tuple_list, hIsi_tuple_tuple, hIsi_tuple_str, hIsi_str_int, hIsi_str_bool, hIsi_str_list, hIsi_str_tuple, hIsi_str_str, ni]
  generalize (List.range cs.length).filter p = done at dl
  have du := due_ev K cs ws done (by omega) (by omega) wlen
  have wr := wronged_ev K cs ws done (by omega) (by omega) wlen
  obtain ⟨o, ho, hol⟩ : ∃ o : Option (List Nat), wrongF K cs ws done = o.map (pairD ws done) ∧ ∀ a, o = some a → a.length ≤ 1000 := by
    rcases wrong_spec K cs ws done with ⟨h1, _⟩ | ⟨a, h1, a1, _⟩
    · exact ⟨none, h1, fun a z => by cases z⟩
    · refine ⟨some a, h1, fun b z => ?_⟩
      cases z
      have := a1.length_le
      rw [List.length_range] at this
      omega
  rw [ho] at du wr
  have ak := alike_ev ws done o hol (by omega)
  simp -implicitDefEqProofs (disch := first | omega | (simp only [List.length_map, List.length_append, List.length_cons, List.length_nil, List.length_range, List.length_take, List.length_drop, List.length_replicate, List.length_set, List.length_reverse] <;> omega) | (refine mulC_small ?_; omega) | (refine mulC_smallR ?_; omega) | (refine divC_small ?_ ?_ <;> omega) | (refine powC_small ?_ ?_ ?_ <;> omega)) only [v_run, v_iTp, tup?_tuple, v_sIfM2, k_ifM2_0, k_ifM2_1, v_srtSet, k_srtSet, v_sZ, k_sZ, v_sReb, v_sClr, k_sClr, v_pinF, k_pin, v_iZp3, k_zp3, v_setP, setPK_of, v_appP, k_appP, k_appP1, k_appP2, k_appP3, k_appP4, List.getElem?_cons_zero, List.getElem?_cons_succ, v_lSortP, k_srtP0, v_lRng, k_rng, hRg1_of, v_seq, v_set', v_setL', v_ret', v_retL', v_if', v_for', v_par', v_aug', v_augK, v_tgt', v_sub', v_mut', v_d1, v_d2, v_d3, v_dB, v_dSc, v_dScs, v_cons, v_tup', v_lst', v_dA, v_dAL, v_and', v_or', v_not', v_dT, v_iL, v_iR1, v_iR2, v_iR3, v_iEn, v_iZp, v_lCut, v_lOf, v_lCat, v_lRep, v_lRepE, k_rep0, v_rt', k_rt, v_idx, k_idx, v_lRev, k_rev, v_lSortI, v_lComp, v_oS, b_assoc, k_cmp, k_seq1, k_seq2, k_seq3, k_seq4, k_set, k_setL, k_ret, k_retL, k_if1, k_if2, k_for, k_par, k_aug2, k_tgt, k_tgt2, k_sub, k_sub1, k_sub2, k_sub3, k_mut, k_mut1, k_mut2, k_d2, k_d3, k_d31, k_d321, k_d322, k_bool, k_cons, k_cons2, k_tup, k_lst, k_al, k_and1, k_and2, k_or1, k_or2, k_not, k_dt, k_en, k_zp, k_cut, k_cut1, k_cut2, k_os, k_cat, k_rep, k_srt0, k_srt, k_comp, k_run1, k_run2, k_go1, k_go2, w_turn, w_turnR, w_turnW, w_nx, w_bk, w_ct, w_rN, w_V, w_C, w_nil, w_oN, w_yes, w_gSet, w_gTup, w_gsCons, w_gsNil, w_add, w_subI, w_lt, w_le, w_gt, w_ge, w_neg, w_isN, w_notN, w_n0, w_n1, w_n2, w_n3, w_n4, w_len1, w_len2, w_min2, w_max2, w_int1, w_int2, w_clr, w_ixL, w_ixT, w_sum, w_any, w_kil0, w_kil1, k_sc_int, k_sc_bool, k_sc_none, k_sc_str, k_scs_of, items?_list, items?_tuple, list?_list, cutD_map, all_int, all_int', List.length_map, hApp_of, hExt_of, hIns_of, hCat_of, hRep_of, hR1_of, hR2_of, hR3_of, hMul_of, hDiv_of, hMod_of, p10_3, p10_4, p10_5, p10_6, p10_7, p10_8, p10_9, p10_12, p10_50, p50_3, p50_4, atI_map, k_scs_int, List.getD_cons_zero, List.getD_cons_succ, List.set_cons_zero, List.set_cons_succ, List.map_cons, List.map_nil, List.cons_append, List.nil_append, List.append_nil, List.length_cons, List.length_nil, Option.bind_some, Option.bind_none, Option.map_some, Option.map_none, ↓reduceIte, Nat.reduceAdd, Nat.reduceSub, Int.reduceAdd, Int.reduceSub, Int.reduceMul, Int.reduceNeg, Nat.reduceLeDiff, Nat.reduceLT, Nat.reduceEqDiff, Nat.zero_add, List.reduceReplicate, List.replicate_zero, List.replicate_one, List.replicate_succ, Bool.and_true, Bool.true_and, Bool.not_true, Bool.not_false, decide_true, decide_false, Bool.false_eq_true, reduceCtorEq, and_self, if_false, if_true, hIsi_int_int, hIsi_int_bool, hIsi_int_list, hIsi_int_tuple, hIsi_int_str, hIsi_bool_int, hIsi_bool_bool, hIsi_bool_list, hIsi_bool_tuple, hIsi_bool_str, hIsi_none_int, hIsi_none_bool, hIsi_none_list, hIsi_none_tuple, hIsi_none_str, hIsi_list_int, hIsi_list_bool, hIsi_list_list, hIsi_list_tuple, hIsi_list_str, hIsi_tuple_int, hIsi_tuple_bool, hIsi_tuple_list, hIsi_tuple_tuple, hIsi_tuple_str, hIsi_str_int, hIsi_str_bool, hIsi_str_list, hIsi_str_tuple, hIsi_str_str, wD] at du
  simp -implicitDefEqProofs (disch := first | omega | (simp only [List.length_map, List.length_append, List.length_cons, List.length_nil, List.length_range, List.length_take, List.length_drop, List.length_replicate, List.length_set, List.length_reverse] <;> omega) | (refine mulC_small ?_; omega) | (refine mulC_smallR ?_; omega) | (refine divC_small ?_ ?_ <;> omega) | (refine powC_small ?_ ?_ ?_ <;> omega)) only [v_run, v_iTp, tup?_tuple, v_sIfM2, k_ifM2_0, k_ifM2_1, v_srtSet, k_srtSet, v_sZ, k_sZ, v_sReb, v_sClr, k_sClr, v_pinF, k_pin, v_iZp3, k_zp3, v_setP, setPK_of, v_appP, k_appP, k_appP1, k_appP2, k_appP3, k_appP4, List.getElem?_cons_zero, List.getElem?_cons_succ, v_lSortP, k_srtP0, v_lRng, k_rng, hRg1_of, v_seq, v_set', v_setL', v_ret', v_retL', v_if', v_for', v_par', v_aug', v_augK, v_tgt', v_sub', v_mut', v_d1, v_d2, v_d3, v_dB, v_dSc, v_dScs, v_cons, v_tup', v_lst', v_dA, v_dAL, v_and', v_or', v_not', v_dT, v_iL, v_iR1, v_iR2, v_iR3, v_iEn, v_iZp, v_lCut, v_lOf, v_lCat, v_lRep, v_lRepE, k_rep0, v_rt', k_rt, v_idx, k_idx, v_lRev, k_rev, v_lSortI, v_lComp, v_oS, b_assoc, k_cmp, k_seq1, k_seq2, k_seq3, k_seq4, k_set, k_setL, k_ret, k_retL, k_if1, k_if2, k_for, k_par, k_aug2, k_tgt, k_tgt2, k_sub, k_sub1, k_sub2, k_sub3, k_mut, k_mut1, k_mut2, k_d2, k_d3, k_d31, k_d321, k_d322, k_bool, k_cons, k_cons2, k_tup, k_lst, k_al, k_and1, k_and2, k_or1, k_or2, k_not, k_dt, k_en, k_zp, k_cut, k_cut1, k_cut2, k_os, k_cat, k_rep, k_srt0, k_srt, k_comp, k_run1, k_run2, k_go1, k_go2, w_turn, w_turnR, w_turnW, w_nx, w_bk, w_ct, w_rN, w_V, w_C, w_nil, w_oN, w_yes, w_gSet, w_gTup, w_gsCons, w_gsNil, w_add, w_subI, w_lt, w_le, w_gt, w_ge, w_neg, w_isN, w_notN, w_n0, w_n1, w_n2, w_n3, w_n4, w_len1, w_len2, w_min2, w_max2, w_int1, w_int2, w_clr, w_ixL, w_ixT, w_sum, w_any, w_kil0, w_kil1, k_sc_int, k_sc_bool, k_sc_none, k_sc_str, k_scs_of, items?_list, items?_tuple, list?_list, cutD_map, all_int, all_int', List.length_map, hApp_of, hExt_of, hIns_of, hCat_of, hRep_of, hR1_of, hR2_of, hR3_of, hMul_of, hDiv_of, hMod_of, p10_3, p10_4, p10_5, p10_6, p10_7, p10_8, p10_9, p10_12, p10_50, p50_3, p50_4, atI_map, k_scs_int, List.getD_cons_zero, List.getD_cons_succ, List.set_cons_zero, List.set_cons_succ, List.map_cons, List.map_nil, List.cons_append, List.nil_append, List.append_nil, List.length_cons, List.length_nil, Option.bind_some, Option.bind_none, Option.map_some, Option.map_none, ↓reduceIte, Nat.reduceAdd, Nat.reduceSub, Int.reduceAdd, Int.reduceSub, Int.reduceMul, Int.reduceNeg, Nat.reduceLeDiff, Nat.reduceLT, Nat.reduceEqDiff, Nat.zero_add, List.reduceReplicate, List.replicate_zero, List.replicate_one, List.replicate_succ, Bool.and_true, Bool.true_and, Bool.not_true, Bool.not_false, decide_true, decide_false, Bool.false_eq_true, reduceCtorEq, and_self, if_false, if_true, hIsi_int_int, hIsi_int_bool, hIsi_int_list, hIsi_int_tuple, hIsi_int_str, hIsi_bool_int, hIsi_bool_bool, hIsi_bool_list, hIsi_bool_tuple, hIsi_bool_str, hIsi_none_int, hIsi_none_bool, hIsi_none_list, hIsi_none_tuple, hIsi_none_str, hIsi_list_int, hIsi_list_bool, hIsi_list_list, hIsi_list_tuple, hIsi_list_str, hIsi_tuple_int, hIsi_tuple_bool, hIsi_tuple_list, hIsi_tuple_tuple, hIsi_tuple_str, hIsi_str_int, hIsi_str_bool, hIsi_str_list, hIsi_str_tuple, hIsi_str_str, wD] at wr
  simp -implicitDefEqProofs (disch := first | omega | (simp only [List.length_map, List.length_append, List.length_cons, List.length_nil, List.length_range, List.length_take, List.length_drop, List.length_replicate, List.length_set, List.length_reverse] <;> omega) | (refine mulC_small ?_; omega) | (refine mulC_smallR ?_; omega) | (refine divC_small ?_ ?_ <;> omega) | (refine powC_small ?_ ?_ ?_ <;> omega)) only [v_run, v_iTp, tup?_tuple, v_sIfM2, k_ifM2_0, k_ifM2_1, v_srtSet, k_srtSet, v_sZ, k_sZ, v_sReb, v_sClr, k_sClr, v_pinF, k_pin, v_iZp3, k_zp3, v_setP, setPK_of, v_appP, k_appP, k_appP1, k_appP2, k_appP3, k_appP4, List.getElem?_cons_zero, List.getElem?_cons_succ, v_lSortP, k_srtP0, v_lRng, k_rng, hRg1_of, v_seq, v_set', v_setL', v_ret', v_retL', v_if', v_for', v_par', v_aug', v_augK, v_tgt', v_sub', v_mut', v_d1, v_d2, v_d3, v_dB, v_dSc, v_dScs, v_cons, v_tup', v_lst', v_dA, v_dAL, v_and', v_or', v_not', v_dT, v_iL, v_iR1, v_iR2, v_iR3, v_iEn, v_iZp, v_lCut, v_lOf, v_lCat, v_lRep, v_lRepE, k_rep0, v_rt', k_rt, v_idx, k_idx, v_lRev, k_rev, v_lSortI, v_lComp, v_oS, b_assoc, k_cmp, k_seq1, k_seq2, k_seq3, k_seq4, k_set, k_setL, k_ret, k_retL, k_if1, k_if2, k_for, k_par, k_aug2, k_tgt, k_tgt2, k_sub, k_sub1, k_sub2, k_sub3, k_mut, k_mut1, k_mut2, k_d2, k_d3, k_d31, k_d321, k_d322, k_bool, k_cons, k_cons2, k_tup, k_lst, k_al, k_and1, k_and2, k_or1, k_or2, k_not, k_dt, k_en, k_zp, k_cut, k_cut1, k_cut2, k_os, k_cat, k_rep, k_srt0, k_srt, k_comp, k_run1, k_run2, k_go1, k_go2, w_turn, w_turnR, w_turnW, w_nx, w_bk, w_ct, w_rN, w_V, w_C, w_nil, w_oN, w_yes, w_gSet, w_gTup, w_gsCons, w_gsNil, w_add, w_subI, w_lt, w_le, w_gt, w_ge, w_neg, w_isN, w_notN, w_n0, w_n1, w_n2, w_n3, w_n4, w_len1, w_len2, w_min2, w_max2, w_int1, w_int2, w_clr, w_ixL, w_ixT, w_sum, w_any, w_kil0, w_kil1, k_sc_int, k_sc_bool, k_sc_none, k_sc_str, k_scs_of, items?_list, items?_tuple, list?_list, cutD_map, all_int, all_int', List.length_map, hApp_of, hExt_of, hIns_of, hCat_of, hRep_of, hR1_of, hR2_of, hR3_of, hMul_of, hDiv_of, hMod_of, p10_3, p10_4, p10_5, p10_6, p10_7, p10_8, p10_9, p10_12, p10_50, p50_3, p50_4, atI_map, k_scs_int, List.getD_cons_zero, List.getD_cons_succ, List.set_cons_zero, List.set_cons_succ, List.map_cons, List.map_nil, List.cons_append, List.nil_append, List.append_nil, List.length_cons, List.length_nil, Option.bind_some, Option.bind_none, Option.map_some, Option.map_none, ↓reduceIte, Nat.reduceAdd, Nat.reduceSub, Int.reduceAdd, Int.reduceSub, Int.reduceMul, Int.reduceNeg, Nat.reduceLeDiff, Nat.reduceLT, Nat.reduceEqDiff, Nat.zero_add, List.reduceReplicate, List.replicate_zero, List.replicate_one, List.replicate_succ, Bool.and_true, Bool.true_and, Bool.not_true, Bool.not_false, decide_true, decide_false, Bool.false_eq_true, reduceCtorEq, and_self, if_false, if_true, hIsi_int_int, hIsi_int_bool, hIsi_int_list, hIsi_int_tuple, hIsi_int_str, hIsi_bool_int, hIsi_bool_bool, hIsi_bool_list, hIsi_bool_tuple, hIsi_bool_str, hIsi_none_int, hIsi_none_bool, hIsi_none_list, hIsi_none_tuple, hIsi_none_str, hIsi_list_int, hIsi_list_bool, hIsi_list_list, hIsi_list_tuple, hIsi_list_str, hIsi_tuple_int, hIsi_tuple_bool, hIsi_tuple_list, hIsi_tuple_tuple, hIsi_tuple_str, hIsi_str_int, hIsi_str_bool, hIsi_str_list, hIsi_str_tuple, hIsi_str_str, du]
  refine b_map (cv := wD) wD ws (by omega) (fun l _ => ⟨_, rfl, rfl, ?_⟩) ?_
  · simp -implicitDefEqProofs (disch := first | omega | (simp only [List.length_map, List.length_append, List.length_cons, List.length_nil, List.length_range, List.length_take, List.length_drop, List.length_replicate, List.length_set, List.length_reverse] <;> omega) | (refine mulC_small ?_; omega) | (refine mulC_smallR ?_; omega) | (refine divC_small ?_ ?_ <;> omega) | (refine powC_small ?_ ?_ ?_ <;> omega)) only [v_run, v_iTp, tup?_tuple, v_sIfM2, k_ifM2_0, k_ifM2_1, v_srtSet, k_srtSet, v_sZ, k_sZ, v_sReb, v_sClr, k_sClr, v_pinF, k_pin, v_iZp3, k_zp3, v_setP, setPK_of, v_appP, k_appP, k_appP1, k_appP2, k_appP3, k_appP4, List.getElem?_cons_zero, List.getElem?_cons_succ, v_lSortP, k_srtP0, v_lRng, k_rng, hRg1_of, v_seq, v_set', v_setL', v_ret', v_retL', v_if', v_for', v_par', v_aug', v_augK, v_tgt', v_sub', v_mut', v_d1, v_d2, v_d3, v_dB, v_dSc, v_dScs, v_cons, v_tup', v_lst', v_dA, v_dAL, v_and', v_or', v_not', v_dT, v_iL, v_iR1, v_iR2, v_iR3, v_iEn, v_iZp, v_lCut, v_lOf, v_lCat, v_lRep, v_lRepE, k_rep0, v_rt', k_rt, v_idx, k_idx, v_lRev, k_rev, v_lSortI, v_lComp, v_oS, b_assoc, k_cmp, k_seq1, k_seq2, k_seq3, k_seq4, k_set, k_setL, k_ret, k_retL, k_if1, k_if2, k_for, k_par, k_aug2, k_tgt, k_tgt2, k_sub, k_sub1, k_sub2, k_sub3, k_mut, k_mut1, k_mut2, k_d2, k_d3, k_d31, k_d321, k_d322, k_bool, k_cons, k_cons2, k_tup, k_lst, k_al, k_and1, k_and2, k_or1, k_or2, k_not, k_dt, k_en, k_zp, k_cut, k_cut1, k_cut2, k_os, k_cat, k_rep, k_srt0, k_srt, k_comp, k_run1, k_run2, k_go1, k_go2, w_turn, w_turnR, w_turnW, w_nx, w_bk, w_ct, w_rN, w_V, w_C, w_nil, w_oN, w_yes, w_gSet, w_gTup, w_gsCons, w_gsNil, w_add, w_subI, w_lt, w_le, w_gt, w_ge, w_neg, w_isN, w_notN, w_n0, w_n1, w_n2, w_n3, w_n4, w_len1, w_len2, w_min2, w_max2, w_int1, w_int2, w_clr, w_ixL, w_ixT, w_sum, w_any, w_kil0, w_kil1, k_sc_int, k_sc_bool, k_sc_none, k_sc_str, k_scs_of, items?_list, items?_tuple, list?_list, cutD_map, all_int, all_int', List.length_map, hApp_of, hExt_of, hIns_of, hCat_of, hRep_of, hR1_of, hR2_of, hR3_of, hMul_of, hDiv_of, hMod_of, p10_3, p10_4, p10_5, p10_6, p10_7, p10_8, p10_9, p10_12, p10_50, p50_3, p50_4, atI_map, k_scs_int, List.getD_cons_zero, List.getD_cons_succ, List.set_cons_zero, List.set_cons_succ, List.map_cons, List.map_nil, List.cons_append, List.nil_append, List.append_nil, List.length_cons, List.length_nil, Option.bind_some, Option.bind_none, Option.map_some, Option.map_none, ↓reduceIte, Nat.reduceAdd, Nat.reduceSub, Int.reduceAdd, Int.reduceSub, Int.reduceMul, Int.reduceNeg, Nat.reduceLeDiff, Nat.reduceLT, Nat.reduceEqDiff, Nat.zero_add, List.reduceReplicate, List.replicate_zero, List.replicate_one, List.replicate_succ, Bool.and_true, Bool.true_and, Bool.not_true, Bool.not_false, decide_true, decide_false, Bool.false_eq_true, reduceCtorEq, and_self, if_false, if_true, hIsi_int_int, hIsi_int_bool, hIsi_int_list, hIsi_int_tuple, hIsi_int_str, hIsi_bool_int, hIsi_bool_bool, hIsi_bool_list, hIsi_bool_tuple, hIsi_bool_str, hIsi_none_int, hIsi_none_bool, hIsi_none_list, hIsi_none_tuple, hIsi_none_str, hIsi_list_int, hIsi_list_bool, hIsi_list_list, hIsi_list_tuple, hIsi_list_str, hIsi_tuple_int, hIsi_tuple_bool, hIsi_tuple_list, hIsi_tuple_tuple, hIsi_tuple_str, hIsi_str_int, hIsi_str_bool, hIsi_str_list, hIsi_str_tuple, hIsi_str_str, wD, k_scs_ni]
  have o4 : okD 3 (.list [.list (cs.map PyData.int), .list (ws.map wD), .list (done.map ni)]) := okD_list fun d hd => by
    simp only [List.mem_cons, List.not_mem_nil, or_false] at hd
    rcases hd with rfl | rfl | rfl
    · exact okD_mono (ok_ints cs) (by decide)
    · exact ok_map wD ws ok_wD
    · exact okD_mono (ok_wD done) (by decide)
  simp -implicitDefEqProofs (disch := first | omega | (simp only [List.length_map, List.length_append, List.length_cons, List.length_nil, List.length_range, List.length_take, List.length_drop, List.length_replicate, List.length_set, List.length_reverse] <;> omega) | (refine mulC_small ?_; omega) | (refine mulC_smallR ?_; omega) | (refine divC_small ?_ ?_ <;> omega) | (refine powC_small ?_ ?_ ?_ <;> omega)) only [v_run, v_iTp, tup?_tuple, v_sIfM2, k_ifM2_0, k_ifM2_1, v_srtSet, k_srtSet, v_sZ, k_sZ, v_sReb, v_sClr, k_sClr, v_pinF, k_pin, v_iZp3, k_zp3, v_setP, setPK_of, v_appP, k_appP, k_appP1, k_appP2, k_appP3, k_appP4, List.getElem?_cons_zero, List.getElem?_cons_succ, v_lSortP, k_srtP0, v_lRng, k_rng, hRg1_of, v_seq, v_set', v_setL', v_ret', v_retL', v_if', v_for', v_par', v_aug', v_augK, v_tgt', v_sub', v_mut', v_d1, v_d2, v_d3, v_dB, v_dSc, v_dScs, v_cons, v_tup', v_lst', v_dA, v_dAL, v_and', v_or', v_not', v_dT, v_iL, v_iR1, v_iR2, v_iR3, v_iEn, v_iZp, v_lCut, v_lOf, v_lCat, v_lRep, v_lRepE, k_rep0, v_rt', k_rt, v_idx, k_idx, v_lRev, k_rev, v_lSortI, v_lComp, v_oS, b_assoc, k_cmp, k_seq1, k_seq2, k_seq3, k_seq4, k_set, k_setL, k_ret, k_retL, k_if1, k_if2, k_for, k_par, k_aug2, k_tgt, k_tgt2, k_sub, k_sub1, k_sub2, k_sub3, k_mut, k_mut1, k_mut2, k_d2, k_d3, k_d31, k_d321, k_d322, k_bool, k_cons, k_cons2, k_tup, k_lst, k_al, k_and1, k_and2, k_or1, k_or2, k_not, k_dt, k_en, k_zp, k_cut, k_cut1, k_cut2, k_os, k_cat, k_rep, k_srt0, k_srt, k_comp, k_run1, k_run2, k_go1, k_go2, w_turn, w_turnR, w_turnW, w_nx, w_bk, w_ct, w_rN, w_V, w_C, w_nil, w_oN, w_yes, w_gSet, w_gTup, w_gsCons, w_gsNil, w_add, w_subI, w_lt, w_le, w_gt, w_ge, w_neg, w_isN, w_notN, w_n0, w_n1, w_n2, w_n3, w_n4, w_len1, w_len2, w_min2, w_max2, w_int1, w_int2, w_clr, w_ixL, w_ixT, w_sum, w_any, w_kil0, w_kil1, k_sc_int, k_sc_bool, k_sc_none, k_sc_str, k_scs_of, items?_list, items?_tuple, list?_list, cutD_map, all_int, all_int', List.length_map, hApp_of, hExt_of, hIns_of, hCat_of, hRep_of, hR1_of, hR2_of, hR3_of, hMul_of, hDiv_of, hMod_of, p10_3, p10_4, p10_5, p10_6, p10_7, p10_8, p10_9, p10_12, p10_50, p50_3, p50_4, atI_map, k_scs_int, List.getD_cons_zero, List.getD_cons_succ, List.set_cons_zero, List.set_cons_succ, List.map_cons, List.map_nil, List.cons_append, List.nil_append, List.append_nil, List.length_cons, List.length_nil, Option.bind_some, Option.bind_none, Option.map_some, Option.map_none, ↓reduceIte, Nat.reduceAdd, Nat.reduceSub, Int.reduceAdd, Int.reduceSub, Int.reduceMul, Int.reduceNeg, Nat.reduceLeDiff, Nat.reduceLT, Nat.reduceEqDiff, Nat.zero_add, List.reduceReplicate, List.replicate_zero, List.replicate_one, List.replicate_succ, Bool.and_true, Bool.true_and, Bool.not_true, Bool.not_false, decide_true, decide_false, Bool.false_eq_true, reduceCtorEq, and_self, if_false, if_true, hIsi_int_int, hIsi_int_bool, hIsi_int_list, hIsi_int_tuple, hIsi_int_str, hIsi_bool_int, hIsi_bool_bool, hIsi_bool_list, hIsi_bool_tuple, hIsi_bool_str, hIsi_none_int, hIsi_none_bool, hIsi_none_list, hIsi_none_tuple, hIsi_none_str, hIsi_list_int, hIsi_list_bool, hIsi_list_list, hIsi_list_tuple, hIsi_list_str, hIsi_tuple_int, hIsi_tuple_bool, hIsi_tuple_list, hIsi_tuple_tuple, hIsi_tuple_str, hIsi_str_int, hIsi_str_bool, hIsi_str_list, hIsi_str_tuple, hIsi_str_str, k_scs_ni, at3_0, at3_1, at3_2, wr, ak, hNe_self o4 (by decide), sem_law_t8]
  cases o with
  | none =>
    simp -implicitDefEqProofs (disch := first | omega | (simp only [List.length_map, List.length_append, List.length_cons, List.length_nil, List.length_range, List.length_take, List.length_drop, List.length_replicate, List.length_set, List.length_reverse] <;> omega) | (refine mulC_small ?_; omega) | (refine mulC_smallR ?_; omega) | (refine divC_small ?_ ?_ <;> omega) | (refine powC_small ?_ ?_ ?_ <;> omega)) only [v_run, v_iTp, tup?_tuple, v_sIfM2, k_ifM2_0, k_ifM2_1, v_srtSet, k_srtSet, v_sZ, k_sZ, v_sReb, v_sClr, k_sClr, v_pinF, k_pin, v_iZp3, k_zp3, v_setP, setPK_of, v_appP, k_appP, k_appP1, k_appP2, k_appP3, k_appP4, List.getElem?_cons_zero, List.getElem?_cons_succ, v_lSortP, k_srtP0, v_lRng, k_rng, hRg1_of, v_seq, v_set', v_setL', v_ret', v_retL', v_if', v_for', v_par', v_aug', v_augK, v_tgt', v_sub', v_mut', v_d1, v_d2, v_d3, v_dB, v_dSc, v_dScs, v_cons, v_tup', v_lst', v_dA, v_dAL, v_and', v_or', v_not', v_dT, v_iL, v_iR1, v_iR2, v_iR3, v_iEn, v_iZp, v_lCut, v_lOf, v_lCat, v_lRep, v_lRepE, k_rep0, v_rt', k_rt, v_idx, k_idx, v_lRev, k_rev, v_lSortI, v_lComp, v_oS, b_assoc, k_cmp, k_seq1, k_seq2, k_seq3, k_seq4, k_set, k_setL, k_ret, k_retL, k_if1, k_if2, k_for, k_par, k_aug2, k_tgt, k_tgt2, k_sub, k_sub1, k_sub2, k_sub3, k_mut, k_mut1, k_mut2, k_d2, k_d3, k_d31, k_d321, k_d322, k_bool, k_cons, k_cons2, k_tup, k_lst, k_al, k_and1, k_and2, k_or1, k_or2, k_not, k_dt, k_en, k_zp, k_cut, k_cut1, k_cut2, k_os, k_cat, k_rep, k_srt0, k_srt, k_comp, k_run1, k_run2, k_go1, k_go2, w_turn, w_turnR, w_turnW, w_nx, w_bk, w_ct, w_rN, w_V, w_C, w_nil, w_oN, w_yes, w_gSet, w_gTup, w_gsCons, w_gsNil, w_add, w_subI, w_lt, w_le, w_gt, w_ge, w_neg, w_isN, w_notN, w_n0, w_n1, w_n2, w_n3, w_n4, w_len1, w_len2, w_min2, w_max2, w_int1, w_int2, w_clr, w_ixL, w_ixT, w_sum, w_any, w_kil0, w_kil1, k_sc_int, k_sc_bool, k_sc_none, k_sc_str, k_scs_of, items?_list, items?_tuple, list?_list, cutD_map, all_int, all_int', List.length_map, hApp_of, hExt_of, hIns_of, hCat_of, hRep_of, hR1_of, hR2_of, hR3_of, hMul_of, hDiv_of, hMod_of, p10_3, p10_4, p10_5, p10_6, p10_7, p10_8, p10_9, p10_12, p10_50, p50_3, p50_4, atI_map, k_scs_int, List.getD_cons_zero, List.getD_cons_succ, List.set_cons_zero, List.set_cons_succ, List.map_cons, List.map_nil, List.cons_append, List.nil_append, List.append_nil, List.length_cons, List.length_nil, Option.bind_some, Option.bind_none, Option.map_some, Option.map_none, ↓reduceIte, Nat.reduceAdd, Nat.reduceSub, Int.reduceAdd, Int.reduceSub, Int.reduceMul, Int.reduceNeg, Nat.reduceLeDiff, Nat.reduceLT, Nat.reduceEqDiff, Nat.zero_add, List.reduceReplicate, List.replicate_zero, List.replicate_one, List.replicate_succ, Bool.and_true, Bool.true_and, Bool.not_true, Bool.not_false, decide_true, decide_false, Bool.false_eq_true, reduceCtorEq, and_self, if_false, if_true, hIsi_int_int, hIsi_int_bool, hIsi_int_list, hIsi_int_tuple, hIsi_int_str, hIsi_bool_int, hIsi_bool_bool, hIsi_bool_list, hIsi_bool_tuple, hIsi_bool_str, hIsi_none_int, hIsi_none_bool, hIsi_none_list, hIsi_none_tuple, hIsi_none_str, hIsi_list_int, hIsi_list_bool, hIsi_list_list, hIsi_list_tuple, hIsi_list_str, hIsi_tuple_int, hIsi_tuple_bool, hIsi_tuple_list, hIsi_tuple_tuple, hIsi_tuple_str, hIsi_str_int, hIsi_str_bool, hIsi_str_list, hIsi_str_tuple, hIsi_str_str, ond, Option.map_none] at wr
    simp -implicitDefEqProofs (disch := first | omega | (simp only [List.length_map, List.length_append, List.length_cons, List.length_nil, List.length_range, List.length_take, List.length_drop, List.length_replicate, List.length_set, List.length_reverse] <;> omega) | (refine mulC_small ?_; omega) | (refine mulC_smallR ?_; omega) | (refine divC_small ?_ ?_ <;> omega) | (refine powC_small ?_ ?_ ?_ <;> omega)) only [v_run, v_iTp, tup?_tuple, v_sIfM2, k_ifM2_0, k_ifM2_1, v_srtSet, k_srtSet, v_sZ, k_sZ, v_sReb, v_sClr, k_sClr, v_pinF, k_pin, v_iZp3, k_zp3, v_setP, setPK_of, v_appP, k_appP, k_appP1, k_appP2, k_appP3, k_appP4, List.getElem?_cons_zero, List.getElem?_cons_succ, v_lSortP, k_srtP0, v_lRng, k_rng, hRg1_of, v_seq, v_set', v_setL', v_ret', v_retL', v_if', v_for', v_par', v_aug', v_augK, v_tgt', v_sub', v_mut', v_d1, v_d2, v_d3, v_dB, v_dSc, v_dScs, v_cons, v_tup', v_lst', v_dA, v_dAL, v_and', v_or', v_not', v_dT, v_iL, v_iR1, v_iR2, v_iR3, v_iEn, v_iZp, v_lCut, v_lOf, v_lCat, v_lRep, v_lRepE, k_rep0, v_rt', k_rt, v_idx, k_idx, v_lRev, k_rev, v_lSortI, v_lComp, v_oS, b_assoc, k_cmp, k_seq1, k_seq2, k_seq3, k_seq4, k_set, k_setL, k_ret, k_retL, k_if1, k_if2, k_for, k_par, k_aug2, k_tgt, k_tgt2, k_sub, k_sub1, k_sub2, k_sub3, k_mut, k_mut1, k_mut2, k_d2, k_d3, k_d31, k_d321, k_d322, k_bool, k_cons, k_cons2, k_tup, k_lst, k_al, k_and1, k_and2, k_or1, k_or2, k_not, k_dt, k_en, k_zp, k_cut, k_cut1, k_cut2, k_os, k_cat, k_rep, k_srt0, k_srt, k_comp, k_run1, k_run2, k_go1, k_go2, w_turn, w_turnR, w_turnW, w_nx, w_bk, w_ct, w_rN, w_V, w_C, w_nil, w_oN, w_yes, w_gSet, w_gTup, w_gsCons, w_gsNil, w_add, w_subI, w_lt, w_le, w_gt, w_ge, w_neg, w_isN, w_notN, w_n0, w_n1, w_n2, w_n3, w_n4, w_len1, w_len2, w_min2, w_max2, w_int1, w_int2, w_clr, w_ixL, w_ixT, w_sum, w_any, w_kil0, w_kil1, k_sc_int, k_sc_bool, k_sc_none, k_sc_str, k_scs_of, items?_list, items?_tuple, list?_list, cutD_map, all_int, all_int', List.length_map, hApp_of, hExt_of, hIns_of, hCat_of, hRep_of, hR1_of, hR2_of, hR3_of, hMul_of, hDiv_of, hMod_of, p10_3, p10_4, p10_5, p10_6, p10_7, p10_8, p10_9, p10_12, p10_50, p50_3, p50_4, atI_map, k_scs_int, List.getD_cons_zero, List.getD_cons_succ, List.set_cons_zero, List.set_cons_succ, List.map_cons, List.map_nil, List.cons_append, List.nil_append, List.append_nil, List.length_cons, List.length_nil, Option.bind_some, Option.bind_none, Option.map_some, Option.map_none, ↓reduceIte, Nat.reduceAdd, Nat.reduceSub, Int.reduceAdd, Int.reduceSub, Int.reduceMul, Int.reduceNeg, Nat.reduceLeDiff, Nat.reduceLT, Nat.reduceEqDiff, Nat.zero_add, List.reduceReplicate, List.replicate_zero, List.replicate_one, List.replicate_succ, Bool.and_true, Bool.true_and, Bool.not_true, Bool.not_false, decide_true, decide_false, Bool.false_eq_true, reduceCtorEq, and_self, if_false, if_true, hIsi_int_int, hIsi_int_bool, hIsi_int_list, hIsi_int_tuple, hIsi_int_str, hIsi_bool_int, hIsi_bool_bool, hIsi_bool_list, hIsi_bool_tuple, hIsi_bool_str, hIsi_none_int, hIsi_none_bool, hIsi_none_list, hIsi_none_tuple, hIsi_none_str, hIsi_list_int, hIsi_list_bool, hIsi_list_list, hIsi_list_tuple, hIsi_list_str, hIsi_tuple_int, hIsi_tuple_bool, hIsi_tuple_list, hIsi_tuple_tuple, hIsi_tuple_str, hIsi_str_int, hIsi_str_bool, hIsi_str_list, hIsi_str_tuple, hIsi_str_str, ond, Option.map_none] at ak
    simp -implicitDefEqProofs (disch := first | omega | (simp only [List.length_map, List.length_append, List.length_cons, List.length_nil, List.length_range, List.length_take, List.length_drop, List.length_replicate, List.length_set, List.length_reverse] <;> omega) | (refine mulC_small ?_; omega) | (refine mulC_smallR ?_; omega) | (refine divC_small ?_ ?_ <;> omega) | (refine powC_small ?_ ?_ ?_ <;> omega)) only [v_run, v_iTp, tup?_tuple, v_sIfM2, k_ifM2_0, k_ifM2_1, v_srtSet, k_srtSet, v_sZ, k_sZ, v_sReb, v_sClr, k_sClr, v_pinF, k_pin, v_iZp3, k_zp3, v_setP, setPK_of, v_appP, k_appP, k_appP1, k_appP2, k_appP3, k_appP4, List.getElem?_cons_zero, List.getElem?_cons_succ, v_lSortP, k_srtP0, v_lRng, k_rng, hRg1_of, v_seq, v_set', v_setL', v_ret', v_retL', v_if', v_for', v_par', v_aug', v_augK, v_tgt', v_sub', v_mut', v_d1, v_d2, v_d3, v_dB, v_dSc, v_dScs, v_cons, v_tup', v_lst', v_dA, v_dAL, v_and', v_or', v_not', v_dT, v_iL, v_iR1, v_iR2, v_iR3, v_iEn, v_iZp, v_lCut, v_lOf, v_lCat, v_lRep, v_lRepE, k_rep0, v_rt', k_rt, v_idx, k_idx, v_lRev, k_rev, v_lSortI, v_lComp, v_oS, b_assoc, k_cmp, k_seq1, k_seq2, k_seq3, k_seq4, k_set, k_setL, k_ret, k_retL, k_if1, k_if2, k_for, k_par, k_aug2, k_tgt, k_tgt2, k_sub, k_sub1, k_sub2, k_sub3, k_mut, k_mut1, k_mut2, k_d2, k_d3, k_d31, k_d321, k_d322, k_bool, k_cons, k_cons2, k_tup, k_lst, k_al, k_and1, k_and2, k_or1, k_or2, k_not, k_dt, k_en, k_zp, k_cut, k_cut1, k_cut2, k_os, k_cat, k_rep, k_srt0, k_srt, k_comp, k_run1, k_run2, k_go1, k_go2, w_turn, w_turnR, w_turnW, w_nx, w_bk, w_ct, w_rN, w_V, w_C, w_nil, w_oN, w_yes, w_gSet, w_gTup, w_gsCons, w_gsNil, w_add, w_subI, w_lt, w_le, w_gt, w_ge, w_neg, w_isN, w_notN, w_n0, w_n1, w_n2, w_n3, w_n4, w_len1, w_len2, w_min2, w_max2, w_int1, w_int2, w_clr, w_ixL, w_ixT, w_sum, w_any, w_kil0, w_kil1, k_sc_int, k_sc_bool, k_sc_none, k_sc_str, k_scs_of, items?_list, items?_tuple, list?_list, cutD_map, all_int, all_int', List.length_map, hApp_of, hExt_of, hIns_of, hCat_of, hRep_of, hR1_of, hR2_of, hR3_of, hMul_of, hDiv_of, hMod_of, p10_3, p10_4, p10_5, p10_6, p10_7, p10_8, p10_9, p10_12, p10_50, p50_3, p50_4, atI_map, k_scs_int, List.getD_cons_zero, List.getD_cons_succ, List.set_cons_zero, List.set_cons_succ, List.map_cons, List.map_nil, List.cons_append, List.nil_append, List.append_nil, List.length_cons, List.length_nil, Option.bind_some, Option.bind_none, Option.map_some, Option.map_none, ↓reduceIte, Nat.reduceAdd, Nat.reduceSub, Int.reduceAdd, Int.reduceSub, Int.reduceMul, Int.reduceNeg, Nat.reduceLeDiff, Nat.reduceLT, Nat.reduceEqDiff, Nat.zero_add, List.reduceReplicate, List.replicate_zero, List.replicate_one, List.replicate_succ, Bool.and_true, Bool.true_and, Bool.not_true, Bool.not_false, decide_true, decide_false, Bool.false_eq_true, reduceCtorEq, and_self, if_false, if_true, hIsi_int_int, hIsi_int_bool, hIsi_int_list, hIsi_int_tuple, hIsi_int_str, hIsi_bool_int, hIsi_bool_bool, hIsi_bool_list, hIsi_bool_tuple, hIsi_bool_str, hIsi_none_int, hIsi_none_bool, hIsi_none_list, hIsi_none_tuple, hIsi_none_str, hIsi_list_int, hIsi_list_bool, hIsi_list_list, hIsi_list_tuple, hIsi_list_str, hIsi_tuple_int, hIsi_tuple_bool, hIsi_tuple_list, hIsi_tuple_tuple, hIsi_tuple_str, hIsi_str_int, hIsi_str_bool, hIsi_str_list, hIsi_str_tuple, hIsi_str_str, ond, Option.map_none, sem_law_t9, at3_0, at3_1, at3_2, wr, ak, hEq_self o4 (by decide)]
  | some a =>
    have gl := grpF_len ws a done
    have g6 : (grpF ws a done).length < 1000000 := by omega
    simp -implicitDefEqProofs (disch := first | omega | (simp only [List.length_map, List.length_append, List.length_cons, List.length_nil, List.length_range, List.length_take, List.length_drop, List.length_replicate, List.length_set, List.length_reverse] <;> omega) | (refine mulC_small ?_; omega) | (refine mulC_smallR ?_; omega) | (refine divC_small ?_ ?_ <;> omega) | (refine powC_small ?_ ?_ ?_ <;> omega)) only [v_run, v_iTp, tup?_tuple, v_sIfM2, k_ifM2_0, k_ifM2_1, v_srtSet, k_srtSet, v_sZ, k_sZ, v_sReb, v_sClr, k_sClr, v_pinF, k_pin, v_iZp3, k_zp3, v_setP, setPK_of, v_appP, k_appP, k_appP1, k_appP2, k_appP3, k_appP4, List.getElem?_cons_zero, List.getElem?_cons_succ, v_lSortP, k_srtP0, v_lRng, k_rng, hRg1_of, v_seq, v_set', v_setL', v_ret', v_retL', v_if', v_for', v_par', v_aug', v_augK, v_tgt', v_sub', v_mut', v_d1, v_d2, v_d3, v_dB, v_dSc, v_dScs, v_cons, v_tup', v_lst', v_dA, v_dAL, v_and', v_or', v_not', v_dT, v_iL, v_iR1, v_iR2, v_iR3, v_iEn, v_iZp, v_lCut, v_lOf, v_lCat, v_lRep, v_lRepE, k_rep0, v_rt', k_rt, v_idx, k_idx, v_lRev, k_rev, v_lSortI, v_lComp, v_oS, b_assoc, k_cmp, k_seq1, k_seq2, k_seq3, k_seq4, k_set, k_setL, k_ret, k_retL, k_if1, k_if2, k_for, k_par, k_aug2, k_tgt, k_tgt2, k_sub, k_sub1, k_sub2, k_sub3, k_mut, k_mut1, k_mut2, k_d2, k_d3, k_d31, k_d321, k_d322, k_bool, k_cons, k_cons2, k_tup, k_lst, k_al, k_and1, k_and2, k_or1, k_or2, k_not, k_dt, k_en, k_zp, k_cut, k_cut1, k_cut2, k_os, k_cat, k_rep, k_srt0, k_srt, k_comp, k_run1, k_run2, k_go1, k_go2, w_turn, w_turnR, w_turnW, w_nx, w_bk, w_ct, w_rN, w_V, w_C, w_nil, w_oN, w_yes, w_gSet, w_gTup, w_gsCons, w_gsNil, w_add, w_subI, w_lt, w_le, w_gt, w_ge, w_neg, w_isN, w_notN, w_n0, w_n1, w_n2, w_n3, w_n4, w_len1, w_len2, w_min2, w_max2, w_int1, w_int2, w_clr, w_ixL, w_ixT, w_sum, w_any, w_kil0, w_kil1, k_sc_int, k_sc_bool, k_sc_none, k_sc_str, k_scs_of, items?_list, items?_tuple, list?_list, cutD_map, all_int, all_int', List.length_map, hApp_of, hExt_of, hIns_of, hCat_of, hRep_of, hR1_of, hR2_of, hR3_of, hMul_of, hDiv_of, hMod_of, p10_3, p10_4, p10_5, p10_6, p10_7, p10_8, p10_9, p10_12, p10_50, p50_3, p50_4, atI_map, k_scs_int, List.getD_cons_zero, List.getD_cons_succ, List.set_cons_zero, List.set_cons_succ, List.map_cons, List.map_nil, List.cons_append, List.nil_append, List.append_nil, List.length_cons, List.length_nil, Option.bind_some, Option.bind_none, Option.map_some, Option.map_none, ↓reduceIte, Nat.reduceAdd, Nat.reduceSub, Int.reduceAdd, Int.reduceSub, Int.reduceMul, Int.reduceNeg, Nat.reduceLeDiff, Nat.reduceLT, Nat.reduceEqDiff, Nat.zero_add, List.reduceReplicate, List.replicate_zero, List.replicate_one, List.replicate_succ, Bool.and_true, Bool.true_and, Bool.not_true, Bool.not_false, decide_true, decide_false, Bool.false_eq_true, reduceCtorEq, and_self, if_false, if_true, hIsi_int_int, hIsi_int_bool, hIsi_int_list, hIsi_int_tuple, hIsi_int_str, hIsi_bool_int, hIsi_bool_bool, hIsi_bool_list, hIsi_bool_tuple, hIsi_bool_str, hIsi_none_int, hIsi_none_bool, hIsi_none_list, hIsi_none_tuple, hIsi_none_str, hIsi_list_int, hIsi_list_bool, hIsi_list_list, hIsi_list_tuple, hIsi_list_str, hIsi_tuple_int, hIsi_tuple_bool, hIsi_tuple_list, hIsi_tuple_tuple, hIsi_tuple_str, hIsi_str_int, hIsi_str_bool, hIsi_str_list, hIsi_str_tuple, hIsi_str_str, ond, Option.map_some, pairD, wD] at wr
    simp -implicitDefEqProofs (disch := first | omega | (simp only [List.length_map, List.length_append, List.length_cons, List.length_nil, List.length_range, List.length_take, List.length_drop, List.length_replicate, List.length_set, List.length_reverse] <;> omega) | (refine mulC_small ?_; omega) | (refine mulC_smallR ?_; omega) | (refine divC_small ?_ ?_ <;> omega) | (refine powC_small ?_ ?_ ?_ <;> omega)) only [v_run, v_iTp, tup?_tuple, v_sIfM2, k_ifM2_0, k_ifM2_1, v_srtSet, k_srtSet, v_sZ, k_sZ, v_sReb, v_sClr, k_sClr, v_pinF, k_pin, v_iZp3, k_zp3, v_setP, setPK_of, v_appP, k_appP, k_appP1, k_appP2, k_appP3, k_appP4, List.getElem?_cons_zero, List.getElem?_cons_succ, v_lSortP, k_srtP0, v_lRng, k_rng, hRg1_of, v_seq, v_set', v_setL', v_ret', v_retL', v_if', v_for', v_par', v_aug', v_augK, v_tgt', v_sub', v_mut', v_d1, v_d2, v_d3, v_dB, v_dSc, v_dScs, v_cons, v_tup', v_lst', v_dA, v_dAL, v_and', v_or', v_not', v_dT, v_iL, v_iR1, v_iR2, v_iR3, v_iEn, v_iZp, v_lCut, v_lOf, v_lCat, v_lRep, v_lRepE, k_rep0, v_rt', k_rt, v_idx, k_idx, v_lRev, k_rev, v_lSortI, v_lComp, v_oS, b_assoc, k_cmp, k_seq1, k_seq2, k_seq3, k_seq4, k_set, k_setL, k_ret, k_retL, k_if1, k_if2, k_for, k_par, k_aug2, k_tgt, k_tgt2, k_sub, k_sub1, k_sub2, k_sub3, k_mut, k_mut1, k_mut2, k_d2, k_d3, k_d31, k_d321, k_d322, k_bool, k_cons, k_cons2, k_tup, k_lst, k_al, k_and1, k_and2, k_or1, k_or2, k_not, k_dt, k_en, k_zp, k_cut, k_cut1, k_cut2, k_os, k_cat, k_rep, k_srt0, k_srt, k_comp, k_run1, k_run2, k_go1, k_go2, w_turn, w_turnR, w_turnW, w_nx, w_bk, w_ct, w_rN, w_V, w_C, w_nil, w_oN, w_yes, w_gSet, w_gTup, w_gsCons, w_gsNil, w_add, w_subI, w_lt, w_le, w_gt, w_ge, w_neg, w_isN, w_notN, w_n0, w_n1, w_n2, w_n3, w_n4, w_len1, w_len2, w_min2, w_max2, w_int1, w_int2, w_clr, w_ixL, w_ixT, w_sum, w_any, w_kil0, w_kil1, k_sc_int, k_sc_bool, k_sc_none, k_sc_str, k_scs_of, items?_list, items?_tuple, list?_list, cutD_map, all_int, all_int', List.length_map, hApp_of, hExt_of, hIns_of, hCat_of, hRep_of, hR1_of, hR2_of, hR3_of, hMul_of, hDiv_of, hMod_of, p10_3, p10_4, p10_5, p10_6, p10_7, p10_8, p10_9, p10_12, p10_50, p50_3, p50_4, atI_map, k_scs_int, List.getD_cons_zero, List.getD_cons_succ, List.set_cons_zero, List.set_cons_succ, List.map_cons, List.map_nil, List.cons_append, List.nil_append, List.append_nil, List.length_cons, List.length_nil, Option.bind_some, Option.bind_none, Option.map_some, Option.map_none, ↓reduceIte, Nat.reduceAdd, Nat.reduceSub, Int.reduceAdd, Int.reduceSub, Int.reduceMul, Int.reduceNeg, Nat.reduceLeDiff, Nat.reduceLT, Nat.reduceEqDiff, Nat.zero_add, List.reduceReplicate, List.replicate_zero, List.replicate_one, List.replicate_succ, Bool.and_true, Bool.true_and, Bool.not_true, Bool.not_false, decide_true, decide_false, Bool.false_eq_true, reduceCtorEq, and_self, if_false, if_true, hIsi_int_int, hIsi_int_bool, hIsi_int_list, hIsi_int_tuple, hIsi_int_str, hIsi_bool_int, hIsi_bool_bool, hIsi_bool_list, hIsi_bool_tuple, hIsi_bool_str, hIsi_none_int, hIsi_none_bool, hIsi_none_list, hIsi_none_tuple, hIsi_none_str, hIsi_list_int, hIsi_list_bool, hIsi_list_list, hIsi_list_tuple, hIsi_list_str, hIsi_tuple_int, hIsi_tuple_bool, hIsi_tuple_list, hIsi_tuple_tuple, hIsi_tuple_str, hIsi_str_int, hIsi_str_bool, hIsi_str_list, hIsi_str_tuple, hIsi_str_str, ond, Option.map_some, pairD, wD] at ak
    simp -implicitDefEqProofs (disch := first | omega | (simp only [List.length_map, List.length_append, List.length_cons, List.length_nil, List.length_range, List.length_take, List.length_drop, List.length_replicate, List.length_set, List.length_reverse] <;> omega) | (refine mulC_small ?_; omega) | (refine mulC_smallR ?_; omega) | (refine divC_small ?_ ?_ <;> omega) | (refine powC_small ?_ ?_ ?_ <;> omega)) only [v_run, v_iTp, tup?_tuple, v_sIfM2, k_ifM2_0, k_ifM2_1, v_srtSet, k_srtSet, v_sZ, k_sZ, v_sReb, v_sClr, k_sClr, v_pinF, k_pin, v_iZp3, k_zp3, v_setP, setPK_of, v_appP, k_appP, k_appP1, k_appP2, k_appP3, k_appP4, List.getElem?_cons_zero, List.getElem?_cons_succ, v_lSortP, k_srtP0, v_lRng, k_rng, hRg1_of, v_seq, v_set', v_setL', v_ret', v_retL', v_if', v_for', v_par', v_aug', v_augK, v_tgt', v_sub', v_mut', v_d1, v_d2, v_d3, v_dB, v_dSc, v_dScs, v_cons, v_tup', v_lst', v_dA, v_dAL, v_and', v_or', v_not', v_dT, v_iL, v_iR1, v_iR2, v_iR3, v_iEn, v_iZp, v_lCut, v_lOf, v_lCat, v_lRep, v_lRepE, k_rep0, v_rt', k_rt, v_idx, k_idx, v_lRev, k_rev, v_lSortI, v_lComp, v_oS, b_assoc, k_cmp, k_seq1, k_seq2, k_seq3, k_seq4, k_set, k_setL, k_ret, k_retL, k_if1, k_if2, k_for, k_par, k_aug2, k_tgt, k_tgt2, k_sub, k_sub1, k_sub2, k_sub3, k_mut, k_mut1, k_mut2, k_d2, k_d3, k_d31, k_d321, k_d322, k_bool, k_cons, k_cons2, k_tup, k_lst, k_al, k_and1, k_and2, k_or1, k_or2, k_not, k_dt, k_en, k_zp, k_cut, k_cut1, k_cut2, k_os, k_cat, k_rep, k_srt0, k_srt, k_comp, k_run1, k_run2, k_go1, k_go2, w_turn, w_turnR, w_turnW, w_nx, w_bk, w_ct, w_rN, w_V, w_C, w_nil, w_oN, w_yes, w_gSet, w_gTup, w_gsCons, w_gsNil, w_add, w_subI, w_lt, w_le, w_gt, w_ge, w_neg, w_isN, w_notN, w_n0, w_n1, w_n2, w_n3, w_n4, w_len1, w_len2, w_min2, w_max2, w_int1, w_int2, w_clr, w_ixL, w_ixT, w_sum, w_any, w_kil0, w_kil1, k_sc_int, k_sc_bool, k_sc_none, k_sc_str, k_scs_of, items?_list, items?_tuple, list?_list, cutD_map, all_int, all_int', List.length_map, hApp_of, hExt_of, hIns_of, hCat_of, hRep_of, hR1_of, hR2_of, hR3_of, hMul_of, hDiv_of, hMod_of, p10_3, p10_4, p10_5, p10_6, p10_7, p10_8, p10_9, p10_12, p10_50, p50_3, p50_4, atI_map, k_scs_int, List.getD_cons_zero, List.getD_cons_succ, List.set_cons_zero, List.set_cons_succ, List.map_cons, List.map_nil, List.cons_append, List.nil_append, List.append_nil, List.length_cons, List.length_nil, Option.bind_some, Option.bind_none, Option.map_some, Option.map_none, ↓reduceIte, Nat.reduceAdd, Nat.reduceSub, Int.reduceAdd, Int.reduceSub, Int.reduceMul, Int.reduceNeg, Nat.reduceLeDiff, Nat.reduceLT, Nat.reduceEqDiff, Nat.zero_add, List.reduceReplicate, List.replicate_zero, List.replicate_one, List.replicate_succ, Bool.and_true, Bool.true_and, Bool.not_true, Bool.not_false, decide_true, decide_false, Bool.false_eq_true, reduceCtorEq, and_self, if_false, if_true, hIsi_int_int, hIsi_int_bool, hIsi_int_list, hIsi_int_tuple, hIsi_int_str, hIsi_bool_int, hIsi_bool_bool, hIsi_bool_list, hIsi_bool_tuple, hIsi_bool_str, hIsi_none_int, hIsi_none_bool, hIsi_none_list, hIsi_none_tuple, hIsi_none_str, hIsi_list_int, hIsi_list_bool, hIsi_list_list, hIsi_list_tuple, hIsi_list_str, hIsi_tuple_int, hIsi_tuple_bool, hIsi_tuple_list, hIsi_tuple_tuple, hIsi_tuple_str, hIsi_str_int, hIsi_str_bool, hIsi_str_list, hIsi_str_tuple, hIsi_str_str, ond, Option.map_some, pairD, wD, g6, sem_law_t9, at3_0, at3_1, at3_2, wr, ak]
    simp -implicitDefEqProofs (disch := first | omega | (simp only [List.length_map, List.length_append, List.length_cons, List.length_nil, List.length_range, List.length_take, List.length_drop, List.length_replicate, List.length_set, List.length_reverse] <;> omega) | (refine mulC_small ?_; omega) | (refine mulC_smallR ?_; omega) | (refine divC_small ?_ ?_ <;> omega) | (refine powC_small ?_ ?_ ?_ <;> omega)) only [v_run, v_iTp, tup?_tuple, v_sIfM2, k_ifM2_0, k_ifM2_1, v_srtSet, k_srtSet, v_sZ, k_sZ, v_sReb, v_sClr, k_sClr, v_pinF, k_pin, v_iZp3, k_zp3, v_setP, setPK_of, v_appP, k_appP, k_appP1, k_appP2, k_appP3, k_appP4, List.getElem?_cons_zero, List.getElem?_cons_succ, v_lSortP, k_srtP0, v_lRng, k_rng, hRg1_of, v_seq, v_set', v_setL', v_ret', v_retL', v_if', v_for', v_par', v_aug', v_augK, v_tgt', v_sub', v_mut', v_d1, v_d2, v_d3, v_dB, v_dSc, v_dScs, v_cons, v_tup', v_lst', v_dA, v_dAL, v_and', v_or', v_not', v_dT, v_iL, v_iR1, v_iR2, v_iR3, v_iEn, v_iZp, v_lCut, v_lOf, v_lCat, v_lRep, v_lRepE, k_rep0, v_rt', k_rt, v_idx, k_idx, v_lRev, k_rev, v_lSortI, v_lComp, v_oS, b_assoc, k_cmp, k_seq1, k_seq2, k_seq3, k_seq4, k_set, k_setL, k_ret, k_retL, k_if1, k_if2, k_for, k_par, k_aug2, k_tgt, k_tgt2, k_sub, k_sub1, k_sub2, k_sub3, k_mut, k_mut1, k_mut2, k_d2, k_d3, k_d31, k_d321, k_d322, k_bool, k_cons, k_cons2, k_tup, k_lst, k_al, k_and1, k_and2, k_or1, k_or2, k_not, k_dt, k_en, k_zp, k_cut, k_cut1, k_cut2, k_os, k_cat, k_rep, k_srt0, k_srt, k_comp, k_run1, k_run2, k_go1, k_go2, w_turn, w_turnR, w_turnW, w_nx, w_bk, w_ct, w_rN, w_V, w_C, w_nil, w_oN, w_yes, w_gSet, w_gTup, w_gsCons, w_gsNil, w_add, w_subI, w_lt, w_le, w_gt, w_ge, w_neg, w_isN, w_notN, w_n0, w_n1, w_n2, w_n3, w_n4, w_len1, w_len2, w_min2, w_max2, w_int1, w_int2, w_clr, w_ixL, w_ixT, w_sum, w_any, w_kil0, w_kil1, k_sc_int, k_sc_bool, k_sc_none, k_sc_str, k_scs_of, items?_list, items?_tuple, list?_list, cutD_map, all_int, all_int', List.length_map, hApp_of, hExt_of, hIns_of, hCat_of, hRep_of, hR1_of, hR2_of, hR3_of, hMul_of, hDiv_of, hMod_of, p10_3, p10_4, p10_5, p10_6, p10_7, p10_8, p10_9, p10_12, p10_50, p50_3, p50_4, atI_map, k_scs_int, List.getD_cons_zero, List.getD_cons_succ, List.set_cons_zero, List.set_cons_succ, List.map_cons, List.map_nil, List.cons_append, List.nil_append, List.append_nil, List.length_cons, List.length_nil, Option.bind_some, Option.bind_none, Option.map_some, Option.map_none, ↓reduceIte, Nat.reduceAdd, Nat.reduceSub, Int.reduceAdd, Int.reduceSub, Int.reduceMul, Int.reduceNeg, Nat.reduceLeDiff, Nat.reduceLT, Nat.reduceEqDiff, Nat.zero_add, List.reduceReplicate, List.replicate_zero, List.replicate_one, List.replicate_succ, Bool.and_true, Bool.true_and, Bool.not_true, Bool.not_false, decide_true, decide_false, Bool.false_eq_true, reduceCtorEq, and_self, if_false, if_true, hIsi_int_int, hIsi_int_bool, hIsi_int_list, hIsi_int_tuple, hIsi_int_str, hIsi_bool_int, hIsi_bool_bool, hIsi_bool_list, hIsi_bool_tuple, hIsi_bool_str, hIsi_none_int, hIsi_none_bool, hIsi_none_list, hIsi_none_tuple, hIsi_none_str, hIsi_list_int, hIsi_list_bool, hIsi_list_list, hIsi_list_tuple, hIsi_list_str, hIsi_tuple_int, hIsi_tuple_bool, hIsi_tuple_list, hIsi_tuple_tuple, hIsi_tuple_str, hIsi_str_int, hIsi_str_bool, hIsi_str_list, hIsi_str_tuple, hIsi_str_str, hEq_self o4 (by decide), at3_0, at3_1, at3_2, wr, ak]

end Lw

namespace Lw
open PySem PySem.Spec PyProof.Rows L2 PV
theorem all_mk {l : PySem.W.OpenLaw} {w : World} {K : PySem.W.Frag} {h : Heap} {mg : Str → Option Value} {fa f1 f2 f3 f4 f5 f6 f7 f8 f9 f10 f11 f12 f13 f14 f15 f16 f17 : Addr} (X : K.In h) (G : h.Ns mainGlobals mg) (hfa : mg "law" = some (.ref fa))
    {od1 an1 od2 an2 od3 an3 od4 an4 od5 an5 od6 an6 od7 an7 od8 an8 od9 an9 od10 an10 od11 an11 od12 an12 od13 an13 od14 an14 od15 an15 od16 an16 od17 an17 : Option Addr} {sl1 sl2 sl3 sl4 sl5 sl6 sl7 sl8 sl9 sl10 sl11 sl12 sl13 sl14 sl15 sl16 sl17 : Array (Option Value)} {oc1 kV1 dc1 pm1 cd1 ct1 oc2 kV2 dc2 pm2 cd2 ct2 oc3 kV3 dc3 pm3 cd3 ct3 oc4 kV4 dc4 pm4 cd4 ct4 oc5 kV5 dc5 pm5 cd5 ct5 oc6 kV6 dc6 pm6 cd6 ct6 oc7 kV7 dc7 pm7 cd7 ct7 oc8 kV8 dc8 pm8 cd8 ct8 oc9 kV9 dc9 pm9 cd9 ct9 oc10 kV10 dc10 pm10 cd10 ct10 oc11 kV11 dc11 pm11 cd11 ct11 oc12 kV12 dc12 pm12 cd12 ct12 oc13 kV13 dc13 pm13 cd13 ct13 oc14 kV14 dc14 pm14 cd14 ct14 oc15 kV15 dc15 pm15 cd15 ct15 oc16 kV16 dc16 pm16 cd16 ct16 oc17 kV17 dc17 pm17 cd17 ct17 : Value}
    (a1 : PySem.W.nsIn K mainGlobals "_law_draw" = some (some (.ref f1))) (l1 : K.lookup f1 = some ⟨oc1, od1, .func (PySem.W.fnOf "_law_draw" "_law_draw" (defArgs st_law_draw) (defBody st_law_draw) (defScope st_law_draw) .none kV1 dc1 pm1 an1 cd1 ct1), sl1⟩) (c1 : PySem.W.codeIn K cd1 "_law_draw" = true) (k1 : PySem.W.keepIn K (.ref f1) = true)
    (a2 : PySem.W.nsIn K mainGlobals "_law_draws" = some (some (.ref f2))) (l2 : K.lookup f2 = some ⟨oc2, od2, .func (PySem.W.fnOf "_law_draws" "_law_draws" (defArgs st_law_draws) (defBody st_law_draws) (defScope st_law_draws) .none kV2 dc2 pm2 an2 cd2 ct2), sl2⟩) (c2 : PySem.W.codeIn K cd2 "_law_draws" = true) (k2 : PySem.W.keepIn K (.ref f2) = true)
    (a3 : PySem.W.nsIn K mainGlobals "_law_wishes" = some (some (.ref f3))) (l3 : K.lookup f3 = some ⟨oc3, od3, .func (PySem.W.fnOf "_law_wishes" "_law_wishes" (defArgs st_law_wishes) (defBody st_law_wishes) (defScope st_law_wishes) .none kV3 dc3 pm3 an3 cd3 ct3), sl3⟩) (c3 : PySem.W.codeIn K cd3 "_law_wishes" = true) (k3 : PySem.W.keepIn K (.ref f3) = true)
    (a4 : PySem.W.nsIn K mainGlobals "_law_cell_at" = some (some (.ref f4))) (l4 : K.lookup f4 = some ⟨oc4, od4, .func (PySem.W.fnOf "_law_cell_at" "_law_cell_at" (defArgs st_law_cell_at) (defBody st_law_cell_at) (defScope st_law_cell_at) .none kV4 dc4 pm4 an4 cd4 ct4), sl4⟩) (c4 : PySem.W.codeIn K cd4 "_law_cell_at" = true) (k4 : PySem.W.keepIn K (.ref f4) = true)
    (a5 : PySem.W.nsIn K mainGlobals "_law_town" = some (some (.ref f5))) (l5 : K.lookup f5 = some ⟨oc5, od5, .func (PySem.W.fnOf "_law_town" "_law_town" (defArgs st_law_town) (defBody st_law_town) (defScope st_law_town) .none kV5 dc5 pm5 an5 cd5 ct5), sl5⟩) (c5 : PySem.W.codeIn K cd5 "_law_town" = true) (k5 : PySem.W.keepIn K (.ref f5) = true)
    (a6 : PySem.W.nsIn K mainGlobals "_law_sets" = some (some (.ref f6))) (l6 : K.lookup f6 = some ⟨oc6, od6, .func (PySem.W.fnOf "_law_sets" "_law_sets" (defArgs st_law_sets) (defBody st_law_sets) (defScope st_law_sets) .none kV6 dc6 pm6 an6 cd6 ct6), sl6⟩) (c6 : PySem.W.codeIn K cd6 "_law_sets" = true) (k6 : PySem.W.keepIn K (.ref f6) = true)
    (a7 : PySem.W.nsIn K mainGlobals "_law_group" = some (some (.ref f7))) (l7 : K.lookup f7 = some ⟨oc7, od7, .func (PySem.W.fnOf "_law_group" "_law_group" (defArgs st_law_group) (defBody st_law_group) (defScope st_law_group) .none kV7 dc7 pm7 an7 cd7 ct7), sl7⟩) (c7 : PySem.W.codeIn K cd7 "_law_group" = true) (k7 : PySem.W.keepIn K (.ref f7) = true)
    (a8 : PySem.W.nsIn K mainGlobals "_law_due" = some (some (.ref f8))) (l8 : K.lookup f8 = some ⟨oc8, od8, .func (PySem.W.fnOf "_law_due" "_law_due" (defArgs st_law_due) (defBody st_law_due) (defScope st_law_due) .none kV8 dc8 pm8 an8 cd8 ct8), sl8⟩) (c8 : PySem.W.codeIn K cd8 "_law_due" = true) (k8 : PySem.W.keepIn K (.ref f8) = true)
    (a9 : PySem.W.nsIn K mainGlobals "picks_of" = some (some (.ref f9))) (l9 : K.lookup f9 = some ⟨oc9, od9, .func (PySem.W.fnOf "picks_of" "picks_of" (defArgs st_picks_of) (defBody st_picks_of) (defScope st_picks_of) .none kV9 dc9 pm9 an9 cd9 ct9), sl9⟩) (c9 : PySem.W.codeIn K cd9 "picks_of" = true) (k9 : PySem.W.keepIn K (.ref f9) = true)
    (a10 : PySem.W.nsIn K mainGlobals "common_of" = some (some (.ref f10))) (l10 : K.lookup f10 = some ⟨oc10, od10, .func (PySem.W.fnOf "common_of" "common_of" (defArgs st_common_of) (defBody st_common_of) (defScope st_common_of) .none kV10 dc10 pm10 an10 cd10 ct10), sl10⟩) (c10 : PySem.W.codeIn K cd10 "common_of" = true) (k10 : PySem.W.keepIn K (.ref f10) = true)
    (a11 : PySem.W.nsIn K mainGlobals "count_done" = some (some (.ref f11))) (l11 : K.lookup f11 = some ⟨oc11, od11, .func (PySem.W.fnOf "count_done" "count_done" (defArgs st_count_done) (defBody st_count_done) (defScope st_count_done) .none kV11 dc11 pm11 an11 cd11 ct11), sl11⟩) (c11 : PySem.W.codeIn K cd11 "count_done" = true) (k11 : PySem.W.keepIn K (.ref f11) = true)
    (a12 : PySem.W.nsIn K mainGlobals "short_ones" = some (some (.ref f12))) (l12 : K.lookup f12 = some ⟨oc12, od12, .func (PySem.W.fnOf "short_ones" "short_ones" (defArgs st_short_ones) (defBody st_short_ones) (defScope st_short_ones) .none kV12 dc12 pm12 an12 cd12 ct12), sl12⟩) (c12 : PySem.W.codeIn K cd12 "short_ones" = true) (k12 : PySem.W.keepIn K (.ref f12) = true)
    (a13 : PySem.W.nsIn K mainGlobals "cost_of" = some (some (.ref f13))) (l13 : K.lookup f13 = some ⟨oc13, od13, .func (PySem.W.fnOf "cost_of" "cost_of" (defArgs st_cost_of) (defBody st_cost_of) (defScope st_cost_of) .none kV13 dc13 pm13 an13 cd13 ct13), sl13⟩) (c13 : PySem.W.codeIn K cd13 "cost_of" = true) (k13 : PySem.W.keepIn K (.ref f13) = true)
    (a14 : PySem.W.nsIn K mainGlobals "wronged" = some (some (.ref f14))) (l14 : K.lookup f14 = some ⟨oc14, od14, .func (PySem.W.fnOf "wronged" "wronged" (defArgs st_wronged) (defBody st_wronged) (defScope st_wronged) .none kV14 dc14 pm14 an14 cd14 ct14), sl14⟩) (c14 : PySem.W.codeIn K cd14 "wronged" = true) (k14 : PySem.W.keepIn K (.ref f14) = true)
    (a15 : PySem.W.nsIn K mainGlobals "_law_whole" = some (some (.ref f15))) (l15 : K.lookup f15 = some ⟨oc15, od15, .func (PySem.W.fnOf "_law_whole" "_law_whole" (defArgs st_law_whole) (defBody st_law_whole) (defScope st_law_whole) .none kV15 dc15 pm15 an15 cd15 ct15), sl15⟩) (c15 : PySem.W.codeIn K cd15 "_law_whole" = true) (k15 : PySem.W.keepIn K (.ref f15) = true)
    (a16 : PySem.W.nsIn K mainGlobals "_law_alike" = some (some (.ref f16))) (l16 : K.lookup f16 = some ⟨oc16, od16, .func (PySem.W.fnOf "_law_alike" "_law_alike" (defArgs st_law_alike) (defBody st_law_alike) (defScope st_law_alike) .none kV16 dc16 pm16 an16 cd16 ct16), sl16⟩) (c16 : PySem.W.codeIn K cd16 "_law_alike" = true) (k16 : PySem.W.keepIn K (.ref f16) = true)
    (a17 : PySem.W.nsIn K mainGlobals "law" = some (some (.ref f17))) (l17 : K.lookup f17 = some ⟨oc17, od17, .func (PySem.W.fnOf "law" "law" (defArgs st_law) (defBody st_law) (defScope st_law) .none kV17 dc17 pm17 an17 cd17 ct17), sl17⟩) (c17 : PySem.W.codeIn K cd17 "law" = true) (k17 : PySem.W.keepIn K (.ref f17) = true)
    (z1 : PySem.W.nsIn K mainGlobals "bool" = some none) (z2 : PySem.W.nsIn K mainGlobals "enumerate" = some none) (z3 : PySem.W.nsIn K mainGlobals "int" = some none) (z4 : PySem.W.nsIn K mainGlobals "isinstance" = some none) (z5 : PySem.W.nsIn K mainGlobals "len" = some none) (z6 : PySem.W.nsIn K mainGlobals "list" = some none) (z7 : PySem.W.nsIn K mainGlobals "min" = some none) (z8 : PySem.W.nsIn K mainGlobals "range" = some none) (z9 : PySem.W.nsIn K mainGlobals "sum" = some none) (z10 : PySem.W.nsIn K mainGlobals "tuple" = some none)  (nl : noL K = true) :
    ∃ fd : FuncData, (∀ (s : Shared) (v : Value), BindsTo s fd ⟨[v], []⟩ [("script", v)]) ∧ ∀ base : Heap, K.In base → base.Ns mainGlobals mg → FnOk l.prog w K mg base CX0 13 fa fd ["script"] (spV K false .nw sem_law) := by
  have e := hfa.symm.trans (PySem.W.mg_of X G a17)
  cases e
  have B : Bt mg := ⟨PySem.W.mg_none_of X G z1, PySem.W.mg_none_of X G z2, PySem.W.mg_none_of X G z3, PySem.W.mg_none_of X G z4, PySem.W.mg_none_of X G z5, PySem.W.mg_none_of X G z6, PySem.W.mg_none_of X G z7, PySem.W.mg_none_of X G z8, PySem.W.mg_none_of X G z9, PySem.W.mg_none_of X G z10⟩
  refine ⟨PySem.W.fnOf "law" "law" (defArgs st_law) (defBody st_law) (defScope st_law) .none kV17 dc17 pm17 an17 cd17 ct17, fun s v => .of_eq rfl, fun base _ _ => ?_⟩
  have C1 := cal_law_draw (P := l.prog) (w := w) (base := base) (fun_mk (st := st_law_draw) l1 c1 k1) (PySem.W.mg_of X G a1) B
  have C2 := cal_law_draws (P := l.prog) (w := w) (base := base) (fun_mk (st := st_law_draws) l2 c2 k2) (PySem.W.mg_of X G a2) B C1
  have C3 := cal_law_wishes (P := l.prog) (w := w) (base := base) (fun_mk (st := st_law_wishes) l3 c3 k3) (PySem.W.mg_of X G a3) B C2
  have C4 := cal_law_cell_at (P := l.prog) (w := w) (base := base) (fun_mk (st := st_law_cell_at) l4 c4 k4) (PySem.W.mg_of X G a4) B
  have C5 := cal_law_town (P := l.prog) (w := w) (base := base) (fun_mk (st := st_law_town) l5 c5 k5) (PySem.W.mg_of X G a5) B C2 C3 C4
  have C6 := cal_law_sets (P := l.prog) (w := w) (base := base) (fun_mk (st := st_law_sets) l6 c6 k6) (PySem.W.mg_of X G a6) B
  have C7 := cal_law_group (P := l.prog) (w := w) (base := base) (fun_mk (st := st_law_group) l7 c7 k7) (PySem.W.mg_of X G a7) B
  have C8 := cal_law_due (P := l.prog) (w := w) (base := base) (fun_mk (st := st_law_due) l8 c8 k8) (PySem.W.mg_of X G a8) B C6 C7
  have C9 := cal_picks_of (P := l.prog) (w := w) (base := base) (fun_mk (st := st_picks_of) l9 c9 k9) (PySem.W.mg_of X G a9) B
  have C10 := cal_common_of (P := l.prog) (w := w) (base := base) (fun_mk (st := st_common_of) l10 c10 k10) (PySem.W.mg_of X G a10) B
  have C11 := cal_count_done (P := l.prog) (w := w) (base := base) (fun_mk (st := st_count_done) l11 c11 k11) (PySem.W.mg_of X G a11) B
  have C12 := cal_short_ones (P := l.prog) (w := w) (base := base) (fun_mk (st := st_short_ones) l12 c12 k12) (PySem.W.mg_of X G a12) B C10 C11
  have C13 := cal_cost_of (P := l.prog) (w := w) (base := base) (fun_mk (st := st_cost_of) l13 c13 k13) (PySem.W.mg_of X G a13) B
  have C14 := cal_wronged (P := l.prog) (w := w) (base := base) (fun_mk (st := st_wronged) l14 c14 k14) (PySem.W.mg_of X G a14) B C9 C12 C13
  have C15 := cal_law_whole (P := l.prog) (w := w) (base := base) (fun_mk (st := st_law_whole) l15 c15 k15) (PySem.W.mg_of X G a15) B
  have C16 := cal_law_alike (P := l.prog) (w := w) (base := base) (fun_mk (st := st_law_alike) l16 c16 k16) (PySem.W.mg_of X G a16) B C15
  exact law_fn (fun_mk (st := st_law) l17 c17 k17) (PySem.W.mg_of X G a17) B (noL_ok nl) C5 C4 C2 C8 C14 C16
end Lw
open PySem PySem.W PyProof.Rows
set_option maxHeartbeats 0 in
theorem PySem.Challenge.cw_purse_k31_groups_found_holds : PySem.Challenge.rw_purse_k31_groups_found.Holds := by
  w_on; o_law; k_head; (case hw => w_witness2)
  k_fill
  refine L2.walk_ofB (l := PySem.Challenge.rw_purse_k31_groups_found) (n := 63) (k := 13) (x := "script") (CX := fun _ => L2.CX0) (sp := fun w => PV.spV _ false .nw Lw.sem_law) rfl (by decide) rfl ⟨rfl, by decide, by decide⟩ (fun w h Y => PySem.W.kIn_of Y) ?F (fun _ _ a ns hl hb _ hS => PV.law_end hS (Lw.law_true ns hl hb)) (fun _ _ _ _ _ h => h)
  case F =>
    intro w mg fa h KX G hmg
    refine' Lw.all_mk KX G hmg ?a1 ?l1 ?c1 ?k1 ?a2 ?l2 ?c2 ?k2 ?a3 ?l3 ?c3 ?k3 ?a4 ?l4 ?c4 ?k4 ?a5 ?l5 ?c5 ?k5 ?a6 ?l6 ?c6 ?k6 ?a7 ?l7 ?c7 ?k7 ?a8 ?l8 ?c8 ?k8 ?a9 ?l9 ?c9 ?k9 ?a10 ?l10 ?c10 ?k10 ?a11 ?l11 ?c11 ?k11 ?a12 ?l12 ?c12 ?k12 ?a13 ?l13 ?c13 ?k13 ?a14 ?l14 ?c14 ?k14 ?a15 ?l15 ?c15 ?k15 ?a16 ?l16 ?c16 ?k16 ?a17 ?l17 ?c17 ?k17 ?z1 ?z2 ?z3 ?z4 ?z5 ?z6 ?z7 ?z8 ?z9 ?z10 ?nl
    (case a1 => k_is); (case l1 => k_is); (case c1 => k_is); (case k1 => k_is); (case a2 => k_is); (case l2 => k_is); (case c2 => k_is); (case k2 => k_is); (case a3 => k_is); (case l3 => k_is); (case c3 => k_is); (case k3 => k_is); (case a4 => k_is); (case l4 => k_is); (case c4 => k_is); (case k4 => k_is); (case a5 => k_is); (case l5 => k_is); (case c5 => k_is); (case k5 => k_is); (case a6 => k_is); (case l6 => k_is); (case c6 => k_is); (case k6 => k_is); (case a7 => k_is); (case l7 => k_is); (case c7 => k_is); (case k7 => k_is); (case a8 => k_is); (case l8 => k_is); (case c8 => k_is); (case k8 => k_is); (case a9 => k_is); (case l9 => k_is); (case c9 => k_is); (case k9 => k_is); (case a10 => k_is); (case l10 => k_is); (case c10 => k_is); (case k10 => k_is); (case a11 => k_is); (case l11 => k_is); (case c11 => k_is); (case k11 => k_is); (case a12 => k_is); (case l12 => k_is); (case c12 => k_is); (case k12 => k_is); (case a13 => k_is); (case l13 => k_is); (case c13 => k_is); (case k13 => k_is); (case a14 => k_is); (case l14 => k_is); (case c14 => k_is); (case k14 => k_is); (case a15 => k_is); (case l15 => k_is); (case c15 => k_is); (case k15 => k_is); (case a16 => k_is); (case l16 => k_is); (case c16 => k_is); (case k16 => k_is); (case a17 => k_is); (case l17 => k_is); (case c17 => k_is); (case k17 => k_is); (case z1 => k_is); (case z2 => k_is); (case z3 => k_is); (case z4 => k_is); (case z5 => k_is); (case z6 => k_is); (case z7 => k_is); (case z8 => k_is); (case z9 => k_is); (case z10 => k_is); (case nl => kernel_rfl)

