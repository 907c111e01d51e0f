import PyProof.Rows.All
import Wide.All
import OpenK.AllK
import Wide.FinOn
import HandS.ForMost
import HandS.Wide
import HandS.Walk
import HandS.SortInts
import HandS.IsInst
import HandS.More
import HandS.EndBits
import HandS.Rev
import HandS.RevTup
import KE.DataMinMax
import HandS.SortRule
import HandS.Conv
import KE.GoesZip
import KE.GoesMore
import PyProof.AutoSeq1
import HandS.TupSets
import HandS.SetFor
import KE.DatumOrd
import HandS.Text
import HandS.StrMore
import HandS.WordsDict
import PyProof.StrOps2
import HandS.Exc
import HandS.ExcOwn
import HandS.ExcIs
import HandS.WordsExc
import HandS.TryOnly
import HandS.Dict
import HandS.Iter
import KE.KAssignIn
import HandS.Small
import PyProof.SeqRoads2
import HandS.Deep
import HandS.RaiseMore
import KE.DataFind
import PySem.Challenge.RW_purse_k42_wishes_and_proposals
set_option Elab.async false
set_option linter.all false
set_option maxRecDepth 100000
set_option maxHeartbeats 4000000
/-! PV: defs that reckon with plain data (numbers, truths, None, texts, lists, tuples as trees), told by their values; lists that a def changes are its own until it hands them out. -/
namespace PV
open PySem PySem.Spec PyProof.Rows L2
/-! ### list(reversed(list)) -/
section
variable {prog : Program} {w : World} {A : Around} {E : Value → Shared → Prop} {s : Shared}
theorem init_rev {R : Result → Shared → Prop} {it l : Addr} {items : Array Value} (hh : A.handled = none) (hit : s.heap.IsRevIter it l ((items.size : Int) - 1)) (hl : s.heap.IsList l items) (hne : l ≠ it) (hn : items.size ≤ sizeLine)
    (S : Addr) (hSi : S ≠ it) (hSl : S ≠ l) (hS : s.heap.get? S = some { cls := .type "list", data := .seq #[] })
    (hR : ∀ h' tk acc' c', (∀ b o, b ≠ S → b ≠ it → s.heap.get? b = some o → h'.get? b = some o) → h'.get? S = some { cls := .type "list", dict := none, data := .seq acc' c', slots := #[] } →
      ItemsOf (fun i v => items[items.size - 1 - i]? = some v) acc' items.size → R (.ok (.ret .none)) { s with heap := h', toks := tk }) :
    wpAny (model prog w) A.in1 (Builtin.«list.__init__» ⟨[.ref S, .ref it], []⟩)
      (fun fin s' => match fin with | .done f => R (.ok f) s' | .again c' => c'.quiet = true ∧ codeAny (model prog w) A c' R s') (fun e s' => R (.error e) s') s := by
  have W := (Walks.listRev (prog := prog) (w := w) (A := A.in1) hh it l hne items).toS
  have hSf : S ∉ [it, l] := by simp only [List.mem_cons, List.not_mem_nil, or_false, not_or]; exact ⟨hSi, hSl⟩
  show wpAny _ _ (do let old ← Builtin.List.listItems (.ref S); Builtin.List.listUpdate (.ref S) (fun _ => #[]); letGo old.toList.reverse; Builtin.List.listExtendWith (.ref S) (.ref it) .none) _ _ s
  refine wpAny_bind ?_
  unfold Builtin.List.listItems
  refine wpAny_bind (wpAny_seqItems hS rfl (wpAny_pure ?_))
  show wpAny _ _ (updateSeq S (fun _ => #[]) >>= fun _ => letGo (#[] : Array Value).toList.reverse >>= fun _ => Builtin.List.listExtendWith (.ref S) (.ref it) .none) _ _ s
  refine wpAny_bind (wpAny_updateSeq hS rfl ?_)
  have hS₂ := Heap.get?_update_self (Obj.mapSeq (fun _ => (#[] : Array Value))) hS rfl
  have oth : ∀ b o, b ≠ S → s.heap.get? b = some o → (s.heap.update S (Obj.mapSeq (fun _ => (#[] : Array Value)))).get? b = some o :=
    fun b o hb e => (Heap.get?_update_other _ _ (Ne.symm hb)).trans e
  refine wpAny_bind (wpAny_letGo ?_)
  have hit1 : (s.heap.update S (Obj.mapSeq (fun _ => (#[] : Array Value)))).IsRevIter it l ((items.size : Int) - 1) := hit.at fun o e => oth it o (Ne.symm hSi) e
  have hl1 : (s.heap.update S (Obj.mapSeq (fun _ => (#[] : Array Value)))).IsList l items := let ⟨o, ho, r⟩ := hl; ⟨o, oth l o (Ne.symm hSl) ho, r⟩
  have hT : ({ s with heap := s.heap.update S (Obj.mapSeq (fun _ => (#[] : Array Value))) } : Shared).TypeIs (.ref it) "list_reverseiterator" := Heap.IsRevIter.typeIs (s := { s with heap := s.heap.update S (Obj.mapSeq (fun _ => (#[] : Array Value))) }) hit1
  have h1 : Builtin.List.listSameRef (.ref S) (.ref it) = false := by simp [Builtin.List.listSameRef, hSi]
  unfold Builtin.List.listExtendWith
  refine wpAny_bind (wpAny_typeOf hT ?_)
  rw [if_neg (by rw [h1]; decide)]
  refine wpAny_bind (wpAny_pyIter_revIter (s := { s with heap := s.heap.update S (Obj.mapSeq (fun _ => (#[] : Array Value))) }) hit1 ?_)
  refine wpAny_bind (wpAny_holding ?_)
  unfold Builtin.List.listLengthHint
  refine wpAny_bind (wpAny_specialOf hT RT.nolen_lri ?_)
  show wpAny _ A.in1 (specialOf (Value.ref it) (Str.ofString "__length_hint__") >>= _) _ _ _
  refine wpAny_bind (wpAny_specialOf hT RT.hint_lri ?_)
  generalize hid : ("list_reverseiterator.__length_hint__" : String) = id0
  wp_delta
  rw [show splitId id0 = some ("list_reverseiterator", "__length_hint__") from by subst hid; decide +kernel]
  subst hid
  refine wpAny_bind (wpAny_isInstance (b := true) hT (by rw [isSubtype_type]; kernel_rfl) ?_)
  refine wpAny_pure ?_
  rw [if_neg (by decide)]
  have e0 : ((items.size : Nat) : Int) - 1 - ((0 : Nat) : Int) = (items.size : Int) - 1 := by omega
  refine wpAny_pure ⟨plainId_quiet F.plain_extend_loop _, codeAny_extend_loopS W hn _ hSf _ items.size 0 _ #[] _ rfl (Nat.zero_le _) ⟨Nat.zero_le _, by rw [e0]; exact hit1, hl1⟩ hS₂ (ItemsOf.nil _) fun s' acc' c' hm hS' hacc => ?_⟩
  rw [Moved.eq_with hm]
  refine hR s'.heap s'.toks acc' c' (fun b o hb hb2 e => hm.heap b o (fun hmem => ?_) (oth b o hb e)) hS' hacc
  rcases List.mem_cons.mp hmem with e' | hmem
  · exact hb e'
  · exact hb2 (List.mem_singleton.mp hmem)
theorem call_listRev {it l : Addr} {items : Array Value} {Q : Value → Shared → Prop} (hh : A.handled = none) (hit : s.heap.IsRevIter it l ((items.size : Int) - 1)) (hl : s.heap.IsList l items) (hne : l ≠ it) (hn : items.size ≤ sizeLine)
    (hQ : ∀ h' tk acc' c', (∀ b o, b ≠ it → s.heap.get? b = some o → h'.get? b = some o) → h'.get? s.heap.objs.size = some { cls := .type "list", dict := none, data := .seq acc' c', slots := #[] } →
      ItemsOf (fun i v => items[items.size - 1 - i]? = some v) acc' items.size → Q (.ref s.heap.objs.size) { s with heap := h', toks := tk }) :
    wpAny (model prog w) A (call (.type "list") [.ref it]) Q E s := by
  obtain ⟨oi, hoi, _⟩ := id hit
  obtain ⟨ol, hol, _⟩ := id hl
  refine callType_codes (Q₁ := fun obj s₁ => obj = .ref s.heap.objs.size ∧ s₁ = { s with heap := s.heap.push { cls := .type "list", data := .seq #[] } }) F.called_list (F.typeCall_list_1 _) F.entry_list_init
    (code_list_new _ ⟨rfl, rfl⟩) fun obj s₁ h₁ => ?_
  obtain ⟨rfl, rfl⟩ := h₁
  have hS : (s.heap.push { cls := .type "list", data := .seq #[] }).get? s.heap.objs.size = some { cls := .type "list", data := .seq #[] } := Heap.get?_push_size _ rfl
  refine ⟨⟨_, hS, rfl⟩, F.args_list_init_2 _ _, init_rev (A := A.in1) hh (hit.at fun o e => Heap.get?_push_of_some _ e) (hl.push _) hne hn _ (Nat.ne_of_gt (Heap.lt_size hoi)) (Nat.ne_of_gt (Heap.lt_size hol)) hS fun h' tk acc' c' hk hS' hacc => ?_⟩
  exact ⟨rfl, hQ h' tk acc' c' (fun b o hb e => hk b o (Nat.ne_of_lt (Heap.lt_size e)) hb (Heap.get?_push_of_some _ e)) hS' hacc⟩
end
section
variable {X : Cx}
def tListRev (K : PySem.W.Frag) (te : TE) : TE := fun σ H Q => te σ H fun v H1 => ∃ (a : Addr) (xs : List V), v = .ref a ∧ SqL K H1 a xs ∧ ∀ p, H1 p = none → Q (.ref p) (upd H1 p (.lst xs.reverse))
theorem pe_listRev {e : Expr} {te : TE} {p p2 pos pos2 : Pos} (hc : X.calm = true) (hg : Gl X "list") (hm : X.mg "list" = none) (hv : bootBuiltins "list" = some (.type "list")) (hg2 : Gl X "reversed") (hm2 : X.mg "reversed" = none) (he : PE X e te)
    (hs : starEach [e] X.env = (false, eval e X.env) :: starEach [] X.env := by rfl)
    (hs2 : starEach [.Call (.Name "reversed" p2) [e] [] pos2] X.env = (false, eval (.Call (.Name "reversed" p2) [e] [] pos2) X.env) :: starEach [] X.env := by rfl) :
    PE X (.Call (.Name "list" p) [.Call (.Name "reversed" p2) [e] [] pos2] [] pos) (tListRev X.K te) := by
  refine ⟨fun pins s σ H Q I h => ?_⟩
  refine Call_ (ld_blt I hg hm hv (PyProof.Rows.callWith_type1 (args_cons (Call_ (ld_blt I hg2 hm2 PyProof.Rows.boot_reversed (PyProof.Rows.callWith_type1 (args_cons (thn (he.run pins s σ H _ I h) fun u s1 ⟨v, H1, I1, r1, q1⟩ => args_nil ?_) hs) hs rfl))) hs2) hs2 rfl))
  obtain ⟨a, xs, ev, hq, q⟩ := q1
  subst ev
  obtain rfl : u = Value.ref a := r1
  obtain ⟨its, rv, p', hz⟩ := I1.list hq
  refine call_reversed_list p'.isList (args_nil ?_)
  have k0 : ∀ b o, s1.heap.get? b = some o → (s1.heap.push (revObj a ((its.toArray.size : Int) - 1))).get? b = some o := fun b o e => Heap.get?_push_of_some _ e
  have hl := p'.isList
  obtain ⟨ol, hol, _⟩ := id hl
  have hne : a ≠ s1.heap.objs.size := Nat.ne_of_lt (Heap.lt_size hol)
  have hn : its.toArray.size ≤ sizeLine := by rw [List.size_toArray, ← rv.length]; exact hz
  refine call_listRev (s := { s1 with heap := s1.heap.push (revObj a ((its.toArray.size : Int) - 1)) }) (I1.ok.hd hc) ⟨_, Heap.get?_push_size _ rfl, rfl, rfl⟩ (hl.push _) hne hn fun h' tk acc c' hk hS hi => ?_
  have big : s1.heap.objs.size ≤ (s1.heap.push (revObj a ((its.toArray.size : Int) - 1))).objs.size := by
    unfold Heap.push
    rw [Array.size_push]
    exact Nat.le_succ _
  refine ⟨.ref _, upd H1 _ (.lst xs.reverse), I1.laid (t' := tk) (fun b o e => hk b o (Nat.ne_of_lt (Heap.lt_size e)) (k0 b o e)) big (show ObjOk X.prog X.w _ _ _ (.lst xs.reverse) from ⟨by rw [List.length_reverse]; exact hz, acc.toList, c', RT.vals_rev rv hi, ?_⟩), rfl, q _ (I1.hok.fresh big)⟩
  rw [Array.toArray_toList]
  exact hS
end
/-! ### trees -/
abbrev D := PyData
abbrev SE := List (Option D)
/-- where the objects of a value lie: new since the def's entry; new or among what was handed in for good; anywhere -/
inductive Rl where
  | nw | od | bo
/-- a slot: a value that stays (handed in, or new), or a list of the def's own (items handed in, or new); a list of one's own that rests at its place (pd), a value known by its place (cv), what may change (tr), a list whose item j is a list of one's own (mp) -/
inductive Md where
  | od | nw | mo | mn
  | pd (r : Rl) (a : Addr)
  | cv (v : V)
  | tr
  | mp (j : Nat)
def pr : Rl → Rl
  | .nw => .nw
  | _ => .od
theorem pr_bo {r : Rl} : pr r ≠ .bo := by cases r <;> intro z <;> cases z
def Ow (own : List (Option Addr)) (a : Addr) : Prop := ∃ i : Nat, own[i]? = some (some a)
/-- not locked -/
def nf : HO → Prop
  | .frz _ _ => False
  | _ => True
/-- new, and not locked -/
def Nw (H0 : Hp) (a : Addr) (o : HO) : Prop := H0 a = none ∧ nf o
def InR (r : Rl) (G H0 : Hp) (own : List (Option Addr)) (a : Addr) (o : HO) : Prop :=
  match r with
  | .bo => True
  | .od => ¬ Ow own a ∧ (Nw H0 a o ∨ G a ≠ none)
  | .nw => ¬ Ow own a ∧ Nw H0 a o
open Classical in
noncomputable def rg (r : Rl) (G H0 : Hp) (own : List (Option Addr)) (H : Hp) : Hp := fun a => (H a).bind fun o => if InR r G H0 own a o then some o else none
section
variable {K : PySem.W.Frag} {G G' H0 H0' H H' H1 : Hp} {own own' : List (Option Addr)} {r r' : Rl} {a : Addr} {o : HO}
theorem rg_iff : rg r G H0 own H a = some o ↔ InR r G H0 own a o ∧ H a = some o := by
  unfold rg
  cases e : H a with
  | none => exact ⟨fun z => (nomatch z), fun z => (nomatch z.2)⟩
  | some o' =>
    rw [Option.bind_some]
    by_cases h : InR r G H0 own a o'
    · rw [if_pos h]
      exact ⟨fun z => by cases z; exact ⟨h, rfl⟩, fun z => z.2⟩
    · rw [if_neg h]
      exact ⟨fun z => (nomatch z), fun z => by
        have := z.2
        cases this
        exact absurd z.1 h⟩
theorem rg_sub : Same (rg r G H0 own H) H := fun _ _ e => (rg_iff.mp e).2
theorem rg_all : Same H (rg .bo G H0 own H) := fun _ _ e => rg_iff.mpr ⟨True.intro, e⟩
theorem rg_ext (e : Same H H') : Same (rg r G H0 own H) (rg r G H0 own H') := fun _ _ q => rg_iff.mpr ⟨(rg_iff.mp q).1, e _ _ (rg_iff.mp q).2⟩
inductive RLe : Rl → Rl → Prop where
  | refl (x : Rl) : RLe x x
  | no : RLe .nw .od
  | bo (x : Rl) : RLe x .bo
theorem InR.le (l : RLe r r') (h : InR r G H0 own a o) : InR r' G H0 own a o := by
  cases l with
  | refl => exact h
  | no => exact ⟨h.1, .inl h.2⟩
  | bo => trivial
theorem rg_le (l : RLe r r') : Same (rg r G H0 own H) (rg r' G H0 own H) := fun _ _ q => rg_iff.mpr ⟨(rg_iff.mp q).1.le l, (rg_iff.mp q).2⟩
/-- what isn't a list of one's own stays, and isn't made one -/
def Gr (own : List (Option Addr)) (H : Hp) (own' : List (Option Addr)) (H' : Hp) : Prop := ∀ a o, ¬ Ow own a → H a = some o → ¬ Ow own' a ∧ H' a = some o
theorem Gr.refl : Gr own H own H := fun _ _ h e => ⟨h, e⟩
theorem Gr.trans {own2 : List (Option Addr)} {H2 : Hp} (x : Gr own H own' H') (y : Gr own' H' own2 H2) : Gr own H own2 H2 := fun a o h e => let ⟨h1, e1⟩ := x a o h e; y a o h1 e1
theorem Gr.of (e : Same H H') : Gr own H own H' := fun _ _ h q => ⟨h, e _ _ q⟩
theorem InR.now (h : InR r G H0 own a o) (hr : r ≠ .bo) : ¬ Ow own a := by
  cases r with
  | bo => exact absurd rfl hr
  | od => exact h.1
  | nw => exact h.1
theorem rg_gr (g : Gr own H own' H') (hr : r ≠ .bo) : Same (rg r G H0 own H) (rg r G H0 own' H') := fun a o q => by
  obtain ⟨h, e⟩ := rg_iff.mp q
  obtain ⟨n, e'⟩ := g a o (h.now hr) e
  refine rg_iff.mpr ⟨?_, e'⟩
  cases r with
  | bo => exact absurd rfl hr
  | od => exact ⟨n, h.2⟩
  | nw => exact ⟨n, h.2⟩
theorem rg_own (h : ∀ a, Ow own' a → Ow own a) : Same (rg r G H0 own H) (rg r G H0 own' H) := fun a o q => by
  obtain ⟨h1, e⟩ := rg_iff.mp q
  refine rg_iff.mpr ⟨?_, e⟩
  cases r with
  | bo => trivial
  | od => exact ⟨fun z => h1.1 (h a z), h1.2⟩
  | nw => exact ⟨fun z => h1.1 (h a z), h1.2⟩
theorem same_t {xs : List V} (e : Same H H') (h : SqT K H a xs) : SqT K H' a xs := by
  rcases h with (h | ⟨o, h⟩) | h
  · exact .inl (.inl (e _ _ h))
  · exact .inl (.inr ⟨o, e _ _ h⟩)
  · exact .inr h
mutual
theorem dp_mono (e : Same H H') : ∀ (d : D) (v : V), Dp K H v d → Dp K H' v d
  | .none, _, h => by cases h; exact .non
  | .bool b, _, h => by cases h; exact .bl b
  | .int i, _, h => by cases h; exact .int i
  | .str x, _, h => by cases h; exact .str x
  | .list ds, _, h => by
    cases h with
    | lst hs ha => exact .lst (e.seq hs) (dps_mono e ds _ ha)
  | .tuple ds, _, h => by
    cases h with
    | tup hs ha => exact .tup (same_t e hs) (dps_mono e ds _ ha)
  | .dict _, _, h => by cases h
theorem dps_mono (e : Same H H') : ∀ (ds : List D) (vs : List V), DpAll K H vs ds → DpAll K H' vs ds
  | [], _, h => by cases h; exact .nil
  | d :: ds, _, h => by
    cases h with
    | cons h1 h2 => exact .cons (dp_mono e d _ h1) (dps_mono e ds _ h2)
end
theorem dps_len : ∀ {ds : List D} {vs : List V}, DpAll K H vs ds → vs.length = ds.length
  | [], _, h => by cases h; rfl
  | d :: ds, _, h => by
    cases h with
    | cons h1 h2 => rw [List.length_cons, List.length_cons, dps_len h2]
theorem dps_get : ∀ {ds : List D} {vs : List V} {i : Nat} {d : D}, DpAll K H vs ds → ds[i]? = some d → ∃ v, vs[i]? = some v ∧ Dp K H v d
  | [], _, _, _, _, e => by simp at e
  | x :: ds, _, 0, d, h, e => by
    cases h with
    | cons h1 h2 => simp at e; subst e; exact ⟨_, rfl, h1⟩
  | x :: ds, _, i + 1, d, h, e => by
    cases h with
    | cons h1 h2 =>
      obtain ⟨v, e1, e2⟩ := dps_get (i := i) h2 (by simpa using e)
      exact ⟨v, by simpa using e1, e2⟩
theorem dps_at : ∀ {ds : List D} {vs : List V} {i : Nat} {v : V}, DpAll K H vs ds → vs[i]? = some v → ∃ d, ds[i]? = some d ∧ Dp K H v d
  | [], _, _, _, h, e => by cases h; simp at e
  | x :: ds, _, 0, v, h, e => by
    cases h with
    | cons h1 h2 => simp at e; subst e; exact ⟨_, rfl, h1⟩
  | x :: ds, _, i + 1, v, h, e => by
    cases h with
    | cons h1 h2 =>
      obtain ⟨d, e1, e2⟩ := dps_at (i := i) h2 (by simpa using e)
      exact ⟨d, by simpa using e1, e2⟩
theorem dps_app : ∀ {ds es : List D} {vs us : List V}, DpAll K H vs ds → DpAll K H us es → DpAll K H (vs ++ us) (ds ++ es)
  | [], _, _, _, h, h' => by cases h; exact h'
  | d :: ds, _, _, _, h, h' => by
    cases h with
    | cons h1 h2 => exact .cons h1 (dps_app h2 h')
theorem dps_take : ∀ {ds : List D} {vs : List V} (n : Nat), DpAll K H vs ds → DpAll K H (vs.take n) (ds.take n)
  | [], _, n, h => by cases h; rw [List.take_nil, List.take_nil]; exact .nil
  | d :: ds, _, 0, h => by rw [List.take_zero, List.take_zero]; exact .nil
  | d :: ds, _, n + 1, h => by
    cases h with
    | cons h1 h2 => exact .cons h1 (dps_take n h2)
theorem dps_drop : ∀ {ds : List D} {vs : List V} (n : Nat), DpAll K H vs ds → DpAll K H (vs.drop n) (ds.drop n)
  | [], _, n, h => by cases h; rw [List.drop_nil, List.drop_nil]; exact .nil
  | d :: ds, _, 0, h => h
  | d :: ds, _, n + 1, h => by
    cases h with
    | cons h1 h2 => exact dps_drop n h2
theorem dps_set {d : D} {v : V} (hv : Dp K H v d) : ∀ {ds : List D} {vs : List V} (i : Nat), DpAll K H vs ds → DpAll K H (vs.set i v) (ds.set i d)
  | [], _, _, h => by cases h; exact .nil
  | x :: ds, _, 0, h => by
    cases h with
    | cons h1 h2 => exact .cons hv h2
  | x :: ds, _, i + 1, h => by
    cases h with
    | cons h1 h2 => exact .cons h1 (dps_set hv i h2)
theorem dps_rep {d : D} {v : V} (hv : Dp K H v d) : ∀ (n : Nat), DpAll K H (List.replicate n v) (List.replicate n d)
  | 0 => .nil
  | n + 1 => .cons hv (dps_rep hv n)
/-! ### numbers, truths, None, texts -/
def isSc : D → Bool
  | .none => true
  | .bool _ => true
  | .int _ => true
  | .str _ => true
  | _ => false
def sv : D → V
  | .none => .non
  | .bool b => .bl b
  | .int i => .int i
  | .str x => .str x
  | _ => .non
theorem dp_sc {d : D} {v : V} (h : isSc d = true) (p : Dp K H v d) : v = sv d := by
  cases p with
  | non => rfl
  | bl => rfl
  | int => rfl
  | str => rfl
  | lst => cases h
  | tup => cases h
theorem sc_dp {d : D} (h : isSc d = true) : Dp K H (sv d) d := by
  cases d with
  | none => exact .non
  | bool b => exact .bl b
  | int i => exact .int i
  | str x => exact .str x
  | list _ => cases h
  | tuple _ => cases h
  | dict _ => cases h
theorem dp_flat {d : D} {v : V} (h : isSc d = true) (p : Dp K H v d) : Dp K H' v d := by
  rw [dp_sc h p]; exact sc_dp h
theorem dps_flat : ∀ {ds : List D} {vs : List V}, ds.all isSc = true → DpAll K H vs ds → DpAll K H' vs ds
  | [], _, _, h => by cases h; exact .nil
  | d :: ds, _, hs, h => by
    rw [List.all_cons, Bool.and_eq_true] at hs
    cases h with
    | cons h1 h2 => exact .cons (dp_flat hs.1 h1) (dps_flat hs.2 h2)
theorem dps_sv : ∀ {ds : List D} {vs : List V}, ds.all isSc = true → DpAll K H vs ds → vs = ds.map sv
  | [], _, _, h => by cases h; rfl
  | d :: ds, _, hs, h => by
    rw [List.all_cons, Bool.and_eq_true] at hs
    cases h with
    | cons h1 h2 => rw [List.map_cons, dp_sc hs.1 h1, dps_sv hs.2 h2]
theorem sv_dps : ∀ {ds : List D}, ds.all isSc = true → DpAll K H (ds.map sv) ds
  | [], _ => .nil
  | d :: ds, hs => by
    rw [List.all_cons, Bool.and_eq_true] at hs
    exact .cons (sc_dp hs.1) (sv_dps hs.2)
end
/-! ### the frame -/
def SlotM (K : PySem.W.Frag) (r : Rl) (G H0 : Hp) (own : List (Option Addr)) (H : Hp) (i : Nat) (v : V) (d : D) : Prop :=
  ∃ a vs ds, v = .ref a ∧ own[i]? = some (some a) ∧ H a = some (.lst vs) ∧ d = .list ds ∧ DpAll K (rg r G H0 own H) vs ds
open Classical in
/-- what is there since ahead of now, not handed in and not locked -/
noncomputable def rgt (G H0 : Hp) : Hp := fun a => (H0 a).bind fun o => if G a = none ∧ nf o then some o else none
theorem rgt_iff {G H0 : Hp} {a : Addr} {o : HO} : rgt G H0 a = some o ↔ (G a = none ∧ nf o) ∧ H0 a = some o := by
  unfold rgt
  cases e : H0 a with
  | none => exact ⟨fun z => (nomatch z), fun z => (nomatch z.2)⟩
  | some o' =>
    rw [Option.bind_some]
    by_cases h : G a = none ∧ nf o'
    · rw [if_pos h]
      exact ⟨fun z => by cases z; exact ⟨h, rfl⟩, fun z => z.2⟩
    · rw [if_neg h]
      exact ⟨fun z => (nomatch z), fun z => by
        have := z.2
        cases this
        exact absurd z.1 h⟩
/-- a list whose item j is a list of one's own -/
def SlotP (K : PySem.W.Frag) (j : Nat) (G H0 : Hp) (own : List (Option Addr)) (H : Hp) (i : Nat) (v : V) (d : D) : Prop :=
  ∃ a p vs us ds es, v = .ref a ∧ rg .nw G H0 own H a = some (.lst vs) ∧ vs[j]? = some (.ref p) ∧ own[i]? = some (some p) ∧ H p = some (.lst us) ∧ DpAll K (rg .od G H0 own H) us es ∧ d = .list ds ∧ vs.length = ds.length ∧ ds[j]? = some (.list es) ∧
    ∀ m d', m ≠ j → ds[m]? = some d' → ∃ v', vs[m]? = some v' ∧ Dp K (rg .od G H0 own H) v' d'
def SlotOk (K : PySem.W.Frag) (m : Md) (G H0 : Hp) (own : List (Option Addr)) (H : Hp) (i : Nat) (v : V) (d : D) : Prop :=
  match m with
  | .od => Dp K (rg .od G H0 own H) v d
  | .nw => Dp K (rg .nw G H0 own H) v d
  | .mo => SlotM K .od G H0 own H i v d
  | .mn => SlotM K .nw G H0 own H i v d
  | .pd r a => v = .ref a ∧ ∃ vs ds, H0 a = some (.lst vs) ∧ d = .list ds ∧ DpAll K (rg (pr r) G H0 own H) vs ds
  | .cv v0 => v = v0 ∧ Dp K (rg .od G H0 own H) v d ∧ Dp K G v d
  | .tr => Dp K (rgt G H0) v d
  | .mp j => SlotP K j G H0 own H i v d
def md (Γ : List Md) (i : Nat) : Md := Γ.getD i .od
structure ER (K : PySem.W.Frag) (Γ : List Md) (G H0 : Hp) (own : List (Option Addr)) (env : SE) (σ : L2.St) (H : Hp) : Prop where
  gs : Same G H0
  ex : Same H0 H
  inj : ∀ (i j : Nat) (a : Addr), own[i]? = some (some a) → own[j]? = some (some a) → i = j
  fr : ∀ (i : Nat) (a : Addr), own[i]? = some (some a) → H0 a = none ∧ ∃ o, H a = some o
  le : env.length = σ.length
  ol : σ.length ≤ own.length
  sl : ∀ (i : Nat) (d : D), env[i]? = some (some d) → ∃ v, σ[i]? = some (some v) ∧ SlotOk K (md Γ i) G H0 own H i v d
def Md.rd : Md → Rl
  | .od => .od
  | .nw => .nw
  | .cv _ => .od
  | _ => .bo
section
variable {K : PySem.W.Frag} {Γ : List Md} {G H0 H H' : Hp} {own own' : List (Option Addr)} {env : SE} {σ : L2.St} {i : Nat} {v : V} {d : D} {m : Md} {r : Rl}
theorem SlotM.dp (h : SlotM K r G H0 own H i v d) : Dp K H v d := by
  obtain ⟨a, vs, ds, rfl, _, h2, rfl, h3⟩ := h
  exact .lst (SqL.of h2) (dps_mono rg_sub _ _ h3)
theorem rgt_sub : Same (rgt G H0) H0 := fun a o e => (rgt_iff.mp e).2
theorem dps_of_get : ∀ {ds : List D} {vs : List V}, vs.length = ds.length → (∀ (m : Nat) d', ds[m]? = some d' → ∃ v', vs[m]? = some v' ∧ Dp K H v' d') → DpAll K H vs ds
  | [], [], _, _ => .nil
  | [], _ :: _, h, _ => by cases h
  | _ :: _, [], h, _ => by cases h
  | d :: ds, v :: vs, h, k => by
    obtain ⟨v', e, hv⟩ := k 0 d rfl
    cases e
    exact .cons hv (dps_of_get (by simpa using h) fun m d' e => k (m + 1) d' e)
theorem SlotP.dp {j : Nat} (h : SlotP K j G H0 own H i v d) : Dp K H v d := by
  obtain ⟨a, p, vs, us, ds, es, rfl, h1, h2, h3, h4, h5, rfl, h6, h7, h8⟩ := h
  refine .lst (SqL.of (rg_sub _ _ h1)) (dps_of_get h6 fun m d' e => ?_)
  by_cases q : m = j
  · subst q
    rw [h7] at e
    cases e
    exact ⟨_, h2, .lst (SqL.of h4) (dps_mono rg_sub _ _ h5)⟩
  · obtain ⟨v', e1, e2⟩ := h8 m d' q e
    exact ⟨v', e1, dp_mono rg_sub _ _ e2⟩
theorem SlotOk.dp (hx : Same H0 H) (h : SlotOk K m G H0 own H i v d) : Dp K (rg m.rd G H0 own H) v d := by
  cases m with
  | od => exact h
  | nw => exact h
  | mo => exact dp_mono rg_all _ _ (SlotM.dp h)
  | mn => exact dp_mono rg_all _ _ (SlotM.dp h)
  | pd r a =>
    obtain ⟨rfl, vs, ds, h1, rfl, h2⟩ := h
    exact dp_mono rg_all _ _ (.lst (SqL.of (hx _ _ h1)) (dps_mono rg_sub _ _ h2))
  | cv v0 => exact h.2.1
  | tr => exact dp_mono ((rgt_sub.trans hx).trans rg_all) _ _ h
  | mp j => exact dp_mono rg_all _ _ (SlotP.dp h)
/-- what a slot holds stays, where its objects do -/
theorem SlotOk.step (sub : ∀ {rr : Rl}, rr ≠ .bo → Same (rg rr G H0 own H) (rg rr G H0 own' H')) (ho : ∀ a, own[i]? = some (some a) → own'[i]? = some (some a) ∧ ∀ o, H a = some o → H' a = some o) (h : SlotOk K m G H0 own H i v d) : SlotOk K m G H0 own' H' i v d := by
  have so := sub (rr := .od) (by intro z; cases z)
  have sn := sub (rr := .nw) (by intro z; cases z)
  cases m with
  | od => exact dp_mono so _ _ h
  | nw => exact dp_mono sn _ _ h
  | mo =>
    obtain ⟨a, vs, ds, h0, h1, h2, h4, h3⟩ := h
    exact ⟨a, vs, ds, h0, (ho a h1).1, (ho a h1).2 _ h2, h4, dps_mono so _ _ h3⟩
  | mn =>
    obtain ⟨a, vs, ds, h0, h1, h2, h4, h3⟩ := h
    exact ⟨a, vs, ds, h0, (ho a h1).1, (ho a h1).2 _ h2, h4, dps_mono sn _ _ h3⟩
  | pd r a =>
    obtain ⟨h0, vs, ds, h1, h2, h3⟩ := h
    exact ⟨h0, vs, ds, h1, h2, dps_mono (sub pr_bo) _ _ h3⟩
  | cv v0 => exact ⟨h.1, dp_mono so _ _ h.2.1, h.2.2⟩
  | tr => exact h
  | mp j =>
    obtain ⟨a, p, vs, us, ds, es, h0, h1, h2, h3, h4, h5, h6, h7, h8, h9⟩ := h
    exact ⟨a, p, vs, us, ds, es, h0, sn _ _ h1, h2, (ho p h3).1, (ho p h3).2 _ h4, dps_mono so _ _ h5, h6, h7, h8, fun m d' q e => let ⟨v', e1, e2⟩ := h9 m d' q e; ⟨v', e1, dp_mono so _ _ e2⟩⟩
theorem SlotM.ext (e : Same H H') (h : SlotM K r G H0 own H i v d) : SlotM K r G H0 own H' i v d := by
  obtain ⟨a, vs, ds, h0, h1, h2, h4, h3⟩ := h
  exact ⟨a, vs, ds, h0, h1, e _ _ h2, h4, dps_mono (rg_ext e) _ _ h3⟩
theorem SlotOk.ext (e : Same H H') (h : SlotOk K m G H0 own H i v d) : SlotOk K m G H0 own H' i v d := h.step (fun _ => rg_ext e) fun a q => ⟨q, fun o => e _ _⟩
theorem ER.ext (R : ER K Γ G H0 own env σ H) (e : Same H H') : ER K Γ G H0 own env σ H' :=
  ⟨R.gs, R.ex.trans e, R.inj, fun i a h => let ⟨h1, o, h2⟩ := R.fr i a h; ⟨h1, o, e _ _ h2⟩, R.le, R.ol, fun i d h => let ⟨v, h1, h2⟩ := R.sl i d h; ⟨v, h1, h2.ext e⟩⟩
/-- a value that stays goes to a slot -/
theorem ER.put (R : ER K Γ G H0 own env σ H) (i : Nat) (d : D) (v : V) (h : SlotOk K (md Γ i) G H0 own H i v d) : ER K Γ G H0 own (env.set i (some d)) (σ.set i (some v)) H := by
  refine ⟨R.gs, R.ex, R.inj, R.fr, by rw [List.length_set, List.length_set]; exact R.le, by rw [List.length_set]; exact R.ol, fun j e hj => ?_⟩
  by_cases hi : i = j
  · subst hi
    have hl : i < env.length := by
      have := (List.getElem?_eq_some_iff.mp hj).1
      rw [List.length_set] at this
      exact this
    rw [List.getElem?_set_self hl] at hj
    cases hj
    exact ⟨v, List.getElem?_set_self (by rw [← R.le]; exact hl), h⟩
  · rw [List.getElem?_set_ne hi] at hj
    rw [List.getElem?_set_ne hi]
    exact R.sl j e hj
theorem ER.forget (R : ER K Γ G H0 own env σ H) (i : Nat) : ER K Γ G H0 own (env.set i none) σ H := by
  refine ⟨R.gs, R.ex, R.inj, R.fr, by rw [List.length_set]; exact R.le, R.ol, fun j e hj => ?_⟩
  by_cases hi : i = j
  · subst hi
    by_cases hl : i < env.length
    · rw [List.getElem?_set_self hl] at hj; cases hj
    · rw [List.getElem?_eq_none (by rw [List.length_set]; omega)] at hj; cases hj
  · rw [List.getElem?_set_ne hi] at hj
    exact R.sl j e hj
/-- slots forgotten -/
def kil : List Nat → SE → SE
  | [], e => e
  | i :: is, e => (kil is e).set i none
theorem ER.kil : ∀ (ks : List Nat) {env : SE}, ER K Γ G H0 own env σ H → ER K Γ G H0 own (kil ks env) σ H
  | [], _, R => R
  | i :: is, _, R => (ER.kil is R).forget i
theorem ER.forget2 (R : ER K Γ G H0 own env σ H) (i : Nat) : ER K Γ G H0 own (env.set i none) (σ.set i none) H := by
  refine ⟨R.gs, R.ex, R.inj, R.fr, by rw [List.length_set, List.length_set]; exact R.le, by rw [List.length_set]; exact R.ol, fun j e hj => ?_⟩
  by_cases hi : i = j
  · subst hi
    by_cases hl : i < env.length
    · rw [List.getElem?_set_self hl] at hj; cases hj
    · rw [List.getElem?_eq_none (by rw [List.length_set]; omega)] at hj; cases hj
  · rw [List.getElem?_set_ne hi] at hj
    rw [List.getElem?_set_ne hi]
    exact R.sl j e hj
theorem ER.wipe : ∀ (ks : List Nat) {env : SE} {σ : L2.St}, ER K Γ G H0 own env σ H → ER K Γ G H0 own (PV.kil ks env) (L2.wipe σ ks) H
  | [], _, _, R => R
  | i :: is, _, _, R => (ER.wipe is R).forget2 i
theorem ER.live (R : ER K Γ G H0 own env σ H) {a : Addr} (h : H a = none) : ¬ Ow own a := fun ⟨i, e⟩ => by
  obtain ⟨_, o, q⟩ := R.fr i a e
  rw [h] at q; cases q
theorem ER.new (R : ER K Γ G H0 own env σ H) {a : Addr} (h : H a = none) : H0 a = none := R.ex.free h
theorem ow_snoc {a p : Addr} (h : Ow own a) : Ow (own ++ [some p]) a := by
  obtain ⟨i, e⟩ := h
  have hl := (List.getElem?_eq_some_iff.mp e).1
  exact ⟨i, by rw [List.getElem?_append_left hl]; exact e⟩
theorem ow_snoc_self {p : Addr} : Ow (own ++ [some p]) p := ⟨own.length, by simp⟩
theorem ow_of_snoc {a p : Addr} (h : Ow (own ++ [some p]) a) : Ow own a ∨ a = p := by
  obtain ⟨i, e⟩ := h
  by_cases hl : i < own.length
  · rw [List.getElem?_append_left hl] at e
    exact .inl ⟨i, e⟩
  · rw [List.getElem?_append_right (by omega)] at e
    by_cases h0 : i - own.length = 0
    · rw [h0] at e
      simp at e
      exact .inr e.symm
    · rw [List.getElem?_eq_none (by simp; omega)] at e
      cases e
theorem ow_of_set {a p : Addr} {i : Nat} (h : Ow (own.set i (some p)) a) : Ow own a ∨ a = p := by
  obtain ⟨j, e⟩ := h
  by_cases hi : i = j
  · subst hi
    by_cases hl : i < own.length
    · rw [List.getElem?_set_self hl] at e
      cases e
      exact .inr rfl
    · rw [List.getElem?_eq_none (by rw [List.length_set]; omega)] at e
      cases e
  · rw [List.getElem?_set_ne hi] at e
    exact .inl ⟨j, e⟩
end

/-! ### judgements -/
section
variable (X : Cx) (Γ : List Md)
def OkE (K : PySem.W.Frag) (Γ : List Md) (r : Rl) (f : SE → Option D) (t : TE) : Prop :=
  ∀ (G H0 : Hp) (own : List (Option Addr)) (env : SE) (σ : L2.St) (H : Hp) (Q : VK) (d : D), ER K Γ G H0 own env σ H → f env = some d → (∀ v H', Same H H' → Dp K (rg r G H0 own H') v d → Q v H') → t σ H Q
def OkT (K : PySem.W.Frag) (Γ : List Md) (f : SE → Option Bool) (t : TT) : Prop :=
  ∀ (G H0 : Hp) (own : List (Option Addr)) (env : SE) (σ : L2.St) (H : Hp) (Q : Bool → Hp → Prop) (b : Bool), ER K Γ G H0 own env σ H → f env = some b → (∀ H', Same H H' → Q b H') → t σ H Q
def OkA (K : PySem.W.Frag) (Γ : List Md) (r : Rl) (f : SE → Option (List D)) (t : TA) : Prop :=
  ∀ (G H0 : Hp) (own : List (Option Addr)) (env : SE) (σ : L2.St) (H : Hp) (Q : List V → Hp → Prop) (ds : List D), ER K Γ G H0 own env σ H → f env = some ds → (∀ vs H', Same H H' → DpAll K (rg r G H0 own H') vs ds → Q vs H') → t σ H Q
/-- a new list -/
def OkL (K : PySem.W.Frag) (Γ : List Md) (r : Rl) (f : SE → Option (List D)) (t : TE) : Prop :=
  ∀ (G H0 : Hp) (own : List (Option Addr)) (env : SE) (σ : L2.St) (H : Hp) (Q : VK) (ds : List D), ER K Γ G H0 own env σ H → f env = some ds →
    (∀ a vs H', Same H H' → H a = none → H' a = some (.lst vs) → DpAll K (rg r G H0 (own ++ [some a]) H') vs ds → Q (.ref a) H') → t σ H Q
structure VE (e : Expr) (r : Rl) (f : SE → Option D) (t : TE) : Prop where
  pe : PE X e t
  ok : OkE X.K Γ r f t
structure VT (e : Expr) (f : SE → Option Bool) (t : TT) : Prop where
  pt : PT X e t
  ok : OkT X.K Γ f t
structure VW (e : Expr) (f : SE → Option Bool) (t : TT) : Prop where
  pt : PW X e t
  ok : OkT X.K Γ f t
structure VA (es : List Expr) (r : Rl) (f : SE → Option (List D)) (t : TA) : Prop where
  pa : PA X es t
  ln : ∀ env ds, f env = some ds → ds.length = es.length
  ok : OkA X.K Γ r f t
structure VL (e : Expr) (r : Rl) (f : SE → Option (List D)) (t : TE) : Prop where
  pe : PE X e t
  ok : OkL X.K Γ r f t
end
/-! ### what expressions are worth -/
def dV (i : Nat) (e : SE) : Option D := e.getD i none
def dC (d : D) (_ : SE) : Option D := some d
def d1 (h : D → Option D) (f : SE → Option D) (e : SE) : Option D := (f e).bind h
def d2 (h : D → D → Option D) (f g : SE → Option D) (e : SE) : Option D := (f e).bind fun x => (g e).bind fun y => h x y
def dB (f : SE → Option D) (e : SE) : Option Bool := (f e).bind fun x => match x with
  | .bool b => some b
  | _ => none
def dSc (f : SE → Option D) (e : SE) : Option D := (f e).bind fun x => if isSc x = true then some x else none
def dScs (f : SE → Option (List D)) (e : SE) : Option (List D) := (f e).bind fun x => if x.all isSc = true then some x else none
def dNil (_ : SE) : Option (List D) := some []
def dCons (f : SE → Option D) (g : SE → Option (List D)) (e : SE) : Option (List D) := (f e).bind fun x => (g e).bind fun y => some (x :: y)
def dTup (f : SE → Option (List D)) (e : SE) : Option D := (f e).bind fun x => some (.tuple x)
def dLst (f : SE → Option (List D)) (e : SE) : Option D := (f e).bind fun x => some (.list x)
def dA (h : List D → Option D) (f : SE → Option (List D)) (e : SE) : Option D := (f e).bind h
def tAndD (f g : SE → Option Bool) (e : SE) : Option Bool := (f e).bind fun b => match b with
  | true => g e
  | false => some false
def tOrD (f g : SE → Option Bool) (e : SE) : Option Bool := (f e).bind fun b => match b with
  | true => some true
  | false => g e
def tNotD (f : SE → Option Bool) (e : SE) : Option Bool := (f e).bind fun b => some (!b)
def dT (f : SE → Option Bool) (e : SE) : Option D := (f e).bind fun b => some (.bool b)
section
variable {X : Cx} {Γ : List Md} {r r' ra rb : Rl} {e a b : Expr} {es : List Expr} {f g : SE → Option D} {t ta tb : TE} {pos : Pos}
theorem v_le (l : RLe r r') (h : VE X Γ e r f t) : VE X Γ e r' f t := ⟨h.pe, fun G H0 own env σ H Q d R q k => h.ok G H0 own env σ H Q d R q fun v H' s p => k v H' s (dp_mono (rg_le l) _ _ p)⟩
theorem v_sc (h : VE X Γ e r f t) : VE X Γ e .nw (dSc f) t := ⟨h.pe, fun G H0 own env σ H Q d R q k => by
  unfold dSc at q
  cases e1 : f env with
  | none => rw [e1] at q; cases q
  | some x =>
    rw [e1] at q
    simp only [Option.bind_some] at q
    by_cases hs : isSc x = true
    · rw [if_pos hs] at q
      cases q
      exact h.ok G H0 own env σ H Q d R e1 fun v H' s p => k v H' s (dp_flat hs p)
    · rw [if_neg hs] at q; cases q⟩
theorem v_name (i : Nat) {x : Str} (hN : X.N[i]? = some x := by rfl) (hv : Vis X.env.scope x := by first | exact Or.inl rfl | exact Or.inr (Or.inl rfl) | exact Or.inr (Or.inr rfl)) (hd : (x == ("__debug__" : Str)) = false := by decide)
    (hcd : (x == ("__classdict__" : Str)) = false := by decide) : VE X Γ (.Name x pos) (md Γ i).rd (dV i) (tVar i) := ⟨pe_var hN hv hd hcd, fun G H0 own env σ H Q d R q k => by
  have q' : env[i]? = some (some d) := by
    unfold dV at q
    rw [List.getD_eq_getElem?_getD] at q
    cases e1 : env[i]? with
    | none => rw [e1] at q; cases q
    | some x => rw [e1] at q; exact congrArg some q
  obtain ⟨v, h1, h2⟩ := R.sl i d q'
  exact ⟨v, h1, k v H (Same.refl H) (h2.dp R.ex)⟩⟩
theorem v_con {d : D} (hs : isSc d = true) (h : PE X e (tC (sv d))) : VE X Γ e .nw (dC d) (tC (sv d)) := ⟨h, fun G H0 own env σ H Q d' R q k => by
  cases q
  exact k _ H (Same.refl H) (sc_dp hs)⟩
theorem v_int {i : Int} {j : Nat} : VE X Γ (.Constant (.int i) j pos) .nw (dC (.int i)) (tC (.int i)) := v_con (d := .int i) rfl pe_int
theorem v_bl {i : Bool} {j : Nat} : VE X Γ (.Constant (.bool i) j pos) .nw (dC (.bool i)) (tC (.bl i)) := v_con (d := .bool i) rfl pe_bl
theorem v_non {j : Nat} : VE X Γ (.Constant .none j pos) .nw (dC .none) (tC .non) := v_con (d := .none) rfl pe_non
theorem v_str {z : Str} {j : Nat} : VE X Γ (.Constant (.str z) j pos) .nw (dC (.str z)) (tC (.str z)) := v_con (d := .str z) rfl pe_str
/-- an operation by values whose answer is a number, a truth, None or a text -/
def R2s (K : PySem.W.Frag) (rr : R2) (h : D → D → Option D) : Prop := ∀ (x y : V) (dx dy d : D) (H : Hp) (Q : VK), Dp K H x dx → Dp K H y dy → h dx dy = some d → isSc d = true ∧ (Q (sv d) H → rr x y H Q)
theorem ok_op {rr : R2} {h : D → D → Option D} {K : PySem.W.Frag} (hs : R2s K rr h) (ha : OkE K Γ ra f ta) (hb : OkE K Γ rb g tb) : OkE K Γ .nw (d2 h f g) (tOp rr ta tb) := fun G H0 own env σ H Q d R q k => by
  unfold d2 at q
  cases e1 : f env with
  | none => rw [e1] at q; cases q
  | some x =>
    cases e2 : g env with
    | none => rw [e1, e2] at q; cases q
    | some y =>
      rw [e1, e2] at q
      simp only [Option.bind_some] at q
      refine ha G H0 own env σ H _ x R e1 fun v1 H1 s1 p1 => ?_
      refine hb G H0 own env σ H1 _ y (R.ext s1) e2 fun v2 H2 s2 p2 => ?_
      obtain ⟨h1, h2⟩ := hs v1 v2 x y d H2 Q (dp_mono (rg_sub.trans s2) _ _ p1) (dp_mono rg_sub _ _ p2) q
      exact h2 (k _ H2 (s1.trans s2) (sc_dp h1))
theorem v_op {op : Operator} {rr : R2} {h : D → D → Option D} (ho : OpR X (binaryOp op) rr) (hs : R2s X.K rr h) (ha : VE X Γ a ra f ta) (hb : VE X Γ b rb g tb) : VE X Γ (.BinOp a op b pos) .nw (d2 h f g) (tOp rr ta tb) := ⟨pe_op ho ha.pe hb.pe, ok_op hs ha.ok hb.ok⟩
theorem v_cmp {op : CmpOp} {rr : R2} {h : D → D → Option D} (ho : OpR X (compareOp op) rr) (hs : R2s X.K rr h) (ha : VE X Γ a ra f ta) (hb : VE X Γ b rb g tb) (hm : behindInMarks op b = false := by first | exact nomark _ | rfl) :
    VE X Γ (.Compare a [op] [b] pos) .nw (d2 h f g) (tOp rr ta tb) := ⟨pe_cmpR ho ha.pe hb.pe hm, ok_op hs ha.ok hb.ok⟩
theorem ok_b {K : PySem.W.Frag} (h : OkE K Γ r f t) : OkT K Γ (dB f) (tB t) := fun G H0 own env σ H Q b R q k => by
  unfold dB at q
  cases e1 : f env with
  | none => rw [e1] at q; cases q
  | some x =>
    rw [e1] at q
    simp only [Option.bind_some] at q
    cases x with
    | bool c =>
      cases q
      exact h G H0 own env σ H _ _ R e1 fun v H' s p => by
        cases p
        exact ⟨b, rfl, k H' s⟩
    | _ => cases q
theorem vt_cmp {op : CmpOp} {rr : R2} {h : D → D → Option D} (ho : OpR X (compareOp op) rr) (hs : R2s X.K rr h) (ha : VE X Γ a ra f ta) (hb : VE X Γ b rb g tb) (hm : behindInMarks op b = false := by first | exact nomark _ | rfl) :
    VT X Γ (.Compare a [op] [b] pos) (dB (d2 h f g)) (tTest (tOp rr ta tb)) := ⟨pt_cmpR ho ha.pe hb.pe hm, ok_b (ok_op hs ha.ok hb.ok)⟩
theorem vt_val (h : VE X Γ e r f t) (he : ∀ whole, isTrue e X.env whole = (do let v ← whole; standAt e.pos; holding [v] (truthy v)) := by intro _; rfl) : VT X Γ e (dB f) (tB t) := ⟨pt_val h.pe he, ok_b h.ok⟩
section
variable {p q : SE → Option Bool} {tp tq : TT} {rest : List Expr}
theorem ok_and {K : PySem.W.Frag} (ha : OkT K Γ p tp) (hb : OkT K Γ q tq) : OkT K Γ (tAndD p q) (tAnd tp tq) := fun G H0 own env σ H Q b R z k => by
  unfold tAndD at z
  cases e1 : p env with
  | none => rw [e1] at z; cases z
  | some c =>
    rw [e1] at z
    simp only [Option.bind_some] at z
    refine ha G H0 own env σ H _ c R e1 fun H1 s1 => ?_
    cases c with
    | true => exact iteT (hb G H0 own env σ H1 _ b (R.ext s1) z fun H2 s2 => k H2 (s1.trans s2))
    | false => cases z; exact iteF (k H1 s1)
theorem ok_or {K : PySem.W.Frag} (ha : OkT K Γ p tp) (hb : OkT K Γ q tq) : OkT K Γ (tOrD p q) (tOr tp tq) := fun G H0 own env σ H Q b R z k => by
  unfold tOrD at z
  cases e1 : p env with
  | none => rw [e1] at z; cases z
  | some c =>
    rw [e1] at z
    simp only [Option.bind_some] at z
    refine ha G H0 own env σ H _ c R e1 fun H1 s1 => ?_
    cases c with
    | false => exact iteF (hb G H0 own env σ H1 _ b (R.ext s1) z fun H2 s2 => k H2 (s1.trans s2))
    | true => cases z; exact iteT (k H1 s1)
theorem vw_pt (h : VW X Γ e p tp) : VT X Γ e p tp := ⟨h.pt.pt, h.ok⟩
theorem vw_and1 (h : VT X Γ a p tp) : VW X Γ (.BoolOp .And [a] pos) p tp := ⟨pw_and1 h.pt, h.ok⟩
theorem vw_or1 (h : VT X Γ a p tp) : VW X Γ (.BoolOp .Or [a] pos) p tp := ⟨pw_or1 h.pt, h.ok⟩
theorem vw_and (ha : VT X Γ a p tp) (hb : VW X Γ (.BoolOp .And (b :: rest) pos) q tq) : VW X Γ (.BoolOp .And (a :: b :: rest) pos) (tAndD p q) (tAnd tp tq) := ⟨pw_and ha.pt hb.pt, ok_and ha.ok hb.ok⟩
theorem vw_or (ha : VT X Γ a p tp) (hb : VW X Γ (.BoolOp .Or (b :: rest) pos) q tq) : VW X Γ (.BoolOp .Or (a :: b :: rest) pos) (tOrD p q) (tOr tp tq) := ⟨pw_or ha.pt hb.pt, ok_or ha.ok hb.ok⟩
theorem vt_not (ha : VT X Γ a p tp) : VT X Γ (.UnaryOp .Not a pos) (tNotD p) (tNot tp) := ⟨pt_not ha.pt, fun G H0 own env σ H Q b R z k => by
  unfold tNotD at z
  cases e1 : p env with
  | none => rw [e1] at z; cases z
  | some c =>
    rw [e1] at z
    cases z
    exact ha.ok G H0 own env σ H _ c R e1 fun H1 s1 => k H1 s1⟩
end
/-! ### and, or, not of truths as values -/
theorem v_one {op : BoolOp} (h : VE X Γ a r f t) : VE X Γ (.BoolOp op [a] pos) r f t := ⟨pe_one h.pe, h.ok⟩
theorem v_and {rest : List Expr} (ha : VE X Γ a ra f ta) (hb : VE X Γ (.BoolOp .And (b :: rest) pos) rb g tb) : VE X Γ (.BoolOp .And (a :: b :: rest) pos) .nw (dT (tAndD (dB f) (dB g))) (tAndV ta tb) := ⟨pe_and ha.pe hb.pe, fun G H0 own env σ H Q d R z k => by
  unfold dT tAndD dB at z
  cases e1 : f env with
  | none => rw [e1] at z; cases z
  | some x =>
    rw [e1] at z
    simp only [Option.bind_some] at z
    cases x with
    | bool c =>
      refine ha.ok G H0 own env σ H _ _ R e1 fun v H1 s1 p1 => ?_
      cases p1
      cases c with
      | false => cases z; exact ⟨false, rfl, iteF (k _ H1 s1 (.bl false))⟩
      | true =>
        refine ⟨true, rfl, iteT ?_⟩
        cases e2 : g env with
        | none => rw [e2] at z; cases z
        | some y =>
          rw [e2] at z
          simp only [Option.bind_some] at z
          cases y with
          | bool c' =>
            cases z
            exact hb.ok G H0 own env σ H1 Q _ (R.ext s1) e2 fun v2 H2 s2 p2 => by
              cases p2
              exact k _ H2 (s1.trans s2) (.bl c')
          | _ => cases z
    | _ => cases z⟩
theorem v_or {rest : List Expr} (ha : VE X Γ a ra f ta) (hb : VE X Γ (.BoolOp .Or (b :: rest) pos) rb g tb) : VE X Γ (.BoolOp .Or (a :: b :: rest) pos) .nw (dT (tOrD (dB f) (dB g))) (tOrV ta tb) := ⟨pe_or ha.pe hb.pe, fun G H0 own env σ H Q d R z k => by
  unfold dT tOrD dB at z
  cases e1 : f env with
  | none => rw [e1] at z; cases z
  | some x =>
    rw [e1] at z
    simp only [Option.bind_some] at z
    cases x with
    | bool c =>
      refine ha.ok G H0 own env σ H _ _ R e1 fun v H1 s1 p1 => ?_
      cases p1
      cases c with
      | true => cases z; exact ⟨true, rfl, iteT (k _ H1 s1 (.bl true))⟩
      | false =>
        refine ⟨false, rfl, iteF ?_⟩
        cases e2 : g env with
        | none => rw [e2] at z; cases z
        | some y =>
          rw [e2] at z
          simp only [Option.bind_some] at z
          cases y with
          | bool c' =>
            cases z
            exact hb.ok G H0 own env σ H1 Q _ (R.ext s1) e2 fun v2 H2 s2 p2 => by
              cases p2
              exact k _ H2 (s1.trans s2) (.bl c')
          | _ => cases z
    | _ => cases z⟩
theorem v_not (ha : VE X Γ a ra f ta) : VE X Γ (.UnaryOp .Not a pos) .nw (dT (tNotD (dB f))) (tNotV ta) := ⟨pe_not ha.pe, fun G H0 own env σ H Q d R z k => by
  unfold dT tNotD dB at z
  cases e1 : f env with
  | none => rw [e1] at z; cases z
  | some x =>
    rw [e1] at z
    simp only [Option.bind_some] at z
    cases x with
    | bool c =>
      cases z
      refine ha.ok G H0 own env σ H _ _ R e1 fun v H1 s1 p1 => ?_
      cases p1
      exact ⟨c, rfl, k _ H1 s1 (.bl (!c))⟩
    | _ => cases z⟩
/-! ### rows of expressions -/
theorem va_nil : VA X Γ [] .nw dNil tNil := ⟨pa_nil, fun _ _ z => by cases z; rfl, fun G H0 own env σ H Q d R z k => by
  cases z
  exact k _ H (Same.refl H) .nil⟩
theorem va_cons {fs : SE → Option (List D)} {ts : TA} (ha : VE X Γ a r f ta) (hb : VA X Γ es r fs ts) (hs : starEach (a :: es) X.env = (false, eval a X.env) :: starEach es X.env := by rfl) : VA X Γ (a :: es) r (dCons f fs) (tCons ta ts) := ⟨pa_cons ha.pe hb.pa hs, fun env ds z => by
  unfold dCons at z
  cases e1 : f env with
  | none => rw [e1] at z; cases z
  | some x =>
    cases e2 : fs env with
    | none => rw [e1, e2] at z; cases z
    | some y =>
      rw [e1, e2] at z
      cases z
      rw [List.length_cons, List.length_cons, hb.ln env y e2], fun G H0 own env σ H Q d R z k => by
  unfold dCons at z
  cases e1 : f env with
  | none => rw [e1] at z; cases z
  | some x =>
    cases e2 : fs env with
    | none => rw [e1, e2] at z; cases z
    | some y =>
      rw [e1, e2] at z
      cases z
      refine ha.ok G H0 own env σ H _ x R e1 fun v1 H1 s1 p1 => ?_
      refine hb.ok G H0 own env σ H1 _ y (R.ext s1) e2 fun v2 H2 s2 p2 => ?_
      exact k _ H2 (s1.trans s2) (.cons (dp_mono (rg_ext s2) _ _ p1) p2)⟩
theorem va_le {fs : SE → Option (List D)} {ts : TA} (l : RLe r r') (h : VA X Γ es r fs ts) : VA X Γ es r' fs ts := ⟨h.pa, h.ln, fun G H0 own env σ H Q d R q k => h.ok G H0 own env σ H Q d R q fun v H' s p => k v H' s (dps_mono (rg_le l) _ _ p)⟩
theorem vl_le {fs : SE → Option (List D)} (l : RLe r r') (h : VL X Γ e r fs t) : VL X Γ e r' fs t := ⟨h.pe, fun G H0 own env σ H Q d R q k => h.ok G H0 own env σ H Q d R q fun v vs H' s n e p => k v vs H' s n e (dps_mono (rg_le l) _ _ p)⟩
theorem vl_sc {fs : SE → Option (List D)} (h : VL X Γ e r fs t) : VL X Γ e .nw (dScs fs) t := ⟨h.pe, fun G H0 own env σ H Q d R q k => by
  unfold dScs at q
  cases e1 : fs env with
  | none => rw [e1] at q; cases q
  | some x =>
    rw [e1] at q
    simp only [Option.bind_some] at q
    by_cases hs : x.all isSc = true
    · rw [if_pos hs] at q
      cases q
      exact h.ok G H0 own env σ H Q d R e1 fun v vs H' s n e p => k v vs H' s n e (dps_flat hs p)
    · rw [if_neg hs] at q; cases q⟩
/-- a new list as a value that stays -/
theorem new_dp {K : PySem.W.Frag} {G H0 H H' : Hp} {own : List (Option Addr)} {env : SE} {σ : L2.St} {p : Addr} {vs : List V} {ds : List D} (R : ER K Γ G H0 own env σ H) (hp : H p = none) (hv : H' p = some (.lst vs)) (h : DpAll K (rg r G H0 (own ++ [some p]) H') vs ds) :
    Dp K (rg r G H0 own H') (.ref p) (.list ds) := by
  have i : InR r G H0 own p (.lst vs) := by
    cases r with
    | bo => trivial
    | od => exact ⟨R.live hp, .inl ⟨R.new hp, trivial⟩⟩
    | nw => exact ⟨R.live hp, R.new hp, trivial⟩
  exact .lst (SqL.of (rg_iff.mpr ⟨i, hv⟩)) (dps_mono (rg_own fun a z => ow_snoc z) _ _ h)
theorem v_of_l {fs : SE → Option (List D)} (h : VL X Γ e r fs t) : VE X Γ e r (dLst fs) t := ⟨h.pe, fun G H0 own env σ H Q d R z k => by
  unfold dLst at z
  cases e1 : fs env with
  | none => rw [e1] at z; cases z
  | some x =>
    rw [e1] at z
    cases z
    exact h.ok G H0 own env σ H Q x R e1 fun p vs H' s n q c => k _ H' s (new_dp R n q c)⟩
theorem same_new {H : Hp} {p : Addr} {o : HO} (h : H p = none) : Same H (upd H p o) := fun b x e => by
  rw [upd_ne (ne_of_none e h)]
  exact e
/-- behind a new object, the values that were there are still apart from it -/
theorem rg_new {K : PySem.W.Frag} {G H0 H : Hp} {own : List (Option Addr)} {p : Addr} {o : HO} {vs : List V} {ds : List D} (hp : H p = none) (h : DpAll K (rg r G H0 own H) vs ds) : DpAll K (rg r G H0 (own ++ [some p]) (upd H p o)) vs ds := by
  refine dps_mono (fun a u q => ?_) _ _ h
  obtain ⟨i, q⟩ := rg_iff.mp q
  have na : a ≠ p := ne_of_none q hp
  refine rg_iff.mpr ⟨?_, by rw [upd_ne na]; exact q⟩
  cases r with
  | bo => trivial
  | od => exact ⟨fun z => (ow_of_snoc z).elim i.1 na, i.2⟩
  | nw => exact ⟨fun z => (ow_of_snoc z).elim i.1 na, i.2⟩
theorem vl_lst {fs : SE → Option (List D)} {ts : TA} (h : VA X Γ es r fs ts) (hl : es.length ≤ 1000 := by decide) : VL X Γ (.List es pos) r fs (tLst ts) := ⟨pe_lst h.pa, fun G H0 own env σ H Q ds R z k => by
  refine h.ok G H0 own env σ H _ ds R z fun vs H' s c => ?_
  refine ⟨by rw [dps_len c, h.ln env ds z]; exact Nat.le_trans hl (by decide), fun p hp => ?_⟩
  exact k p vs _ (s.trans (same_new hp)) (s.free hp) upd_same (rg_new hp c)⟩
theorem tup_in {G H0 : Hp} {own : List (Option Addr)} {p : Addr} {ts : List V} (h1 : ¬ Ow own p) (h2 : H0 p = none) : InR r G H0 own p (.tup ts) := by
  cases r with
  | bo => trivial
  | od => exact ⟨h1, .inl ⟨h2, trivial⟩⟩
  | nw => exact ⟨h1, h2, trivial⟩
theorem v_tup {fs : SE → Option (List D)} {ts : TA} {j : Nat} (h : VA X Γ es r fs ts) (hl : es.length ≤ 1000 := by decide) : VE X Γ (.Tuple es j pos) r (dTup fs) (tTup ts) := ⟨pe_tup h.pa, fun G H0 own env σ H Q ds R z k => by
  unfold dTup at z
  cases e1 : fs env with
  | none => rw [e1] at z; cases z
  | some x =>
    rw [e1] at z
    cases z
    refine h.ok G H0 own env σ H _ x R e1 fun vs H' s c => ?_
    refine ⟨by rw [dps_len c, h.ln env x e1]; exact Nat.le_trans hl (by decide), fun p hp => ?_⟩
    have i : InR r G H0 own p (.tup vs) := tup_in (R.live (s.free hp)) (R.new (s.free hp))
    exact k _ _ (s.trans (same_new hp)) (.tup (SqT.of (rg_iff.mpr ⟨i, upd_same⟩)) (dps_mono (rg_ext (same_new hp)) _ _ c))⟩
end

/-! ### numbers -/
def MulC (i j : Int) : Prop := Builtin.Int.intBits i ≤ 64 ∨ Builtin.Int.intBits j ≤ 64 ∨ (Builtin.Int.intBits i ≤ 67108864 ∧ Builtin.Int.intBits j ≤ 67108864)
instance (i j : Int) : Decidable (MulC i j) := by unfold MulC; infer_instance
def DivC (_ j : Int) : Prop := 0 < j ∧ j.natAbs.log2 < 9000
instance (i j : Int) : Decidable (DivC i j) := by unfold DivC; infer_instance
def PowC (i j : Int) : Prop := 0 ≤ j ∧ (Builtin.Int.intBits i : Int) * j ≤ 2 ^ 27
instance (i j : Int) : Decidable (PowC i j) := by unfold PowC; infer_instance
theorem MulC.ok {i j : Int} (h : MulC i j) : IntMulOk i j := by
  rcases h with h | h | ⟨h1, h2⟩
  · exact .of_left h
  · exact .of_right h
  · unfold IntMulOk
    intro z
    rw [Bool.and_eq_true] at z
    have z2 := z.2
    unfold Builtin.Int.intTooBig at z2
    have z3 := of_decide_eq_true z2
    have e : bitsLine = 134217728 := by decide
    rw [e] at z3
    omega
def hAdd : D → D → Option D
  | .int i, .int j => some (.int (i + j))
  | _, _ => none
def hSub : D → D → Option D
  | .int i, .int j => some (.int (i - j))
  | _, _ => none
def hMul : D → D → Option D
  | .int i, .int j => if MulC i j then some (.int (i * j)) else none
  | _, _ => none
def hDiv : D → D → Option D
  | .int i, .int j => if DivC i j then some (.int (i / j)) else none
  | _, _ => none
def hMod : D → D → Option D
  | .int i, .int j => if 0 < j then some (.int (i % j)) else none
  | _, _ => none
def hPow : D → D → Option D
  | .int i, .int j => if PowC i j then some (.int (i ^ j.toNat)) else none
  | _, _ => none
def hLt : D → D → Option D
  | .int i, .int j => some (.bool (decide (i < j)))
  | _, _ => none
def hLe : D → D → Option D
  | .int i, .int j => some (.bool (decide (i ≤ j)))
  | _, _ => none
def hGt : D → D → Option D
  | .int i, .int j => some (.bool (decide (j < i)))
  | _, _ => none
def hGe : D → D → Option D
  | .int i, .int j => some (.bool (decide (j ≤ i)))
  | _, _ => none
def hNeg : D → Option D
  | .int i => some (.int (-i))
  | _ => none
def isNone : D → Bool
  | .none => true
  | _ => false
def hIsN : D → D → Option D
  | x, .none => some (.bool (isNone x))
  | _, _ => none
def hNotN : D → D → Option D
  | x, .none => some (.bool (!isNone x))
  | _, _ => none
def hEq (x y : D) : Option D := if SeqAt.shaped x = true ∧ SeqAt.shaped y = true then some (.bool (PyData.eqv x y)) else none
def hNe (x y : D) : Option D := if SeqAt.shaped x = true ∧ SeqAt.shaped y = true then some (.bool (!PyData.eqv x y)) else none
def items? : D → Option (List D)
  | .list xs => some xs
  | .tuple xs => some xs
  | _ => none
def inD (x : D) (ys : List D) : Bool := ys.any fun y => PyData.eqv y x
def hIn (x y : D) : Option D := (items? y).bind fun ys => if isSc x = true ∧ ys.all isSc = true then some (.bool (inD x ys)) else none
def hNotIn (x y : D) : Option D := (items? y).bind fun ys => if isSc x = true ∧ ys.all isSc = true then some (.bool (!inD x ys)) else none
section
variable {X : Cx} {K : PySem.W.Frag}
theorem op_mulP : OpR X (binaryOp .Mult) (rI MulC fun i j => .int (i * j)) := opI fun _ _ _ _ _ _ _ hc q => mul_int q hc.ok
theorem op_divP : OpR X (binaryOp .FloorDiv) (rI DivC fun i j => .int (i / j)) := op_fdivW
theorem op_powP : OpR X (binaryOp .Pow) (rI PowC fun i j => .int (i ^ j.toNat)) := opI fun _ _ _ _ _ _ _ hc q => pow_int hc.1 hc.2 q
theorem r_I0 {g : Int → Int → D} {h : D → D → Option D} (hg : ∀ i j, isSc (g i j) = true) (hh : ∀ x y d, h x y = some d → ∃ i j, x = .int i ∧ y = .int j ∧ d = g i j) : R2s K (rI0 fun i j => sv (g i j)) h := fun x y dx dy d H Q px py z => by
  obtain ⟨i, j, rfl, rfl, rfl⟩ := hh dx dy d z
  cases px
  cases py
  exact ⟨hg i j, fun q => ⟨i, j, rfl, rfl, q⟩⟩
theorem r_I {C : Int → Int → Prop} {g : Int → Int → D} {h : D → D → Option D} (hg : ∀ i j, isSc (g i j) = true) (hh : ∀ x y d, h x y = some d → ∃ i j, x = .int i ∧ y = .int j ∧ C i j ∧ d = g i j) : R2s K (rI C fun i j => sv (g i j)) h := fun x y dx dy d H Q px py z => by
  obtain ⟨i, j, rfl, rfl, hc, rfl⟩ := hh dx dy d z
  cases px
  cases py
  exact ⟨hg i j, fun q => ⟨i, j, rfl, rfl, hc, q⟩⟩
theorem r_add : R2s K (rI0 fun i j => .int (i + j)) hAdd := r_I0 (g := fun i j => .int (i + j)) (fun _ _ => rfl) fun x y d z => by
  cases x <;> cases y <;> cases z
  exact ⟨_, _, rfl, rfl, rfl⟩
theorem r_sub : R2s K (rI0 fun i j => .int (i - j)) hSub := r_I0 (g := fun i j => .int (i - j)) (fun _ _ => rfl) fun x y d z => by
  cases x <;> cases y <;> cases z
  exact ⟨_, _, rfl, rfl, rfl⟩
theorem r_lt : R2s K (rI0 fun i j => .bl (decide (i < j))) hLt := r_I0 (g := fun i j => .bool (decide (i < j))) (fun _ _ => rfl) fun x y d z => by
  cases x <;> cases y <;> cases z
  exact ⟨_, _, rfl, rfl, rfl⟩
theorem r_le : R2s K (rI0 fun i j => .bl (decide (i ≤ j))) hLe := r_I0 (g := fun i j => .bool (decide (i ≤ j))) (fun _ _ => rfl) fun x y d z => by
  cases x <;> cases y <;> cases z
  exact ⟨_, _, rfl, rfl, rfl⟩
theorem r_gt : R2s K (rI0 fun i j => .bl (decide (j < i))) hGt := r_I0 (g := fun i j => .bool (decide (j < i))) (fun _ _ => rfl) fun x y d z => by
  cases x <;> cases y <;> cases z
  exact ⟨_, _, rfl, rfl, rfl⟩
theorem r_ge : R2s K (rI0 fun i j => .bl (decide (j ≤ i))) hGe := r_I0 (g := fun i j => .bool (decide (j ≤ i))) (fun _ _ => rfl) fun x y d z => by
  cases x <;> cases y <;> cases z
  exact ⟨_, _, rfl, rfl, rfl⟩
theorem ite_some {c : Prop} [Decidable c] {x d : D} (z : (if c then some x else none) = some d) : c ∧ d = x := by
  by_cases h : c
  · rw [if_pos h] at z; cases z; exact ⟨h, rfl⟩
  · rw [if_neg h] at z; cases z
theorem r_mul : R2s K (rI MulC fun i j => .int (i * j)) hMul := r_I (g := fun i j => .int (i * j)) (fun _ _ => rfl) fun x y d z => by
  cases x <;> cases y <;> first | (obtain ⟨h1, h2⟩ := ite_some z; exact ⟨_, _, rfl, rfl, h1, h2⟩) | cases z
theorem r_div : R2s K (rI DivC fun i j => .int (i / j)) hDiv := r_I (g := fun i j => .int (i / j)) (fun _ _ => rfl) fun x y d z => by
  cases x <;> cases y <;> first | (obtain ⟨h1, h2⟩ := ite_some z; exact ⟨_, _, rfl, rfl, h1, h2⟩) | cases z
theorem r_mod : R2s K (rI (fun _ j => 0 < j) fun i j => .int (i % j)) hMod := r_I (C := fun _ j => 0 < j) (g := fun i j => .int (i % j)) (fun _ _ => rfl) fun x y d z => by
  cases x <;> cases y <;> first | (obtain ⟨h1, h2⟩ := ite_some z; exact ⟨_, _, rfl, rfl, h1, h2⟩) | cases z
theorem r_pow : R2s K (rI PowC fun i j => .int (i ^ j.toNat)) hPow := r_I (g := fun i j => .int (i ^ j.toNat)) (fun _ _ => rfl) fun x y d z => by
  cases x <;> cases y <;> first | (obtain ⟨h1, h2⟩ := ite_some z; exact ⟨_, _, rfl, rfl, h1, h2⟩) | cases z
theorem dp_none {H : Hp} {v : V} {d : D} (p : Dp K H v d) : decide (v = .non) = isNone d := by
  cases p <;> first | rfl | simp [isNone]
theorem r_isN : R2s K (fun x y H Q => y = .non ∧ Q (.bl (decide (x = .non))) H) hIsN := fun x y dx dy d H Q px py z => by
  cases dy <;> cases z
  cases py
  exact ⟨rfl, fun q => ⟨rfl, by rw [dp_none px]; exact q⟩⟩
theorem r_notN : R2s K (fun x y H Q => y = .non ∧ Q (.bl (!decide (x = .non))) H) hNotN := fun x y dx dy d H Q px py z => by
  cases dy <;> cases z
  cases py
  exact ⟨rfl, fun q => ⟨rfl, by rw [dp_none px]; exact q⟩⟩
theorem r_eq : R2s K (rEqD K) hEq := fun x y dx dy d H Q px py z => by
  obtain ⟨h, rfl⟩ := ite_some z
  exact ⟨rfl, fun q => ⟨dx, dy, px, py, h.1, h.2, q⟩⟩
theorem r_ne : R2s K (rNeD K) hNe := fun x y dx dy d H Q px py z => by
  obtain ⟨h, rfl⟩ := ite_some z
  exact ⟨rfl, fun q => ⟨dx, dy, px, py, h.1, h.2, q⟩⟩
theorem sv_flat {d : D} (h : isSc d = true) : flatV (sv d) = true := by cases d <;> first | rfl | cases h
theorem sv_all : ∀ {ds : List D}, ds.all isSc = true → (ds.map sv).all flatV = true
  | [], _ => rfl
  | d :: ds, h => by
    rw [List.all_cons, Bool.and_eq_true] at h
    rw [List.map_cons, List.all_cons, sv_flat h.1, sv_all h.2]
    rfl
theorem eqV_sv {a b : D} (ha : isSc a = true) (hb : isSc b = true) : eqV (sv a) (sv b) = PyData.eqv a b := by
  cases a <;> first | (cases ha; done) | skip
  all_goals (cases b <;> first | (cases hb; done) | simp [eqV, sv, PyData.eqv])
theorem inV_sv {x : D} (hx : isSc x = true) : ∀ {ys : List D}, ys.all isSc = true → inV (sv x) (ys.map sv) = inD x ys
  | [], _ => rfl
  | y :: ys, h => by
    rw [List.all_cons, Bool.and_eq_true] at h
    have ih := inV_sv hx h.2
    unfold inV inD at ih ⊢
    rw [List.map_cons, List.any_cons, List.any_cons, eqV_sv h.1 hx, ih]
theorem items_dp {H : Hp} {v : V} {d : D} {xs : List D} (p : Dp K H v d) (h : items? d = some xs) : ∃ a vs, v = .ref a ∧ (SqL K H a vs ∨ SqT K H a vs) ∧ DpAll K H vs xs := by
  cases p with
  | lst hs ha => cases h; exact ⟨_, _, rfl, .inl hs, ha⟩
  | tup hs ha => cases h; exact ⟨_, _, rfl, .inr hs, ha⟩
  | _ => cases h
theorem r_in : R2s K (rIn K false) hIn := fun x y dx dy d H Q px py z => by
  unfold hIn at z
  cases e1 : items? dy with
  | none => rw [e1] at z; cases z
  | some ys =>
    rw [e1] at z
    obtain ⟨h, rfl⟩ := ite_some z
    obtain ⟨a, vs, rfl, hs, hd⟩ := items_dp py e1
    rw [dp_sc h.1 px]
    rw [dps_sv h.2 hd] at hs
    exact ⟨rfl, fun q => ⟨a, _, rfl, hs, sv_flat h.1, sv_all h.2, by rw [inV_sv h.1 h.2]; exact q⟩⟩
theorem r_notIn : R2s K (rIn K true) hNotIn := fun x y dx dy d H Q px py z => by
  unfold hNotIn at z
  cases e1 : items? dy with
  | none => rw [e1] at z; cases z
  | some ys =>
    rw [e1] at z
    obtain ⟨h, rfl⟩ := ite_some z
    obtain ⟨a, vs, rfl, hs, hd⟩ := items_dp py e1
    rw [dp_sc h.1 px]
    rw [dps_sv h.2 hd] at hs
    exact ⟨rfl, fun q => ⟨a, _, rfl, hs, sv_flat h.1, sv_all h.2, by rw [inV_sv h.1 h.2]; exact q⟩⟩
end
/-! ### built-ins whose answer is a number, a truth .. -/
def CaS (K : PySem.W.Frag) (rr : List V → Hp → VK → Prop) (h : List D → Option D) : Prop := ∀ (vs : List V) (ds : List D) (d : D) (H : Hp) (Q : VK), DpAll K H vs ds → h ds = some d → isSc d = true ∧ (Q (sv d) H → rr vs H Q)
def hLen : List D → Option D
  | [.list xs] => some (.int (xs.length : Int))
  | [.tuple xs] => some (.int (xs.length : Int))
  | [.str z] => if z.length ≤ 1000000 then some (.int (z.length : Int)) else none
  | _ => none
def hMin2 : List D → Option D
  | [.int i, .int j] => some (.int (if j < i then j else i))
  | _ => none
def hMax2 : List D → Option D
  | [.int i, .int j] => some (.int (if j > i then j else i))
  | _ => none
def ints? : List D → Option (List Int)
  | [] => some []
  | .int i :: r => (ints? r).map (i :: ·)
  | _ => none
def bools? : List D → Option (List Bool)
  | [] => some []
  | .bool i :: r => (bools? r).map (i :: ·)
  | _ => none
def hSum : List D → Option D
  | [.list xs] => (ints? xs).map fun ns => .int ns.sum
  | _ => none
def hAny : List D → Option D
  | [.list xs] => (bools? xs).map fun ns => .bool (ns.any id)
  | _ => none
def hInt : List D → Option D
  | [.int i] => some (.int i)
  | [.bool b] => some (.int (if b then 1 else 0))
  | _ => none
theorem ints_map : ∀ ns : List Int, ints? (ns.map PyData.int) = some ns
  | [] => rfl
  | n :: ns => by
    rw [List.map_cons, ints?, ints_map ns]
    rfl
theorem bools_map : ∀ ns : List Bool, bools? (ns.map PyData.bool) = some ns
  | [] => rfl
  | n :: ns => by
    rw [List.map_cons, bools?, bools_map ns]
    rfl
theorem ints_is : ∀ {ds : List D} {ns : List Int}, ints? ds = some ns → ds = ns.map PyData.int
  | [], _, h => by cases h; rfl
  | .int i :: r, ns, h => by
    rw [ints?] at h
    cases e : ints? r with
    | none => rw [e] at h; cases h
    | some ms =>
      rw [e] at h
      cases h
      rw [List.map_cons, ints_is e]
  | .none :: _, _, h => by cases h
  | .bool _ :: _, _, h => by cases h
  | .str _ :: _, _, h => by cases h
  | .list _ :: _, _, h => by cases h
  | .tuple _ :: _, _, h => by cases h
  | .dict _ :: _, _, h => by cases h
theorem bools_is : ∀ {ds : List D} {ns : List Bool}, bools? ds = some ns → ds = ns.map PyData.bool
  | [], _, h => by cases h; rfl
  | .bool i :: r, ns, h => by
    rw [bools?] at h
    cases e : bools? r with
    | none => rw [e] at h; cases h
    | some ms =>
      rw [e] at h
      cases h
      rw [List.map_cons, bools_is e]
  | .none :: _, _, h => by cases h
  | .int _ :: _, _, h => by cases h
  | .str _ :: _, _, h => by cases h
  | .list _ :: _, _, h => by cases h
  | .tuple _ :: _, _, h => by cases h
  | .dict _ :: _, _, h => by cases h
section
variable {X : Cx} {K : PySem.W.Frag} {Γ : List Md} {H : Hp}
theorem dps_ints : ∀ {ns : List Int} {vs : List V}, DpAll K H vs (ns.map PyData.int) → vs = ns.map V.int
  | [], _, h => by cases h; rfl
  | n :: ns, _, h => by
    cases h with
    | cons h1 h2 =>
      cases h1
      rw [List.map_cons, dps_ints h2]
theorem ints_dps : ∀ {ns : List Int}, DpAll K H (ns.map V.int) (ns.map PyData.int)
  | [] => .nil
  | n :: ns => .cons (.int n) ints_dps
theorem dps_bools : ∀ {ns : List Bool} {vs : List V}, DpAll K H vs (ns.map PyData.bool) → vs = ns.map V.bl
  | [], _, h => by cases h; rfl
  | n :: ns, _, h => by
    cases h with
    | cons h1 h2 =>
      cases h1
      rw [List.map_cons, dps_bools h2]
theorem c_len : CaS K (fun xs H Q => ∃ x n, xs = [x] ∧ LenV K x H n ∧ Q (.int n) H) hLen := fun vs ds d H Q p z => by
  match ds, p, z with
  | [.list xs], .cons (.lst hs ha) .nil, z =>
    cases z
    exact ⟨rfl, fun q => ⟨_, _, rfl, .inl ⟨_, hs, rfl⟩, by rw [dps_len ha]; exact q⟩⟩
  | [.tuple xs], .cons (.tup hs ha) .nil, z =>
    cases z
    exact ⟨rfl, fun q => ⟨_, _, rfl, .inr ⟨_, hs, rfl⟩, by rw [dps_len ha]; exact q⟩⟩
  | [.str z'], .cons (.str _) .nil, z =>
    obtain ⟨h, rfl⟩ := ite_some z
    exact ⟨rfl, fun q => ⟨_, z'.length, rfl, ⟨Nat.le_trans h (by decide), rfl⟩, q⟩⟩
theorem c_min2 : CaS K (fun xs H Q => ∃ i j, xs = [.int i, .int j] ∧ Q (.int (if j < i then j else i)) H) hMin2 := fun vs ds d H Q p z => by
  match ds, p, z with
  | [.int i, .int j], .cons (.int _) (.cons (.int _) .nil), z =>
    cases z
    exact ⟨rfl, fun q => ⟨i, j, rfl, q⟩⟩
theorem c_max2 : CaS K (fun xs H Q => ∃ i j, xs = [.int i, .int j] ∧ Q (.int (if j > i then j else i)) H) hMax2 := fun vs ds d H Q p z => by
  match ds, p, z with
  | [.int i, .int j], .cons (.int _) (.cons (.int _) .nil), z =>
    cases z
    exact ⟨rfl, fun q => ⟨i, j, rfl, q⟩⟩
theorem c_int : CaS K (fun xs H Q => (∃ i, xs = [.int i] ∧ Q (.int i) H) ∨ ∃ k, xs = [.bl k] ∧ Q (.int (if k then 1 else 0)) H) hInt := fun vs ds d H Q p z => by
  match ds, p, z with
  | [.int i], .cons (.int _) .nil, z =>
    cases z
    exact ⟨rfl, fun q => .inl ⟨i, rfl, q⟩⟩
  | [.bool b], .cons (.bl _) .nil, z =>
    cases z
    exact ⟨rfl, fun q => .inr ⟨b, rfl, q⟩⟩
theorem c_sum : CaS K (rSum K) hSum := fun vs ds d H Q p z => by
  match ds, p, z with
  | [.list xs], .cons (.lst hs ha) .nil, z =>
    have z : (ints? xs).map (fun ns => PyData.int ns.sum) = some d := z
    cases e : ints? xs with
    | none => rw [e] at z; cases z
    | some ns =>
      rw [e] at z
      cases z
      rw [ints_is e] at ha
      rw [dps_ints ha] at hs
      exact ⟨rfl, fun q => ⟨_, ns, rfl, hs, q⟩⟩
theorem c_any : CaS K (rAny K) hAny := fun vs ds d H Q p z => by
  match ds, p, z with
  | [.list xs], .cons (.lst hs ha) .nil, z =>
    have z : (bools? xs).map (fun ns => PyData.bool (ns.any id)) = some d := z
    cases e : bools? xs with
    | none => rw [e] at z; cases z
    | some ns =>
      rw [e] at z
      cases z
      rw [bools_is e] at ha
      rw [dps_bools ha] at hs
      exact ⟨rfl, fun q => ⟨_, ns, rfl, hs, q⟩⟩
end
section
variable {X : Cx} {Γ : List Md} {r ra rb : Rl} {e a b : Expr} {es : List Expr} {f g : SE → Option D} {fs : SE → Option (List D)} {ts : TA} {t ta tb : TE} {p pos : Pos} {x : Str} {id T : String} {rr : List V → Hp → VK → Prop} {h : List D → Option D}
theorem ok_cb {K : PySem.W.Frag} (hs : CaS K rr h) (ha : OkA K Γ r fs ts) : OkE K Γ .nw (dA h fs) (tCB rr ts) := fun G H0 own env σ H Q d R z k => by
  unfold dA at z
  cases e1 : fs env with
  | none => rw [e1] at z; cases z
  | some y =>
    rw [e1] at z
    simp only [Option.bind_some] at z
    refine ha G H0 own env σ H _ y R e1 fun vs H1 s1 c => ?_
    obtain ⟨h1, h2⟩ := hs vs y d H1 Q (dps_mono rg_sub _ _ c) z
    exact h2 (k _ H1 s1 (sc_dp h1))
/-- a built-in function -/
theorem v_callB (hc : CallR X (.builtin id) rr) (hs : CaS X.K rr h) (hm : X.mg x = none) (hv : bootBuiltins x = some (.builtin id)) (ha : VA X Γ (e :: es) r fs ts) (hg : Gl X x := by rfl) (hn : x ≠ "__name__" := by decide) (hdb : (x == ("__debug__" : Str)) = false := by decide)
    (he : starEach (e :: es) X.env = (false, eval e X.env) :: starEach es X.env := by rfl) (hpl : (backTo pos (starEach es X.env)).any (·.1) = false := by rfl) : VE X Γ (.Call (.Name x p) (e :: es) [] pos) .nw (dA h fs) (tCB rr ts) := ⟨pe_callB hc hg hm hv ha.pa hn hdb he hpl, ok_cb hs ha.ok⟩
/-- a built-in type -/
theorem v_callTy (hc : CallR X (.type T) rr) (hs : CaS X.K rr h) (hm : X.mg x = none) (hv : bootBuiltins x = some (.type T)) (ha : VA X Γ (e :: es) r fs ts) (hg : Gl X x := by rfl) (hn : x ≠ "__name__" := by decide) (hdb : (x == ("__debug__" : Str)) = false := by decide)
    (he : starEach (e :: es) X.env = (false, eval e X.env) :: starEach es X.env := by rfl) (hpl : (backTo pos (starEach es X.env)).any (·.1) = false := by rfl) : VE X Γ (.Call (.Name x p) (e :: es) [] pos) .nw (dA h fs) (tCB rr ts) := ⟨pe_callTy hc hg hm hv ha.pa hn hdb he hpl, ok_cb hs ha.ok⟩
/-- isinstance(e, T) -/
def tyName : D → Option String
  | .none => some "NoneType"
  | .bool _ => some "bool"
  | .int _ => some "int"
  | .str _ => some "str"
  | .list _ => some "list"
  | .tuple _ => some "tuple"
  | _ => none
def hIsi (T : String) (d : D) : Option D := (tyName d).bind fun n => (kitB n T).bind fun b => some (.bool b)
theorem dp_ty {K : PySem.W.Frag} {H : Hp} {v : V} {d : D} {n : String} (p : Dp K H v d) (h : tyName d = some n) : TyX K H v (.type n) := by
  cases p with
  | non => cases h; exact .base .non
  | bl b => cases h; exact .base (.bl b)
  | int i => cases h; exact .base (.int i)
  | str z => cases h; exact .base (.str z)
  | lst hs _ =>
    cases h
    rcases hs with (hs | ⟨o, hs⟩) | ⟨o, its, n, h1, h2, _⟩
    · exact .base (.lst hs)
    · exact .base (.frz hs)
    · exact .kList h1 h2
  | tup hs _ =>
    cases h
    rcases hs with (hs | ⟨o, hs⟩) | ⟨o, its, n, h1, h2, _⟩
    · exact .base (.tup hs)
    · exact .fTuple hs
    · exact .kTuple h1 h2
theorem v_isi {y : Str} {p2 : Pos} (hm : X.mg "isinstance" = none) (hm2 : X.mg y = none) (hv2 : bootBuiltins y = some (.type T)) (ha : VE X Γ a r f ta)
    (hg : Gl X "isinstance" := by rfl) (hg2 : Gl X y := by rfl) (hn2 : y ≠ "__name__" := by decide) (hd2 : (y == ("__debug__" : Str)) = false := by decide)
    (he : starEach (a :: [.Name y p2]) X.env = (false, eval a X.env) :: starEach [.Name y p2] X.env := by rfl) (he2 : starEach [.Name y p2] X.env = (false, eval (.Name y p2) X.env) :: starEach [] X.env := by rfl) (hpl : (backTo pos (starEach [.Name y p2] X.env)).any (·.1) = false := by rfl) :
    VE X Γ (.Call (.Name "isinstance" p) [a, .Name y p2] [] pos) .nw (d1 (hIsi T) f) (tCB (rIsi X.K) (tCons ta (tCons (tC (.ty T)) tNil))) :=
  ⟨pe_callB call_isi hg hm PyProof.Rows.boot_isinstance (pa_cons ha.pe (pa_cons (pe_bltn (v := .ty T) hg2 hm2 hv2 rfl hn2 hd2) pa_nil he2) he) (by decide) (by decide) he hpl, fun G H0 own env σ H Q d R z k => by
    unfold d1 hIsi at z
    cases e1 : f env with
    | none => rw [e1] at z; cases z
    | some y =>
      rw [e1] at z
      simp only [Option.bind_some] at z
      cases e2 : tyName y with
      | none => rw [e2] at z; cases z
      | some n =>
        rw [e2] at z
        simp only [Option.bind_some] at z
        cases e3 : kitB n T with
        | none => rw [e3] at z; cases z
        | some b =>
          rw [e3] at z
          cases z
          refine ha.ok G H0 own env σ H _ y R e1 fun v H1 s1 c => ?_
          exact ⟨v, .ty T, .type n, .type T, b, rfl, .ty T, dp_ty (dp_mono rg_sub _ _ c) e2, kit_ty e3, k _ H1 s1 (.bl b)⟩⟩
theorem v_neg (ha : VE X Γ a r f ta) : VE X Γ (.UnaryOp .USub a pos) .nw (d1 hNeg f) (tUn (rU fun i => .int (-i)) ta) := ⟨pe_un un_neg ha.pe, fun G H0 own env σ H Q d R z k => by
  unfold d1 at z
  cases e1 : f env with
  | none => rw [e1] at z; cases z
  | some y =>
    rw [e1] at z
    simp only [Option.bind_some] at z
    cases y with
    | int i =>
      cases z
      refine ha.ok G H0 own env σ H _ _ R e1 fun v H1 s1 c => ?_
      cases c
      exact ⟨i, rfl, k _ H1 s1 (.int (-i))⟩
    | _ => cases z⟩
end

/-! ### items, slices, new lists -/
def hIxL : D → D → Option D
  | .list xs, .int i => atI xs i
  | _, _ => none
def hIxT : D → D → Option D
  | .tuple xs, .int i => atI xs i
  | _, _ => none
def cutD (xs : List D) (lo hi : Option Int) : List D := (xs.drop (HT.sIx xs.length 0 lo)).take (HT.sIx xs.length xs.length hi - HT.sIx xs.length 0 lo)
def oNone (_ : SE) : Option (Option Int) := some none
def oSome (f : SE → Option D) (e : SE) : Option (Option Int) := (f e).bind fun x => match x with
  | .int i => some (some i)
  | _ => none
def lCut (f : SE → Option D) (lo hi : SE → Option (Option Int)) (e : SE) : Option (List D) := (f e).bind fun x => (lo e).bind fun a => (hi e).bind fun b => match x with
  | .list xs => some (cutD xs a b)
  | _ => none
def lOf (f : SE → Option D) (e : SE) : Option (List D) := (f e).bind items?
def list? : D → Option (List D)
  | .list xs => some xs
  | _ => none
def hCat (x y : D) : Option (List D) := (list? x).bind fun xs => (list? y).bind fun ys => if xs.length + ys.length ≤ 1000000 then some (xs ++ ys) else none
def lCat (f g : SE → Option D) (e : SE) : Option (List D) := (f e).bind fun x => (g e).bind fun y => hCat x y
def repD (k : Nat) (xs : List D) : List D := (List.replicate k xs).flatten
def hRep (xs : List D) (y : D) : Option (List D) := match y with
  | .int k => if k < 1000000 ∧ -1000000 < k ∧ xs.length * k.toNat ≤ 1000000 then some (repD k.toNat xs) else none
  | _ => none
def lRep (f : SE → Option (List D)) (g : SE → Option D) (e : SE) : Option (List D) := (f e).bind fun xs => (g e).bind fun y => hRep xs y
def sortI (ns : List Int) : List Int := ns.mergeSort (fun a b => decide (a ≤ b))
def lSortI (f : SE → Option D) (e : SE) : Option (List D) := (f e).bind fun x => (list? x).bind fun xs => (ints? xs).bind fun ns => some ((sortI ns).map PyData.int)
section
variable {K : PySem.W.Frag} {H : Hp}
theorem dps_atI {ds : List D} {vs : List V} {i : Int} {d : D} (h : DpAll K H vs ds) (e : atI ds i = some d) : ∃ v, atI vs i = some v ∧ Dp K H v d := by
  unfold atI at e ⊢
  rw [← dps_len h] at e
  cases q : ixN vs.length i with
  | none => rw [q] at e; cases e
  | some j =>
    rw [q] at e
    simp only [Option.bind_some] at e ⊢
    exact dps_get h e
theorem dps_cut {ds : List D} {vs : List V} (lo hi : Option Int) (h : DpAll K H vs ds) : DpAll K H (cutV vs lo hi) (cutD ds lo hi) := by
  unfold cutV cutD
  rw [dps_len h]
  exact dps_take _ (dps_drop _ h)
theorem dps_flat_rep {ds : List D} {vs : List V} (h : DpAll K H vs ds) : ∀ k, DpAll K H (List.replicate k vs).flatten (repD k ds)
  | 0 => .nil
  | k + 1 => by
    unfold repD
    rw [List.replicate_succ, List.replicate_succ, List.flatten_cons, List.flatten_cons]
    exact dps_app h (dps_flat_rep h k)
end
theorem sortI_unique {ns ns' : List Int} (h1 : ns'.Perm ns) (h2 : ns'.Pairwise (· ≤ ·)) : ns' = sortI ns := by
  have p : (sortI ns).Perm ns := List.mergeSort_perm _ _
  have s : (sortI ns).Pairwise (· ≤ ·) := by
    have := List.pairwise_mergeSort (le := fun (a b : Int) => decide (a ≤ b)) (fun a b c h1 h2 => by simp only [decide_eq_true_eq] at *; omega) (fun a b => by simp only [Bool.or_eq_true, decide_eq_true_eq]; omega) ns
    exact this.imp fun h => by simpa using h
  exact List.Perm.eq_of_pairwise (fun a b _ _ h1 h2 => Int.le_antisymm h1 h2) h2 s (h1.trans p.symm)
/-- list + list, whatever holds them -/
theorem op_catS {X : Cx} : OpR X (binaryOp .Add) (fun x y H Q => ∃ l b xs zs, x = .ref l ∧ y = .ref b ∧ SqL X.K H l xs ∧ SqL X.K H b zs ∧ xs.length + zs.length ≤ sizeLine ∧ ∀ p, H p = none → Q (.ref p) (upd H p (.lst (xs ++ zs)))) := by
  intro pins s σ H x y v u Q I rx ry h
  obtain ⟨l, b, xs, zs, rfl, rfl, hA, hB, hz, q⟩ := h
  cases rx
  cases ry
  obtain ⟨its, r1, p1, z1⟩ := I.list hA
  obtain ⟨its2, r2, p2, z2⟩ := I.list hB
  obtain ⟨⟨cls, dd, data, sl⟩, n, ho, hc, hdd, hd⟩ := p1
  obtain ⟨⟨cls2, dd2, data2, sl2⟩, n2, ho2, hc2, hdd2, hd2⟩ := p2
  simp only at hc hd hc2 hd2
  subst hc hd hc2 hd2
  have e : its.toArray ++ its2.toArray = (its ++ its2).toArray := by simp
  have l1 := r1.length
  have l2 := r2.length
  refine concat_meets ⟨_, ho, rfl⟩ ⟨_, ho2, rfl⟩ noFill_list_add seq_list_add PySem.F.slot_list_add PySem.F.entry_list_add (PySem.F.args_list_add_2 _ _) (list_addW l b its.toArray its2.toArray n n2 dd dd2 sl sl2 (by simp; omega)) ⟨ho, ho2, ?_⟩
  rw [e]
  exact ⟨.ref _, _, I.lnew (t' := s.toks) (r1.append r2) (by rw [List.length_append]; omega), rfl, q _ I.fresh⟩
section
variable {X : Cx} {Γ : List Md} {r ra rb : Rl} {e a b : Expr} {es : List Expr} {f g : SE → Option D} {fs : SE → Option (List D)} {ts : TA} {t ta tb : TE} {p pos : Pos} {x : Str}
theorem v_ixL (ha : VE X Γ a r f ta) (hb : VE X Γ b rb g tb) (hp : PlainIx b := by exact fun _ _ => rfl) : VE X Γ (.Subscript a b pos) r (d2 hIxL f g) (tOp (rIxL X.K) ta tb) := ⟨pe_ix ix_list ha.pe hb.pe hp, fun G H0 own env σ H Q d R z k => by
  unfold d2 at z
  cases e1 : f env with
  | none => rw [e1] at z; cases z
  | some x =>
    cases e2 : g env with
    | none => rw [e1, e2] at z; cases z
    | some y =>
      rw [e1, e2] at z
      simp only [Option.bind_some] at z
      refine ha.ok G H0 own env σ H _ x R e1 fun v1 H1 s1 p1 => ?_
      refine hb.ok G H0 own env σ H1 _ y (R.ext s1) e2 fun v2 H2 s2 p2 => ?_
      cases x with
      | list xs =>
        cases y with
        | int i =>
          cases p1 with
          | lst hs hd =>
            cases p2
            obtain ⟨w, h1, h2⟩ := dps_atI hd z
            exact ⟨_, _, _, w, rfl, rfl, (rg_sub.trans s2).seq hs, h1, k w H2 (s1.trans s2) (dp_mono (rg_ext s2) _ _ h2)⟩
        | _ => cases z
      | _ => cases z⟩
theorem v_ixT (ha : VE X Γ a r f ta) (hb : VE X Γ b rb g tb) (hp : PlainIx b := by exact fun _ _ => rfl) : VE X Γ (.Subscript a b pos) r (d2 hIxT f g) (tOp (rIxT X.K) ta tb) := ⟨pe_ix ix_tup ha.pe hb.pe hp, fun G H0 own env σ H Q d R z k => by
  unfold d2 at z
  cases e1 : f env with
  | none => rw [e1] at z; cases z
  | some x =>
    cases e2 : g env with
    | none => rw [e1, e2] at z; cases z
    | some y =>
      rw [e1, e2] at z
      simp only [Option.bind_some] at z
      refine ha.ok G H0 own env σ H _ x R e1 fun v1 H1 s1 p1 => ?_
      refine hb.ok G H0 own env σ H1 _ y (R.ext s1) e2 fun v2 H2 s2 p2 => ?_
      cases x with
      | tuple xs =>
        cases y with
        | int i =>
          cases p1 with
          | tup hs hd =>
            cases p2
            obtain ⟨w, h1, h2⟩ := dps_atI hd z
            exact ⟨_, _, _, w, rfl, rfl, same_t (rg_sub.trans s2) hs, h1, k w H2 (s1.trans s2) (dp_mono (rg_ext s2) _ _ h2)⟩
        | _ => cases z
      | _ => cases z⟩
structure VO (X : Cx) (Γ : List Md) (o : Option Expr) (f : SE → Option (Option Int)) (t : TO) : Prop where
  po : PO X o t
  ok : ∀ (G H0 : Hp) (own : List (Option Addr)) (env : SE) (σ : L2.St) (H : Hp) (Q : Option Int → Hp → Prop) (i : Option Int), ER X.K Γ G H0 own env σ H → f env = some i → (∀ H', Same H H' → Q i H') → t σ H Q
theorem vo_none : VO X Γ none oNone tNoPart := ⟨po_none, fun G H0 own env σ H Q i R z k => by cases z; exact k H (Same.refl H)⟩
theorem vo_some (h : VE X Γ e r f t) : VO X Γ (some e) (oSome f) (tPart t) := ⟨po_some h.pe, fun G H0 own env σ H Q i R z k => by
  unfold oSome at z
  cases e1 : f env with
  | none => rw [e1] at z; cases z
  | some x =>
    rw [e1] at z
    simp only [Option.bind_some] at z
    cases x with
    | int j =>
      cases z
      exact h.ok G H0 own env σ H _ _ R e1 fun v H' s c => by
        cases c
        exact ⟨j, rfl, k H' s⟩
    | _ => cases z⟩
theorem vl_cut {lo hi : Option Expr} {fl fh : SE → Option (Option Int)} {tl th : TO} {p2 : Pos} (ha : VE X Γ a r f ta) (h1 : VO X Γ lo fl tl) (h2 : VO X Γ hi fh th) : VL X Γ (.Subscript a (.Slice lo hi none p2) pos) r (lCut f fl fh) (tSl (rSlL X.K) ta tl th) := ⟨pe_slice sl_list ha.pe h1.po h2.po, fun G H0 own env σ H Q ds R z k => by
  unfold lCut at z
  cases e1 : f env with
  | none => rw [e1] at z; cases z
  | some x =>
    cases e2 : fl env with
    | none => rw [e1, e2] at z; cases z
    | some i =>
      cases e3 : fh env with
      | none => rw [e1, e2, e3] at z; cases z
      | some j =>
        rw [e1, e2, e3] at z
        simp only [Option.bind_some] at z
        cases x with
        | list xs =>
          cases z
          refine ha.ok G H0 own env σ H _ _ R e1 fun v1 H1 s1 p1 => ?_
          refine h1.ok G H0 own env σ H1 _ i (R.ext s1) e2 fun H2 s2 => ?_
          refine h2.ok G H0 own env σ H2 _ j ((R.ext s1).ext s2) e3 fun H3 s3 => ?_
          cases p1 with
          | lst hs hd =>
            have s13 := s2.trans s3
            refine ⟨_, _, rfl, (rg_sub.trans s13).seq hs, fun q hq => ?_⟩
            exact k q _ _ ((s1.trans s13).trans (same_new hq)) ((s1.trans s13).free hq) upd_same (rg_new hq (dps_mono (rg_ext s13) _ _ (dps_cut i j hd)))
        | _ => cases z⟩
/-- a tuple's slice, not the whole -/
def hCutT (x : D) (a b : Option Int) : Option D := match x with
  | .tuple xs => if HT.sIx xs.length 0 a = 0 ∧ HT.sIx xs.length xs.length b = xs.length then none else some (.tuple (cutD xs a b))
  | _ => none
def dCutT (f : SE → Option D) (lo hi : SE → Option (Option Int)) (e : SE) : Option D := (f e).bind fun x => (lo e).bind fun a => (hi e).bind fun b => hCutT x a b
theorem v_cutT {lo hi : Option Expr} {fl fh : SE → Option (Option Int)} {tl th : TO} {p2 : Pos} (ha : VE X Γ a r f ta) (h1 : VO X Γ lo fl tl) (h2 : VO X Γ hi fh th) : VE X Γ (.Subscript a (.Slice lo hi none p2) pos) r (dCutT f fl fh) (tSl (rSlT X.K) ta tl th) := ⟨pe_slice sl_tup ha.pe h1.po h2.po, fun G H0 own env σ H Q ds R z k => by
  unfold dCutT at z
  cases e1 : f env with
  | none => rw [e1] at z; cases z
  | some x =>
    cases e2 : fl env with
    | none => rw [e1, e2] at z; cases z
    | some i =>
      cases e3 : fh env with
      | none => rw [e1, e2, e3] at z; cases z
      | some j =>
        rw [e1, e2, e3] at z
        simp only [Option.bind_some] at z
        cases x with
        | tuple xs =>
          simp only [hCutT] at z
          by_cases q0 : HT.sIx xs.length 0 i = 0 ∧ HT.sIx xs.length xs.length j = xs.length
          · rw [if_pos q0] at z; cases z
          · rw [if_neg q0] at z
            cases z
            refine ha.ok G H0 own env σ H _ _ R e1 fun v1 H1 s1 p1 => ?_
            refine h1.ok G H0 own env σ H1 _ i (R.ext s1) e2 fun H2 s2 => ?_
            refine h2.ok G H0 own env σ H2 _ j ((R.ext s1).ext s2) e3 fun H3 s3 => ?_
            cases p1 with
            | tup hs hd =>
              have s13 := s2.trans s3
              refine ⟨_, _, rfl, same_t (rg_sub.trans s13) hs, by rw [dps_len hd]; exact q0, fun p hp => ?_⟩
              exact k _ _ ((s1.trans s13).trans (same_new hp)) (.tup (SqT.of (rg_iff.mpr ⟨tup_in (R.live ((s1.trans s13).free hp)) (R.new ((s1.trans s13).free hp)), upd_same⟩)) (dps_mono (rg_ext (s13.trans (same_new hp))) _ _ (dps_cut i j hd)))
        | _ => cases z⟩
/-- list(x) -/
theorem vl_of (hm : X.mg "list" = none) (ha : VE X Γ a r f ta) (hg : Gl X "list" := by rfl) (he : starEach [a] X.env = (false, eval a X.env) :: starEach [] X.env := by rfl) (hpl : (backTo pos (starEach [] X.env)).any (·.1) = false := by rfl) :
    VL X Γ (.Call (.Name "list" p) [a] [] pos) r (lOf f) (tCB (fun xs H Q => ∃ p ys, xs = [.ref p] ∧ (SqL X.K H p ys ∨ SqT X.K H p ys) ∧ ∀ l, H l = none → Q (.ref l) (upd H l (.lst ys))) (tCons ta tNil)) :=
  ⟨pe_callTy call_list_of hg hm (by decide +kernel) (pa_cons ha.pe pa_nil he) (by decide) (by decide) he hpl, fun G H0 own env σ H Q ds R z k => by
    unfold lOf at z
    cases e1 : f env with
    | none => rw [e1] at z; cases z
    | some x =>
      rw [e1] at z
      simp only [Option.bind_some] at z
      refine ha.ok G H0 own env σ H _ x R e1 fun v1 H1 s1 p1 => ?_
      obtain ⟨q, vs, rfl, hs, hd⟩ := items_dp p1 z
      have hs' : SqL X.K H1 q vs ∨ SqT X.K H1 q vs := hs.imp (fun h => rg_sub.seq h) (fun h => same_t rg_sub h)
      exact ⟨q, vs, rfl, hs', fun l hl => k l vs _ (s1.trans (same_new hl)) (s1.free hl) upd_same (rg_new hl hd)⟩⟩
def lRev (f : SE → Option D) (e : SE) : Option (List D) := (f e).bind fun x => (list? x).map List.reverse
theorem dps_reverse {K : PySem.W.Frag} {H : Hp} : ∀ {xs : List D} {vs : List V}, DpAll K H vs xs → DpAll K H vs.reverse xs.reverse
  | [], _, h => by cases h; exact .nil
  | x :: xs, _, h => by
    cases h with
    | cons h1 h2 =>
      rw [List.reverse_cons, List.reverse_cons]
      exact dps_app (dps_reverse h2) (.cons h1 .nil)
theorem vl_rev {p2 pos2 : Pos} (hc : X.calm = true) (hm : X.mg "list" = none) (hm2 : X.mg "reversed" = none) (ha : VE X Γ a r f ta) (hg : Gl X "list" := by rfl) (hg2 : Gl X "reversed" := by rfl)
    (hs : starEach [a] X.env = (false, eval a X.env) :: starEach [] X.env := by rfl)
    (hs2 : starEach [.Call (.Name "reversed" p2) [a] [] pos2] X.env = (false, eval (.Call (.Name "reversed" p2) [a] [] pos2) X.env) :: starEach [] X.env := by rfl) :
    VL X Γ (.Call (.Name "list" p) [.Call (.Name "reversed" p2) [a] [] pos2] [] pos) r (lRev f) (tListRev X.K ta) :=
  ⟨pe_listRev hc hg hm (by decide +kernel) hg2 hm2 ha.pe hs hs2, fun G H0 own env σ H Q ds R z k => by
    unfold lRev at z
    cases e1 : f env with
    | none => rw [e1] at z; cases z
    | some x =>
      rw [e1] at z
      simp only [Option.bind_some] at z
      cases x with
      | list xs =>
        cases z
        refine ha.ok G H0 own env σ H _ _ R e1 fun v1 H1 s1 p1 => ?_
        cases p1 with
        | lst hs hd =>
          refine ⟨_, _, rfl, rg_sub.seq hs, fun q hq => ?_⟩
          exact k q _ _ (s1.trans (same_new hq)) (s1.free hq) upd_same (rg_new hq (dps_reverse hd))
      | _ => cases z⟩
/-- xs + ys -/
theorem vl_cat (ha : VE X Γ a r f ta) (hb : VE X Γ b r g tb) : VL X Γ (.BinOp a .Add b pos) r (lCat f g) (tOp (fun x y H Q => ∃ l b xs zs, x = .ref l ∧ y = .ref b ∧ SqL X.K H l xs ∧ SqL X.K H b zs ∧ xs.length + zs.length ≤ sizeLine ∧ ∀ p, H p = none → Q (.ref p) (upd H p (.lst (xs ++ zs)))) ta tb) := ⟨pe_op op_catS ha.pe hb.pe, fun G H0 own env σ H Q ds R z k => by
  unfold lCat at z
  cases e1 : f env with
  | none => rw [e1] at z; cases z
  | some x =>
    cases e2 : g env with
    | none => rw [e1, e2] at z; cases z
    | some y =>
      rw [e1, e2] at z
      simp only [Option.bind_some] at z
      cases x with
      | list xs =>
        cases y with
        | list ys =>
          simp only [hCat, list?, Option.bind_some] at z
          by_cases hz : xs.length + ys.length ≤ 1000000
          · rw [if_pos hz] at z
            cases z
            refine ha.ok G H0 own env σ H _ _ R e1 fun v1 H1 s1 p1 => ?_
            refine hb.ok G H0 own env σ H1 _ _ (R.ext s1) e2 fun v2 H2 s2 p2 => ?_
            cases p1 with
            | lst hs hd =>
              cases p2 with
              | lst hs2 hd2 =>
                refine ⟨_, _, _, _, rfl, rfl, (rg_sub.trans s2).seq hs, rg_sub.seq hs2, by rw [dps_len hd, dps_len hd2]; exact Nat.le_trans hz (by decide), fun q hq => ?_⟩
                exact k q _ _ ((s1.trans s2).trans (same_new hq)) ((s1.trans s2).free hq) upd_same (rg_new hq (dps_app (dps_mono (rg_ext s2) _ _ hd) hd2))
          · rw [if_neg hz] at z; cases z
        | _ => cases z
      | _ => cases z⟩
/-- [..] * k -/
theorem vl_rep (ha : VL X Γ a r fs ta) (hb : VE X Γ b rb g tb) : VL X Γ (.BinOp a .Mult b pos) r (lRep fs g) (tOp rRep ta tb) := ⟨pe_op op_rep ha.pe hb.pe, fun G H0 own env σ H Q ds R z k => by
  unfold lRep at z
  cases e1 : fs env with
  | none => rw [e1] at z; cases z
  | some xs =>
    cases e2 : g env with
    | none => rw [e1, e2] at z; cases z
    | some y =>
      rw [e1, e2] at z
      simp only [Option.bind_some] at z
      cases y with
      | int n =>
        simp only [hRep] at z
        by_cases hz : n < 1000000 ∧ -1000000 < n ∧ xs.length * n.toNat ≤ 1000000
        · rw [if_pos hz] at z
          cases z
          refine ha.ok G H0 own env σ H _ _ R e1 fun q vs H1 s1 n1 h1 d1 => ?_
          refine hb.ok G H0 own env σ H1 _ _ (R.ext s1) e2 fun v2 H2 s2 p2 => ?_
          cases p2
          refine ⟨q, n, vs, rfl, rfl, s2 _ _ h1, by omega, by omega, by rw [dps_len d1]; exact Nat.le_trans hz.2.2 (by decide), fun w hw => ?_⟩
          exact k w _ _ ((s1.trans s2).trans (same_new hw)) ((s1.trans s2).free hw) upd_same (rg_new hw (dps_flat_rep (dps_mono ((rg_own fun a z => ow_snoc z).trans (rg_ext s2)) _ _ d1) _))
        · rw [if_neg hz] at z; cases z
      | _ => cases z⟩
theorem rmulS (a : Int) (t : Tok) (l : Addr) (items : Array Value) (n : Nat) (sl : Array (Option Value)) :
    Meets (Builtin.«int.__rmul__» ⟨[.int a t, .ref l], []⟩) (fun _ R s => s.heap.get? l = some { cls := .type "list", dict := none, data := .seq items n, slots := sl } ∧ R (.ok (.ret Value.notImplemented)) s) :=
  .of_wp fun prog w A R s h => by obtain ⟨hp, g, d, tk, os⟩ := s; obtain ⟨hl, h⟩ := h; wp_walk; exact ⟨_, rfl, h⟩
theorem lmulS (l : Addr) (items : Array Value) (n : Nat) (sl : Array (Option Value)) (x : Int) (u : Tok) (hc0 : ¬(!Builtin.List.listFitsIndex x) = true) (hc1 : ¬items.size * x.toNat > (2 ^ 63 - 1) / 8) (hc2 : ¬Builtin.List.listTooLong (items.size * x.toNat) = true) :
    Meets (Builtin.«list.__mul__» ⟨[.ref l, .int x u], []⟩) (fun _ R s => s.heap.get? l = some { cls := .type "list", dict := none, data := .seq items n, slots := sl } ∧ R (.ok (.ret (Value.ref s.heap.objs.size))) { s with heap := s.heap.push { cls := Value.type "list", data := Data.seq (List.foldl (fun x1 x2 => x1 ++ x2) #[] (List.replicate (if items.isEmpty = true then 0 else x.toNat) items)) }, toks := s.toks }) :=
  .of_wp fun prog w A R s h => by
    obtain ⟨hp, g, d, tk, os⟩ := s; obtain ⟨hl, h⟩ := h
    have hsz := AutoListH.joined_fits hc2
    wp_walk; refine wpAny_ite_false (decide_eq_false (Nat.not_lt.mpr hsz)) ?_; wp_walk; exact ⟨_, rfl, h⟩
def rRepS (K : PySem.W.Frag) : R2 := fun x y H Q => ∃ l k xs, x = .ref l ∧ y = .int k ∧ SqL K H l xs ∧ -(2 ^ 63) ≤ k ∧ k < 2 ^ 63 ∧ xs.length * k.toNat ≤ sizeLine ∧
  ∀ p, H p = none → Q (.ref p) (upd H p (.lst (List.replicate k.toNat xs).flatten))
theorem op_repS : OpR X (binaryOp .Mult) (rRepS X.K) := by
  intro pins s σ H x y v u Q I rx ry h
  obtain ⟨l, k, xs, rfl, rfl, hH, h1, h2, hz, q⟩ := h
  cases rx
  obtain ⟨t, rfl⟩ := ry
  obtain ⟨its, r, ⟨o, n, e, hc, hd, hs⟩, z⟩ := I.list hH
  have hl := r.length
  obtain ⟨oc, odict, od, osl⟩ := o
  simp only at hc hd hs
  subst hc hd hs
  have hlen : its.toArray.size * k.toNat ≤ sizeLine := by rw [List.size_toArray, ← hl]; exact hz
  have hcap : ¬ its.toArray.size * k.toNat > (2 ^ 63 - 1) / 8 := by
    have : (sizeLine : Nat) ≤ (2 ^ 63 - 1) / 8 := by decide
    omega
  have hfit : ¬ (!Builtin.List.listFitsIndex k) = true := by
    rw [fitsIndex_both h1 h2]
    exact Bool.false_ne_true
  have hlong : ¬ Builtin.List.listTooLong (its.toArray.size * k.toNat) = true := by
    rw [notLongL hlen]
    exact Bool.false_ne_true
  have hnew : List.foldl (fun x1 x2 => x1 ++ x2) #[] (List.replicate (if its.toArray.isEmpty = true then 0 else k.toNat) its.toArray) = (List.replicate k.toNat its).flatten.toArray := by
    have f0 : ∀ m : Nat, List.foldl (fun x1 x2 => x1 ++ x2) #[] (List.replicate m its.toArray) = (List.replicate m its).flatten.toArray := fun m => by
      have := foldl_rep its m []
      rw [List.nil_append] at this
      exact this
    rw [f0]
    cases its with
    | nil => simp
    | cons a r' => rw [if_neg (by simp)]
  refine wpAny_binaryOp_repeat_ref (T := "list") (U := "int") (by decide) ⟨_, e, rfl⟩ (fun s' => typeIs_int s' k t) noFill_list_mul F.fills_int_mul F.slot_int_rmul repeat_list F.slot_int_index.lookup
    (call_meets F.slot_int_rmul (typeIs_int s k t) F.entry_int_rmul (F.args_int_rmul_2 _ _) (rmulS k t l its.toArray n osl)
      ⟨e, rfl, ⟨_, e, rfl⟩, call_meets F.slot_list_mul ⟨_, e, rfl⟩ F.entry_list_mul (F.args_list_mul_2 _ _) (lmulS l its.toArray n osl k t hfit hcap hlong) ⟨e, ?_⟩⟩)
  rw [hnew]
  exact ⟨.ref _, _, I.lnew (t' := s.toks) (r.rep k.toNat) (by rw [PyProof.Rows.lm_len_rep_flat, Nat.mul_comm]; exact hz), rfl, q _ I.fresh⟩
def lRepE (f : SE → Option D) (g : SE → Option D) (e : SE) : Option (List D) := (f e).bind fun x => (list? x).bind fun xs => (g e).bind fun y => hRep xs y
theorem vl_repE (ha : VE X Γ a r f ta) (hb : VE X Γ b rb g tb) : VL X Γ (.BinOp a .Mult b pos) r (lRepE f g) (tOp (rRepS X.K) ta tb) := ⟨pe_op op_repS ha.pe hb.pe, fun G H0 own env σ H Q ds R z k => by
  unfold lRepE at z
  cases e1 : f env with
  | none => rw [e1] at z; cases z
  | some x =>
    rw [e1] at z
    simp only [Option.bind_some] at z
    cases x with
    | list xs =>
      simp only [list?, Option.bind_some] at z
      cases e2 : g env with
      | none => rw [e2] at z; cases z
      | some y =>
        rw [e2] at z
        simp only [Option.bind_some] at z
        cases y with
        | int n =>
          simp only [hRep] at z
          by_cases hz : n < 1000000 ∧ -1000000 < n ∧ xs.length * n.toNat ≤ 1000000
          · rw [if_pos hz] at z
            cases z
            refine ha.ok G H0 own env σ H _ _ R e1 fun v1 H1 s1 p1 => ?_
            refine hb.ok G H0 own env σ H1 _ _ (R.ext s1) e2 fun v2 H2 s2 p2 => ?_
            cases p2
            cases p1 with
            | lst hs hd =>
              refine ⟨_, n, _, rfl, rfl, (rg_sub.trans s2).seq hs, by omega, by omega, by rw [dps_len hd]; exact Nat.le_trans hz.2.2 (by decide), fun w hw => ?_⟩
              exact k w _ _ ((s1.trans s2).trans (same_new hw)) ((s1.trans s2).free hw) upd_same (rg_new hw (dps_flat_rep (dps_mono (rg_ext s2) _ _ hd) _))
          · rw [if_neg hz] at z; cases z
        | _ => cases z
    | _ => cases z⟩
/-- sorted(numbers) -/
theorem vl_sortI (hm : X.mg "sorted" = none) (ha : VE X Γ a r f ta) (hg : Gl X "sorted" := by rfl) (he : starEach [a] X.env = (false, eval a X.env) :: starEach [] X.env := by rfl) (hpl : (backTo pos (starEach [] X.env)).any (·.1) = false := by rfl) :
    VL X Γ (.Call (.Name "sorted" p) [a] [] pos) .nw (lSortI f) (tCB (rSortedI X.K) (tCons ta tNil)) :=
  ⟨pe_callB cr_sortedI hg hm (by decide +kernel) (pa_cons ha.pe pa_nil he) (by decide) (by decide) he hpl, fun G H0 own env σ H Q ds R z k => by
    unfold lSortI at z
    cases e1 : f env with
    | none => rw [e1] at z; cases z
    | some x =>
      rw [e1] at z
      simp only [Option.bind_some] at z
      cases x with
      | list xs =>
        simp only [list?, Option.bind_some] at z
        cases e2 : ints? xs with
        | none => rw [e2] at z; cases z
        | some ns =>
          rw [e2] at z
          cases z
          refine ha.ok G H0 own env σ H _ _ R e1 fun v1 H1 s1 p1 => ?_
          cases p1 with
          | lst hs hd =>
            rw [ints_is e2] at hd
            rw [dps_ints hd] at hs
            refine ⟨_, ns, rfl, rg_sub.seq hs, fun ns' q h1 h2 hq => ?_⟩
            rw [sortI_unique h1 h2]
            exact k q _ _ (s1.trans (same_new hq)) (s1.free hq) upd_same ints_dps
      | _ => cases z⟩
end

/-! ### statements -/
inductive Rs where
  | nx (e : SE) | rt (d : D) | bk (e : SE) | ct (e : SE)
/-- what is handed out: a new list (u), or a value -/
def RetOk (K : PySem.W.Frag) (u : Bool) (r : Rl) (G H0 H : Hp) (v : V) (d : D) : Prop :=
  match u with
  | true => ∃ a vs ds, v = .ref a ∧ d = .list ds ∧ H0 a = none ∧ H a = some (.lst vs) ∧ DpAll K (rg r G H0 [some a] H) vs ds
  | false => Dp K (rg r G H0 [] H) v d
def Pst (K : PySem.W.Frag) (Γ : List Md) (u : Bool) (r : Rl) (G H0 : Hp) (own : List (Option Addr)) (H : Hp) (D : Ends) : Rs → Prop
  | .nx e => ∀ own' σ' H', ER K Γ G H0 own' e σ' H' → Gr own H own' H' → D.nx σ' H'
  | .bk e => ∀ own' σ' H', ER K Γ G H0 own' e σ' H' → Gr own H own' H' → D.bk σ' H'
  | .ct e => ∀ own' σ' H', ER K Γ G H0 own' e σ' H' → Gr own H own' H' → D.ct σ' H'
  | .rt d => ∀ v H', Same H0 H' → RetOk K u r G H0 H' v d → D.rt v H'
def OkS (K : PySem.W.Frag) (Γ : List Md) (u : Bool) (r : Rl) (g : SE → Option Rs) (t : TS) : Prop :=
  ∀ (G H0 : Hp) (own : List (Option Addr)) (env : SE) (σ : L2.St) (H : Hp) (D : Ends) (res : Rs), ER K Γ G H0 own env σ H → g env = some res → Pst K Γ u r G H0 own H D res → t D σ H
structure VS (X : Cx) (Γ : List Md) (u : Bool) (r : Rl) (st : Stmt) (g : SE → Option Rs) (t : TS) : Prop where
  ps : PS X st t
  ok : OkS X.K Γ u r g t
structure VSs (X : Cx) (Γ : List Md) (u : Bool) (r : Rl) (st : List Stmt) (g : SE → Option Rs) (t : TS) : Prop where
  ps : PSs X st t
  ok : OkS X.K Γ u r g t
def acc : Rl → Md → Bool
  | .nw, .od => true
  | .nw, .nw => true
  | .od, .od => true
  | _, _ => false
def accL : Rl → Md → Bool
  | .nw, .mo => true
  | .nw, .mn => true
  | .od, .mo => true
  | _, _ => false
def sNx (e : SE) : Option Rs := some (.nx e)
def sBk (e : SE) : Option Rs := some (.bk e)
def sCt (e : SE) : Option Rs := some (.ct e)
def sSeq (f g : SE → Option Rs) (e : SE) : Option Rs := (f e).bind fun x => match x with
  | .nx e' => g e'
  | .rt d => some (.rt d)
  | .bk e' => some (.bk e')
  | .ct e' => some (.ct e')
def sSet (i : Nat) (f : SE → Option D) (e : SE) : Option Rs := (f e).bind fun x => some (.nx (e.set i (some x)))
def sSetL (i : Nat) (f : SE → Option (List D)) (e : SE) : Option Rs := (f e).bind fun x => some (.nx (e.set i (some (.list x))))
def sDrop (f : SE → Option D) (e : SE) : Option Rs := (f e).bind fun _ => some (.nx e)
def sRet (f : SE → Option D) (e : SE) : Option Rs := (f e).bind fun x => some (.rt x)
def sRetL (f : SE → Option (List D)) (e : SE) : Option Rs := (f e).bind fun x => some (.rt (.list x))
def sRetN (_ : SE) : Option Rs := some (.rt .none)
def sIf (c : SE → Option Bool) (f g : SE → Option Rs) (e : SE) : Option Rs := (c e).bind fun b => match b with
  | true => f e
  | false => g e
section
variable {K : PySem.W.Frag} {Γ : List Md} {u : Bool} {r re rb : Rl} {f g : SE → Option Rs} {h : SE → Option D} {hl : SE → Option (List D)} {t v : TS} {te : TE} {i : Nat}
theorem rg_od (h : r ≠ .bo) : RLe .nw r := by
  cases r with
  | nw => exact .refl _
  | od => exact .no
  | bo => exact .bo _
theorem Pst.mono {G H0 H H1 : Hp} {own own1 : List (Option Addr)} {D : Ends} {res : Rs} (p : Pst K Γ u r G H0 own H D res) (gr : Gr own H own1 H1) : Pst K Γ u r G H0 own1 H1 D res := by
  cases res with
  | nx e => exact fun own' σ' H' R g => p own' σ' H' R (gr.trans g)
  | bk e => exact fun own' σ' H' R g => p own' σ' H' R (gr.trans g)
  | ct e => exact fun own' σ' H' R g => p own' σ' H' R (gr.trans g)
  | rt d => exact p
theorem acc_ok {G H0 H : Hp} {own : List (Option Addr)} {m : Md} {x : V} {d : D} (ha : acc re m = true) (p : Dp K (rg re G H0 own H) x d) : SlotOk K m G H0 own H i x d := by
  cases m with
  | od =>
    cases re with
    | nw => exact dp_mono (rg_le .no) _ _ p
    | od => exact p
    | bo => cases ha
  | nw =>
    cases re with
    | nw => exact p
    | od => cases ha
    | bo => cases ha
  | _ => cases re <;> cases ha
theorem ok_set (ha : acc re (md Γ i) = true) (he : OkE K Γ re h te) : OkS K Γ u r (sSet i h) (tAsg te (gName i)) := fun G H0 own env σ H D res R z p => by
  unfold sSet at z
  cases e1 : h env with
  | none => rw [e1] at z; cases z
  | some x =>
    rw [e1] at z
    cases z
    refine he G H0 own env σ H _ x R e1 fun w H1 s1 c => ?_
    exact p own _ H1 ((R.ext s1).put i x w (acc_ok ha c)) (Gr.of s1)
theorem accL_ok {G H0 H : Hp} {own : List (Option Addr)} {m : Md} {a : Addr} {vs : List V} {ds : List D} (ha : accL re m = true) (ho : own[i]? = some (some a)) (hv : H a = some (.lst vs)) (p : DpAll K (rg re G H0 own H) vs ds) : SlotOk K m G H0 own H i (.ref a) (.list ds) := by
  cases m with
  | mo =>
    cases re with
    | nw => exact ⟨a, vs, ds, rfl, ho, hv, rfl, dps_mono (rg_le .no) _ _ p⟩
    | od => exact ⟨a, vs, ds, rfl, ho, hv, rfl, p⟩
    | bo => cases ha
  | mn =>
    cases re with
    | nw => exact ⟨a, vs, ds, rfl, ho, hv, rfl, p⟩
    | od => cases ha
    | bo => cases ha
  | _ => cases re <;> cases ha
/-- a new list goes to a slot of one's own -/
theorem ER.own {G H0 H H1 : Hp} {own : List (Option Addr)} {env : SE} {σ : L2.St} {a : Addr} {vs : List V} {ds : List D} (R : ER K Γ G H0 own env σ H) (ha : accL re (md Γ i) = true) (hi : i < σ.length) (s : Same H H1) (n : H a = none) (hv : H1 a = some (.lst vs))
    (c : DpAll K (rg re G H0 (own ++ [some a]) H1) vs ds) : ER K Γ G H0 (own.set i (some a)) (env.set i (some (.list ds))) (σ.set i (some (.ref a))) H1 ∧ Gr own H (own.set i (some a)) H1 := by
  have hl : i < own.length := Nat.lt_of_lt_of_le hi R.ol
  have n0 : H0 a = none := R.new n
  have nO : ¬ Ow own a := R.live n
  have ow1 : ∀ b, Ow (own.set i (some a)) b → Ow (own ++ [some a]) b := fun b z => (ow_of_set z).elim ow_snoc fun e => by rw [e]; exact ow_snoc_self
  refine ⟨⟨R.gs, R.ex.trans s, fun j k b hj hk => ?_, fun j b hj => ?_, by rw [List.length_set, List.length_set]; exact R.le, by rw [List.length_set, List.length_set]; exact R.ol, fun j d hj => ?_⟩, fun b o nb e => ⟨fun z => (ow_of_set z).elim nb fun q => ?_, s _ _ e⟩⟩
  · have key : ∀ j, (own.set i (some a))[j]? = some (some b) → (j = i ∧ b = a) ∨ (j ≠ i ∧ own[j]? = some (some b)) := fun j hj => by
      by_cases q : i = j
      · subst q
        rw [List.getElem?_set_self hl] at hj
        cases hj
        exact .inl ⟨rfl, rfl⟩
      · rw [List.getElem?_set_ne q] at hj
        exact .inr ⟨fun z => q z.symm, hj⟩
    rcases key j hj with ⟨j1, b1⟩ | ⟨j1, b1⟩ <;> rcases key k hk with ⟨k1, c1⟩ | ⟨k1, c1⟩
    · rw [j1, k1]
    · subst b1
      exact absurd ⟨k, c1⟩ nO
    · subst c1
      exact absurd ⟨j, b1⟩ nO
    · exact R.inj j k b b1 c1
  · by_cases q : i = j
    · subst q
      rw [List.getElem?_set_self hl] at hj
      cases hj
      exact ⟨n0, _, hv⟩
    · rw [List.getElem?_set_ne q] at hj
      obtain ⟨h1, o, h2⟩ := R.fr j b hj
      exact ⟨h1, o, s _ _ h2⟩
  · by_cases q : i = j
    · subst q
      rw [List.getElem?_set_self (by rw [R.le]; exact hi)] at hj
      cases hj
      exact ⟨.ref a, List.getElem?_set_self hi, accL_ok ha (List.getElem?_set_self hl) hv (dps_mono (rg_own ow1) _ _ c)⟩
    · rw [List.getElem?_set_ne q] at hj
      rw [List.getElem?_set_ne q]
      obtain ⟨w, h1, h2⟩ := R.sl j d hj
      refine ⟨w, h1, ?_⟩
      have sub : ∀ {rr : Rl}, rr ≠ .bo → Same (rg rr G H0 own H) (rg rr G H0 (own.set i (some a)) H1) := fun {rr} hr => rg_gr (fun b o nb e => ⟨fun z => (ow_of_set z).elim nb fun q => (by rw [q, n] at e; cases e), s _ _ e⟩) hr
      exact h2.step sub fun b hb => ⟨by rw [List.getElem?_set_ne q]; exact hb, fun o => s _ _⟩
  · rw [q, n] at e; cases e
theorem ok_setL (ha : accL re (md Γ i) = true) (hi : ∀ env : SE, (hl env).isSome → i < env.length) (he : OkL K Γ re hl te) : OkS K Γ u r (sSetL i hl) (tAsg te (gName i)) := fun G H0 own env σ H D res R z p => by
  unfold sSetL at z
  cases e1 : hl env with
  | none => rw [e1] at z; cases z
  | some x =>
    rw [e1] at z
    cases z
    refine he G H0 own env σ H _ x R e1 fun a vs H1 s1 n1 q1 c => ?_
    obtain ⟨R1, g1⟩ := R.own ha (by rw [← R.le]; exact hi env (by rw [e1]; rfl)) s1 n1 q1 c
    exact p _ _ H1 R1 g1
theorem ok_seq (hf : OkS K Γ u r f t) (hg : OkS K Γ u r g v) : OkS K Γ u r (sSeq f g) (tSeq t v) := fun G H0 own env σ H D res R z p => by
  unfold sSeq at z
  cases e1 : f env with
  | none => rw [e1] at z; cases z
  | some x =>
    rw [e1] at z
    simp only [Option.bind_some] at z
    refine hf G H0 own env σ H _ x R e1 ?_
    cases x with
    | nx e => exact fun own' σ' H' R' gr => hg G H0 own' e σ' H' D res R' z (p.mono gr)
    | rt d => cases z; exact p
    | bk e => cases z; exact p
    | ct e => cases z; exact p
theorem ok_if {c : SE → Option Bool} {tc : TT} (hc : OkT K Γ c tc) (hf : OkS K Γ u r f t) (hg : OkS K Γ u r g v) : OkS K Γ u r (sIf c f g) (tIfS tc t v) := fun G H0 own env σ H D res R z p => by
  unfold sIf at z
  cases e1 : c env with
  | none => rw [e1] at z; cases z
  | some b =>
    rw [e1] at z
    simp only [Option.bind_some] at z
    refine hc G H0 own env σ H _ b R e1 fun H1 s1 => ?_
    cases b with
    | true => exact iteT (hf G H0 own env σ H1 D res (R.ext s1) z (p.mono (Gr.of s1)))
    | false => exact iteF (hg G H0 own env σ H1 D res (R.ext s1) z (p.mono (Gr.of s1)))
theorem ok_ret (hr : re ≠ .bo) (l : RLe re r) (he : OkE K Γ re h te) : OkS K Γ false r (sRet h) (tRet te) := fun G H0 own env σ H D res R z p => by
  unfold sRet at z
  cases e1 : h env with
  | none => rw [e1] at z; cases z
  | some x =>
    rw [e1] at z
    cases z
    refine he G H0 own env σ H _ x R e1 fun w H1 s1 c => p w H1 (R.ex.trans s1) ?_
    exact dp_mono (rg_le l) _ _ (dp_mono (rg_own (own' := []) fun a ⟨j, q⟩ => by simp at q) _ _ c)
theorem ok_retL (l : RLe re r) (he : OkL K Γ re hl te) : OkS K Γ true r (sRetL hl) (tRet te) := fun G H0 own env σ H D res R z p => by
  unfold sRetL at z
  cases e1 : hl env with
  | none => rw [e1] at z; cases z
  | some x =>
    rw [e1] at z
    cases z
    refine he G H0 own env σ H _ x R e1 fun a vs H1 s1 n1 q1 c => p _ H1 (R.ex.trans s1) ?_
    refine ⟨a, vs, x, rfl, rfl, R.new n1, q1, dps_mono (rg_le l) _ _ (dps_mono (rg_own fun b ⟨j, q⟩ => ?_) _ _ c)⟩
    have e : b = a := by
      cases j with
      | zero => simp at q; exact q.symm
      | succ j => simp at q
    rw [e]
    exact ow_snoc_self
/-- a list of one's own is handed out -/
def moR : Md → Rl
  | .mn => .nw
  | _ => .od
def isM : Md → Bool
  | .mo => true
  | .mn => true
  | _ => false
theorem ok_retM (hm : isM (md Γ i) = true) (l : RLe (moR (md Γ i)) r) : OkS K Γ true r (sRet (dV i)) (tRet (tVar i)) := fun G H0 own env σ H D res R z p => by
  unfold sRet at z
  cases e1 : dV i env with
  | none => rw [e1] at z; cases z
  | some x =>
    rw [e1] at z
    cases z
    have q' : env[i]? = some (some x) := by
      unfold dV at e1
      rw [List.getD_eq_getElem?_getD] at e1
      cases e2 : env[i]? with
      | none => rw [e2] at e1; cases e1
      | some y => rw [e2] at e1; exact congrArg some e1
    obtain ⟨w, h1, h2⟩ := R.sl i x q'
    refine ⟨w, h1, p w H R.ex ?_⟩
    have fin : ∀ {rr : Rl}, RLe rr r → SlotM K rr G H0 own H i w x → RetOk K true r G H0 H w x := fun {rr} l ⟨a, vs, ds, g0, g1, g2, g3, g4⟩ => by
      refine ⟨a, vs, ds, g0, g3, (R.fr i a g1).1, g2, dps_mono (rg_le l) _ _ (dps_mono (rg_own fun b ⟨j, q⟩ => ?_) _ _ g4)⟩
      have e : b = a := by
        cases j with
        | zero => simp at q; exact q.symm
        | succ j => simp at q
      rw [e]
      exact ⟨i, g1⟩
    cases hh : md Γ i with
    | mo => rw [hh] at h2 l; exact fin l h2
    | mn => rw [hh] at h2 l; exact fin l h2
    | _ => rw [hh] at hm; cases hm
theorem ok_retN : OkS K Γ false r sRetN tRetN := fun G H0 own env σ H D res R z p => by
  cases z
  exact p _ H R.ex .non
theorem ok_nx : OkS K Γ u r sNx tNext := fun G H0 own env σ H D res R z p => by
  cases z
  exact p own σ H R Gr.refl
theorem ok_bk : OkS K Γ u r sBk tBreak := fun G H0 own env σ H D res R z p => by
  cases z
  exact p own σ H R Gr.refl
theorem ok_ct : OkS K Γ u r sCt tCont := fun G H0 own env σ H D res R z p => by
  cases z
  exact p own σ H R Gr.refl
end
section
variable {X : Cx} {Γ : List Md} {u : Bool} {r re rb : Rl} {st : Stmt} {rest sa sb : List Stmt} {f g : SE → Option Rs} {h : SE → Option D} {hl : SE → Option (List D)} {t v : TS} {te : TE} {i : Nat} {x : Str} {e c : Expr} {pos pos' : Pos}
theorem vs_set (i : Nat) (hN : X.N.Nodup) (he : VE X Γ e re h te) (ha : acc re (md Γ i) = true := by rfl) (hi : X.N[i]? = some x := by rfl) (hx : Loc X.env.scope x := by first | exact Or.inl rfl | exact Or.inr rfl) (hs : swapsWith e (some (.Name x pos')) pos.line X.env = pure false := by rfl)
    (hf : X.fn x = true ∨ X.env.scope.names.lookup x = some .local := by first | exact .inl rfl | exact .inr rfl) : VS X Γ u r (.Assign [.Name x pos'] e pos) (sSet i h) (tAsg te (gName i)) := ⟨ps_set hN hi hx he.pe hs hf, ok_set ha he.ok⟩
theorem bind_some_of {α β : Type} {o : Option α} {k : α → Option β} (h : (o.bind k).isSome) : o.isSome := by
  cases o with
  | none => cases h
  | some _ => rfl
theorem vs_setL (i : Nat) (hN : X.N.Nodup) (he : VL X Γ e re hl te) (ha : accL re (md Γ i) = true := by rfl) (hi : X.N[i]? = some x := by rfl) (hx : Loc X.env.scope x := by first | exact Or.inl rfl | exact Or.inr rfl) (hs : swapsWith e (some (.Name x pos')) pos.line X.env = pure false := by rfl)
    (hf : X.fn x = true ∨ X.env.scope.names.lookup x = some .local := by first | exact .inl rfl | exact .inr rfl) : VS X Γ u r (.Assign [.Name x pos'] e pos) (sSetL i fun e => if i < e.length then hl e else none) (tAsg te (gName i)) := ⟨ps_set hN hi hx he.pe hs hf, ok_setL ha (fun env q => by
      by_cases z : i < env.length
      · exact z
      · rw [if_neg z] at q; cases q) fun G H0 own env σ H Q ds R z k => by
        by_cases q : i < env.length
        · rw [if_pos q] at z; exact he.ok G H0 own env σ H Q ds R z k
        · rw [if_neg q] at z; cases z⟩
theorem vs_ret (he : VE X Γ e re h te) (hr : re ≠ .bo := by intro z; cases z) (l : RLe re r := by first | exact .refl _ | exact .no) : VS X Γ false r (.Return (some e) pos) (sRet h) (tRet te) := ⟨ps_ret he.pe, ok_ret hr l he.ok⟩
theorem vs_retL (he : VL X Γ e re hl te) (l : RLe re r := by first | exact .refl _ | exact .no) : VS X Γ true r (.Return (some e) pos) (sRetL hl) (tRet te) := ⟨ps_ret he.pe, ok_retL l he.ok⟩
theorem vs_retM (i : Nat) {p2 : Pos} (hm : isM (md Γ i) = true := by rfl) (l : RLe (moR (md Γ i)) r := by first | exact .refl _ | exact .no) (hN : X.N[i]? = some x := by rfl) (hv : Vis X.env.scope x := by first | exact Or.inl rfl | exact Or.inr (Or.inl rfl) | exact Or.inr (Or.inr rfl))
    (hd : (x == ("__debug__" : Str)) = false := by decide) (hcd : (x == ("__classdict__" : Str)) = false := by decide) : VS X Γ true r (.Return (some (.Name x p2)) pos) (sRet (dV i)) (tRet (tVar i)) := ⟨ps_ret (pe_var hN hv hd hcd), ok_retM hm l⟩
theorem vs_retN : VS X Γ false r (.Return none pos) sRetN tRetN := ⟨ps_retN, ok_retN⟩
theorem vs_pass : VS X Γ u r (.Pass pos) sNx tNext := ⟨ps_pass, ok_nx⟩
theorem vs_break : VS X Γ u r (.Break pos) sBk tBreak := ⟨ps_break, ok_bk⟩
theorem vs_cont : VS X Γ u r (.Continue pos) sCt tCont := ⟨ps_continue, ok_ct⟩
theorem vss_nil : VSs X Γ u r [] sNx tNext := ⟨pss_nil, ok_nx⟩
theorem vss_one (h : VS X Γ u r st f t) : VSs X Γ u r [st] f t := ⟨pss_one h.ps, h.ok⟩
theorem vss_cons (h : VS X Γ u r st f t) (hr : VSs X Γ u r rest g v) : VSs X Γ u r (st :: rest) (sSeq f g) (tSeq t v) := ⟨pss_cons h.ps hr.ps, ok_seq h.ok hr.ok⟩
def frz : Md → Md → Bool
  | .mo, .od => true
  | .mn, .nw => true
  | .mn, .od => true
  | _, _ => false
def sRt (g : SE → Option Rs) (e : SE) : Option Rs := (g e).bind fun x => match x with
  | .rt d => some (.rt d)
  | _ => none
theorem ow_unset {own : List (Option Addr)} {i : Nat} {a : Addr} (h : Ow (own.set i none) a) : ∃ j : Nat, j ≠ i ∧ own[j]? = some (some a) := by
  obtain ⟨j, e⟩ := h
  by_cases hj : i = j
  · subst hj
    by_cases hl : i < own.length
    · rw [List.getElem?_set_self hl] at e; cases e
    · rw [List.getElem?_eq_none (by rw [List.length_set]; omega)] at e; cases e
  · rw [List.getElem?_set_ne hj] at e
    exact ⟨j, fun z => hj z.symm, e⟩
theorem ER.freeze {K : PySem.W.Frag} {G H0 H : Hp} {own : List (Option Addr)} {env : SE} {σ : L2.St} (R : ER K Γ G H0 own env σ H) (i : Nat) (m' : Md) (hm : frz (md Γ i) m' = true) : ER K (Γ.set i m') G H0 (own.set i none) env σ H := by
  have sub : ∀ a, Ow (own.set i none) a → Ow own a := fun a h => let ⟨j, _, e⟩ := ow_unset h; ⟨j, e⟩
  have hi : i < Γ.length := by
    by_cases z : i < Γ.length
    · exact z
    · unfold md at hm
      rw [List.getD_eq_getElem?_getD, List.getElem?_eq_none (by omega)] at hm
      cases hm
  have mi : md (Γ.set i m') i = m' := by
    unfold md
    rw [List.getD_eq_getElem?_getD, List.getElem?_set_self hi]
    rfl
  have mj : ∀ j, i ≠ j → md (Γ.set i m') j = md Γ j := fun j hj => by
    unfold md
    rw [List.getD_eq_getElem?_getD, List.getD_eq_getElem?_getD, List.getElem?_set_ne hj]
  refine ⟨R.gs, R.ex, fun j k a hj hk => ?_, fun j a hj => ?_, R.le, by rw [List.length_set]; exact R.ol, fun j d hj => ?_⟩
  · by_cases z : i = j
    · subst z
      by_cases hl : i < own.length
      · rw [List.getElem?_set_self hl] at hj; cases hj
      · rw [List.getElem?_eq_none (by rw [List.length_set]; omega)] at hj; cases hj
    · by_cases z2 : i = k
      · subst z2
        by_cases hl : i < own.length
        · rw [List.getElem?_set_self hl] at hk; cases hk
        · rw [List.getElem?_eq_none (by rw [List.length_set]; omega)] at hk; cases hk
      · rw [List.getElem?_set_ne z] at hj
        rw [List.getElem?_set_ne z2] at hk
        exact R.inj j k a hj hk
  · by_cases z : i = j
    · subst z
      by_cases hl : i < own.length
      · rw [List.getElem?_set_self hl] at hj; cases hj
      · rw [List.getElem?_eq_none (by rw [List.length_set]; omega)] at hj; cases hj
    · rw [List.getElem?_set_ne z] at hj
      exact R.fr j a hj
  · obtain ⟨v, hv, so⟩ := R.sl j d hj
    refine ⟨v, hv, ?_⟩
    by_cases z : i = j
    · subst z
      rw [mi]
      have main : ∀ r, SlotM K r G H0 own H i v d → ∀ r', r' = .nw ∨ r' = .od → RLe r r' → Dp K (rg r' G H0 (own.set i none) H) v d := fun r ⟨a, vs, ds, e0, e1, e2, e3, e4⟩ r' hr' le => by
        subst e0 e3
        have no : ¬ Ow (own.set i none) a := fun h => by
          obtain ⟨k, k1, k2⟩ := ow_unset h
          exact k1 (R.inj k i a k2 e1)
        have n0 := (R.fr i a e1).1
        have ir : InR r' G H0 (own.set i none) a (.lst vs) := by
          rcases hr' with rfl | rfl
          · exact ⟨no, n0, trivial⟩
          · exact ⟨no, .inl ⟨n0, trivial⟩⟩
        exact .lst (SqL.of (rg_iff.mpr ⟨ir, e2⟩)) (dps_mono ((rg_le le).trans (rg_own sub)) _ _ e4)
      cases e : md Γ i with
      | mo =>
        rw [e] at hm so
        cases m' with
        | od => exact main .od so .od (.inr rfl) (.refl _)
        | _ => cases hm
      | mn =>
        rw [e] at hm so
        cases m' with
        | od => exact main .nw so .od (.inr rfl) .no
        | nw => exact main .nw so .nw (.inl rfl) (.refl _)
        | _ => cases hm
      | _ => rw [e] at hm; cases hm
    · rw [mj j z]
      exact so.step (fun _ => rg_own sub) fun a h => ⟨by rw [List.getElem?_set_ne z]; exact h, fun o q => q⟩
/-- an own list that is changed no more: from here on a value that stays (the rest must hand out) -/
theorem vss_freeze {st : List Stmt} (i : Nat) (m' : Md) (h : VSs X (Γ.set i m') u r st g t) (hm : frz (md Γ i) m' = true := by rfl) : VSs X Γ u r st (sRt g) t := ⟨h.ps, fun G H0 own env σ H D res R z p => by
  unfold sRt at z
  cases e : g env with
  | none => rw [e] at z; cases z
  | some x =>
    rw [e] at z
    simp only [Option.bind_some] at z
    cases x with
    | rt d =>
      cases z
      exact h.ok G H0 (own.set i none) env σ H D (.rt d) (R.freeze i m' hm) e p
    | nx _ => cases z
    | bk _ => cases z
    | ct _ => cases z⟩
theorem vs_if {p : SE → Option Bool} {tc : TT} (hc : VT X Γ c p tc) (ha : VSs X Γ u r sa f t) (hb : VSs X Γ u r sb g v) : VS X Γ u r (.If c sa sb pos) (sIf p f g) (tIfS tc t v) := ⟨ps_if hc.pt ha.ps hb.ps, ok_if hc.ok ha.ok hb.ok⟩
end

/-! ### targets -/
structure VG (X : Cx) (Γ : List Md) (tg : Expr) (r : Rl) (is : List Nat) (set : D → SE → Option SE) (g : TG) : Prop where
  pg : PG X tg g
  ok : ∀ (G H0 : Hp) (own : List (Option Addr)) (env : SE) (σ : L2.St) (H : Hp) (v : V) (d : D) (env' : SE) (Q : L2.St → Hp → Prop), ER X.K Γ G H0 own env σ H → Dp X.K (rg r G H0 own H) v d → set d env = some env' →
    (∀ σ' : L2.St, ER X.K Γ G H0 own env' σ' H → σ'.length = σ.length → (∀ j : Nat, j ∉ is → σ'[j]? = σ[j]?) → Q σ' H) → g v σ H Q
structure VGs (X : Cx) (Γ : List Md) (es : List Expr) (r : Rl) (is : List Nat) (set : List D → SE → Option SE) (g : TGs) : Prop where
  pg : PGs X es g
  ln : ∀ ds e e', set ds e = some e' → ds.length = es.length
  ok : ∀ (G H0 : Hp) (own : List (Option Addr)) (env : SE) (σ : L2.St) (H : Hp) (vs : List V) (ds : List D) (env' : SE) (Q : L2.St → Hp → Prop), ER X.K Γ G H0 own env σ H → DpAll X.K (rg r G H0 own H) vs ds → set ds env = some env' →
    (∀ σ' : L2.St, ER X.K Γ G H0 own env' σ' H → σ'.length = σ.length → (∀ j : Nat, j ∉ is → σ'[j]? = σ[j]?) → Q σ' H) → g vs σ H Q
def gSet (i : Nat) (d : D) (e : SE) : Option SE := some (e.set i (some d))
def gsNil (ds : List D) (e : SE) : Option SE := match ds with
  | [] => some e
  | _ => none
def gsCons (s : D → SE → Option SE) (ss : List D → SE → Option SE) (ds : List D) (e : SE) : Option SE := match ds with
  | d :: ds => (s d e).bind fun e' => ss ds e'
  | _ => none
def gTupD (ss : List D → SE → Option SE) (d : D) (e : SE) : Option SE := match d with
  | .tuple ds => ss ds e
  | _ => none
section
variable {X : Cx} {Γ : List Md} {r : Rl} {is js : List Nat} {e : Expr} {es : List Expr} {s : D → SE → Option SE} {ss : List D → SE → Option SE} {g : TG} {gs : TGs} {x : Str} {pos : Pos}
theorem vg_name (i : Nat) (hN : X.N.Nodup) (ha : acc r (md Γ i) = true := by rfl) (hi : X.N[i]? = some x := by rfl) (hx : Loc X.env.scope x := by first | exact Or.inl rfl | exact Or.inr rfl)
    (hf : X.fn x = true ∨ X.env.scope.names.lookup x = some .local := by first | exact .inl rfl | exact .inr rfl) : VG X Γ (.Name x pos) r [i] (gSet i) (gName i) := ⟨pg_name hN hi hx hf, fun G H0 own env σ H v d env' Q R p z k => by
  cases z
  refine k _ (R.put i d v (acc_ok ha p)) (by rw [List.length_set]) fun j hj => ?_
  rw [List.getElem?_set_ne (fun z => hj (by simp [z]))]⟩
theorem vgs_nil : VGs X Γ [] r [] gsNil gNil := ⟨pgs_nil, fun ds e e' z => (by cases ds <;> first | rfl | cases z), fun G H0 own env σ H vs ds env' Q R p z k => by
  cases p with
  | nil => cases z; exact ⟨rfl, k σ R rfl fun _ _ => rfl⟩
  | cons => cases z⟩
theorem vgs_cons (h : VG X Γ e r is s g) (hr : VGs X Γ es r js ss gs) (hs : (assignEach (e :: es) X.env).map (·.2) = assign e X.env :: (assignEach es X.env).map (·.2) := by rfl) : VGs X Γ (e :: es) r (is ++ js) (gsCons s ss) (gCons g gs) := ⟨pgs_cons h.pg hr.pg hs, fun ds e e' z => by
  cases ds with
  | nil => cases z
  | cons d ds =>
    unfold gsCons at z
    cases q : s d e with
    | none => simp only [q, Option.bind_none] at z; cases z
    | some e1 => simp only [q, Option.bind_some] at z; rw [List.length_cons, List.length_cons, hr.ln ds e1 e' z], fun G H0 own env σ H vs ds env' Q R p z k => by
  cases p with
  | nil => cases z
  | cons p1 p2 =>
    rename_i v vs d ds
    unfold gsCons at z
    cases q : s d env with
    | none => simp only [q, Option.bind_none] at z; cases z
    | some e1 =>
      simp only [q, Option.bind_some] at z
      refine ⟨_, _, rfl, h.ok G H0 own env σ H _ d e1 _ R p1 q fun σ1 R1 l1 k1 => ?_⟩
      refine hr.ok G H0 own e1 σ1 H _ ds env' Q R1 p2 z fun σ2 R2 l2 k2 => k σ2 R2 (l2.trans l1) fun j hj => ?_
      rw [k2 j (fun z => hj (List.mem_append_right _ z)), k1 j (fun z => hj (List.mem_append_left _ z))]⟩
theorem vg_tup {j : Nat} (hc : X.calm = true) (h : VGs X Γ es r is ss gs) (hn : (assignEach es X.env).length = es.length := by rfl) (hst : (assignEach es X.env).findIdx? (·.1) = none := by rfl) : VG X Γ (.Tuple es j pos) r is (gTupD ss) (gTup X.K es.length gs) := ⟨pg_tup hc h.pg hn hst, fun G H0 own env σ H v d env' Q R p z k => by
  cases p with
  | tup hs hd => exact ⟨_, _, rfl, same_t rg_sub hs, by rw [dps_len hd]; exact h.ln _ _ _ z, h.ok G H0 own env σ H _ _ env' Q R hd z k⟩
  | _ => cases z⟩
end
/-! ### what is walked -/
def ItOk (K : PySem.W.Frag) (r : Rl) (G H0 : Hp) (own : List (Option Addr)) (H1 : Hp) (J : It) (ds : List D) : Prop :=
  ∀ own2 H2, Gr own H1 own2 H2 → Same H0 H2 → (∀ a, Ow own2 a → ∃ o, H2 a = some o) →
    (∀ i d, ds[i]? = some d → J.go i H2 ∧ ∀ x H', J.yld i H2 x H' → Same H2 H' ∧ Dp K (rg r G H0 own2 H') x d) ∧ J.stop ds.length H2
structure VI (X : Cx) (Γ : List Md) (tg iter : Expr) (r : Rl) (f : SE → Option (List D)) (wi : TI) : Prop where
  pi : PI X tg iter wi
  ok : ∀ (G H0 : Hp) (own : List (Option Addr)) (env : SE) (σ : L2.St) (H : Hp) (R : It → Hp → Prop) (ds : List D), ER X.K Γ G H0 own env σ H → f env = some ds → (∀ J H1, Same H H1 → ItOk X.K r G H0 own H1 J ds → R J H1) → wi σ H R
def iL (f : SE → Option D) (e : SE) : Option (List D) := (f e).bind list?
def rangeD (lo : Int) (n : Nat) : List D := (List.range n).map fun k => .int (lo + (k : Nat))
def hR1 (x : List D) : Option (List D) := match x with
  | [.int j] => if -1000000 < j ∧ j < 1000000 then some (rangeD 0 j.toNat) else none
  | _ => none
def iR1 (f : SE → Option (List D)) (e : SE) : Option (List D) := (f e).bind hR1
def hR2 (x : List D) : Option (List D) := match x with
  | [.int i, .int j] => if (-1000000 < i ∧ i < 1000000) ∧ (-1000000 < j ∧ j < 1000000) then some (rangeD i (j - i).toNat) else none
  | _ => none
def iR2 (f : SE → Option (List D)) (e : SE) : Option (List D) := (f e).bind hR2
def enumD (xs : List D) : List D := xs.zipIdx.map fun p => .tuple [.int (p.2 : Nat), p.1]
def zipD (xs ys : List D) : List D := List.zipWith (fun x y => .tuple [x, y]) xs ys
def iEn (f : SE → Option (List D)) (e : SE) : Option (List D) := (f e).bind fun x => match x with
  | [.list xs] => some (enumD xs)
  | _ => none
def iZp (f : SE → Option (List D)) (e : SE) : Option (List D) := (f e).bind fun x => match x with
  | [.list xs, .list ys] => some (zipD xs ys)
  | _ => none
section
variable {X : Cx} {Γ : List Md} {r ra rb : Rl} {a b tg : Expr} {es elts : List Expr} {f g : SE → Option D} {fs : SE → Option (List D)} {ts : TA} {t ta tb : TE} {p pos tpos : Pos} {kk : Nat}
theorem vi_list (ha : VE X Γ a r f ta) (hr : r ≠ .bo := by intro z; cases z) : VI X Γ tg a r (iL f) (iList X.K ta) := ⟨pi_list ha.pe, fun G H0 own env σ H R ds E z k => by
  unfold iL at z
  cases e1 : f env with
  | none => rw [e1] at z; cases z
  | some x =>
    rw [e1] at z
    simp only [Option.bind_some] at z
    cases x with
    | list xs =>
      cases z
      refine ha.ok G H0 own env σ H _ _ E e1 fun v H1 s1 c => ?_
      cases c with
      | lst hs hd =>
        refine ⟨_, rfl, ⟨_, rg_sub.seq hs⟩, k _ H1 s1 fun own2 H2 gr _ _ => ?_⟩
        have hs2 := (rg_gr gr hr).seq hs
        have hd2 := dps_mono (rg_gr gr hr) _ _ hd
        refine ⟨fun i d hi => ?_, ⟨_, rg_sub.seq hs2, by rw [dps_len hd2]; exact Nat.le_refl _⟩⟩
        obtain ⟨w, h1, h2⟩ := dps_get hd2 hi
        refine ⟨⟨_, w, rg_sub.seq hs2, h1⟩, fun y H' hy => ?_⟩
        obtain ⟨rfl, hy⟩ := hy
        have e : y = w := Option.some.inj ((hy _ (rg_sub.seq hs2)).symm.trans h1)
        rw [e]
        exact ⟨Same.refl _, h2⟩
    | _ => cases z⟩
theorem range_it_ok {K : PySem.W.Frag} {G H0 H1 : Hp} {own : List (Option Addr)} {lo : Int} {n : Nat} : ItOk K .nw G H0 own H1 (Itr lo n) (rangeD lo n) := fun own2 H2 _ _ _ => by
  refine ⟨fun i d hi => ?_, by show n ≤ (rangeD lo n).length; unfold rangeD; simp⟩
  unfold rangeD at hi
  rw [List.getElem?_map] at hi
  cases e : (List.range n)[i]? with
  | none => rw [e] at hi; cases hi
  | some j =>
    rw [e] at hi
    cases hi
    obtain ⟨h1, h2⟩ := List.getElem?_eq_some_iff.mp e
    rw [List.getElem_range] at h2
    subst h2
    rw [List.length_range] at h1
    refine ⟨h1, fun x H' hy => ?_⟩
    obtain ⟨rfl, rfl⟩ := hy
    exact ⟨Same.refl _, .int _⟩
theorem vi_range1 (hm : X.mg "range" = none) (ha : VA X Γ [a] r fs ts) (hg : Gl X "range" := by rfl) (hs : starEach [a] X.env = [(false, eval a X.env)] := by rfl) : VI X Γ tg (.Call (.Name "range" p) [a] [] pos) .nw (iR1 fs) (iRng1 ts) := ⟨pi_range1 hg hm ha.pa hs, fun G H0 own env σ H R ds E z k => by
  unfold iR1 at z
  cases e1 : fs env with
  | none => rw [e1] at z; cases z
  | some x =>
    rw [e1] at z
    simp only [Option.bind_some] at z
    match x, e1, z with
    | [.int j], e1, z =>
      simp only [hR1] at z
      by_cases q : -1000000 < j ∧ j < 1000000
      · rw [if_pos q] at z
        cases z
        refine ha.ok G H0 own env σ H _ _ E e1 fun v H1 s1 c => ?_
        match v, c with
        | _, .cons (.int _) .nil => exact ⟨j, rfl, by omega, by omega, k _ H1 s1 range_it_ok⟩
      · rw [if_neg q] at z; cases z⟩
theorem vi_range2 (hm : X.mg "range" = none) (ha : VA X Γ [a, b] r fs ts) (hg : Gl X "range" := by rfl) (hs : starEach [a, b] X.env = [(false, eval a X.env), (false, eval b X.env)] := by rfl) (hs2 : starEach [b] X.env = [(false, eval b X.env)] := by rfl) :
    VI X Γ tg (.Call (.Name "range" p) [a, b] [] pos) .nw (iR2 fs) (iRng2 ts) := ⟨pi_range2 hg hm ha.pa hs hs2, fun G H0 own env σ H R ds E z k => by
  unfold iR2 at z
  cases e1 : fs env with
  | none => rw [e1] at z; cases z
  | some x =>
    rw [e1] at z
    simp only [Option.bind_some] at z
    match x, e1, z with
    | [.int i, .int j], e1, z =>
      simp only [hR2] at z
      by_cases q : (-1000000 < i ∧ i < 1000000) ∧ (-1000000 < j ∧ j < 1000000)
      · rw [if_pos q] at z
        cases z
        refine ha.ok G H0 own env σ H _ _ E e1 fun v H1 s1 c => ?_
        match v, c with
        | _, .cons (.int _) (.cons (.int _) .nil) => exact ⟨i, j, rfl, ⟨by omega, by omega, by omega, by omega⟩, k _ H1 s1 range_it_ok⟩
      · rw [if_neg q] at z; cases z⟩
def rangeC (lo c : Int) (n : Nat) : List D := (List.range n).map fun k => .int (lo + (k : Nat) * c)
def rngN (i j c : Int) : Nat := if i < j then ((j - i - 1) / c + 1).toNat else 0
def hR3 (x : List D) : Option (List D) := match x with
  | [.int i, .int j, .int c] => if ((-1000000 < i ∧ i < 1000000) ∧ (-1000000 < j ∧ j < 1000000)) ∧ (0 < c ∧ c < 1000000) then some (rangeC i c (rngN i j c)) else none
  | _ => none
def iR3 (f : SE → Option (List D)) (e : SE) : Option (List D) := (f e).bind hR3
theorem rgc_pos {i j c : Int} (h1 : -1000000 < i) (h2 : i < 1000000) (h3 : -1000000 < j) (h4 : j < 1000000) (h5 : 0 < c) (h6 : c < 1000000) : RgC i j c (rngN i j c) := by
  have e : Builtin.Range.rangeSize i j c = (rngN i j c : Int) := by
    unfold Builtin.Range.rangeSize rngN
    rw [if_pos h5]
    split
    · have := Int.ediv_nonneg (show 0 ≤ j - i - 1 by omega) (show 0 ≤ c by omega)
      omega
    · rfl
  have b : (rngN i j c : Int) ≤ 2000000 := by
    unfold rngN
    split
    · have := Int.ediv_nonneg (show 0 ≤ j - i - 1 by omega) (show 0 ≤ c by omega)
      have := Int.ediv_le_self c (show 0 ≤ j - i - 1 by omega)
      omega
    · omega
  refine ⟨by omega, by omega, ?_, e⟩
  unfold Builtin.Range.small
  rw [e]
  have h : c > 0 := h5
  simp only [Builtin.Range.rangeFitsLong, Bool.and_eq_true, Bool.or_eq_true, decide_eq_true_eq, beq_iff_eq, h, if_true]
  omega
theorem rangeC_it_ok {K : PySem.W.Frag} {G H0 H1 : Hp} {own : List (Option Addr)} {lo c : Int} {n : Nat} : ItOk K .nw G H0 own H1 (Itc lo c n) (rangeC lo c n) := fun own2 H2 _ _ _ => by
  refine ⟨fun i d hi => ?_, by show n ≤ (rangeC lo c n).length; unfold rangeC; simp⟩
  unfold rangeC at hi
  rw [List.getElem?_map] at hi
  cases e : (List.range n)[i]? with
  | none => rw [e] at hi; cases hi
  | some j =>
    rw [e] at hi
    cases hi
    obtain ⟨h1, h2⟩ := List.getElem?_eq_some_iff.mp e
    rw [List.getElem_range] at h2
    subst h2
    rw [List.length_range] at h1
    refine ⟨h1, fun x H' hy => ?_⟩
    obtain ⟨rfl, rfl⟩ := hy
    exact ⟨Same.refl _, .int _⟩
theorem vi_range3 {c : Expr} (hm : X.mg "range" = none) (ha : VA X Γ [a, b, c] r fs ts) (hg : Gl X "range" := by rfl) (hs : starEach [a, b, c] X.env = (false, eval a X.env) :: starEach [b, c] X.env := by rfl) (hpl : (backTo pos (starEach [b, c] X.env)).any (·.1) = false := by rfl) :
    VI X Γ tg (.Call (.Name "range" p) [a, b, c] [] pos) .nw (iR3 fs) (iRng3 ts) := ⟨pi_range3 hg hm ha.pa hs hpl, fun G H0 own env σ H R ds E z k => by
  unfold iR3 at z
  cases e1 : fs env with
  | none => rw [e1] at z; cases z
  | some x =>
    rw [e1] at z
    simp only [Option.bind_some] at z
    match x, e1, z with
    | [.int i, .int j, .int c], e1, z =>
      simp only [hR3] at z
      by_cases q : ((-1000000 < i ∧ i < 1000000) ∧ (-1000000 < j ∧ j < 1000000)) ∧ (0 < c ∧ c < 1000000)
      · rw [if_pos q] at z
        cases z
        refine ha.ok G H0 own env σ H _ _ E e1 fun v H1 s1 c => ?_
        match v, c with
        | _, .cons (.int _) (.cons (.int _) (.cons (.int _) .nil)) => exact ⟨i, j, _, _, rfl, rgc_pos q.1.1.1 q.1.1.2 q.1.2.1 q.1.2.2 q.2.1 q.2.2, k _ H1 s1 rangeC_it_ok⟩
      · rw [if_neg q] at z; cases z⟩
theorem pair_in {K : PySem.W.Frag} {G H0 H2 : Hp} {own2 : List (Option Addr)} {T : Addr} {x y : V} {d e : D} (s0 : Same H0 H2) (al : ∀ a, Ow own2 a → ∃ o, H2 a = some o) (n : H2 T = none) (h1 : Dp K (rg r G H0 own2 H2) x d) (h2 : Dp K (rg r G H0 own2 H2) y e) :
    Dp K (rg r G H0 own2 (upd H2 T (.tup [x, y]))) (.ref T) (.tuple [d, e]) := by
  have nO : ¬ Ow own2 T := fun z => by
    obtain ⟨o, q⟩ := al T z
    rw [n] at q; cases q
  exact .tup (SqT.of (rg_iff.mpr ⟨tup_in nO (s0.free n), upd_same⟩)) (.cons (dp_mono (rg_ext (same_new n)) _ _ h1) (.cons (dp_mono (rg_ext (same_new n)) _ _ h2) .nil))
theorem vi_enum (hm : X.mg "enumerate" = none) (ha : VA X Γ [a] r fs ts) (hr : r ≠ .bo := by intro z; cases z) (hg : Gl X "enumerate" := by rfl) (hs : starEach [a] X.env = [(false, eval a X.env)] := by rfl) :
    VI X Γ (.Tuple elts kk tpos) (.Call (.Name "enumerate" p) [a] [] pos) r (iEn fs) (iEnum X.K ts) := ⟨pi_enum hg hm ha.pa hs, fun G H0 own env σ H R ds E z k => by
  unfold iEn at z
  cases e1 : fs env with
  | none => rw [e1] at z; cases z
  | some x =>
    rw [e1] at z
    simp only [Option.bind_some] at z
    match x, e1, z with
    | [.list xs], e1, z =>
      cases z
      refine ha.ok G H0 own env σ H _ _ E e1 fun v H1 s1 c => ?_
      match v, c with
      | _, .cons (.lst hs hd) .nil =>
        refine ⟨_, _, rfl, rg_sub.seq hs, k _ H1 s1 fun own2 H2 gr s0 al => ?_⟩
        have hs2 := (rg_gr gr hr).seq hs
        have hd2 := dps_mono (rg_gr gr hr) _ _ hd
        refine ⟨fun i d hi => ?_, ⟨_, rg_sub.seq hs2, by rw [dps_len hd2]; unfold enumD; simp⟩⟩
        unfold enumD at hi
        rw [List.getElem?_map, List.getElem?_zipIdx] at hi
        cases e2 : xs[i]? with
        | none => rw [e2] at hi; cases hi
        | some d2 =>
          rw [e2] at hi
          simp only [Option.map_some, Nat.zero_add] at hi
          cases hi
          obtain ⟨w, h1, h2⟩ := dps_get hd2 e2
          refine ⟨⟨_, w, rg_sub.seq hs2, h1⟩, fun y H' hy => ?_⟩
          obtain ⟨T, y', rfl, nT, rfl, hy⟩ := hy
          have e : y' = w := Option.some.inj ((hy _ (rg_sub.seq hs2)).symm.trans h1)
          subst e
          exact ⟨same_new nT, pair_in s0 al nT (.int _) h2⟩⟩
theorem vi_zip (hm : X.mg "zip" = none) (ha : VA X Γ [a, b] r fs ts) (hr : r ≠ .bo := by intro z; cases z) (hg : Gl X "zip" := by rfl) (hs : starEach [a, b] X.env = (false, eval a X.env) :: starEach [b] X.env := by rfl) (hpl : (backTo pos (starEach [b] X.env)).any (·.1) = false := by rfl) :
    VI X Γ (.Tuple elts kk tpos) (.Call (.Name "zip" p) [a, b] [] pos) r (iZp fs) (iZip X.K ts) := ⟨pi_zip hg hm ha.pa hs hpl, fun G H0 own env σ H R ds E z k => by
  unfold iZp at z
  cases e1 : fs env with
  | none => rw [e1] at z; cases z
  | some x =>
    rw [e1] at z
    simp only [Option.bind_some] at z
    match x, e1, z with
    | [.list xs, .list ys], e1, z =>
      cases z
      refine ha.ok G H0 own env σ H _ _ E e1 fun v H1 s1 c => ?_
      match v, c with
      | _, .cons (.lst hs hd) (.cons (.lst hs' hd') .nil) =>
        refine ⟨_, _, _, _, rfl, rg_sub.seq hs, rg_sub.seq hs', k _ H1 s1 fun own2 H2 gr s0 al => ?_⟩
        have hs2 := (rg_gr gr hr).seq hs
        have hd2 := dps_mono (rg_gr gr hr) _ _ hd
        have hs2' := (rg_gr gr hr).seq hs'
        have hd2' := dps_mono (rg_gr gr hr) _ _ hd'
        refine ⟨fun i d hi => ?_, ⟨_, _, rg_sub.seq hs2, rg_sub.seq hs2', by rw [dps_len hd2, dps_len hd2']; unfold zipD; rw [List.length_zipWith]; omega⟩⟩
        unfold zipD at hi
        rw [List.getElem?_zipWith] at hi
        cases e2 : xs[i]? with
        | none => rw [e2] at hi; cases hi
        | some d2 =>
          cases e3 : ys[i]? with
          | none => rw [e2, e3] at hi; cases hi
          | some d3 =>
            rw [e2, e3] at hi
            cases hi
            obtain ⟨w, h1, h2⟩ := dps_get hd2 e2
            obtain ⟨w', h1', h2'⟩ := dps_get hd2' e3
            refine ⟨⟨_, _, w, w', rg_sub.seq hs2, rg_sub.seq hs2', h1, h1'⟩, fun y H' hy => ?_⟩
            obtain ⟨T, y1, y2, rfl, nT, rfl, hy1, hy2⟩ := hy
            have e : y1 = w := Option.some.inj ((hy1 _ (rg_sub.seq hs2)).symm.trans h1)
            have e' : y2 = w' := Option.some.inj ((hy2 _ (rg_sub.seq hs2')).symm.trans h1')
            subst e e'
            exact ⟨same_new nT, pair_in s0 al nT h2 h2'⟩⟩
end
/-! ### for, while -/
def forL (set : D → SE → Option SE) (g : SE → Option Rs) (kl : List Nat) : List D → SE → Option Rs
  | [], e => some (.nx e)
  | x :: xs, e => (set x e).bind fun e1 => (g e1).bind fun r => match r with
    | .nx e' => forL set g kl xs (kil kl e')
    | .ct e' => forL set g kl xs (kil kl e')
    | .bk e' => some (.nx (kil kl e'))
    | .rt d => some (.rt d)
def sFor (set : D → SE → Option SE) (g : SE → Option Rs) (kl : List Nat) (f : SE → Option (List D)) (e : SE) : Option Rs := (f e).bind fun ds => forL set g kl ds (kil kl e)
def whN (c : SE → Option Bool) (g : SE → Option Rs) (kl : List Nat) : Nat → SE → Option Rs
  | 0, _ => none
  | n + 1, e => (c e).bind fun b => match b with
    | false => some (.nx e)
    | true => (g e).bind fun r => match r with
      | .nx e' => whN c g kl n (kil kl e')
      | .ct e' => whN c g kl n (kil kl e')
      | .bk e' => some (.nx e')
      | .rt d => some (.rt d)
open Classical in
noncomputable def sWhile (c : SE → Option Bool) (g : SE → Option Rs) (kl : List Nat) (e : SE) : Option Rs := if h : ∃ n r, whN c g kl n (kil kl e) = some r then some (choose (choose_spec h)) else none
section
variable {c : SE → Option Bool} {g : SE → Option Rs} {kl : List Nat}
theorem whN_succ : ∀ {n : Nat} {e : SE} {r : Rs}, whN c g kl n e = some r → whN c g kl (n + 1) e = some r
  | 0, _, _, h => by cases h
  | n + 1, e, r, h => by
    unfold whN at h ⊢
    cases e1 : c e with
    | none => rw [e1] at h; cases h
    | some b =>
      rw [e1] at h
      simp only [Option.bind_some] at h ⊢
      cases b with
      | false => exact h
      | true =>
        simp only at h ⊢
        cases e2 : g e with
        | none => rw [e2] at h; cases h
        | some q =>
          rw [e2] at h
          simp only [Option.bind_some] at h ⊢
          cases q with
          | nx e' => exact whN_succ h
          | ct e' => exact whN_succ h
          | bk e' => exact h
          | rt d => exact h
theorem whN_add {n : Nat} {e : SE} {r : Rs} (h : whN c g kl n e = some r) : ∀ m, whN c g kl (n + m) e = some r
  | 0 => h
  | m + 1 => whN_succ (whN_add h m)
theorem whN_det {n m : Nat} {e : SE} {r q : Rs} (h : whN c g kl n e = some r) (h' : whN c g kl m e = some q) : r = q := by
  have a := whN_add h m
  have b := whN_add h' n
  rw [Nat.add_comm m n, a] at b
  exact Option.some.inj b
theorem sWhile_of {n : Nat} {e : SE} {r : Rs} (h : whN c g kl n (kil kl e) = some r) : sWhile c g kl e = some r := by
  unfold sWhile
  have hh : ∃ n r, whN c g kl n (kil kl e) = some r := ⟨n, r, h⟩
  rw [dif_pos hh]
  exact congrArg some (whN_det (Classical.choose_spec (Classical.choose_spec hh)) h)
theorem sWhile_ex {e : SE} {r : Rs} (h : sWhile c g kl e = some r) : ∃ n, whN c g kl n (kil kl e) = some r := by
  unfold sWhile at h
  by_cases hh : ∃ n r, whN c g kl n (kil kl e) = some r
  · rw [dif_pos hh] at h
    cases h
    exact ⟨_, Classical.choose_spec (Classical.choose_spec hh)⟩
  · rw [dif_neg hh] at h; cases h
end
section
variable {X : Cx} {Γ : List Md} {u : Bool} {r ri : Rl} {tg iter cd : Expr} {is : List Nat} {set : D → SE → Option SE} {g : SE → Option Rs} {f : SE → Option (List D)} {c : SE → Option Bool} {wi : TI} {gt : TG} {tb : TS} {tc : TT} {body : List Stmt} {pos : Pos}
theorem vs_for (kl : List Nat) (hp : PassesOwn (model X.prog X.w) X.A X.env X.xe) (hc : X.calm = true) (hi : VI X Γ tg iter ri f wi) (hg : VG X Γ tg ri is set gt) (hb : VSs X Γ u r body g tb) (hs : ∀ x, foldedSetIterable iter X.env x = pure x := by intro _; rfl) :
    VS X Γ u r (.For tg iter body [] pos) (sFor set g kl f) (tFor wi gt tb) := ⟨ps_for hp hc hi.pi hg.pg hb.ps hs, fun G H0 own env σ H D res R z p => by
  unfold sFor at z
  cases e1 : f env with
  | none => rw [e1] at z; cases z
  | some ds =>
    rw [e1] at z
    simp only [Option.bind_some] at z
    refine hi.ok G H0 own env σ H _ ds R e1 fun J H1 s1 it => ?_
    refine ⟨fun i m σ' H' => ∃ own' env' rest, ER X.K Γ G H0 own' env' σ' H' ∧ Gr own H1 own' H' ∧ ds.drop i = rest ∧ m = rest.length ∧ i + rest.length = ds.length ∧ forL set g kl rest env' = some res,
      ⟨ds.length, own, _, ds, ER.kil kl (R.ext s1), Gr.refl, rfl, rfl, Nat.zero_add _, z⟩, ?_⟩
    rintro i m σ' H' ⟨own', env', rest, R', gr, hd, rfl, hl, hf⟩
    obtain ⟨go, stop⟩ := it own' H' gr R'.ex fun a ⟨j, q⟩ => (R'.fr j a q).2
    cases rest with
    | nil =>
      simp only [List.length_nil, Nat.add_zero] at hl
      subst hl
      cases hf
      exact .inl ⟨stop, p own' σ' H' R' ((Gr.of s1).trans gr)⟩
    | cons x xs =>
      have hx : ds[i]? = some x := by
        have := congrArg (fun l => l[0]?) hd
        simpa using this
      have hd2 : ds.drop (i + 1) = xs := by
        have := congrArg List.tail hd
        simpa [List.tail_drop] using this
      obtain ⟨hgo, hy⟩ := go i x hx
      unfold forL at hf
      cases e2 : set x env' with
      | none => rw [e2] at hf; cases hf
      | some e3 =>
        rw [e2] at hf
        simp only [Option.bind_some] at hf
        cases e4 : g e3 with
        | none => rw [e4] at hf; cases hf
        | some q =>
          rw [e4] at hf
          simp only [Option.bind_some] at hf
          refine .inr ⟨hgo, fun σ2 H2 => ∃ own2 env2, ER X.K Γ G H0 own2 env2 σ2 H2 ∧ Gr own H1 own2 H2 ∧ forL set g kl xs env2 = some res, fun σ2 H2 ⟨own2, env2, h1, h2, h3⟩ => ⟨xs.length, by simp, own2, env2, xs, h1, h2, hd2, rfl, by rw [List.length_cons] at hl; omega, h3⟩, fun y H2 yl => ?_⟩
          obtain ⟨s2, dp⟩ := hy y H2 yl
          have gr2 : Gr own H1 own' H2 := gr.trans (Gr.of s2)
          refine hg.ok G H0 own' env' σ' H2 y x e3 _ (R'.ext s2) dp e2 fun σ3 R3 _ _ => ?_
          refine hb.ok G H0 own' e3 σ3 H2 _ q R3 e4 ?_
          cases q with
          | nx e5 => exact fun own5 σ5 H5 R5 g5 => ⟨own5, _, ER.kil kl R5, gr2.trans g5, hf⟩
          | ct e5 => exact fun own5 σ5 H5 R5 g5 => ⟨own5, _, ER.kil kl R5, gr2.trans g5, hf⟩
          | bk e5 => cases hf; exact fun own5 σ5 H5 R5 g5 => p own5 σ5 H5 (ER.kil kl R5) (((Gr.of s1).trans gr2).trans g5)
          | rt d => cases hf; exact p⟩
theorem vs_while (kl : List Nat) (hp : PassesOwn (model X.prog X.w) X.A X.env X.xe) (hc : VT X Γ cd c tc) (hb : VSs X Γ u r body g tb) : VS X Γ u r (.While cd body [] pos) (sWhile c g kl) (tWhile tc tb) := ⟨ps_while hp hc.pt hb.ps, fun G H0 own env σ H D res R z p => by
  obtain ⟨n, hn⟩ := sWhile_ex z
  refine ⟨fun m σ' H' => ∃ own' env', ER X.K Γ G H0 own' env' σ' H' ∧ Gr own H own' H' ∧ whN c g kl m env' = some res, ⟨n, own, _, ER.kil kl R, Gr.refl, hn⟩, ?_⟩
  rintro m σ' H' ⟨own', env', R', gr, hw⟩
  cases m with
  | zero => cases hw
  | succ m =>
    unfold whN at hw
    cases e1 : c env' with
    | none => rw [e1] at hw; cases hw
    | some b =>
      rw [e1] at hw
      simp only [Option.bind_some] at hw
      refine hc.ok G H0 own' env' σ' H' _ b R' e1 fun H1 s1 => ?_
      cases b with
      | false => cases hw; exact iteF (p own' σ' H1 (R'.ext s1) (gr.trans (Gr.of s1)))
      | true =>
        refine iteT ?_
        simp only at hw
        cases e2 : g env' with
        | none => rw [e2] at hw; cases hw
        | some q =>
          rw [e2] at hw
          simp only [Option.bind_some] at hw
          refine ⟨fun σ2 H2 => ∃ own2 env2, ER X.K Γ G H0 own2 env2 σ2 H2 ∧ Gr own H own2 H2 ∧ whN c g kl m env2 = some res, fun σ2 H2 h => ⟨m, Nat.lt_succ_self _, h⟩, ?_⟩
          have gr1 := gr.trans (Gr.of (own := own') s1)
          refine hb.ok G H0 own' env' σ' H1 _ q (R'.ext s1) e2 ?_
          cases q with
          | nx e5 => exact fun own5 σ5 H5 R5 g5 => ⟨own5, _, ER.kil kl R5, gr1.trans g5, hw⟩
          | ct e5 => exact fun own5 σ5 H5 R5 g5 => ⟨own5, _, ER.kil kl R5, gr1.trans g5, hw⟩
          | bk e5 => cases hw; exact fun own5 σ5 H5 R5 g5 => p own5 σ5 H5 R5 (gr1.trans g5)
          | rt d => cases hw; exact p⟩
end

/-! ### comprehensions -/
def dComp (set : D → SE → Option SE) (c : SE → Option Bool) (h : SE → Option D) (e : SE) : List D → Option (List D)
  | [] => some []
  | x :: xs => (set x e).bind fun e1 => (c e1).bind fun b => match b with
    | true => (h e1).bind fun y => (dComp set c h e xs).bind fun ys => some (y :: ys)
    | false => dComp set c h e xs
def dCompG (set : D → SE → Option SE) (c : SE → Option Bool) (h : SE → Option D) (e : SE) (ds : List D) : Option (List D) := if ds.length ≤ 1000000 then dComp set c h e ds else none
def lComp (ws : List Nat) (set : D → SE → Option SE) (c : SE → Option Bool) (h : SE → Option D) (f : SE → Option (List D)) (e : SE) : Option (List D) := (f e).bind fun ds => dCompG set c h (kil ws e) ds
def cYes (_ : SE) : Option Bool := some true
structure VTs (X : Cx) (Γ : List Md) (es : List Expr) (f : SE → Option Bool) (t : TT) : Prop where
  pt : PTs X es t
  ok : OkT X.K Γ f t
theorem wipe_getElem {σ : L2.St} : ∀ {ws : List Nat} {j : Nat}, j ∉ ws → (wipe σ ws)[j]? = σ[j]?
  | [], _, _ => rfl
  | w :: ws, j, h => by
    unfold wipe
    rw [List.getElem?_set_ne (fun z => h (by simp [z])), wipe_getElem fun z => h (List.mem_cons_of_mem _ z)]
theorem wipe_in {σ : L2.St} : ∀ {ws : List Nat} {j : Nat}, j ∈ ws → (wipe σ ws)[j]? = if j < σ.length then some none else none
  | [], _, h => nomatch h
  | w :: ws, j, h => by
    unfold wipe
    by_cases e : w = j
    · subst e
      by_cases hl : w < σ.length
      · rw [List.getElem?_set_self (by rw [wipe_length]; exact hl), if_pos hl]
      · rw [List.getElem?_eq_none (by rw [List.length_set, wipe_length]; omega), if_neg hl]
    · rw [List.getElem?_set_ne e]
      exact wipe_in ((List.mem_cons.mp h).resolve_left fun z => e z.symm)
theorem wipe_same {σ σ' : L2.St} {ws : List Nat} (hl : σ'.length = σ.length) (h : ∀ j : Nat, j ∉ ws → σ'[j]? = σ[j]?) : wipe σ' ws = wipe σ ws := by
  apply List.ext_getElem?
  intro j
  by_cases hj : j ∈ ws
  · rw [wipe_in hj, wipe_in hj, hl]
  · rw [wipe_getElem hj, wipe_getElem hj, h j hj]
theorem wipe_wipe {σ : L2.St} {ws : List Nat} : wipe (wipe σ ws) ws = wipe σ ws := wipe_same (wipe_length σ ws) fun j hj => wipe_getElem hj
theorem ER.snoc {K : PySem.W.Frag} {Γ : List Md} {G H0 H : Hp} {own : List (Option Addr)} {env : SE} {σ : L2.St} {p : Addr} {o : HO} (R : ER K Γ G H0 own env σ H) (n : H p = none) : ER K Γ G H0 (own ++ [some p]) env σ (upd H p o) := by
  have s := same_new (o := o) n
  refine ⟨R.gs, R.ex.trans s, fun i j a hi hj => ?_, fun i a hi => ?_, R.le, by rw [List.length_append]; exact Nat.le_trans R.ol (Nat.le_add_right _ _), fun i d hi => ?_⟩
  · have key : ∀ i : Nat, (own ++ [some p])[i]? = some (some a) → (i < own.length ∧ own[i]? = some (some a)) ∨ (i = own.length ∧ a = p) := fun i hi => by
      by_cases hl : i < own.length
      · rw [List.getElem?_append_left hl] at hi
        exact .inl ⟨hl, hi⟩
      · rw [List.getElem?_append_right (by omega)] at hi
        by_cases h0 : i - own.length = 0
        · rw [h0] at hi
          simp at hi
          exact .inr ⟨by omega, hi.symm⟩
        · rw [List.getElem?_eq_none (by simp; omega)] at hi
          cases hi
    rcases key i hi with ⟨a1, b1⟩ | ⟨a1, b1⟩ <;> rcases key j hj with ⟨a2, b2⟩ | ⟨a2, b2⟩
    · exact R.inj i j a b1 b2
    · subst b2; exact absurd ⟨i, b1⟩ (R.live n)
    · subst b1; exact absurd ⟨j, b2⟩ (R.live n)
    · omega
  · by_cases hl : i < own.length
    · rw [List.getElem?_append_left hl] at hi
      obtain ⟨h1, o', h2⟩ := R.fr i a hi
      exact ⟨h1, o', s _ _ h2⟩
    · rw [List.getElem?_append_right (by omega)] at hi
      by_cases h0 : i - own.length = 0
      · rw [h0] at hi
        simp at hi
        subst hi
        exact ⟨R.new n, _, upd_same⟩
      · rw [List.getElem?_eq_none (by simp; omega)] at hi
        cases hi
  · obtain ⟨w, h1, h2⟩ := R.sl i d hi
    refine ⟨w, h1, ?_⟩
    have sub : ∀ {rr : Rl}, rr ≠ .bo → Same (rg rr G H0 own H) (rg rr G H0 (own ++ [some p]) (upd H p o)) := fun {rr} hr => rg_gr (fun b q nb e => ⟨fun z => (ow_of_snoc z).elim nb fun y => (by rw [y, n] at e; cases e), s _ _ e⟩) hr
    exact h2.step sub fun b g1 => ⟨by rw [List.getElem?_append_left (List.getElem?_eq_some_iff.mp g1).1]; exact g1, fun o => s _ _⟩
/-- a list of one's own at p changed: what the slots hold but the one at p stays -/
theorem ER.chg {K : PySem.W.Frag} {Γ : List Md} {G H0 H : Hp} {own : List (Option Addr)} {env : SE} {σ : L2.St} {p : Addr} {o : HO} {k : Nat} (R : ER K Γ G H0 own env σ H) (hp : own[k]? = some (some p)) (hk : ∀ d, env[k]? ≠ some (some d)) : ER K Γ G H0 own env σ (upd H p o) := by
  have n0 : H0 p = none := (R.fr k p hp).1
  refine ⟨R.gs, fun b q e => by rw [upd_ne (ne_of_none e n0)]; exact R.ex b q e, R.inj, fun i a hi => ?_, R.le, R.ol, fun i d hi => ?_⟩
  · obtain ⟨h1, o', h2⟩ := R.fr i a hi
    refine ⟨h1, ?_⟩
    by_cases e : a = p
    · subst e; exact ⟨_, upd_same⟩
    · exact ⟨o', by rw [upd_ne e]; exact h2⟩
  · obtain ⟨w, h1, h2⟩ := R.sl i d hi
    refine ⟨w, h1, ?_⟩
    have sub : ∀ {rr : Rl}, rr ≠ .bo → Same (rg rr G H0 own H) (rg rr G H0 own (upd H p o)) := fun {rr} hr => rg_gr (fun b q nb e => ⟨nb, by rw [upd_ne (fun z => nb ⟨k, by rw [z]; exact hp⟩)]; exact e⟩) hr
    refine h2.step sub fun b g1 => ⟨g1, fun o g2 => ?_⟩
    have e : b ≠ p := fun z => by
      subst z
      have := R.inj i k b g1 hp
      subst this
      exact hk d hi
    rw [upd_ne e]
    exact g2
theorem Gr.chg {H : Hp} {own : List (Option Addr)} {p : Addr} {o : HO} (hp : Ow own p) : Gr own H own (upd H p o) := fun b q nb e => ⟨nb, by rw [upd_ne (fun z => nb (by rw [z]; exact hp))]; exact e⟩
section
variable {X : Cx} {Γ : List Md} {ri re : Rl} {tg iter elt : Expr} {ifs : List Expr} {is : List Nat} {set : D → SE → Option SE} {c : SE → Option Bool} {h : SE → Option D} {f : SE → Option (List D)} {wi : TI} {g : TG} {tt : TT} {te : TE} {scope : Scope} {own : List (Str × Nat)} {pos : Pos}
theorem vts_nil : VTs X Γ [] cYes tYes := ⟨pts_nil, fun G H0 own env σ H Q b R z k => by cases z; exact k H (Same.refl H)⟩
theorem vts_one {e : Expr} (h : VT X Γ e c tt) : VTs X Γ [e] c tt := ⟨pts_one h.pt, h.ok⟩
theorem ok_comp {K : PySem.W.Frag} {ws : List Nat} (hre : re ≠ .bo)
    (hi : ∀ (G H0 : Hp) (own : List (Option Addr)) (env : SE) (σ : L2.St) (H : Hp) (R : It → Hp → Prop) (ds : List D), ER K Γ G H0 own env σ H → f env = some ds → (∀ J H1, Same H H1 → ItOk K ri G H0 own H1 J ds → R J H1) → wi σ H R)
    (hg : ∀ (G H0 : Hp) (own : List (Option Addr)) (env : SE) (σ : L2.St) (H : Hp) (v : V) (d : D) (env' : SE) (Q : L2.St → Hp → Prop), ER K Γ G H0 own env σ H → Dp K (rg ri G H0 own H) v d → set d env = some env' →
      (∀ σ' : L2.St, ER K Γ G H0 own env' σ' H → σ'.length = σ.length → (∀ j : Nat, j ∉ is → σ'[j]? = σ[j]?) → Q σ' H) → g v σ H Q)
    (his : ∀ j ∈ is, j ∈ ws) (hc : OkT K Γ c tt) (he : OkE K Γ re h te) : OkL K Γ re (lComp ws set c h f) (tLc wi g tt te ws) := fun G H0 own env σ H Q ds R z k => by
  unfold lComp at z
  cases e1 : f env with
  | none => rw [e1] at z; cases z
  | some xs =>
    rw [e1] at z
    simp only [Option.bind_some, dCompG] at z
    by_cases hz : xs.length ≤ 1000000
    · rw [if_pos hz] at z
      refine hi G H0 own env σ H _ xs R e1 fun J H1 s1 it Dn hD => ?_
      have nD : H Dn = none := s1.free hD
      refine ⟨fun i m H' => ∃ acc accD rest ys, H' Dn = some (.lst acc) ∧ DpAll K (rg re G H0 (own ++ [some Dn]) H') acc accD ∧ ER K Γ G H0 (own ++ [some Dn]) (kil ws env) (wipe σ ws) H' ∧ Same H1 H' ∧ xs.drop i = rest ∧ m = rest.length ∧ i + rest.length = xs.length ∧
          dComp set c h (kil ws env) rest = some ys ∧ accD ++ ys = ds ∧ accD.length ≤ i,
        ⟨xs.length, [], [], xs, ds, upd_same, .nil, ER.wipe ws ((R.ext s1).snoc hD), same_new hD, rfl, rfl, Nat.zero_add _, z, rfl, Nat.le_refl _⟩, ?_⟩
      rintro i m H' ⟨acc, accD, rest, ys, hH, hA, R', s', hd, rfl, hl, hq, hy, hn⟩
      have gr : Gr own H1 (own ++ [some Dn]) H' := fun b q nb e => ⟨fun y => (ow_of_snoc y).elim nb fun w => (by rw [w, hD] at e; cases e), s' _ _ e⟩
      obtain ⟨go, stop⟩ := it _ H' gr R'.ex fun a ⟨j, q⟩ => (R'.fr j a q).2
      cases rest with
      | nil =>
        simp only [List.length_nil, Nat.add_zero] at hl
        subst hl
        cases hq
        rw [List.append_nil] at hy
        subst hy
        exact .inl ⟨stop, k Dn acc H' (s1.trans s') nD hH hA⟩
      | cons x rest =>
        have hx : xs[i]? = some x := by
          have := congrArg (fun l => l[0]?) hd
          simpa using this
        have hd2 : xs.drop (i + 1) = rest := by
          have := congrArg List.tail hd
          simpa [List.tail_drop] using this
        obtain ⟨hgo, hyl⟩ := go i x hx
        unfold dComp at hq
        cases e2 : set x (kil ws env) with
        | none => rw [e2] at hq; cases hq
        | some e3 =>
          rw [e2] at hq
          simp only [Option.bind_some] at hq
          cases e4 : c e3 with
          | none => rw [e4] at hq; cases hq
          | some b =>
            rw [e4] at hq
            simp only [Option.bind_some] at hq
            refine .inr ⟨hgo, fun H' => ∃ acc accD ys, H' Dn = some (.lst acc) ∧ DpAll K (rg re G H0 (own ++ [some Dn]) H') acc accD ∧ ER K Γ G H0 (own ++ [some Dn]) (kil ws env) (wipe σ ws) H' ∧ Same H1 H' ∧
              dComp set c h (kil ws env) rest = some ys ∧ accD ++ ys = ds ∧ accD.length ≤ i + 1, fun H2 ⟨a2, d2, y2, q1, q2, q3, q4, q5, q6, q7⟩ => ⟨rest.length, by simp, a2, d2, rest, y2, q1, q2, q3, q4, hd2, rfl, by rw [List.length_cons] at hl; omega, q5, q6, q7⟩, fun y H2 yl => ?_⟩
            obtain ⟨s2, dp⟩ := hyl y H2 yl
            refine hg G H0 _ _ _ H2 y x e3 _ (R'.ext s2) dp e2 fun σ3 R3 l3 k3 => ?_
            refine ⟨(wipe_same l3 fun j hj => k3 j fun w => hj (his j w)).trans wipe_wipe, ?_⟩
            refine hc G H0 _ e3 σ3 H2 _ b R3 e4 fun H3 s3 => ?_
            cases b with
            | false =>
              refine iteF ⟨acc, accD, ys, s3 _ _ (s2 _ _ hH), dps_mono (rg_ext (s2.trans s3)) _ _ hA, (R'.ext s2).ext s3, s'.trans (s2.trans s3), hq, hy, by omega⟩
            | true =>
              refine iteT ?_
              simp only at hq
              cases e5 : h e3 with
              | none => rw [e5] at hq; cases hq
              | some w =>
                rw [e5] at hq
                simp only [Option.bind_some] at hq
                cases e6 : dComp set c h (kil ws env) rest with
                | none => rw [e6] at hq; cases hq
                | some zs =>
                  rw [e6] at hq
                  cases hq
                  refine he G H0 _ e3 σ3 H3 _ w (R3.ext s3) e5 fun v H4 s4 p4 => ?_
                  have s24 := s2.trans (s3.trans s4)
                  have hH4 : H4 Dn = some (.lst acc) := s24 _ _ hH
                  have ka : (own ++ [some Dn])[own.length]? = some (some Dn) := by simp
                  have kb : ∀ d, (kil ws env)[own.length]? ≠ some (some d) := fun d e => by
                    have := (List.getElem?_eq_some_iff.mp e).1
                    have h1 := R'.le
                    rw [wipe_length] at h1
                    have h2 := R.ol
                    omega
                  have R4 := ((R'.ext s24).chg (o := .lst (acc ++ [v])) ka kb)
                  have sub : Same (rg re G H0 (own ++ [some Dn]) H4) (rg re G H0 (own ++ [some Dn]) (upd H4 Dn (.lst (acc ++ [v])))) := rg_gr (Gr.chg ow_snoc_self) hre
                  refine ⟨acc, hH4, ?_, acc ++ [v], accD ++ [w], zs, upd_same, dps_app (dps_mono sub _ _ (dps_mono (rg_ext s24) _ _ hA)) (.cons (dp_mono sub _ _ p4) .nil), R4, fun b q e => ?_, rfl, by rw [List.append_assoc]; exact hy, by rw [List.length_append, List.length_singleton]; omega⟩
                  · have := dps_len hA
                    have : xs.length < sizeLine := Nat.lt_of_le_of_lt hz (by decide)
                    rw [List.length_cons] at hl
                    omega
                  · rw [upd_ne (ne_of_none e hD)]
                    exact s24 _ _ (s' _ _ e)
    · rw [if_neg hz] at z; cases z
theorem vl_comp {ws : List Nat} (hcalm : X.calm = true) (hN : X.N.Nodup) (hi : VI X Γ tg iter ri f wi) (ok : BlkOk X.N X.env.scope scope own)
    (hg : ∀ (s : Shared) (H : Hp) (C : Addr) (cl : List (Str × Addr)) (fp : List Addr), VG (X.blk s H scope (compEnvC scope cl C X.env) fp) Γ tg ri is set g)
    (ht : ∀ (s : Shared) (H : Hp) (C : Addr) (cl : List (Str × Addr)) (fp : List Addr), VTs (X.blk s H scope (compEnvC scope cl C X.env) fp) Γ ifs c tt)
    (he : ∀ (s : Shared) (H : Hp) (C : Addr) (cl : List (Str × Addr)) (fp : List Addr), VE (X.blk s H scope (compEnvC scope cl C X.env) fp) Γ elt re h te) (hre : re ≠ .bo := by intro z; cases z) (hws : own.map (·.2) = ws := by rfl) (his : ∀ j ∈ is, j ∈ ws := by decide)
    (hs : ∀ x, foldedSetIterable iter X.env x = pure x := by intro _; rfl) : VL X Γ (.ListComp elt [⟨tg, iter, ifs, 0⟩] scope pos) re (lComp ws set c h f) (tLc wi g tt te ws) := by
  subst hws
  exact ⟨pe_lc hcalm hN hi.pi ok (fun s H C cl fp => (hg s H C cl fp).pg) (fun s H C cl fp => (ht s H C cl fp).pt) (fun s H C cl fp => (he s H C cl fp).pe) hs,
    ok_comp hre hi.ok (hg ({} : Shared) (fun _ => none) 0 [] []).ok his (ht ({} : Shared) (fun _ => none) 0 [] []).ok (he ({} : Shared) (fun _ => none) 0 [] []).ok⟩
/-- a family of worths, one for each block: together they are one -/
abbrev Fam (T : Type) := Shared → Hp → Addr → List (Str × Addr) → List Addr → T
def allE (t : Fam TE) : TE := fun σ H Q => ∀ s H' C cl fp, t s H' C cl fp σ H Q
def allT (t : Fam TT) : TT := fun σ H Q => ∀ s H' C cl fp, t s H' C cl fp σ H Q
def allG (t : Fam TG) : TG := fun v σ H Q => ∀ s H' C cl fp, t s H' C cl fp v σ H Q
theorem fam_e {te : Fam TE} (he : ∀ s H C cl fp, VE (X.blk s H scope (compEnvC scope cl C X.env) fp) Γ elt re h (te s H C cl fp)) (s : Shared) (H : Hp) (C : Addr) (cl : List (Str × Addr)) (fp : List Addr) :
    VE (X.blk s H scope (compEnvC scope cl C X.env) fp) Γ elt re h (allE te) :=
  ⟨⟨fun pins s1 σ H1 Q I w => (he s H C cl fp).pe.run pins s1 σ H1 Q I (w s H C cl fp)⟩, fun G H0 own env σ H1 Q d R q k s' H' C' cl' fp' => (he s' H' C' cl' fp').ok G H0 own env σ H1 Q d R q k⟩
theorem fam_t {tt : Fam TT} (he : ∀ s H C cl fp, VTs (X.blk s H scope (compEnvC scope cl C X.env) fp) Γ ifs c (tt s H C cl fp)) (s : Shared) (H : Hp) (C : Addr) (cl : List (Str × Addr)) (fp : List Addr) :
    VTs (X.blk s H scope (compEnvC scope cl C X.env) fp) Γ ifs c (allT tt) :=
  ⟨⟨fun pins s1 σ H1 Q I w => (he s H C cl fp).pt.run pins s1 σ H1 Q I (w s H C cl fp)⟩, fun G H0 own env σ H1 Q d R q k s' H' C' cl' fp' => (he s' H' C' cl' fp').ok G H0 own env σ H1 Q d R q k⟩
theorem fam_g {g : Fam TG} (he : ∀ s H C cl fp, VG (X.blk s H scope (compEnvC scope cl C X.env) fp) Γ tg ri is set (g s H C cl fp)) (s : Shared) (H : Hp) (C : Addr) (cl : List (Str × Addr)) (fp : List Addr) :
    VG (X.blk s H scope (compEnvC scope cl C X.env) fp) Γ tg ri is set (allG g) :=
  ⟨⟨fun pins s1 σ H1 v u Q I rv w => (he s H C cl fp).pg.run pins s1 σ H1 v u Q I rv (w s H C cl fp)⟩, fun G H0 own env σ H1 v d env' Q R q q' k s' H' C' cl' fp' => (he s' H' C' cl' fp').ok G H0 own env σ H1 v d env' Q R q q' k⟩
theorem vl_compF {ws : List Nat} {te : Fam TE} {tt : Fam TT} {g : Fam TG} (hcalm : X.calm = true) (hN : X.N.Nodup) (hi : VI X Γ tg iter ri f wi) (ok : BlkOk X.N X.env.scope scope own)
    (hg : ∀ s H C cl fp, VG (X.blk s H scope (compEnvC scope cl C X.env) fp) Γ tg ri is set (g s H C cl fp))
    (ht : ∀ s H C cl fp, VTs (X.blk s H scope (compEnvC scope cl C X.env) fp) Γ ifs c (tt s H C cl fp))
    (he : ∀ s H C cl fp, VE (X.blk s H scope (compEnvC scope cl C X.env) fp) Γ elt re h (te s H C cl fp)) (hre : re ≠ .bo := by intro z; cases z) (hws : own.map (·.2) = ws := by rfl) (his : ∀ j ∈ is, j ∈ ws := by decide)
    (hs : ∀ x, foldedSetIterable iter X.env x = pure x := by intro _; rfl) : VL X Γ (.ListComp elt [⟨tg, iter, ifs, 0⟩] scope pos) re (lComp ws set c h f) (tLc wi (allG g) (allT tt) (allE te) ws) :=
  vl_comp hcalm hN hi ok (fam_g hg) (fam_t ht) (fam_e he) hre hws his hs
end
end PV

namespace PV
open PySem PySem.Spec PyProof.Rows L2
/-! ### a def's promise, calls -/
def spV (K : PySem.W.Frag) (u : Bool) (r : Rl) (F : List D → Option D) : Sp := fun vs H Q _ => ∃ G ds d, Same G H ∧ DpAll K G vs ds ∧ F ds = some d ∧ ∀ v H', Same H H' → RetOk K u r G H H' v d → Q v H'
def runF (u : Bool) (n np : Nat) (g : SE → Option Rs) (ds : List D) : Option D := if ds.length = np then (g (ds.map some ++ List.replicate (n - ds.length) none)).bind fun x => match x with
  | .rt d => some d
  | .nx _ => match u with
    | true => none
    | false => some .none
  | _ => none
  else none
theorem er_start {K : PySem.W.Frag} {Γ : List Md} {G H : Hp} {vs : List V} {ds : List D} {N : List Str} (hG : Same G H) (hd : DpAll K G vs ds) (hΓ : ∀ i, i < ds.length → md Γ i = .od) (hl : ds.length ≤ N.length) :
    ER K Γ G H (List.replicate N.length none) (ds.map some ++ List.replicate (N.length - ds.length) none) (L2.start N vs) H := by
  have lv := dps_len hd
  have no : ∀ (i : Nat) (a : Addr), (List.replicate N.length (none : Option Addr))[i]? = some (some a) → False := fun i a h => by
    rw [List.getElem?_replicate] at h
    split at h <;> cases h
  refine ⟨hG, Same.refl H, fun i j a h => (no i a h).elim, fun i a h => (no i a h).elim, ?_, ?_, fun i d hi => ?_⟩
  · unfold L2.start
    simp only [List.length_append, List.length_map, List.length_replicate, lv]
  · unfold L2.start
    simp only [List.length_append, List.length_map, List.length_replicate]
    omega
  · have hl' : i < ds.length := by
      by_cases q : i < ds.length
      · exact q
      · rw [List.getElem?_append_right (by rw [List.length_map]; omega), List.getElem?_replicate] at hi
        split at hi <;> cases hi
    rw [List.getElem?_append_left (by rw [List.length_map]; exact hl'), List.getElem?_map] at hi
    cases e : ds[i]? with
    | none => rw [e] at hi; cases hi
    | some d' =>
      rw [e] at hi
      cases hi
      obtain ⟨v, h1, h2⟩ := dps_get hd e
      refine ⟨v, ?_, ?_⟩
      · unfold L2.start
        rw [List.getElem?_append_left (by rw [List.length_map]; omega), List.getElem?_map, h1]
        rfl
      · rw [hΓ i hl']
        refine dp_mono (fun a o q => (rg_iff (r := .od)).mpr ⟨⟨fun ⟨j, z⟩ => no j a z, .inr (by rw [q]; intro z; cases z)⟩, hG a o q⟩) _ _ h2
section
variable {P : Program} {w : World} {K : PySem.W.Frag} {mg : Str → Option Value} {base : Heap}
def isOd : Md → Bool
  | .od => true
  | _ => false
theorem fn_v {x qual : Str} {st : Stmt} {f : Addr} {fd : FuncData} {N ps : List Str} {k : Nat} (u : Bool) (r : Rl) (Γ : List Md) {g : SE → Option Rs} (Fu : Fun K x qual st f fd) (S : FnScope N ps (defScope st))
    (hb : ∀ (cdv : Value) (A : Around) (outer : List Env) (s : Shared) (H : Hp) (E : XK), Room k (A.deeper (envOfC qual (defScope st) s.heap.objs.size f cdv)) → ∃ t, VSs (cxOf CX0 P w K mg base N qual (defScope st) f cdv A outer s H E).nox Γ u r (defBody st) g t)
    (hΓ : (List.range ps.length).all (fun i => isOd (md Γ i)) = true := by decide) (hn : ps.length ≤ N.length := by decide) : FnOk P w K mg base CX0 (k + 1) f fd ps (spV K u r (runF u N.length ps.length g)) := by
  refine Fu.ok S (fun vs H Q E h => ?_) (fun cdv A outer s H vs Q E hr h => ?_)
  · obtain ⟨G, ds, d, h1, h2, h3, _⟩ := h
    unfold runF at h3
    by_cases q : ds.length = ps.length
    · rw [dps_len h2, q]
    · rw [if_neg q] at h3; cases h3
  · obtain ⟨G, ds, d, h1, h2, h3, k⟩ := h
    unfold runF at h3
    by_cases q : ds.length = ps.length
    · rw [if_pos q] at h3
      obtain ⟨t, T⟩ := hb cdv A outer s H E hr
      cases e1 : g (ds.map some ++ List.replicate (N.length - ds.length) none) with
      | none => rw [e1] at h3; cases h3
      | some res =>
        rw [e1] at h3
        simp only [Option.bind_some] at h3
        refine ⟨t, T.ps, ?_⟩
        have R := er_start (K := K) (Γ := Γ) (N := N) h1 h2 (fun i hi => by
          rw [q] at hi
          have := List.all_eq_true.mp hΓ i (List.mem_range.mpr hi)
          revert this
          cases md Γ i <;> intro z <;> first | rfl | cases z) (by omega)
        refine T.ok G H _ _ _ H _ res R e1 ?_
        cases res with
        | nx e =>
          cases u with
          | true => cases h3
          | false => cases h3; exact fun own' σ' H' R' _ => k _ H' R'.ex .non
        | rt d' => cases h3; exact fun v H' s' p => k v H' s' p
        | bk e => cases h3
        | ct e => cases h3
    · rw [if_neg q] at h3; cases h3
end
def callR (r ra : Rl) : Rl := match r with
  | .nw => .nw
  | _ => ra
theorem le_nw : ∀ r : Rl, RLe .nw r
  | .nw => .refl _
  | .od => .no
  | .bo => .bo _
/-- what a callee hands out, in the caller's words -/
theorem call_rg {K : PySem.W.Frag} {Γ : List Md} {G H0 H1 H' : Hp} {own : List (Option Addr)} {env : SE} {σ : L2.St} {r ra : Rl} {ex : List (Option Addr)} (R : ER K Γ G H0 own env σ H1) (hr : r ≠ .bo) (hx : ∀ a, Ow ex a → H1 a = none) (hs : Same H1 H') :
    Same (rg r (rg ra G H0 own H1) H1 ex H') (rg (callR r ra) G H0 (own ++ ex) H') := fun a o q => by
  obtain ⟨i, e⟩ := rg_iff.mp q
  refine rg_iff.mpr ⟨?_, e⟩
  have snoc : ∀ {b}, Ow (own ++ ex) b → Ow own b ∨ Ow ex b := fun {b} ⟨j, z⟩ => by
    by_cases hl : j < own.length
    · rw [List.getElem?_append_left hl] at z; exact .inl ⟨j, z⟩
    · rw [List.getElem?_append_right (by omega)] at z; exact .inr ⟨_, z⟩
  have new : ¬ Ow ex a → Nw H1 a o → InR .nw G H0 (own ++ ex) a o := fun nx h => ⟨fun z => (snoc z).elim (R.live h.1) nx, R.new h.1, h.2⟩
  cases r with
  | bo => exact absurd rfl hr
  | nw => exact new i.1 i.2
  | od =>
    rcases i.2 with h | h
    · exact (new i.1 h).le (le_nw ra)
    · show InR ra G H0 (own ++ ex) a o
      cases e2 : rg ra G H0 own H1 a with
      | none => exact absurd e2 h
      | some o2 =>
        obtain ⟨i2, e3⟩ := rg_iff.mp e2
        have e4 := hs _ _ e3
        rw [e] at e4
        cases e4
        cases ra with
        | bo => trivial
        | od => exact ⟨fun z => (snoc z).elim i2.1 i.1, i2.2⟩
        | nw => exact ⟨fun z => (snoc z).elim i2.1 i.1, i2.2⟩
def dAL (F : List D → Option D) (fs : SE → Option (List D)) (e : SE) : Option (List D) := (fs e).bind fun x => (F x).bind list?
section
variable {X : Cx} {Γ : List Md} {r ra : Rl} {e : Expr} {es : List Expr} {fs : SE → Option (List D)} {ts : TA} {p pos : Pos} {x : Str} {k : Nat} {f : Addr} {fd : FuncData} {ps : List Str} {F : List D → Option D}
theorem ok_call {K : PySem.W.Frag} (hr : r ≠ .bo) (ha : OkA K Γ ra fs ts) : OkE K Γ (callR r ra) (dA F fs) (tCall (spV K false r F) [] E0 ts) := fun G H0 own env σ H Q d R z k => by
  unfold dA at z
  cases e1 : fs env with
  | none => rw [e1] at z; cases z
  | some ds =>
    rw [e1] at z
    simp only [Option.bind_some] at z
    refine ha G H0 own env σ H _ ds R e1 fun vs H1 s1 c => ?_
    refine ⟨rg ra G H0 own H1, ds, d, rg_sub, by rw [List.append_nil]; exact c, z, fun v H' s' q => k v H' (s1.trans s') ?_⟩
    have := call_rg (ex := []) (ra := ra) (H' := H') (R.ext s1) hr (fun a ⟨j, q⟩ => by simp at q) s'
    rw [List.append_nil] at this
    exact dp_mono this _ _ q
theorem ok_callL {K : PySem.W.Frag} (hr : r ≠ .bo) (ha : OkA K Γ ra fs ts) : OkL K Γ (callR r ra) (dAL F fs) (tCall (spV K true r F) [] E0 ts) := fun G H0 own env σ H Q d R z k => by
  unfold dAL at z
  cases e1 : fs env with
  | none => rw [e1] at z; cases z
  | some ds =>
    rw [e1] at z
    simp only [Option.bind_some] at z
    cases e2 : F ds with
    | none => rw [e2] at z; cases z
    | some d' =>
      rw [e2] at z
      simp only [Option.bind_some] at z
      refine ha G H0 own env σ H _ ds R e1 fun vs H1 s1 c => ?_
      refine ⟨rg ra G H0 own H1, ds, d', rg_sub, by rw [List.append_nil]; exact c, e2, fun v H' s' q => ?_⟩
      obtain ⟨a, us, es, rfl, rfl, n1, q1, q2⟩ := q
      cases z
      refine k a us H' (s1.trans s') (s1.free n1) q1 (dps_mono (call_rg (R.ext s1) hr (fun b ⟨j, q⟩ => ?_) s') _ _ q2)
      have e : b = a := by
        cases j with
        | zero => simp at q; exact q.symm
        | succ j => simp at q
      rw [e]; exact n1
theorem v_call (Fo : FnOk X.prog X.w X.K X.mg X.base CX0 k f fd ps (spV X.K false r F)) (hr : Room k X.A) (hm : X.mg x = some (.ref f)) (hk : PySem.W.keepIn X.K (.ref f) = true) (hb : Binds X.K fd ps []) (ha : VA X Γ (e :: es) ra fs ts) (hnb : r ≠ .bo := by intro z; cases z)
    (hg : Gl X x := by rfl) (hdb : (x == ("__debug__" : Str)) = false := by decide) (he : starEach (e :: es) X.env = (false, eval e X.env) :: starEach es X.env := by rfl) (hpl : (backTo pos (starEach es X.env)).any (·.1) = false := by rfl) :
    VE X Γ (.Call (.Name x p) (e :: es) [] pos) (callR r ra) (dA F fs) (tCall (spV X.K false r F) [] E0 ts) := ⟨pe_call Fo hr hg hm hk hb .nil pass0 ha.pa hdb he hpl, ok_call hnb ha.ok⟩
theorem vl_call (Fo : FnOk X.prog X.w X.K X.mg X.base CX0 k f fd ps (spV X.K true r F)) (hr : Room k X.A) (hm : X.mg x = some (.ref f)) (hk : PySem.W.keepIn X.K (.ref f) = true) (hb : Binds X.K fd ps []) (ha : VA X Γ (e :: es) ra fs ts) (hnb : r ≠ .bo := by intro z; cases z)
    (hg : Gl X x := by rfl) (hdb : (x == ("__debug__" : Str)) = false := by decide) (he : starEach (e :: es) X.env = (false, eval e X.env) :: starEach es X.env := by rfl) (hpl : (backTo pos (starEach es X.env)).any (·.1) = false := by rfl) :
    VL X Γ (.Call (.Name x p) (e :: es) [] pos) (callR r ra) (dAL F fs) (tCall (spV X.K true r F) [] E0 ts) := ⟨pe_call Fo hr hg hm hk hb .nil pass0 ha.pa hdb he hpl, ok_callL hnb ha.ok⟩
end
/-! ### further statements -/
def sPar (i j : Nat) (fs : SE → Option (List D)) (e : SE) : Option Rs := (fs e).bind fun x => match x with
  | [a, b] => some (.nx ((e.set i (some a)).set j (some b)))
  | _ => none
def sAug (i : Nat) (h : D → D → Option D) (f : SE → Option D) (e : SE) : Option Rs := (dV i e).bind fun x => (f e).bind fun y => (h x y).bind fun z => some (.nx (e.set i (some z)))
def sTgt (set : D → SE → Option SE) (f : SE → Option D) (e : SE) : Option Rs := (f e).bind fun x => (set x e).bind fun e' => some (.nx e')
def sSub (k : Nat) (fi fe : SE → Option D) (e : SE) : Option Rs := (fe e).bind fun v => (dV k e).bind fun x => (list? x).bind fun xs => (fi e).bind fun i => match i with
  | .int z => (ixN xs.length z).bind fun j => some (.nx (e.set k (some (.list (xs.set j v)))))
  | _ => none
def sMut (k : Nat) (h : List D → List D → Option (List D)) (fs : SE → Option (List D)) (e : SE) : Option Rs := (dV k e).bind fun x => (list? x).bind fun xs => (fs e).bind fun as => (h xs as).bind fun ys => some (.nx (e.set k (some (.list ys))))
def hApp (xs as : List D) : Option (List D) := match as with
  | [d] => if xs.length < 1000000 then some (xs ++ [d]) else none
  | _ => none
def hIns (xs as : List D) : Option (List D) := match as with
  | [.int i, d] => if (0 ≤ i ∧ i < 1000000) ∧ xs.length < 1000000 then some (xs.take i.toNat ++ [d] ++ xs.drop i.toNat) else none
  | _ => none
def hClr (_ as : List D) : Option (List D) := match as with
  | [] => some []
  | _ => none
theorem dV_get {i : Nat} {env : SE} {d : D} (h : dV i env = some d) : env[i]? = some (some d) := by
  unfold dV at h
  rw [List.getD_eq_getElem?_getD] at h
  cases e1 : env[i]? with
  | none => rw [e1] at h; cases h
  | some x => rw [e1] at h; exact congrArg some h
section
variable {K : PySem.W.Frag} {Γ : List Md} {u : Bool} {r re ra rb : Rl}
/-- a list of one's own at slot k is changed -/
theorem ER.mutd {G H0 H : Hp} {own : List (Option Addr)} {env : SE} {σ : L2.St} {k : Nat} {a : Addr} {vs : List V} {ds : List D} (R : ER K Γ G H0 own env σ H) (hm : isM (md Γ k) = true) (ho : own[k]? = some (some a)) (hs : σ[k]? = some (some (.ref a)))
    (hd : DpAll K (rg (moR (md Γ k)) G H0 own H) vs ds) : ER K Γ G H0 own (env.set k (some (.list ds))) σ (upd H a (.lst vs)) ∧ Gr own H own (upd H a (.lst vs)) := by
  have hk : k < σ.length := (List.getElem?_eq_some_iff.mp hs).1
  have gr : Gr own H own (upd H a (.lst vs)) := Gr.chg ⟨k, ho⟩
  refine ⟨?_, gr⟩
  have R1 := (R.forget k).chg (o := .lst vs) ho fun d e => by
    rw [List.getElem?_set_self (by rw [R.le]; exact hk)] at e; cases e
  have ok : SlotOk K (md Γ k) G H0 own (upd H a (.lst vs)) k (.ref a) (.list ds) := by
    have nb : moR (md Γ k) ≠ .bo := by cases md Γ k <;> intro z <;> cases z
    have hd2 := dps_mono (rg_gr gr nb) _ _ hd
    cases hh : md Γ k with
    | mo => rw [hh] at hd2; exact ⟨a, vs, ds, rfl, ho, upd_same, rfl, hd2⟩
    | mn => rw [hh] at hd2; exact ⟨a, vs, ds, rfl, ho, upd_same, rfl, hd2⟩
    | _ => rw [hh] at hm; cases hm
  have R2 := R1.put k (.list ds) (.ref a) ok
  rw [List.set_set] at R2
  have e : σ.set k (some (.ref a)) = σ := by
    apply List.ext_getElem?
    intro j
    by_cases q : k = j
    · subst q; rw [List.getElem?_set_self hk, hs]
    · rw [List.getElem?_set_ne q]
  rw [e] at R2
  exact R2
theorem slotM_of {G H0 H : Hp} {own : List (Option Addr)} {k : Nat} {v : V} {d : D} (hm : isM (md Γ k) = true) (h : SlotOk K (md Γ k) G H0 own H k v d) : SlotM K (moR (md Γ k)) G H0 own H k v d := by
  cases hh : md Γ k with
  | mo => rw [hh] at h; exact h
  | mn => rw [hh] at h; exact h
  | _ => rw [hh] at hm; cases hm
theorem ok_par {i j : Nat} {fs : SE → Option (List D)} {ts : TA} (ha : OkA K Γ ra fs ts) (hi : acc ra (md Γ i) = true) (hj : acc ra (md Γ j) = true) : OkS K Γ u r (sPar i j fs) (tPar i j ts) := fun G H0 own env σ H D' res R z p => by
  unfold sPar at z
  cases e1 : fs env with
  | none => rw [e1] at z; cases z
  | some ds =>
    rw [e1] at z
    simp only [Option.bind_some] at z
    match ds, e1, z with
    | [a, b], e1, z =>
      cases z
      refine ha G H0 own env σ H _ _ R e1 fun vs H1 s1 c => ?_
      cases c with
      | cons c1 c2 =>
        cases c2 with
        | cons c2 c3 =>
          cases c3
          refine ⟨_, _, rfl, p own _ H1 (((R.ext s1).put i a _ (acc_ok hi c1)).put j b _ (acc_ok hj c2)) (Gr.of s1)⟩
theorem ok_aug {i : Nat} {f : SE → Option D} {te : TE} {fi : Int → Int → Int} {h : D → D → Option D} (he : OkE K Γ re f te) (hi : acc .nw (md Γ i) = true) (hh : ∀ x y d, h x y = some d → ∃ a b, x = .int a ∧ y = .int b ∧ d = .int (fi a b)) : OkS K Γ u r (sAug i h f) (tAug i te (ipI fi)) := fun G H0 own env σ H D' res R z p => by
  unfold sAug at z
  cases e1 : dV i env with
  | none => rw [e1] at z; cases z
  | some x =>
    cases e2 : f env with
    | none => rw [e1, e2] at z; cases z
    | some y =>
      cases e3 : h x y with
      | none =>
        rw [e1, e2] at z
        simp only [Option.bind_some] at z
        rw [e3] at z; cases z
      | some d =>
        rw [e1, e2] at z
        simp only [Option.bind_some] at z
        rw [e3] at z
        cases z
        obtain ⟨a, b, rfl, rfl, rfl⟩ := hh x y d e3
        obtain ⟨v, h1, h2⟩ := R.sl i _ (dV_get e1)
        have h3 := h2.dp R.ex
        cases h3
        refine ⟨_, h1, he G H0 own env σ H _ _ R e2 fun w H1 s1 c => ?_⟩
        cases c
        exact ⟨a, b, rfl, rfl, p own _ H1 ((R.ext s1).put i _ _ (acc_ok hi (.int _))) (Gr.of s1)⟩
theorem ok_tgt {f : SE → Option D} {te : TE} {is : List Nat} {set : D → SE → Option SE} {g : TG} (he : OkE K Γ re f te)
    (hg : ∀ (G H0 : Hp) (own : List (Option Addr)) (env : SE) (σ : L2.St) (H : Hp) (v : V) (d : D) (env' : SE) (Q : L2.St → Hp → Prop), ER K Γ G H0 own env σ H → Dp K (rg re G H0 own H) v d → set d env = some env' →
      (∀ σ' : L2.St, ER K Γ G H0 own env' σ' H → σ'.length = σ.length → (∀ j : Nat, j ∉ is → σ'[j]? = σ[j]?) → Q σ' H) → g v σ H Q) : OkS K Γ u r (sTgt set f) (tAsg te g) := fun G H0 own env σ H D' res R z p => by
  unfold sTgt at z
  cases e1 : f env with
  | none => rw [e1] at z; cases z
  | some x =>
    rw [e1] at z
    simp only [Option.bind_some] at z
    cases e2 : set x env with
    | none => rw [e2] at z; cases z
    | some e3 =>
      rw [e2] at z
      cases z
      refine he G H0 own env σ H _ x R e1 fun w H1 s1 c => ?_
      exact hg G H0 own env σ H1 w x e3 _ (R.ext s1) c e2 fun σ' R' _ _ => p own σ' H1 R' (Gr.of s1)
def accE : Rl → Rl → Bool
  | .nw, .nw => true
  | .nw, .od => true
  | .od, .od => true
  | _, _ => false
theorem accE_le {x y : Rl} (h : accE x y = true) : RLe x y := by
  cases x <;> cases y <;> first | exact .refl _ | exact .no | cases h
theorem ok_sub {k : Nat} {fi fe : SE → Option D} {te ti : TE} (he : OkE K Γ re fe te) (hi : OkE K Γ rb fi ti) (hm : isM (md Γ k) = true) (ha : accE re (moR (md Γ k)) = true) : OkS K Γ u r (sSub k fi fe) (tAsg te (gSub (tVar k) ti rSetL)) := fun G H0 own env σ H D' res R z p => by
  unfold sSub at z
  cases e1 : fe env with
  | none => rw [e1] at z; cases z
  | some x =>
    cases e2 : dV k env with
    | none => rw [e1, e2] at z; cases z
    | some y =>
      rw [e1, e2] at z
      simp only [Option.bind_some] at z
      cases e3 : list? y with
      | none => rw [e3] at z; cases z
      | some xs =>
        cases e4 : fi env with
        | none => rw [e3, e4] at z; cases z
        | some i =>
          rw [e3, e4] at z
          simp only [Option.bind_some] at z
          cases i with
          | int n =>
            simp only at z
            cases e5 : ixN xs.length n with
            | none => rw [e5] at z; cases z
            | some j =>
              rw [e5] at z
              cases z
              refine he G H0 own env σ H _ x R e1 fun v H1 s1 c => ?_
              have R1 := R.ext s1
              obtain ⟨w, h1, h2⟩ := R1.sl k y (dV_get e2)
              refine ⟨w, h1, hi G H0 own env σ H1 _ _ R1 e4 fun iv H2 s2 c2 => ?_⟩
              cases c2
              have R2 := R1.ext s2
              obtain ⟨w', h1', h2'⟩ := R2.sl k y (dV_get e2)
              rw [h1] at h1'
              cases h1'
              obtain ⟨a, vs, ds, rfl, ho, hH, rfl, hd⟩ := slotM_of hm h2'
              cases e3
              refine ⟨a, vs, n, j, rfl, rfl, hH, by rw [dps_len hd]; exact e5, ?_⟩
              obtain ⟨R3, g3⟩ := R2.mutd hm ho h1 (dps_set (dp_mono ((rg_le (accE_le ha)).trans (rg_ext s2)) _ _ c) j hd)
              exact p own σ _ R3 ((Gr.of (s1.trans s2)).trans g3)
          | _ => cases z
/-- a method that changes its list -/
def MuR (rr : V → List V → Hp → VK → Prop) (h : List D → List D → Option (List D)) : Prop := ∀ (K : PySem.W.Frag) (H H' : Hp) (Q : VK) (a : Addr) (vs us : List V) (xs as ys : List D), H a = some (.lst vs) → DpAll K H' vs xs → DpAll K H' us as → h xs as = some ys →
  ∃ vs', DpAll K H' vs' ys ∧ (Q .non (upd H a (.lst vs')) → rr (.ref a) us H Q)
theorem mu_app : MuR rAppend hApp := fun K H H' Q a vs us xs as ys hH hv hu z => by
  match as, hu, z with
  | [d], .cons h1 .nil, z =>
    unfold hApp at z
    by_cases q : xs.length < 1000000
    · simp only [if_pos q] at z
      cases z
      refine ⟨vs ++ [_], dps_app hv (.cons h1 .nil), fun k => ⟨a, vs, _, rfl, rfl, hH, ?_, k⟩⟩
      rw [dps_len hv]
      exact Nat.lt_of_lt_of_le q (by decide)
    · simp only [if_neg q] at z; cases z
theorem mu_ins : MuR (fun x vs H Q => ∃ (l : Addr) (xs : List V) (i : Int) (y : V), x = .ref l ∧ vs = [.int i, y] ∧ H l = some (.lst xs) ∧ xs.length < sizeLine ∧ 0 ≤ i ∧ i < 2 ^ 63 ∧
    Q .non (upd H l (.lst (xs.take i.toNat ++ [y] ++ xs.drop i.toNat)))) hIns := fun K H H' Q a vs us xs as ys hH hv hu z => by
  match as, hu, z with
  | [.int i, d], .cons (.int _) (.cons h1 .nil), z =>
    unfold hIns at z
    by_cases q : (0 ≤ i ∧ i < 1000000) ∧ xs.length < 1000000
    · simp only [if_pos q] at z
      cases z
      refine ⟨_, dps_app (dps_app (dps_take i.toNat hv) (.cons h1 .nil)) (dps_drop i.toNat hv), fun k => ⟨a, vs, i, _, rfl, rfl, hH, ?_, q.1.1, by omega, k⟩⟩
      rw [dps_len hv]
      exact Nat.lt_of_lt_of_le q.2 (by decide)
    · simp only [if_neg q] at z; cases z
theorem mu_clr : MuR rClear hClr := fun K H H' Q a vs us xs as ys hH hv hu z => by
  match as, hu, z with
  | [], .nil, z => cases z; exact ⟨[], .nil, fun k => ⟨a, vs, rfl, rfl, hH, k⟩⟩
theorem ok_mut {k : Nat} {h : List D → List D → Option (List D)} {rr : V → List V → Hp → VK → Prop} {fs : SE → Option (List D)} {ts : TA} (hmu : MuR rr h) (ha : OkA K Γ ra fs ts) (hm : isM (md Γ k) = true) (hc : accE ra (moR (md Γ k)) = true) :
    OkS K Γ u r (sMut k h fs) (fun D σ H => (tBM K "list" rr (tVar k) ts) σ H fun _ H1 => D.nx σ H1) := fun G H0 own env σ H D' res R z p => by
  unfold sMut at z
  cases e1 : dV k env with
  | none => rw [e1] at z; cases z
  | some y =>
    rw [e1] at z
    simp only [Option.bind_some] at z
    cases e2 : list? y with
    | none => rw [e2] at z; cases z
    | some xs =>
      rw [e2] at z
      simp only [Option.bind_some] at z
      cases e3 : fs env with
      | none => rw [e3] at z; cases z
      | some as =>
        rw [e3] at z
        simp only [Option.bind_some] at z
        cases e4 : h xs as with
        | none => rw [e4] at z; cases z
        | some ys =>
          rw [e4] at z
          cases z
          obtain ⟨w, h1, h2⟩ := R.sl k y (dV_get e1)
          obtain ⟨a, vs, ds, rfl, ho, hH, rfl, hd⟩ := slotM_of hm h2
          cases e2
          refine ⟨_, h1, .inl ⟨rfl, vs, SqL.of hH⟩, ha G H0 own env σ H _ as R e3 fun us H1 s1 c => ?_⟩
          have R1 := R.ext s1
          obtain ⟨vs', q1, q2⟩ := hmu K H1 _ (fun _ H1 => D'.nx σ H1) a vs us xs as ys (s1 _ _ hH) (dps_mono (rg_ext s1) _ _ hd) (dps_mono (rg_le (accE_le hc)) _ _ c) e4
          obtain ⟨R3, g3⟩ := R1.mutd hm ho h1 q1
          exact q2 (p own σ _ R3 ((Gr.of s1).trans g3))
theorem ok_mut0 {k : Nat} {h : List D → List D → Option (List D)} {rr : V → List V → Hp → VK → Prop} (hmu : MuR rr h) (hm : isM (md Γ k) = true) :
    OkS K Γ u r (sMut k h dNil) (fun D σ H => (tBM0 K "list" rr (tVar k)) σ H fun _ H1 => D.nx σ H1) := fun G H0 own env σ H D' res R z p => by
  have q := ok_mut (K := K) (Γ := Γ) (u := u) (r := r) (ra := .nw) (fs := dNil) (ts := tNil) hmu (fun G H0 own env σ H Q ds R z k => by cases z; exact k _ H (Same.refl H) .nil) hm (by cases md Γ k <;> rfl)
  exact q G H0 own env σ H D' res R z p
end
section
variable {X : Cx} {Γ : List Md} {u : Bool} {r re ra rb : Rl} {e e2 b : Expr} {es : List Expr} {f fi : SE → Option D} {fs : SE → Option (List D)} {ts : TA} {te ti : TE} {x y : Str} {pos pos' px py pt pt2 p2 apos cpos tpos : Pos} {kt k2 : Nat}
theorem vs_par (i j : Nat) (hc : X.calm = true) (hN : X.N.Nodup) (ha : VA X Γ [e, e2] ra fs ts) (hw : swappedStores [.Tuple [.Name x px, .Name y py] kt pt] (.Tuple [e, e2] k2 pt2) X.env = pure (some [x, y]) := by rfl) (hij : i ≠ j := by decide)
    (ai : acc ra (md Γ i) = true := by rfl) (aj : acc ra (md Γ j) = true := by rfl) (hi : X.N[i]? = some x := by rfl) (hj : X.N[j]? = some y := by rfl) (hx : X.env.scope.names.lookup x = some .local := by rfl) (hy : X.env.scope.names.lookup y = some .local := by rfl)
    (hs : swapsWithSole [.Tuple [.Name x px, .Name y py] kt pt] (.Tuple [e, e2] k2 pt2) pos.line X.env = pure false := by rfl) : VS X Γ u r (.Assign [.Tuple [.Name x px, .Name y py] kt pt] (.Tuple [e, e2] k2 pt2) pos) (sPar i j fs) (tPar i j ts) :=
  ⟨ps_par hc hN hi hj hij hx hy ha.pa hw hs, ok_par ha.ok ai aj⟩
theorem vs_augA (i : Nat) (hN : X.N.Nodup) (he : VE X Γ e re f te) (ai : acc .nw (md Γ i) = true := by rfl) (hi : X.N[i]? = some x := by rfl) (hx : Loc X.env.scope x := by first | exact Or.inl rfl | exact Or.inr rfl)
    (hf : X.fn x = true ∨ X.env.scope.names.lookup x = some .local := by first | exact .inl rfl | exact .inr rfl) : VS X Γ u r (.AugAssign (.Name x pos') .Add e pos) (sAug i hAdd f) (tAug i te (ipI fun i j => i + j)) :=
  ⟨ps_aug hN hi hx he.pe ip_add hf, ok_aug he.ok ai fun x y d z => by cases x <;> cases y <;> cases z; exact ⟨_, _, rfl, rfl, rfl⟩⟩
theorem vs_augS (i : Nat) (hN : X.N.Nodup) (he : VE X Γ e re f te) (ai : acc .nw (md Γ i) = true := by rfl) (hi : X.N[i]? = some x := by rfl) (hx : Loc X.env.scope x := by first | exact Or.inl rfl | exact Or.inr rfl)
    (hf : X.fn x = true ∨ X.env.scope.names.lookup x = some .local := by first | exact .inl rfl | exact .inr rfl) : VS X Γ u r (.AugAssign (.Name x pos') .Sub e pos) (sAug i hSub f) (tAug i te (ipI fun i j => i - j)) :=
  ⟨ps_aug hN hi hx he.pe ip_sub hf, ok_aug he.ok ai fun x y d z => by cases x <;> cases y <;> cases z; exact ⟨_, _, rfl, rfl, rfl⟩⟩
theorem vs_tgt {tg : Expr} {is : List Nat} {set : D → SE → Option SE} {g : TG} (he : VE X Γ e re f te) (hg : VG X Γ tg re is set g) (hs : swapsWithSole [tg] e pos.line X.env = pure false := by rfl) (hw : swappedStores [tg] e X.env = pure none := by rfl)
    (h1 : (assignEach [tg] X.env).map (·.2) = [assign tg X.env] := by rfl) : VS X Γ u r (.Assign [tg] e pos) (sTgt set f) (tAsg te g) := ⟨ps_asg he.pe hg.pg hs hw h1, ok_tgt he.ok hg.ok⟩
theorem vs_sub (k : Nat) (he : VE X Γ e re f te) (hi : VE X Γ b rb fi ti) (hm : isM (md Γ k) = true := by rfl) (ha : accE re (moR (md Γ k)) = true := by rfl) (hN : X.N[k]? = some x := by rfl) (hv : Vis X.env.scope x := by first | exact Or.inl rfl | exact Or.inr (Or.inl rfl) | exact Or.inr (Or.inr rfl))
    (hd : (x == ("__debug__" : Str)) = false := by decide) (hcd : (x == ("__classdict__" : Str)) = false := by decide)
    (has : ∀ v, assign (.Subscript (.Name x px) b tpos) X.env v = (do
      let ov ← holding [v] (eval (.Name x px) X.env)
      let iv ← holding [v, ov] (eval b X.env)
      standAt tpos
      holding [v, ov, iv] (setItem ov iv v)
      release [v, ov, iv] []) := by intro _; rfl)
    (hs : swapsWithSole [.Subscript (.Name x px) b tpos] e pos.line X.env = pure false := by rfl) (hw : swappedStores [.Subscript (.Name x px) b tpos] e X.env = pure none := by rfl)
    (h1 : (assignEach [.Subscript (.Name x px) b tpos] X.env).map (·.2) = [assign (.Subscript (.Name x px) b tpos) X.env] := by rfl) : VS X Γ u r (.Assign [.Subscript (.Name x px) b tpos] e pos) (sSub k fi f) (tAsg te (gSub (tVar k) ti rSetL)) :=
  ⟨ps_asg he.pe (pg_sub (pe_var hN hv hd hcd) hi.pe set_list has) hs hw h1, ok_sub he.ok hi.ok hm ha⟩
theorem tDrop_eq {te : TE} : tDrop te = fun D σ H => te σ H fun _ H1 => D.nx σ H1 := rfl
/-- the first place of a number -/
def posI (n : Int) : List Int → Option Nat
  | [] => none
  | x :: xs => if x = n then some 0 else (posI n xs).map (· + 1)
theorem posI_spec {n : Int} : ∀ {ns : List Int} {j : Nat}, posI n ns = some j → ns[j]? = some n ∧ ∀ (m : Nat) (z : Int), m < j → ns[m]? = some z → z ≠ n
  | [], _, h => by cases h
  | x :: xs, j, h => by
    rw [posI] at h
    by_cases e : x = n
    · rw [if_pos e] at h
      cases h
      exact ⟨by rw [e]; rfl, fun m z hm => absurd hm (Nat.not_lt_zero m)⟩
    · rw [if_neg e] at h
      cases q : posI n xs with
      | none => rw [q] at h; cases h
      | some i =>
        rw [q] at h
        cases h
        obtain ⟨h1, h2⟩ := posI_spec q
        refine ⟨h1, fun m z hm hz => ?_⟩
        cases m with
        | zero =>
          have : x = z := Option.some.inj hz
          exact this ▸ e
        | succ m => exact h2 m z (Nat.lt_of_succ_lt_succ hm) hz
def hIdx (x : D) (as : List D) : Option D := match as with
  | [.int n] => (list? x).bind fun xs => (ints? xs).bind fun ns => (posI n ns).map fun j => .int (j : Nat)
  | _ => none
def dIdx (f : SE → Option D) (fs : SE → Option (List D)) (e : SE) : Option D := (f e).bind fun x => (fs e).bind (hIdx x)
theorem v_index {o : Expr} {ro : Rl} {to : TE} (ho : VE X Γ o ro f to) (ha : VA X Γ [e] ra fs ts)
    (hb : attributeBase o "index" X.env (eval o X.env) = eval o X.env := by rfl)
    (h1 : ((((backTo cpos (starEach [e] X.env)).all fun x => !x.fst) && (backToKw cpos (keywordEach [] X.env)).all fun x => x.fst.isSome) && decide (([e].length + ([] : List Keyword).length + if ([] : List Keyword).isEmpty = true then 0 else 1) < 30)) = true := by rfl)
    (h2 : (apos.endLine == cpos.line) = true := by rfl) (h3 : starEach [e] X.env = (false, eval e X.env) :: starEach [] X.env := by rfl) (h4 : ((backTo cpos (starEach [] X.env)).any fun x => x.fst) = false := by rfl) :
    VE X Γ (.Call (.Attribute o "index" apos) [e] [] cpos) .nw (dIdx f fs) (tBM X.K "list" (rIndex X.K) to ts) :=
  ⟨pe_bm PySem.F.plainAttrs_list PySem.F.slot_list_index PySem.F.type_list_index mt_index ho.pe ha.pa hb h1 h2 h3 h4, fun G H0 own env σ H Q d R z k => by
    unfold dIdx at z
    cases e1 : f env with
    | none => rw [e1] at z; cases z
    | some x =>
      cases e2 : fs env with
      | none => rw [e1, e2] at z; cases z
      | some as =>
        rw [e1, e2] at z
        simp only [Option.bind_some] at z
        match as, e2, z with
        | [.int n], e2, z =>
          simp only [hIdx] at z
          cases x with
          | list xs =>
            simp only [list?, Option.bind_some] at z
            cases e3 : ints? xs with
            | none => rw [e3] at z; cases z
            | some ns =>
              rw [e3] at z
              simp only [Option.bind_some] at z
              cases e4 : posI n ns with
              | none => rw [e4] at z; cases z
              | some j =>
                rw [e4] at z
                cases z
                refine ho.ok G H0 own env σ H _ _ R e1 fun v1 H1 s1 p1 => ?_
                cases p1 with
                | lst hs hd =>
                  refine ⟨.inl ⟨rfl, _, rg_sub.seq hs⟩, ha.ok G H0 own env σ H1 _ _ (R.ext s1) e2 fun us H2 s2 c => ?_⟩
                  rw [ints_is e3] at hd
                  rw [dps_ints hd] at hs
                  obtain ⟨q1, q2⟩ := posI_spec e4
                  match us, c with
                  | _, .cons (.int _) .nil =>
                    refine ⟨_, _, .int n, j, .int n, rfl, rfl, s2.seq (rg_sub.seq hs), rfl, ?_, by rw [List.getElem?_map, q1]; rfl, by simp [eqV], fun m z' hm hz' => ?_, k _ H2 (s1.trans s2) (.int _)⟩
                    · rw [List.all_eq_true]
                      intro y hy
                      obtain ⟨i, _, rfl⟩ := List.mem_map.mp hy
                      rfl
                    · rw [List.getElem?_map] at hz'
                      cases q : ns[m]? with
                      | none => rw [q] at hz'; cases hz'
                      | some w =>
                        rw [q] at hz'
                        cases hz'
                        have := q2 m w hm q
                        simp [eqV, this]
          | _ => cases z⟩
theorem vs_app (k : Nat) (ha : VA X Γ [e] ra fs ts) (hm : isM (md Γ k) = true := by rfl) (hc : accE ra (moR (md Γ k)) = true := by rfl) (hN : X.N[k]? = some x := by rfl) (hv : Vis X.env.scope x := by first | exact Or.inl rfl | exact Or.inr (Or.inl rfl) | exact Or.inr (Or.inr rfl))
    (hd : (x == ("__debug__" : Str)) = false := by decide) (hcd : (x == ("__classdict__" : Str)) = false := by decide)
    (hb : attributeBase (.Name x px) "append" X.env (eval (.Name x px) X.env) = eval (.Name x px) X.env := by rfl)
    (h1 : ((((backTo cpos (starEach [e] X.env)).all fun x => !x.fst) && (backToKw cpos (keywordEach [] X.env)).all fun x => x.fst.isSome) && decide (([e].length + ([] : List Keyword).length + if ([] : List Keyword).isEmpty = true then 0 else 1) < 30)) = true := by rfl)
    (h2 : (apos.endLine == cpos.line) = true := by rfl) (h3 : starEach [e] X.env = (false, eval e X.env) :: starEach [] X.env := by rfl) (h4 : ((backTo cpos (starEach [] X.env)).any fun x => x.fst) = false := by rfl)
    (hs : swapsWith (.Call (.Attribute (.Name x px) "append" apos) [e] [] cpos) none pos.line X.env = pure false := by rfl) :
    VS X Γ u r (.Expr (.Call (.Attribute (.Name x px) "append" apos) [e] [] cpos) pos) (sMut k hApp fs) (fun D σ H => (tBM X.K "list" rAppend (tVar k) ts) σ H fun _ H1 => D.nx σ H1) :=
  ⟨ps_expr (pe_bm PySem.F.plainAttrs_list PySem.F.slot_list_append PySem.F.type_list_append mt_append (pe_var hN hv hd hcd) ha.pa hb h1 h2 h3 h4) hs, ok_mut mu_app ha.ok hm hc⟩
theorem vs_ins (k : Nat) (ha : VA X Γ [e, e2] ra fs ts) (hm : isM (md Γ k) = true := by rfl) (hc : accE ra (moR (md Γ k)) = true := by rfl) (hN : X.N[k]? = some x := by rfl) (hv : Vis X.env.scope x := by first | exact Or.inl rfl | exact Or.inr (Or.inl rfl) | exact Or.inr (Or.inr rfl))
    (hd : (x == ("__debug__" : Str)) = false := by decide) (hcd : (x == ("__classdict__" : Str)) = false := by decide)
    (hb : attributeBase (.Name x px) "insert" X.env (eval (.Name x px) X.env) = eval (.Name x px) X.env := by rfl)
    (h1 : ((((backTo cpos (starEach [e, e2] X.env)).all fun x => !x.fst) && (backToKw cpos (keywordEach [] X.env)).all fun x => x.fst.isSome) && decide (([e, e2].length + ([] : List Keyword).length + if ([] : List Keyword).isEmpty = true then 0 else 1) < 30)) = true := by rfl)
    (h2 : (apos.endLine == cpos.line) = true := by rfl) (h3 : starEach [e, e2] X.env = (false, eval e X.env) :: starEach [e2] X.env := by rfl) (h4 : ((backTo cpos (starEach [e2] X.env)).any fun x => x.fst) = false := by rfl)
    (hs : swapsWith (.Call (.Attribute (.Name x px) "insert" apos) [e, e2] [] cpos) none pos.line X.env = pure false := by rfl) :
    VS X Γ u r (.Expr (.Call (.Attribute (.Name x px) "insert" apos) [e, e2] [] cpos) pos) (sMut k hIns fs) (fun D σ H => (tBM X.K "list" (fun x vs H Q => ∃ (l : Addr) (xs : List V) (i : Int) (y : V), x = .ref l ∧ vs = [.int i, y] ∧ H l = some (.lst xs) ∧ xs.length < sizeLine ∧ 0 ≤ i ∧ i < 2 ^ 63 ∧
    Q .non (upd H l (.lst (xs.take i.toNat ++ [y] ++ xs.drop i.toNat)))) (tVar k) ts) σ H fun _ H1 => D.nx σ H1) :=
  ⟨ps_expr (pe_bm PySem.F.plainAttrs_list PySem.F.slot_list_insert PySem.F.type_list_insert mt_insert (pe_var hN hv hd hcd) ha.pa hb h1 h2 h3 h4) hs, ok_mut mu_ins ha.ok hm hc⟩
theorem vs_clr (k : Nat) (hm : isM (md Γ k) = true := by rfl) (hN : X.N[k]? = some x := by rfl) (hv : Vis X.env.scope x := by first | exact Or.inl rfl | exact Or.inr (Or.inl rfl) | exact Or.inr (Or.inr rfl))
    (hd : (x == ("__debug__" : Str)) = false := by decide) (hcd : (x == ("__classdict__" : Str)) = false := by decide)
    (hb : attributeBase (.Name x px) "clear" X.env (eval (.Name x px) X.env) = eval (.Name x px) X.env := by rfl)
    (h2 : (apos.endLine == cpos.line) = true := by rfl)
    (hs : swapsWith (.Call (.Attribute (.Name x px) "clear" apos) [] [] cpos) none pos.line X.env = pure false := by rfl) :
    VS X Γ u r (.Expr (.Call (.Attribute (.Name x px) "clear" apos) [] [] cpos) pos) (sMut k hClr dNil) (fun D σ H => (tBM0 X.K "list" rClear (tVar k)) σ H fun _ H1 => D.nx σ H1) :=
  ⟨ps_expr (pe_bm0 PySem.F.plainAttrs_list PySem.F.slot_list_clear PySem.F.type_list_clear mt_clear (pe_var hN hv hd hcd) hb h2) hs, ok_mut0 mu_clr hm⟩
end

section
variable {X : Cx} {Γ : List Md} {u : Bool} {r ri re : Rl} {tg iter elt : Expr} {ifs : List Expr} {is : List Nat} {set : D → SE → Option SE} {c : SE → Option Bool} {h : SE → Option D} {f : SE → Option (List D)} {wi : TI} {g : TG} {tt : TT} {te : TE} {scope : Scope} {own : List (Str × Nat)} {pos spos py : Pos} {y : Str}
theorem ok_ofL {K : PySem.W.Frag} (h : OkL K Γ re f te) : OkE K Γ re (dLst f) te := fun G H0 own env σ H Q d R z k => by
  unfold dLst at z
  cases e1 : f env with
  | none => rw [e1] at z; cases z
  | some x =>
    rw [e1] at z
    cases z
    exact h G H0 own env σ H Q x R e1 fun p vs H' s n q c => k _ H' s (new_dp R n q c)
/-- y = [.. for ..] on one row, y a local -/
theorem vs_setC {ws : List Nat} (i : Nat) (hcalm : X.calm = true) (hN : X.N.Nodup) (hsw : swapsWith (.ListComp elt [⟨tg, iter, ifs, 0⟩] scope pos) (some (.Name y py)) spos.line X.env = pure true) (hi : VI X Γ tg iter ri f wi) (ok : BlkOk X.N X.env.scope scope own)
    (hg : ∀ (s : Shared) (H : Hp) (C : Addr) (cl : List (Str × Addr)) (fp : List Addr), VG (X.blk s H scope (compEnvC scope cl C X.env) fp) Γ tg ri is set g)
    (ht : ∀ (s : Shared) (H : Hp) (C : Addr) (cl : List (Str × Addr)) (fp : List Addr), VTs (X.blk s H scope (compEnvC scope cl C X.env) fp) Γ ifs c tt)
    (he : ∀ (s : Shared) (H : Hp) (C : Addr) (cl : List (Str × Addr)) (fp : List Addr), VE (X.blk s H scope (compEnvC scope cl C X.env) fp) Γ elt re h te) (hre : re ≠ .bo := by intro z; cases z) (hws : own.map (·.2) = ws := by rfl) (his : ∀ j ∈ is, j ∈ ws := by decide)
    (ha : acc re (md Γ i) = true := by rfl) (hyi : X.N[i]? = some y := by rfl) (hyl : X.env.scope.names.lookup y = some .local := by rfl)
    (hs : ∀ x, foldedSetIterable iter X.env x = pure x := by intro _; rfl) : VS X Γ u r (.Assign [.Name y py] (.ListComp elt [⟨tg, iter, ifs, 0⟩] scope pos) spos) (sSet i (dLst (lComp ws set c h f))) (tAsg (tLc wi g tt te ws) (gName i)) := by
  subst hws
  exact ⟨ps_setLc hcalm hN hyi hyl hsw hi.pi ok (fun s H C cl fp => (hg s H C cl fp).pg) (fun s H C cl fp => (ht s H C cl fp).pt) (fun s H C cl fp => (he s H C cl fp).pe) hs,
    ok_set ha (ok_ofL (ok_comp hre hi.ok (hg ({} : Shared) (fun _ => none) 0 [] []).ok his (ht ({} : Shared) (fun _ => none) 0 [] []).ok (he ({} : Shared) (fun _ => none) 0 [] []).ok))⟩
theorem vs_setCL {ws : List Nat} (i : Nat) (hcalm : X.calm = true) (hN : X.N.Nodup) (hsw : swapsWith (.ListComp elt [⟨tg, iter, ifs, 0⟩] scope pos) (some (.Name y py)) spos.line X.env = pure true) (hi : VI X Γ tg iter ri f wi) (ok : BlkOk X.N X.env.scope scope own)
    (hg : ∀ (s : Shared) (H : Hp) (C : Addr) (cl : List (Str × Addr)) (fp : List Addr), VG (X.blk s H scope (compEnvC scope cl C X.env) fp) Γ tg ri is set g)
    (ht : ∀ (s : Shared) (H : Hp) (C : Addr) (cl : List (Str × Addr)) (fp : List Addr), VTs (X.blk s H scope (compEnvC scope cl C X.env) fp) Γ ifs c tt)
    (he : ∀ (s : Shared) (H : Hp) (C : Addr) (cl : List (Str × Addr)) (fp : List Addr), VE (X.blk s H scope (compEnvC scope cl C X.env) fp) Γ elt re h te) (hre : re ≠ .bo := by intro z; cases z) (hws : own.map (·.2) = ws := by rfl) (his : ∀ j ∈ is, j ∈ ws := by decide)
    (ha : accL re (md Γ i) = true := by rfl) (hyi : X.N[i]? = some y := by rfl) (hyl : X.env.scope.names.lookup y = some .local := by rfl)
    (hs : ∀ x, foldedSetIterable iter X.env x = pure x := by intro _; rfl) : VS X Γ u r (.Assign [.Name y py] (.ListComp elt [⟨tg, iter, ifs, 0⟩] scope pos) spos) (sSetL i fun e => if i < e.length then lComp ws set c h f e else none) (tAsg (tLc wi g tt te ws) (gName i)) := by
  subst hws
  exact ⟨ps_setLc hcalm hN hyi hyl hsw hi.pi ok (fun s H C cl fp => (hg s H C cl fp).pg) (fun s H C cl fp => (ht s H C cl fp).pt) (fun s H C cl fp => (he s H C cl fp).pe) hs,
    ok_setL ha (fun env q => by
      by_cases z : i < env.length
      · exact z
      · rw [if_neg z] at q; cases q) fun G H0 own' env σ H Q ds R z k => by
        by_cases q : i < env.length
        · rw [if_pos q] at z; exact ok_comp hre hi.ok (hg ({} : Shared) (fun _ => none) 0 [] []).ok his (ht ({} : Shared) (fun _ => none) 0 [] []).ok (he ({} : Shared) (fun _ => none) 0 [] []).ok G H0 own' env σ H Q ds R z k
        · rw [if_neg q] at z; cases z⟩
theorem vs_setCF {ws : List Nat} {te : Fam TE} {tt : Fam TT} {g : Fam TG} (i : Nat) (hcalm : X.calm = true) (hN : X.N.Nodup) (hsw : swapsWith (.ListComp elt [⟨tg, iter, ifs, 0⟩] scope pos) (some (.Name y py)) spos.line X.env = pure true) (hi : VI X Γ tg iter ri f wi) (ok : BlkOk X.N X.env.scope scope own)
    (hg : ∀ s H C cl fp, VG (X.blk s H scope (compEnvC scope cl C X.env) fp) Γ tg ri is set (g s H C cl fp))
    (ht : ∀ s H C cl fp, VTs (X.blk s H scope (compEnvC scope cl C X.env) fp) Γ ifs c (tt s H C cl fp))
    (he : ∀ s H C cl fp, VE (X.blk s H scope (compEnvC scope cl C X.env) fp) Γ elt re h (te s H C cl fp)) (hre : re ≠ .bo := by intro z; cases z) (hws : own.map (·.2) = ws := by rfl) (his : ∀ j ∈ is, j ∈ ws := by decide)
    (ha : acc re (md Γ i) = true := by rfl) (hyi : X.N[i]? = some y := by rfl) (hyl : X.env.scope.names.lookup y = some .local := by rfl)
    (hs : ∀ x, foldedSetIterable iter X.env x = pure x := by intro _; rfl) : VS X Γ u r (.Assign [.Name y py] (.ListComp elt [⟨tg, iter, ifs, 0⟩] scope pos) spos) (sSet i (dLst (lComp ws set c h f))) (tAsg (tLc wi (allG g) (allT tt) (allE te) ws) (gName i)) :=
  vs_setC i hcalm hN hsw hi ok (fam_g hg) (fam_t ht) (fam_e he) hre hws his ha hyi hyl hs
theorem vs_setCLF {ws : List Nat} {te : Fam TE} {tt : Fam TT} {g : Fam TG} (i : Nat) (hcalm : X.calm = true) (hN : X.N.Nodup) (hsw : swapsWith (.ListComp elt [⟨tg, iter, ifs, 0⟩] scope pos) (some (.Name y py)) spos.line X.env = pure true) (hi : VI X Γ tg iter ri f wi) (ok : BlkOk X.N X.env.scope scope own)
    (hg : ∀ s H C cl fp, VG (X.blk s H scope (compEnvC scope cl C X.env) fp) Γ tg ri is set (g s H C cl fp))
    (ht : ∀ s H C cl fp, VTs (X.blk s H scope (compEnvC scope cl C X.env) fp) Γ ifs c (tt s H C cl fp))
    (he : ∀ s H C cl fp, VE (X.blk s H scope (compEnvC scope cl C X.env) fp) Γ elt re h (te s H C cl fp)) (hre : re ≠ .bo := by intro z; cases z) (hws : own.map (·.2) = ws := by rfl) (his : ∀ j ∈ is, j ∈ ws := by decide)
    (ha : accL re (md Γ i) = true := by rfl) (hyi : X.N[i]? = some y := by rfl) (hyl : X.env.scope.names.lookup y = some .local := by rfl)
    (hs : ∀ x, foldedSetIterable iter X.env x = pure x := by intro _; rfl) : VS X Γ u r (.Assign [.Name y py] (.ListComp elt [⟨tg, iter, ifs, 0⟩] scope pos) spos) (sSetL i fun e => if i < e.length then lComp ws set c h f e else none) (tAsg (tLc wi (allG g) (allT tt) (allE te) ws) (gName i)) :=
  vs_setCL i hcalm hN hsw hi ok (fam_g hg) (fam_t ht) (fam_e he) hre hws his ha hyi hyl hs
end
/-! ### a constant of the module; a < b < c -/
section
variable {X : Cx} {Γ : List Md} {ra rb rc : Rl} {a b c : Expr} {f g q : SE → Option D} {ta tb tc : TE} {pos : Pos} {x : Str}
theorem v_glob {n : Int} {t : Tok} (hm : X.mg x = some (.int n t)) (hg : Gl X x := by rfl) (hd : (x == ("__debug__" : Str)) = false := by decide) : VE X Γ (.Name x pos) .nw (dC (.int n)) (tC (.int n)) := v_con (d := .int n) rfl (pe_glob (v := .int n) hg hm ⟨t, rfl⟩ hd)
def d3c (h h' : D → D → Option D) (f g q : SE → Option D) (e : SE) : Option D := (f e).bind fun x => (g e).bind fun y => (h x y).bind fun z => match z with
  | .bool true => (q e).bind fun w => h' y w
  | .bool false => some (.bool false)
  | _ => none
theorem ok_chain {K : PySem.W.Frag} {rr rr' : R2} {h h' : D → D → Option D} (hs : R2s K rr h) (hs' : R2s K rr' h') (ha : OkE K Γ ra f ta) (hb : OkE K Γ rb g tb) (hc : OkE K Γ rc q tc) : OkE K Γ .nw (d3c h h' f g q) (tChain rr rr' ta tb tc) := fun G H0 own env σ H Q d R z k => by
  unfold d3c at z
  cases e1 : f env with
  | none => rw [e1] at z; cases z
  | some x =>
    cases e2 : g env with
    | none => rw [e1, e2] at z; cases z
    | some y =>
      rw [e1, e2] at z
      simp only [Option.bind_some] at z
      cases e3 : h x y with
      | none => rw [e3] at z; cases z
      | some b1 =>
        rw [e3] at z
        simp only [Option.bind_some] at z
        refine ha G H0 own env σ H _ x R e1 fun v1 H1 s1 p1 => ?_
        refine hb G H0 own env σ H1 _ y (R.ext s1) e2 fun v2 H2 s2 p2 => ?_
        obtain ⟨h1, h2⟩ := hs v1 v2 x y b1 H2 _ (dp_mono (rg_sub.trans s2) _ _ p1) (dp_mono rg_sub _ _ p2) e3
        refine h2 ?_
        cases b1 with
        | bool bb =>
          cases bb with
          | false => cases z; exact ⟨false, rfl, iteF (k _ H2 (s1.trans s2) (.bl false))⟩
          | true =>
            refine ⟨true, rfl, iteT ?_⟩
            simp only at z
            cases e4 : q env with
            | none => rw [e4] at z; cases z
            | some w =>
              rw [e4] at z
              simp only [Option.bind_some] at z
              refine hc G H0 own env σ H2 _ w ((R.ext s1).ext s2) e4 fun v3 H3 s3 p3 => ?_
              obtain ⟨h3, h4⟩ := hs' v2 v3 y w d H3 Q (dp_mono (rg_sub.trans s3) _ _ p2) (dp_mono rg_sub _ _ p3) z
              exact h4 (k _ H3 ((s1.trans s2).trans s3) (sc_dp h3))
        | _ => cases z
theorem v_chain {op op' : CmpOp} {rr rr' : R2} {h h' : D → D → Option D} (ho : OpR X (compareOp op) rr) (hs : R2s X.K rr h) (ho' : OpR X (compareOp op') rr') (hs' : R2s X.K rr' h') (ha : VE X Γ a ra f ta) (hb : VE X Γ b rb g tb) (hc : VE X Γ c rc q tc)
    (hm : lastMarks [op, op'] [b, c] = false := by with_unfolding_all rfl) : VE X Γ (.Compare a [op, op'] [b, c] pos) .nw (d3c h h' f g q) (tChain rr rr' ta tb tc) := ⟨pe_chain ho ho' ha.pe hb.pe hc.pe hm, ok_chain hs hs' ha.ok hb.ok hc.ok⟩
theorem vt_chain {op op' : CmpOp} {rr rr' : R2} {h h' : D → D → Option D} (ho : OpR X (compareOp op) rr) (hs : R2s X.K rr h) (ho' : OpR X (compareOp op') rr') (hs' : R2s X.K rr' h') (ha : VE X Γ a ra f ta) (hb : VE X Γ b rb g tb) (hc : VE X Γ c rc q tc)
    (hm : lastMarks [op, op'] [b, c] = false := by with_unfolding_all rfl) : VT X Γ (.Compare a [op, op'] [b, c] pos) (dB (d3c h h' f g q)) (tTest (tChain rr rr' ta tb tc)) := ⟨pt_chain ho ho' ha.pe hb.pe hc.pe hm, ok_b (ok_chain hs hs' ha.ok hb.ok hc.ok)⟩
end
/-! ### the end -/
section
variable {K : PySem.W.Frag}
theorem law_end {F : List D → Option D} {H : Hp} {a : Addr} {ns : List Int} {r : Rl} (hS : SqL K H a (ns.map V.int)) (h : F [.list (ns.map PyData.int)] = some (.bool true)) : spV K false r F [.ref a] H (fun v _ => v = .bl true) fun _ _ _ => False :=
  ⟨H, _, _, Same.refl H, .cons (.lst hS ints_dps) .nil, h, fun v H' s q => by cases q; rfl⟩
end

/-- a def of the module, as its callers need it -/
structure Cal (P : Program) (w : World) (K : PySem.W.Frag) (mg : Str → Option Value) (base : Heap) (x : Str) (k : Nat) (ps : List Str) (u : Bool) (r : Rl) (F : List D → Option D) : Prop where
  ex : ∃ f fd, FnOk P w K mg base CX0 k f fd ps (spV K u r F) ∧ mg x = some (.ref f) ∧ PySem.W.keepIn K (.ref f) = true ∧ Binds K fd ps []
section
variable {X : Cx} {Γ : List Md} {r ra : Rl} {e : Expr} {es : List Expr} {fs : SE → Option (List D)} {ts : TA} {p pos : Pos} {x : Str} {k : Nat} {ps : List Str} {F : List D → Option D}
theorem v_callC (C : Cal X.prog X.w X.K X.mg X.base x k ps false r F) (hr : Room k X.A) (ha : VA X Γ (e :: es) ra fs ts) (hnb : r ≠ .bo := by intro z; cases z)
    (hg : Gl X x := by rfl) (hdb : (x == ("__debug__" : Str)) = false := by decide) (he : starEach (e :: es) X.env = (false, eval e X.env) :: starEach es X.env := by rfl) (hpl : (backTo pos (starEach es X.env)).any (·.1) = false := by rfl) :
    VE X Γ (.Call (.Name x p) (e :: es) [] pos) (callR r ra) (dA F fs) (tCall (spV X.K false r F) [] E0 ts) := by
  obtain ⟨f, fd, h1, h2, h3, h4⟩ := C.ex
  exact v_call h1 hr h2 h3 h4 ha hnb hg hdb he hpl
theorem vl_callC (C : Cal X.prog X.w X.K X.mg X.base x k ps true r F) (hr : Room k X.A) (ha : VA X Γ (e :: es) ra fs ts) (hnb : r ≠ .bo := by intro z; cases z)
    (hg : Gl X x := by rfl) (hdb : (x == ("__debug__" : Str)) = false := by decide) (he : starEach (e :: es) X.env = (false, eval e X.env) :: starEach es X.env := by rfl) (hpl : (backTo pos (starEach es X.env)).any (·.1) = false := by rfl) :
    VL X Γ (.Call (.Name x p) (e :: es) [] pos) (callR r ra) (dAL F fs) (tCall (spV X.K true r F) [] E0 ts) := by
  obtain ⟨f, fd, h1, h2, h3, h4⟩ := C.ex
  exact vl_call h1 hr h2 h3 h4 ha hnb hg hdb he hpl
theorem v_globE {n : Int} (hm : ∃ t, X.mg x = some (.int n t)) (hg : Gl X x := by rfl) (hd : (x == ("__debug__" : Str)) = false := by decide) : VE X Γ (.Name x pos) .nw (dC (.int n)) (tC (.int n)) := by
  obtain ⟨t, h⟩ := hm
  exact v_glob h hg hd
theorem v_is {e : Expr} {r r' : Rl} {f : SE → Option D} {t : TE} (h : VE X Γ e r f t) (hr : r = r' := by rfl) : VE X Γ e r' f t := hr ▸ h
theorem vl_is {e : Expr} {r r' : Rl} {f : SE → Option (List D)} {t : TE} (h : VL X Γ e r f t) (hr : r = r' := by rfl) : VL X Γ e r' f t := hr ▸ h
end
end PV

namespace PV
open PySem PySem.Spec PyProof.Rows L2
/-! ### reckoning from the left, nothing ahead of its turn -/
def seqK (g : SE → Option Rs) : Rs → Option Rs
  | .nx e => g e
  | .rt d => some (.rt d)
  | .bk e => some (.bk e)
  | .ct e => some (.ct e)
def setK (i : Nat) (e : SE) (x : D) : Option Rs := some (.nx (e.set i (some x)))
def setLK (i : Nat) (e : SE) (x : List D) : Option Rs := some (.nx (e.set i (some (.list x))))
def retK (x : D) : Option Rs := some (.rt x)
def retLK (x : List D) : Option Rs := some (.rt (.list x))
def ifK (f g : SE → Option Rs) (e : SE) : Bool → Option Rs
  | true => f e
  | false => g e
def forK (set : D → SE → Option SE) (g : SE → Option Rs) (kl : List Nat) (e : SE) (ds : List D) : Option Rs := forL set g kl ds (kil kl e)
def parK (i j : Nat) (e : SE) : List D → Option Rs
  | [a, b] => some (.nx ((e.set i (some a)).set j (some b)))
  | _ => none
def augK (i : Nat) (h : D → D → Option D) (f : SE → Option D) (e : SE) (x : D) : Option Rs := (f e).bind fun y => (h x y).bind (setK i e)
def augK2 (i : Nat) (h : D → D → Option D) (e : SE) (x y : D) : Option Rs := (h x y).bind (setK i e)
def tgtK2 (e : SE) : Option Rs := some (.nx e)
def tgtK (set : D → SE → Option SE) (e : SE) (x : D) : Option Rs := (set x e).bind tgtK2
def subK3 (k : Nat) (e : SE) (v : D) (xs : List D) : D → Option Rs
  | .int z => (ixN xs.length z).bind fun j => some (.nx (e.set k (some (.list (xs.set j v)))))
  | _ => none
def subK2 (k : Nat) (fi : SE → Option D) (e : SE) (v : D) (xs : List D) : Option Rs := (fi e).bind (subK3 k e v xs)
def subK1 (k : Nat) (fi : SE → Option D) (e : SE) (v : D) (x : D) : Option Rs := (list? x).bind (subK2 k fi e v)
def subK (k : Nat) (fi : SE → Option D) (e : SE) (v : D) : Option Rs := (dV k e).bind (subK1 k fi e v)
def mutK2 (k : Nat) (h : List D → List D → Option (List D)) (e : SE) (xs as : List D) : Option Rs := (h xs as).bind (setLK k e)
def mutK1 (k : Nat) (h : List D → List D → Option (List D)) (fs : SE → Option (List D)) (e : SE) (xs : List D) : Option Rs := (fs e).bind (mutK2 k h e xs)
def mutK (k : Nat) (h : List D → List D → Option (List D)) (fs : SE → Option (List D)) (e : SE) (x : D) : Option Rs := (list? x).bind (mutK1 k h fs e)
def d2K (h : D → D → Option D) (g : SE → Option D) (e : SE) (x : D) : Option D := (g e).bind (h x)
def d3K2 (h' : D → D → Option D) (q : SE → Option D) (e : SE) (y : D) : D → Option D
  | .bool true => (q e).bind (h' y)
  | .bool false => some (.bool false)
  | _ => none
def d3K1 (h h' : D → D → Option D) (q : SE → Option D) (e : SE) (x y : D) : Option D := (h x y).bind (d3K2 h' q e y)
def d3K (h h' : D → D → Option D) (g q : SE → Option D) (e : SE) (x : D) : Option D := (g e).bind (d3K1 h h' q e x)
def boolK : D → Option Bool
  | .bool b => some b
  | _ => none
def scK (x : D) : Option D := if isSc x = true then some x else none
def scsK (x : List D) : Option (List D) := if x.all isSc = true then some x else none
def consK2 (x : D) (y : List D) : Option (List D) := some (x :: y)
def consK (g : SE → Option (List D)) (e : SE) (x : D) : Option (List D) := (g e).bind (consK2 x)
def tupK (x : List D) : Option D := some (.tuple x)
def lstK (x : List D) : Option D := some (.list x)
def alK (F : List D → Option D) (x : List D) : Option (List D) := (F x).bind list?
def andK (g : SE → Option Bool) (e : SE) : Bool → Option Bool
  | true => g e
  | false => some false
def orK (g : SE → Option Bool) (e : SE) : Bool → Option Bool
  | true => some true
  | false => g e
def notK (b : Bool) : Option Bool := some (!b)
def dtK (b : Bool) : Option D := some (.bool b)
def enK : List D → Option (List D)
  | [.list xs] => some (enumD xs)
  | _ => none
def zpK : List D → Option (List D)
  | [.list xs, .list ys] => some (zipD xs ys)
  | _ => none
def cutK2 (x : D) (a b : Option Int) : Option (List D) := match x with
  | .list xs => some (cutD xs a b)
  | _ => none
def cutK1 (hi : SE → Option (Option Int)) (e : SE) (x : D) (a : Option Int) : Option (List D) := (hi e).bind (cutK2 x a)
def cutK (lo hi : SE → Option (Option Int)) (e : SE) (x : D) : Option (List D) := (lo e).bind (cutK1 hi e x)
def osK : D → Option (Option Int)
  | .int i => some (some i)
  | _ => none
def catK (g : SE → Option D) (e : SE) (x : D) : Option (List D) := (g e).bind (hCat x)
def repK (g : SE → Option D) (e : SE) (xs : List D) : Option (List D) := (g e).bind (hRep xs)
def srtK (xs : List D) : Option (List D) := (ints? xs).bind fun ns => some ((sortI ns).map PyData.int)
def srtK0 (x : D) : Option (List D) := (list? x).bind srtK
def compK (ws : List Nat) (set : D → SE → Option SE) (c : SE → Option Bool) (h : SE → Option D) (e : SE) (ds : List D) : Option (List D) := dCompG set c h (kil ws e) ds
def runK (u : Bool) : Rs → Option D
  | .rt d => some d
  | .nx _ => match u with
    | true => none
    | false => some .none
  | _ => none
/-- one turn of a loop that goes on -/
def goK (kl : List Nat) : Rs → Option SE
  | .nx e => some (kil kl e)
  | .ct e => some (kil kl e)
  | _ => none
def turnW (g : SE → Option Rs) (kl : List Nat) (e : SE) : Option SE := (g e).bind (goK kl)
def turnR (set : D → SE → Option SE) (g : SE → Option Rs) (kl : List Nat) (d : D) (e : SE) : Option SE := (set d e).bind (turnW g kl)
def turn (set : D → SE → Option SE) (g : SE → Option Rs) (kl : List Nat) (d : D) (e e' : SE) : Prop := turnR set g kl d e = some e'
section
variable {u : Bool} {n np i j k : Nat} {ds : List D} {e : SE} {set : D → SE → Option SE} {g f2 : SE → Option Rs} {kl ws : List Nat} {c c2 : SE → Option Bool} {f h q : SE → Option D} {fs : SE → Option (List D)} {hh hh' : D → D → Option D} {mm : List D → List D → Option (List D)} {F : List D → Option D} {lo hi : SE → Option (Option Int)}
theorem v_run (hl : ds.length = np) : runF u n np g ds = (g (ds.map some ++ List.replicate (n - ds.length) none)).bind (runK u) := by
  unfold runF
  rw [if_pos hl]
  rfl
theorem v_seq : sSeq f2 g e = (f2 e).bind (seqK g) := rfl
theorem v_set' : sSet i f e = (f e).bind (setK i e) := rfl
theorem v_setL' : sSetL i fs e = (fs e).bind (setLK i e) := rfl
theorem v_ret' : sRet f e = (f e).bind retK := rfl
theorem v_retL' : sRetL fs e = (fs e).bind retLK := rfl
theorem v_if' : sIf c f2 g e = (c e).bind (ifK f2 g e) := rfl
theorem v_for' {fi : SE → Option (List D)} : sFor set g kl fi e = (fi e).bind (forK set g kl e) := rfl
theorem v_par' : sPar i j fs e = (fs e).bind (parK i j e) := rfl
theorem v_aug' : sAug i hh f e = (dV i e).bind (augK i hh f e) := rfl
theorem v_augK {x : D} : augK i hh f e x = (f e).bind (augK2 i hh e x) := rfl
theorem v_tgt' : sTgt set f e = (f e).bind (tgtK set e) := rfl
theorem v_sub' : sSub k f h e = (h e).bind (subK k f e) := rfl
theorem v_mut' : sMut k mm fs e = (dV k e).bind (mutK k mm fs e) := rfl
theorem v_d1 {h1 : D → Option D} : d1 h1 f e = (f e).bind h1 := rfl
theorem v_d2 : d2 hh f h e = (f e).bind (d2K hh h e) := rfl
theorem v_d3 : d3c hh hh' f h q e = (f e).bind (d3K hh hh' h q e) := rfl
theorem v_dB : dB f e = (f e).bind boolK := rfl
theorem v_dSc : dSc f e = (f e).bind scK := rfl
theorem v_dScs : dScs fs e = (fs e).bind scsK := rfl
theorem v_cons : dCons f fs e = (f e).bind (consK fs e) := rfl
theorem v_tup' : dTup fs e = (fs e).bind tupK := rfl
theorem v_lst' : dLst fs e = (fs e).bind lstK := rfl
theorem v_dA : dA F fs e = (fs e).bind F := rfl
theorem v_dAL : dAL F fs e = (fs e).bind (alK F) := rfl
theorem v_and' : tAndD c c2 e = (c e).bind (andK c2 e) := rfl
theorem v_or' : tOrD c c2 e = (c e).bind (orK c2 e) := rfl
theorem v_not' : tNotD c e = (c e).bind notK := rfl
theorem v_dT : dT c e = (c e).bind dtK := rfl
theorem v_iL : iL f e = (f e).bind list? := rfl
theorem v_iR1 : iR1 fs e = (fs e).bind hR1 := rfl
theorem v_iR2 : iR2 fs e = (fs e).bind hR2 := rfl
theorem v_iR3 : iR3 fs e = (fs e).bind hR3 := rfl
theorem v_iEn : iEn fs e = (fs e).bind enK := rfl
theorem v_iZp : iZp fs e = (fs e).bind zpK := rfl
theorem v_lCut : lCut f lo hi e = (f e).bind (cutK lo hi e) := rfl
theorem v_lOf : lOf f e = (f e).bind items? := rfl
theorem v_lCat : lCat f h e = (f e).bind (catK h e) := rfl
theorem v_lRep : lRep fs f e = (fs e).bind (repK f e) := rfl
theorem v_lSortI : lSortI f e = (f e).bind srtK0 := rfl
theorem v_lComp : lComp ws set c h fs e = (fs e).bind (compK ws set c h e) := rfl
theorem v_oS : oSome f e = (f e).bind osK := rfl
def cmpK {α β γ : Type} (f : α → Option β) (g : β → Option γ) (a : α) : Option γ := (f a).bind g
theorem b_assoc {α β γ : Type} {x : Option α} {f : α → Option β} {g : β → Option γ} : (x.bind f).bind g = x.bind (cmpK f g) := Option.bind_assoc x f g
theorem k_cmp {α β γ : Type} {f : α → Option β} {g : β → Option γ} {a : α} : cmpK f g a = (f a).bind g := rfl
theorem k_seq1 : seqK g (.nx e) = g e := rfl
theorem k_seq2 {d : D} : seqK g (.rt d) = some (.rt d) := rfl
theorem k_seq3 : seqK g (.bk e) = some (.bk e) := rfl
theorem k_seq4 : seqK g (.ct e) = some (.ct e) := rfl
theorem k_set {x : D} : setK i e x = some (.nx (e.set i (some x))) := rfl
theorem k_setL {x : List D} : setLK i e x = some (.nx (e.set i (some (.list x)))) := rfl
theorem k_ret {x : D} : retK x = some (.rt x) := rfl
theorem k_retL {x : List D} : retLK x = some (.rt (.list x)) := rfl
theorem k_if1 : ifK f2 g e true = f2 e := rfl
theorem k_if2 : ifK f2 g e false = g e := rfl
theorem k_for : forK set g kl e ds = forL set g kl ds (kil kl e) := rfl
theorem k_par {a b : D} : parK i j e [a, b] = some (.nx ((e.set i (some a)).set j (some b))) := rfl
theorem k_aug2 {x y : D} : augK2 i hh e x y = (hh x y).bind (setK i e) := rfl
theorem k_tgt {x : D} : tgtK set e x = (set x e).bind tgtK2 := rfl
theorem k_tgt2 : tgtK2 e = some (.nx e) := rfl
theorem k_sub {v : D} : subK k f e v = (dV k e).bind (subK1 k f e v) := rfl
theorem k_sub1 {v x : D} : subK1 k f e v x = (list? x).bind (subK2 k f e v) := rfl
theorem k_sub2 {v : D} {xs : List D} : subK2 k f e v xs = (f e).bind (subK3 k e v xs) := rfl
theorem k_sub3 {v : D} {xs : List D} {z : Int} : subK3 k e v xs (.int z) = (ixN xs.length z).bind fun j => some (.nx (e.set k (some (.list (xs.set j v))))) := rfl
theorem k_mut {x : D} : mutK k mm fs e x = (list? x).bind (mutK1 k mm fs e) := rfl
theorem k_mut1 {xs : List D} : mutK1 k mm fs e xs = (fs e).bind (mutK2 k mm e xs) := rfl
theorem k_mut2 {xs as : List D} : mutK2 k mm e xs as = (mm xs as).bind (setLK k e) := rfl
theorem k_d2 {x : D} : d2K hh f e x = (f e).bind (hh x) := rfl
theorem k_d3 {x : D} : d3K hh hh' f q e x = (f e).bind (d3K1 hh hh' q e x) := rfl
theorem k_d31 {x y : D} : d3K1 hh hh' q e x y = (hh x y).bind (d3K2 hh' q e y) := rfl
theorem k_d321 {y : D} : d3K2 hh' q e y (.bool true) = (q e).bind (hh' y) := rfl
theorem k_d322 {y : D} : d3K2 hh' q e y (.bool false) = some (.bool false) := rfl
theorem k_bool {b : Bool} : boolK (.bool b) = some b := rfl
theorem k_cons {x : D} : consK fs e x = (fs e).bind (consK2 x) := rfl
theorem k_cons2 {x : D} {y : List D} : consK2 x y = some (x :: y) := rfl
theorem k_tup {x : List D} : tupK x = some (.tuple x) := rfl
theorem k_lst {x : List D} : lstK x = some (.list x) := rfl
theorem k_al {x : List D} : alK F x = (F x).bind list? := rfl
theorem k_and1 : andK c e true = c e := rfl
theorem k_and2 : andK c e false = some false := rfl
theorem k_or1 : orK c e true = some true := rfl
theorem k_or2 : orK c e false = c e := rfl
theorem k_not {b : Bool} : notK b = some (!b) := rfl
theorem k_dt {b : Bool} : dtK b = some (.bool b) := rfl
theorem k_en {xs : List D} : enK [.list xs] = some (enumD xs) := rfl
theorem k_zp {xs ys : List D} : zpK [.list xs, .list ys] = some (zipD xs ys) := rfl
theorem k_cut {x : D} : cutK lo hi e x = (lo e).bind (cutK1 hi e x) := rfl
theorem k_cut1 {x : D} {a : Option Int} : cutK1 hi e x a = (hi e).bind (cutK2 x a) := rfl
theorem k_cut2 {xs : List D} {a b : Option Int} : cutK2 (.list xs) a b = some (cutD xs a b) := rfl
theorem k_os {z : Int} : osK (.int z) = some (some z) := rfl
theorem k_cat {x : D} : catK f e x = (f e).bind (hCat x) := rfl
theorem k_rep {xs : List D} : repK f e xs = (f e).bind (hRep xs) := rfl
def repEK (f : SE → Option D) (e : SE) (x : D) : Option (List D) := (list? x).bind (repK f e)
theorem k_rep0 {f : SE → Option D} {e : SE} {x : D} : repEK f e x = (list? x).bind (repK f e) := rfl
theorem v_lRepE {f h : SE → Option D} {e : SE} : lRepE f h e = (f e).bind (repEK h e) := rfl
def rtK : Rs → Option Rs
  | .rt d => some (.rt d)
  | _ => none
theorem v_rt' {g : SE → Option Rs} {e : SE} : sRt g e = (g e).bind rtK := by
  unfold sRt
  congr 1
theorem k_rt {d : D} : rtK (.rt d) = some (.rt d) := rfl
def idxK (fs : SE → Option (List D)) (e : SE) (x : D) : Option D := (fs e).bind (hIdx x)
theorem v_idx {f : SE → Option D} {fs : SE → Option (List D)} {e : SE} : dIdx f fs e = (f e).bind (idxK fs e) := rfl
theorem k_idx {fs : SE → Option (List D)} {e : SE} {x : D} : idxK fs e x = (fs e).bind (hIdx x) := rfl
def revK (x : D) : Option (List D) := (list? x).map List.reverse
theorem v_lRev {f : SE → Option D} {e : SE} : lRev f e = (f e).bind revK := rfl
theorem k_rev {xs : List D} : revK (.list xs) = some xs.reverse := rfl
theorem k_srt0 {x : D} : srtK0 x = (list? x).bind srtK := rfl
theorem k_srt (ns : List Int) : srtK (ns.map PyData.int) = some ((sortI ns).map PyData.int) := by
  unfold srtK
  rw [ints_map]
  rfl
theorem k_comp : compK ws set c f e ds = dCompG set c f (kil ws e) ds := rfl
theorem k_run1 {d : D} : runK u (.rt d) = some d := rfl
theorem k_run2 : runK false (.nx e) = some .none := rfl
theorem k_go1 : goK kl (.nx e) = some (kil kl e) := rfl
theorem k_go2 : goK kl (.ct e) = some (kil kl e) := rfl
theorem w_turn {d : D} {e' : SE} : turn set g kl d e e' = ((set d e).bind (turnW g kl) = some e') := rfl
theorem w_turnR {d : D} : turnR set g kl d e = (set d e).bind (turnW g kl) := rfl
theorem w_turnW : turnW g kl e = (g e).bind (goK kl) := rfl
theorem w_nx : sNx e = some (.nx e) := rfl
theorem w_bk : sBk e = some (.bk e) := rfl
theorem w_ct : sCt e = some (.ct e) := rfl
theorem w_rN : sRetN e = some (.rt .none) := rfl
theorem w_V : dV i e = e.getD i none := rfl
theorem w_C {d : D} : dC d e = some d := rfl
theorem w_nil : dNil e = some [] := rfl
theorem w_oN : oNone e = some none := rfl
theorem w_yes : cYes e = some true := rfl
theorem w_gSet {d : D} : gSet i d e = some (e.set i (some d)) := rfl
theorem w_gTup {ss : List D → SE → Option SE} : gTupD ss (.tuple ds) e = ss ds e := rfl
theorem w_gsCons {s1 : D → SE → Option SE} {ss : List D → SE → Option SE} {d : D} : gsCons s1 ss (d :: ds) e = (s1 d e).bind (ss ds) := rfl
theorem w_gsNil : gsNil [] e = some e := rfl
theorem w_add {a b : Int} : hAdd (.int a) (.int b) = some (.int (a + b)) := rfl
theorem w_subI {a b : Int} : hSub (.int a) (.int b) = some (.int (a - b)) := rfl
theorem w_lt {a b : Int} : hLt (.int a) (.int b) = some (.bool (decide (a < b))) := rfl
theorem w_le {a b : Int} : hLe (.int a) (.int b) = some (.bool (decide (a ≤ b))) := rfl
theorem w_gt {a b : Int} : hGt (.int a) (.int b) = some (.bool (decide (b < a))) := rfl
theorem w_ge {a b : Int} : hGe (.int a) (.int b) = some (.bool (decide (b ≤ a))) := rfl
theorem w_neg {a : Int} : hNeg (.int a) = some (.int (-a)) := rfl
theorem w_isN {x : D} : hIsN x .none = some (.bool (isNone x)) := rfl
theorem w_notN {x : D} : hNotN x .none = some (.bool (!isNone x)) := rfl
theorem w_n0 : isNone .none = true := rfl
theorem w_n1 {a : Int} : isNone (.int a) = false := rfl
theorem w_n2 {a : Bool} : isNone (.bool a) = false := rfl
theorem w_n3 : isNone (.list ds) = false := rfl
theorem w_n4 : isNone (.tuple ds) = false := rfl
theorem w_len1 : hLen [.list ds] = some (.int (ds.length : Int)) := rfl
theorem w_len2 : hLen [.tuple ds] = some (.int (ds.length : Int)) := rfl
theorem w_min2 {a b : Int} : hMin2 [.int a, .int b] = some (.int (if b < a then b else a)) := rfl
theorem w_max2 {a b : Int} : hMax2 [.int a, .int b] = some (.int (if b > a then b else a)) := rfl
theorem w_int1 {a : Int} : hInt [.int a] = some (.int a) := rfl
theorem w_int2 {a : Bool} : hInt [.bool a] = some (.int (if a then 1 else 0)) := rfl
theorem w_clr : hClr ds [] = some [] := rfl
theorem w_ixL {a : Int} : hIxL (.list ds) (.int a) = atI ds a := rfl
theorem w_ixT {a : Int} : hIxT (.tuple ds) (.int a) = atI ds a := rfl
theorem w_sum (ns : List Int) : hSum [.list (ns.map PyData.int)] = some (.int ns.sum) := by
  show (ints? (ns.map PyData.int)).map _ = _
  rw [ints_map]
  rfl
theorem w_any (ns : List Bool) : hAny [.list (ns.map PyData.bool)] = some (.bool (ns.any id)) := by
  show (bools? (ns.map PyData.bool)).map _ = _
  rw [bools_map]
  rfl
theorem w_kil0 : kil [] e = e := rfl
theorem w_kil1 : kil (i :: kl) e = (kil kl e).set i none := rfl
theorem k_sc_int (i : Int) : scK (.int i) = some (.int i) := rfl
theorem k_sc_bool (i : Bool) : scK (.bool i) = some (.bool i) := rfl
theorem k_sc_none : scK .none = some .none := rfl
theorem k_sc_str (i : Str) : scK (.str i) = some (.str i) := rfl
theorem k_sc_of {x : D} (h : isSc x = true) : scK x = some x := if_pos h
theorem k_scs_of {x : List D} (h : x.all isSc = true) : scsK x = some x := if_pos h
end
/-! ### plain laws about loops -/
section
variable {set : D → SE → Option SE} {g : SE → Option Rs} {kl : List Nat} {c : SE → Option Bool} {α σ : Type}
theorem forL_turn {d : D} {ds : List D} {e e' : SE} (h : turn set g kl d e e') : forL set g kl (d :: ds) e = forL set g kl ds e' := by
  unfold turn turnR turnW at h
  rw [forL]
  cases h1 : set d e with
  | none => rw [h1] at h; cases h
  | some e1 =>
    rw [h1] at h
    simp only [Option.bind_some] at h ⊢
    cases h2 : g e1 with
    | none => rw [h2] at h; cases h
    | some r =>
      rw [h2] at h
      simp only [Option.bind_some] at h ⊢
      cases r with
      | nx e2 => cases h; rfl
      | ct e2 => cases h; rfl
      | bk e2 => cases h
      | rt d => cases h
/-- a loop that goes through, by a state -/
theorem forL_fold {enc : σ → SE} {cv : α → D} {step : σ → α → σ} (I : σ → Prop) : ∀ (xs : List α) (s : σ), I s → (∀ s x, x ∈ xs → I s → turn set g kl (cv x) (enc s) (enc (step s x)) ∧ I (step s x)) →
    forL set g kl (xs.map cv) (enc s) = some (.nx (enc (xs.foldl step s))) ∧ I (xs.foldl step s)
  | [], s, hi, _ => ⟨rfl, hi⟩
  | x :: xs, s, hi, h => by
    obtain ⟨h1, h2⟩ := h s x List.mem_cons_self hi
    rw [List.map_cons, forL_turn h1, List.foldl_cons]
    exact forL_fold I xs _ h2 fun s y hy => h s y (List.mem_cons_of_mem _ hy)
/-- .. by a word over the part that was walked -/
theorem forL_word' {enc : σ → SE} {cv : α → D} (W : List α → σ → Prop) : ∀ (xs pre : List α) (s : σ), W pre s → (∀ p x q s, p ++ x :: q = pre ++ xs → W p s → ∃ s', turn set g kl (cv x) (enc s) (enc s') ∧ W (p ++ [x]) s') →
    ∃ s', forL set g kl (xs.map cv) (enc s) = some (.nx (enc s')) ∧ W (pre ++ xs) s'
  | [], pre, s, hi, _ => ⟨s, rfl, by rw [List.append_nil]; exact hi⟩
  | x :: xs, pre, s, hi, h => by
    obtain ⟨s1, h1, h2⟩ := h pre x xs s rfl hi
    obtain ⟨s2, h3, h4⟩ := forL_word' W xs (pre ++ [x]) s1 h2 fun p y q s e => h p y q s (by rw [e, List.append_assoc]; rfl)
    refine ⟨s2, ?_, by rw [List.append_assoc] at h4; exact h4⟩
    rw [List.map_cons, forL_turn h1]
    exact h3
theorem forL_word {enc : σ → SE} {cv : α → D} (W : List α → σ → Prop) (xs : List α) (s : σ) (h0 : W [] s) (h : ∀ p x q s, p ++ x :: q = xs → W p s → ∃ s', turn set g kl (cv x) (enc s) (enc s') ∧ W (p ++ [x]) s') :
    ∃ s', forL set g kl (xs.map cv) (enc s) = some (.nx (enc s')) ∧ W xs s' := forL_word' W xs [] s h0 h
/-- a loop that changes nothing that is kept -/
theorem forL_same {cv : α → D} (e : SE) : ∀ (xs : List α), (∀ x, x ∈ xs → turn set g kl (cv x) e e) → forL set g kl (xs.map cv) e = some (.nx e)
  | [], _ => rfl
  | x :: xs, h => by
    rw [List.map_cons, forL_turn (h x List.mem_cons_self)]
    exact forL_same e xs fun y hy => h y (List.mem_cons_of_mem _ hy)
/-- a search: the first item at which it hands out -/
theorem forL_find {cv : α → D} (e : SE) (p : α → Option D) : ∀ (xs : List α), (∀ x, x ∈ xs → p x = none → turn set g kl (cv x) e e) → (∀ x d, x ∈ xs → p x = some d → (set (cv x) e).bind g = some (.rt d)) →
    forL set g kl (xs.map cv) e = some (match xs.findSome? p with | some d => .rt d | none => .nx e)
  | [], _, _ => rfl
  | x :: xs, h, h' => by
    rw [List.map_cons, List.findSome?_cons]
    cases q : p x with
    | none =>
      rw [forL_turn (h x List.mem_cons_self q)]
      exact forL_find e p xs (fun y hy => h y (List.mem_cons_of_mem _ hy)) fun y d hy => h' y d (List.mem_cons_of_mem _ hy)
    | some d =>
      have := h' x d List.mem_cons_self q
      rw [forL]
      cases q1 : set (cv x) e with
      | none => rw [q1] at this; cases this
      | some e1 =>
        rw [q1] at this
        simp only [Option.bind_some] at this ⊢
        rw [this]
        rfl
theorem whN_turn {e e' : SE} {n : Nat} (hc : c e = some true) (h : turnW g kl e = some e') : whN c g kl (n + 1) e = whN c g kl n e' := by
  unfold turnW at h
  rw [whN, hc]
  simp only [Option.bind_some]
  cases h2 : g e with
  | none => rw [h2] at h; cases h
  | some r =>
    rw [h2] at h
    simp only [Option.bind_some] at h ⊢
    cases r with
    | nx e2 => cases h; rfl
    | ct e2 => cases h; rfl
    | bk e2 => cases h
    | rt d => cases h
def whI (cond : σ → Bool) (step : σ → σ) : Nat → σ → σ
  | 0, s => s
  | n + 1, s => if cond s = true then whI cond step n (step s) else s
theorem whN_iter {enc : σ → SE} {cond : σ → Bool} {step : σ → σ} (I : σ → Prop) (μ : σ → Nat) (hc : ∀ s, I s → c (enc s) = some (cond s))
    (hs : ∀ s, I s → cond s = true → turnW g kl (enc s) = some (enc (step s)) ∧ I (step s) ∧ μ (step s) < μ s) : ∀ (n : Nat) (s : σ), I s → μ s ≤ n →
    whN c g kl (n + 1) (enc s) = some (.nx (enc (whI cond step n s))) ∧ I (whI cond step n s) ∧ cond (whI cond step n s) = false
  | 0, s, hi, hm => by
    have h0 : cond s = false := by
      cases q : cond s with
      | false => rfl
      | true => have := (hs s hi q).2.2; omega
    refine ⟨?_, hi, h0⟩
    rw [whN, hc s hi, h0]
    rfl
  | n + 1, s, hi, hm => by
    cases q : cond s with
    | false =>
      have e : whI cond step (n + 1) s = s := by rw [whI, q]; rfl
      rw [e]
      refine ⟨?_, hi, q⟩
      rw [whN, hc s hi, q]
      rfl
    | true =>
      obtain ⟨h2, h3, h4⟩ := hs s hi q
      have e' : whI cond step (n + 1) s = whI cond step n (step s) := by rw [whI, q]; rfl
      rw [e', whN_turn (by rw [hc s hi, q]) h2]
      exact whN_iter I μ hc hs n (step s) h3 (by omega)
/-- a while, by a state and a measure -/
theorem sWhile_iter {enc : σ → SE} {cond : σ → Bool} {step : σ → σ} (I : σ → Prop) (μ : σ → Nat) (s : σ) (hk : kil kl (enc s) = enc s) (hi : I s) (hc : ∀ s, I s → c (enc s) = some (cond s))
    (hs : ∀ s, I s → cond s = true → turnW g kl (enc s) = some (enc (step s)) ∧ I (step s) ∧ μ (step s) < μ s) (n : Nat) (hn : μ s ≤ n) :
    sWhile c g kl (enc s) = some (.nx (enc (whI cond step n s))) ∧ I (whI cond step n s) ∧ cond (whI cond step n s) = false := by
  obtain ⟨h1, h2, h3⟩ := whN_iter I μ hc hs n s hi hn
  rw [← hk] at h1
  exact ⟨sWhile_of h1, h2, h3⟩
/-- a while, by a word and a measure: some end is reached at which the word holds and the test doesn't -/
theorem whN_word {enc : σ → SE} {cond : σ → Bool} (I : σ → Prop) (μ : σ → Nat) (hc : ∀ s, I s → c (enc s) = some (cond s))
    (hs : ∀ s, I s → cond s = true → ∃ s', turnW g kl (enc s) = some (enc s') ∧ I s' ∧ μ s' < μ s) : ∀ (n : Nat) (s : σ), μ s ≤ n → I s →
    ∃ s', whN c g kl (n + 1) (enc s) = some (.nx (enc s')) ∧ I s' ∧ cond s' = false
  | n, s, hm, hi => by
    cases q : cond s with
    | false => exact ⟨s, by rw [whN, hc s hi, q]; rfl, hi, q⟩
    | true =>
      obtain ⟨s', h2, h3, h4⟩ := hs s hi q
      cases n with
      | zero => omega
      | succ n =>
        obtain ⟨s2, h5, h6, h7⟩ := whN_word I μ hc hs n s' (by omega) h3
        refine ⟨s2, ?_, h6, h7⟩
        rw [whN_turn (by rw [hc s hi, q]) h2]
        exact h5
theorem sWhile_word {enc : σ → SE} {cond : σ → Bool} (I : σ → Prop) (μ : σ → Nat) (s : σ) (hk : kil kl (enc s) = enc s) (hi : I s) (hc : ∀ s, I s → c (enc s) = some (cond s))
    (hs : ∀ s, I s → cond s = true → ∃ s', turnW g kl (enc s) = some (enc s') ∧ I s' ∧ μ s' < μ s) : ∃ s', sWhile c g kl (enc s) = some (.nx (enc s')) ∧ I s' ∧ cond s' = false := by
  obtain ⟨s', h1, h2, h3⟩ := whN_word I μ hc hs _ s (Nat.le_refl _) hi
  rw [← hk] at h1
  exact ⟨s', sWhile_of h1, h2, h3⟩
end
theorem range_split {p q : List Nat} {x n : Nat} (h : p ++ x :: q = List.range n) : x = p.length ∧ p = List.range p.length ∧ p.length < n := by
  have hl := congrArg List.length h
  simp only [List.length_append, List.length_cons, List.length_range] at hl
  have hx : (List.range n)[p.length]? = some x := by rw [← h]; simp
  have hp : p = (List.range n).take p.length := by rw [← h]; simp
  refine ⟨?_, ?_, by omega⟩
  · rw [List.getElem?_range (by omega)] at hx
    exact (Option.some.inj hx).symm
  · rw [List.take_range, Nat.min_eq_left (by omega)] at hp
    exact hp
/-! ### comprehensions -/
section
variable {set : D → SE → Option SE} {c : SE → Option Bool} {h : SE → Option D} {e : SE} {α β : Type}
theorem dComp_map {cv : α → D} {f : α → D} : ∀ (xs : List α), (∀ x, x ∈ xs → ∃ e1, set (cv x) e = some e1 ∧ c e1 = some true ∧ h e1 = some (f x)) → dComp set c h e (xs.map cv) = some (xs.map f)
  | [], _ => rfl
  | x :: xs, hh => by
    obtain ⟨e1, h1, h2, h3⟩ := hh x List.mem_cons_self
    rw [List.map_cons, dComp, h1]
    simp only [Option.bind_some]
    rw [h2]
    simp only [Option.bind_some]
    rw [h3]
    simp only [Option.bind_some]
    rw [dComp_map xs fun y hy => hh y (List.mem_cons_of_mem _ hy)]
    rfl
theorem dComp_filter {cv : α → D} {f : α → D} {p : α → Bool} : ∀ (xs : List α), (∀ x, x ∈ xs → ∃ e1, set (cv x) e = some e1 ∧ c e1 = some (p x) ∧ (p x = true → h e1 = some (f x))) → dComp set c h e (xs.map cv) = some ((xs.filter p).map f)
  | [], _ => rfl
  | x :: xs, hh => by
    obtain ⟨e1, h1, h2, h3⟩ := hh x List.mem_cons_self
    rw [List.map_cons, dComp, h1]
    simp only [Option.bind_some]
    rw [h2]
    simp only [Option.bind_some]
    have ih := dComp_filter xs fun y hy => hh y (List.mem_cons_of_mem _ hy)
    cases q : p x with
    | false =>
      simp only [List.filter_cons, q]
      exact ih
    | true =>
      rw [h3 q]
      simp only [Option.bind_some]
      rw [ih]
      simp only [List.filter_cons, q]
      rfl
end
/-! ### data -/
@[simp] theorem eqv_int (a b : Int) : PyData.eqv (.int a) (.int b) = (a == b) := by simp [PyData.eqv]
@[simp] theorem eqv_bool (a b : Bool) : PyData.eqv (.bool a) (.bool b) = (a == b) := by simp [PyData.eqv]
@[simp] theorem eqv_none : PyData.eqv .none .none = true := by simp [PyData.eqv]
def isNb : D → Bool
  | .none => true
  | .bool _ => true
  | .int _ => true
  | _ => false
theorem shaped_sc {d : D} (h : isNb d = true) : SeqAt.shaped d = true := by
  cases d <;> first | (cases h; done) | simp [SeqAt.shaped, PyData.canLay0, PyData.depth]
/-- data of a known depth, without dicts -/
def okD (n : Nat) (d : D) : Prop := d.canLay0 = true ∧ d.depth ≤ n
theorem okD.shaped {n : Nat} {d : D} (h : okD n d) (hn : n ≤ 64) : SeqAt.shaped d = true := by
  unfold SeqAt.shaped
  rw [h.1, Bool.true_and]
  exact decide_eq_true (Nat.le_trans h.2 hn)
theorem okD_sc {d : D} (h : isNb d = true) : okD 0 d := by
  cases d <;> first | (cases h; done) | exact ⟨by simp [PyData.canLay0], by simp [PyData.depth]⟩
theorem okAll : ∀ {n : Nat} {ds : List D}, (∀ d ∈ ds, okD n d) → PyData.canLayAll0 ds = true ∧ PyData.depthAll ds ≤ n
  | _, [], _ => ⟨by simp [PyData.canLayAll0], by simp [PyData.depthAll]⟩
  | n, d :: ds, h => by
    obtain ⟨h1, h2⟩ := h d List.mem_cons_self
    obtain ⟨h3, h4⟩ := okAll (n := n) (ds := ds) fun x hx => h x (List.mem_cons_of_mem _ hx)
    refine ⟨by simp [PyData.canLayAll0, h1, h3], ?_⟩
    simp only [PyData.depthAll]
    omega
theorem okD_list {n : Nat} {ds : List D} (h : ∀ d ∈ ds, okD n d) : okD (n + 1) (.list ds) := by
  obtain ⟨h1, h2⟩ := okAll h
  exact ⟨by simp [PyData.canLay0, h1], by simp only [PyData.depth]; omega⟩
theorem okD_tuple {n : Nat} {ds : List D} (h : ∀ d ∈ ds, okD n d) : okD (n + 1) (.tuple ds) := by
  obtain ⟨h1, h2⟩ := okAll h
  exact ⟨by simp [PyData.canLay0, h1], by simp only [PyData.depth]; omega⟩
theorem okD_mono {n m : Nat} {d : D} (h : okD n d) (l : n ≤ m) : okD m d := ⟨h.1, Nat.le_trans h.2 l⟩
theorem eqv_self {d : D} (h : d.canLay0 = true) : PyData.eqv d d = true := SeqAt.eqv_refl d h
theorem hEq_int (a b : Int) : hEq (.int a) (.int b) = some (.bool (a == b)) := by
  unfold hEq
  rw [if_pos ⟨shaped_sc rfl, shaped_sc rfl⟩, eqv_int]
theorem hNe_int (a b : Int) : hNe (.int a) (.int b) = some (.bool (!(a == b))) := by
  unfold hNe
  rw [if_pos ⟨shaped_sc rfl, shaped_sc rfl⟩, eqv_int]
theorem hEq_bool (a b : Bool) : hEq (.bool a) (.bool b) = some (.bool (a == b)) := by
  unfold hEq
  rw [if_pos ⟨shaped_sc rfl, shaped_sc rfl⟩, eqv_bool]
theorem eqv_ints : ∀ (xs ys : List Int), PyData.eqvAll (xs.map PyData.int) (ys.map PyData.int) = (xs == ys)
  | [], [] => by simp [PyData.eqvAll]
  | [], _ :: _ => by simp [PyData.eqvAll]
  | _ :: _, [] => by simp [PyData.eqvAll]
  | x :: xs, y :: ys => by
    rw [List.map_cons, List.map_cons, PyData.eqvAll, eqv_int, eqv_ints xs ys]
    rfl
theorem ok_ints (xs : List Int) : okD 1 (.list (xs.map PyData.int)) := okD_list fun d hd => by
  obtain ⟨x, _, rfl⟩ := List.mem_map.mp hd
  exact okD_sc rfl
theorem hEq_ints (xs ys : List Int) : hEq (.list (xs.map PyData.int)) (.list (ys.map PyData.int)) = some (.bool (xs == ys)) := by
  unfold hEq
  rw [if_pos ⟨(ok_ints xs).shaped (by decide), (ok_ints ys).shaped (by decide)⟩]
  simp only [PyData.eqv, eqv_ints]
theorem hNe_ints (xs ys : List Int) : hNe (.list (xs.map PyData.int)) (.list (ys.map PyData.int)) = some (.bool (!(xs == ys))) := by
  unfold hNe
  rw [if_pos ⟨(ok_ints xs).shaped (by decide), (ok_ints ys).shaped (by decide)⟩]
  simp only [PyData.eqv, eqv_ints]
/-! ### numbers -/
theorem bits_lt {i : Int} {n : Nat} (h : i.natAbs < 2 ^ n) : Builtin.Int.intBits i ≤ n := by
  unfold Builtin.Int.intBits
  split
  · exact Nat.zero_le _
  · rename_i h0
    have h1 : i.natAbs ≠ 0 := by
      intro z
      apply h0
      simp
      omega
    have := (Nat.log2_lt h1).mpr h
    omega
theorem mulC_small {i j : Int} (h : i.natAbs < 2 ^ 64) : MulC i j := .inl (bits_lt h)
theorem mulC_smallR {i j : Int} (h : j.natAbs < 2 ^ 64) : MulC i j := .inr (.inl (bits_lt h))
theorem mulC_wide {i j : Int} {a b : Nat} (h : i.natAbs < 2 ^ a) (h' : j.natAbs < 2 ^ b) (ha : a ≤ 67108864) (hb : b ≤ 67108864) : MulC i j := .inr (.inr ⟨Nat.le_trans (bits_lt h) ha, Nat.le_trans (bits_lt h') hb⟩)
theorem divC_of {i j : Int} {b : Nat} (h : 0 < j) (hb : j.natAbs < 2 ^ b) (h9 : b ≤ 9000) : DivC i j := by
  refine ⟨h, ?_⟩
  have : j.natAbs ≠ 0 := by omega
  exact Nat.lt_of_lt_of_le ((Nat.log2_lt this).mpr hb) h9
theorem divC_small {i j : Int} (h : 0 < j) (hb : j < 18446744073709551616) : DivC i j := divC_of (b := 64) h (by omega) (by decide)
theorem powC_small {i j : Int} (h0 : 0 ≤ j) (h1 : j ≤ 1000000) (h : i.natAbs < 2 ^ 64) : PowC i j := by
  have b := bits_lt h
  have : (Builtin.Int.intBits i : Int) * j ≤ 64 * 1000000 := Int.mul_le_mul (by omega) h1 h0 (by omega)
  exact ⟨h0, by omega⟩
theorem hMul_of {i j : Int} (h : MulC i j) : hMul (.int i) (.int j) = some (.int (i * j)) := by
  show (if MulC i j then _ else _) = _
  rw [if_pos h]
theorem hDiv_of {i j : Int} (h : DivC i j) : hDiv (.int i) (.int j) = some (.int (i / j)) := by
  show (if DivC i j then _ else _) = _
  rw [if_pos h]
theorem hMod_of {i j : Int} (h : 0 < j) : hMod (.int i) (.int j) = some (.int (i % j)) := by
  show (if 0 < j then _ else _) = _
  rw [if_pos h]
theorem hPow_of {i j : Int} (h : PowC i j) : hPow (.int i) (.int j) = some (.int (i ^ j.toNat)) := by
  show (if PowC i j then _ else _) = _
  rw [if_pos h]
theorem p10_3 : hPow (.int 10) (.int 3) = some (.int 1000) := by rw [hPow_of (by decide +kernel)]; rfl
theorem p10_4 : hPow (.int 10) (.int 4) = some (.int 10000) := by rw [hPow_of (by decide +kernel)]; rfl
theorem p10_5 : hPow (.int 10) (.int 5) = some (.int 100000) := by rw [hPow_of (by decide +kernel)]; rfl
theorem p10_6 : hPow (.int 10) (.int 6) = some (.int 1000000) := by rw [hPow_of (by decide +kernel)]; rfl
theorem p10_7 : hPow (.int 10) (.int 7) = some (.int 10000000) := by rw [hPow_of (by decide +kernel)]; rfl
theorem p10_8 : hPow (.int 10) (.int 8) = some (.int 100000000) := by rw [hPow_of (by decide +kernel)]; rfl
theorem p10_9 : hPow (.int 10) (.int 9) = some (.int 1000000000) := by rw [hPow_of (by decide +kernel)]; rfl
theorem p10_12 : hPow (.int 10) (.int 12) = some (.int 1000000000000) := by rw [hPow_of (by decide +kernel)]; rfl
theorem p10_50 : hPow (.int 10) (.int 50) = some (.int 100000000000000000000000000000000000000000000000000) := by rw [hPow_of (by decide +kernel)]; rfl
theorem p50_3 : hPow (.int 100000000000000000000000000000000000000000000000000) (.int 3) = some (.int 1000000000000000000000000000000000000000000000000000000000000000000000000000000000000000000000000000000000000000000000000000000000000000000000000000000) := by rw [hPow_of (by decide +kernel)]; rfl
theorem p50_4 : hPow (.int 100000000000000000000000000000000000000000000000000) (.int 4) = some (.int 100000000000000000000000000000000000000000000000000000000000000000000000000000000000000000000000000000000000000000000000000000000000000000000000000000000000000000000000000000000000000000000000000000000) := by rw [hPow_of (by decide +kernel)]; rfl
theorem hIsi_int_int (i : Int) : hIsi "int" (.int i) = some (.bool true) := by
  have h : kitB "int" "int" = some true := by decide +kernel
  simp only [hIsi, tyName, Option.bind_some, h]
theorem hIsi_int_bool (i : Int) : hIsi "bool" (.int i) = some (.bool false) := by
  have h : kitB "int" "bool" = some false := by decide +kernel
  simp only [hIsi, tyName, Option.bind_some, h]
theorem hIsi_int_list (i : Int) : hIsi "list" (.int i) = some (.bool false) := by
  have h : kitB "int" "list" = some false := by decide +kernel
  simp only [hIsi, tyName, Option.bind_some, h]
theorem hIsi_int_tuple (i : Int) : hIsi "tuple" (.int i) = some (.bool false) := by
  have h : kitB "int" "tuple" = some false := by decide +kernel
  simp only [hIsi, tyName, Option.bind_some, h]
theorem hIsi_int_str (i : Int) : hIsi "str" (.int i) = some (.bool false) := by
  have h : kitB "int" "str" = some false := by decide +kernel
  simp only [hIsi, tyName, Option.bind_some, h]
theorem hIsi_bool_int (i : Bool) : hIsi "int" (.bool i) = some (.bool true) := by
  have h : kitB "bool" "int" = some true := by decide +kernel
  simp only [hIsi, tyName, Option.bind_some, h]
theorem hIsi_bool_bool (i : Bool) : hIsi "bool" (.bool i) = some (.bool true) := by
  have h : kitB "bool" "bool" = some true := by decide +kernel
  simp only [hIsi, tyName, Option.bind_some, h]
theorem hIsi_bool_list (i : Bool) : hIsi "list" (.bool i) = some (.bool false) := by
  have h : kitB "bool" "list" = some false := by decide +kernel
  simp only [hIsi, tyName, Option.bind_some, h]
theorem hIsi_bool_tuple (i : Bool) : hIsi "tuple" (.bool i) = some (.bool false) := by
  have h : kitB "bool" "tuple" = some false := by decide +kernel
  simp only [hIsi, tyName, Option.bind_some, h]
theorem hIsi_bool_str (i : Bool) : hIsi "str" (.bool i) = some (.bool false) := by
  have h : kitB "bool" "str" = some false := by decide +kernel
  simp only [hIsi, tyName, Option.bind_some, h]
theorem hIsi_none_int  : hIsi "int" (.none) = some (.bool false) := by
  have h : kitB "NoneType" "int" = some false := by decide +kernel
  simp only [hIsi, tyName, Option.bind_some, h]
theorem hIsi_none_bool  : hIsi "bool" (.none) = some (.bool false) := by
  have h : kitB "NoneType" "bool" = some false := by decide +kernel
  simp only [hIsi, tyName, Option.bind_some, h]
theorem hIsi_none_list  : hIsi "list" (.none) = some (.bool false) := by
  have h : kitB "NoneType" "list" = some false := by decide +kernel
  simp only [hIsi, tyName, Option.bind_some, h]
theorem hIsi_none_tuple  : hIsi "tuple" (.none) = some (.bool false) := by
  have h : kitB "NoneType" "tuple" = some false := by decide +kernel
  simp only [hIsi, tyName, Option.bind_some, h]
theorem hIsi_none_str  : hIsi "str" (.none) = some (.bool false) := by
  have h : kitB "NoneType" "str" = some false := by decide +kernel
  simp only [hIsi, tyName, Option.bind_some, h]
theorem hIsi_list_int (i : List D) : hIsi "int" (.list i) = some (.bool false) := by
  have h : kitB "list" "int" = some false := by decide +kernel
  simp only [hIsi, tyName, Option.bind_some, h]
theorem hIsi_list_bool (i : List D) : hIsi "bool" (.list i) = some (.bool false) := by
  have h : kitB "list" "bool" = some false := by decide +kernel
  simp only [hIsi, tyName, Option.bind_some, h]
theorem hIsi_list_list (i : List D) : hIsi "list" (.list i) = some (.bool true) := by
  have h : kitB "list" "list" = some true := by decide +kernel
  simp only [hIsi, tyName, Option.bind_some, h]
theorem hIsi_list_tuple (i : List D) : hIsi "tuple" (.list i) = some (.bool false) := by
  have h : kitB "list" "tuple" = some false := by decide +kernel
  simp only [hIsi, tyName, Option.bind_some, h]
theorem hIsi_list_str (i : List D) : hIsi "str" (.list i) = some (.bool false) := by
  have h : kitB "list" "str" = some false := by decide +kernel
  simp only [hIsi, tyName, Option.bind_some, h]
theorem hIsi_tuple_int (i : List D) : hIsi "int" (.tuple i) = some (.bool false) := by
  have h : kitB "tuple" "int" = some false := by decide +kernel
  simp only [hIsi, tyName, Option.bind_some, h]
theorem hIsi_tuple_bool (i : List D) : hIsi "bool" (.tuple i) = some (.bool false) := by
  have h : kitB "tuple" "bool" = some false := by decide +kernel
  simp only [hIsi, tyName, Option.bind_some, h]
theorem hIsi_tuple_list (i : List D) : hIsi "list" (.tuple i) = some (.bool false) := by
  have h : kitB "tuple" "list" = some false := by decide +kernel
  simp only [hIsi, tyName, Option.bind_some, h]
theorem hIsi_tuple_tuple (i : List D) : hIsi "tuple" (.tuple i) = some (.bool true) := by
  have h : kitB "tuple" "tuple" = some true := by decide +kernel
  simp only [hIsi, tyName, Option.bind_some, h]
theorem hIsi_tuple_str (i : List D) : hIsi "str" (.tuple i) = some (.bool false) := by
  have h : kitB "tuple" "str" = some false := by decide +kernel
  simp only [hIsi, tyName, Option.bind_some, h]
theorem hIsi_str_int (i : Str) : hIsi "int" (.str i) = some (.bool false) := by
  have h : kitB "str" "int" = some false := by decide +kernel
  simp only [hIsi, tyName, Option.bind_some, h]
theorem hIsi_str_bool (i : Str) : hIsi "bool" (.str i) = some (.bool false) := by
  have h : kitB "str" "bool" = some false := by decide +kernel
  simp only [hIsi, tyName, Option.bind_some, h]
theorem hIsi_str_list (i : Str) : hIsi "list" (.str i) = some (.bool false) := by
  have h : kitB "str" "list" = some false := by decide +kernel
  simp only [hIsi, tyName, Option.bind_some, h]
theorem hIsi_str_tuple (i : Str) : hIsi "tuple" (.str i) = some (.bool false) := by
  have h : kitB "str" "tuple" = some false := by decide +kernel
  simp only [hIsi, tyName, Option.bind_some, h]
theorem hIsi_str_str (i : Str) : hIsi "str" (.str i) = some (.bool true) := by
  have h : kitB "str" "str" = some true := by decide +kernel
  simp only [hIsi, tyName, Option.bind_some, h]

/-! ### lists of data -/
theorem list?_list (xs : List D) : list? (.list xs) = some xs := rfl
theorem items?_list (xs : List D) : items? (.list xs) = some xs := rfl
theorem items?_tuple (xs : List D) : items? (.tuple xs) = some xs := rfl
def cutL {α : Type} (xs : List α) (lo hi : Option Int) : List α := (xs.drop (HT.sIx xs.length 0 lo)).take (HT.sIx xs.length xs.length hi - HT.sIx xs.length 0 lo)
theorem cutD_map {α : Type} (f : α → D) (xs : List α) (lo hi : Option Int) : cutD (xs.map f) lo hi = (cutL xs lo hi).map f := by
  unfold cutD cutL
  rw [List.length_map, List.map_take, List.map_drop]
theorem all_int {α : Type} (f : α → Int) (xs : List α) : (xs.map fun x => PyData.int (f x)).all isSc = true := by
  rw [List.all_map, List.all_eq_true]
  intro x _
  rfl
theorem all_int' (xs : List Int) : (xs.map PyData.int).all isSc = true := all_int (fun x => x) xs
theorem mem_cutL {α : Type} {xs : List α} {lo hi : Option Int} {x : α} (h : x ∈ cutL xs lo hi) : x ∈ xs := List.mem_of_mem_drop (List.mem_of_mem_take h)
theorem len_cutL {α : Type} {xs : List α} {lo hi : Option Int} : (cutL xs lo hi).length ≤ xs.length := by
  unfold cutL
  rw [List.length_take, List.length_drop]
  omega
theorem cutL_nat {α : Type} (xs : List α) (a b : Nat) (h : a ≤ b) : cutL xs (some (a : Int)) (some (b : Int)) = (xs.drop a).take (b - a) := by
  unfold cutL HT.sIx
  simp only [show ¬ ((a : Int) < 0) by omega, show ¬ ((b : Int) < 0) by omega, if_false, Int.toNat_natCast]
  by_cases h1 : a ≤ xs.length
  · rw [Nat.min_eq_left h1]
    by_cases h2 : b ≤ xs.length
    · rw [Nat.min_eq_left h2]
    · rw [Nat.min_eq_right (by omega), List.take_of_length_le (by rw [List.length_drop]; omega), List.take_of_length_le (by rw [List.length_drop]; omega)]
  · rw [Nat.min_eq_right (by omega), Nat.min_eq_right (by omega), List.drop_eq_nil_of_le (by omega), List.drop_eq_nil_of_le (by omega), List.take_nil, List.take_nil]
theorem cutL_pre {α : Type} (xs : List α) (b : Nat) : cutL xs none (some (b : Int)) = xs.take b := by
  have := cutL_nat xs 0 b (Nat.zero_le _)
  unfold cutL HT.sIx at this ⊢
  simp only [Int.ofNat_zero, Nat.sub_zero, List.drop_zero, Int.toNat_zero, Nat.zero_min, show ¬ ((0 : Int) < 0) by omega, show ¬ ((b : Int) < 0) by omega, if_false, Int.toNat_natCast] at this ⊢
  exact this
theorem k_scs_int (ns : List Int) : scsK (ns.map PyData.int) = some (ns.map PyData.int) := k_scs_of (all_int' ns)
theorem rangeD_map (lo : Int) (n : Nat) : rangeD lo n = (List.range n).map fun (k : Nat) => PyData.int (lo + (k : Int)) := rfl

/-! ### reckoned where a bound holds -/
theorem hCat_of {xs ys : List D} (h : xs.length + ys.length ≤ 1000000) : hCat (.list xs) (.list ys) = some (xs ++ ys) := by
  simp only [hCat, list?, Option.bind_some, if_pos h]
theorem hRep_of {xs : List D} {k : Int} (h1 : k < 1000000) (h2 : -1000000 < k) (h : xs.length * k.toNat ≤ 1000000) : hRep xs (.int k) = some (repD k.toNat xs) := by
  simp only [hRep, if_pos (And.intro h1 (And.intro h2 h))]
theorem hR1_of {j : Int} (h1 : -1000000 < j) (h2 : j < 1000000) : hR1 [.int j] = some (rangeD 0 j.toNat) := by
  simp only [hR1, if_pos (And.intro h1 h2)]
theorem hR2_of {i j : Int} (h1 : -1000000 < i) (h2 : i < 1000000) (h3 : -1000000 < j) (h4 : j < 1000000) : hR2 [.int i, .int j] = some (rangeD i (j - i).toNat) := by
  simp only [hR2, if_pos (And.intro (And.intro h1 h2) (And.intro h3 h4))]
theorem hR3_of {i j c : Int} (h1 : -1000000 < i) (h2 : i < 1000000) (h3 : -1000000 < j) (h4 : j < 1000000) (h5 : 0 < c) (h6 : c < 1000000) : hR3 [.int i, .int j, .int c] = some (rangeC i c (rngN i j c)) := by
  simp only [hR3, if_pos (show ((-1000000 < i ∧ i < 1000000) ∧ (-1000000 < j ∧ j < 1000000)) ∧ (0 < c ∧ c < 1000000) from ⟨⟨⟨h1, h2⟩, h3, h4⟩, h5, h6⟩)]
theorem hApp_of {xs : List D} {d : D} (h : xs.length < 1000000) : hApp xs [d] = some (xs ++ [d]) := by
  simp only [hApp, if_pos h]
theorem hIns_of {xs : List D} {d : D} {i : Int} (h0 : 0 ≤ i) (h1 : i < 1000000) (h : xs.length < 1000000) : hIns xs [.int i, d] = some (xs.take i.toNat ++ [d] ++ xs.drop i.toNat) := by
  simp only [hIns, if_pos (And.intro (And.intro h0 h1) h)]
theorem dCompG_of {set : D → SE → Option SE} {c : SE → Option Bool} {h : SE → Option D} {e : SE} {ds : List D} (hl : ds.length ≤ 1000000) : dCompG set c h e ds = dComp set c h e ds := if_pos hl
theorem atI_in {α : Type} {xs : List α} {i : Int} (h0 : 0 ≤ i) (h : i < xs.length) : atI xs i = xs[i.toNat]? := by
  unfold atI ixN
  rw [if_pos h0, if_pos h]
  rfl
theorem atI_map {α : Type} (f : α → D) (xs : List α) (i : Int) : atI (xs.map f) i = (atI xs i).map f := by
  unfold atI
  rw [List.length_map]
  cases ixN xs.length i with
  | none => rfl
  | some j => simp
theorem sIx_0 {n : Nat} : HT.sIx n 0 none = 0 := rfl
/-! ### loops and comprehensions within a row of steps -/
section
variable {set : D → SE → Option SE} {g : SE → Option Rs} {kl : List Nat} {c : SE → Option Bool} {h : SE → Option D} {α σ β : Type} {k : Rs → Option β} {kk : List D → Option β} {r : Option β}
theorem b_word {enc : σ → SE} {cv : α → D} (W : List α → σ → Prop) (xs : List α) (s : σ) (h0 : W [] s) (h : ∀ p x q s, p ++ x :: q = xs → W p s → ∃ s', turn set g kl (cv x) (enc s) (enc s') ∧ W (p ++ [x]) s')
    (hk : ∀ s', W xs s' → k (.nx (enc s')) = r) : (forL set g kl (xs.map cv) (enc s)).bind k = r := by
  obtain ⟨s', h1, h2⟩ := forL_word W xs s h0 h
  rw [h1]
  exact hk s' h2
theorem b_fold {enc : σ → SE} {cv : α → D} {step : σ → α → σ} (I : σ → Prop) (xs : List α) (s : σ) (h0 : I s) (h : ∀ s x, x ∈ xs → I s → turn set g kl (cv x) (enc s) (enc (step s x)) ∧ I (step s x))
    (hk : I (xs.foldl step s) → k (.nx (enc (xs.foldl step s))) = r) : (forL set g kl (xs.map cv) (enc s)).bind k = r := by
  obtain ⟨h1, h2⟩ := forL_fold I xs s h0 h
  rw [h1]
  exact hk h2
theorem b_same {cv : α → D} {e : SE} (xs : List α) (h : ∀ x, x ∈ xs → turn set g kl (cv x) e e) (hk : k (.nx e) = r) : (forL set g kl (xs.map cv) e).bind k = r := by
  rw [forL_same e xs h]
  exact hk
theorem b_find {cv : α → D} {e : SE} (p : α → Option D) (xs : List α) (h : ∀ x, x ∈ xs → p x = none → turn set g kl (cv x) e e) (h' : ∀ x d, x ∈ xs → p x = some d → (set (cv x) e).bind g = some (.rt d))
    (hk : k (match xs.findSome? p with | some d => .rt d | none => .nx e) = r) : (forL set g kl (xs.map cv) e).bind k = r := by
  rw [forL_find e p xs h h']
  exact hk
theorem b_while {enc : σ → SE} {cond : σ → Bool} (I : σ → Prop) (μ : σ → Nat) (s : σ) (hk : kil kl (enc s) = enc s) (hi : I s) (hc : ∀ s, I s → c (enc s) = some (cond s))
    (hs : ∀ s, I s → cond s = true → ∃ s', turnW g kl (enc s) = some (enc s') ∧ I s' ∧ μ s' < μ s) (hk2 : ∀ s', I s' → cond s' = false → k (.nx (enc s')) = r) : (sWhile c g kl (enc s)).bind k = r := by
  obtain ⟨s', h1, h2, h3⟩ := sWhile_word I μ s hk hi hc hs
  rw [h1]
  exact hk2 s' h2 h3
theorem b_map {cv : α → D} {e : SE} (f : α → D) (xs : List α) (hl : xs.length ≤ 1000000) (hh : ∀ x, x ∈ xs → ∃ e1, set (cv x) e = some e1 ∧ c e1 = some true ∧ h e1 = some (f x)) (hk : kk (xs.map f) = r) : (dCompG set c h e (xs.map cv)).bind kk = r := by
  rw [dCompG_of (by rw [List.length_map]; exact hl), dComp_map xs hh]
  exact hk
theorem b_filter {cv : α → D} {e : SE} (f : α → D) (p : α → Bool) (xs : List α) (hl : xs.length ≤ 1000000) (hh : ∀ x, x ∈ xs → ∃ e1, set (cv x) e = some e1 ∧ c e1 = some (p x) ∧ (p x = true → h e1 = some (f x))) (hk : kk ((xs.filter p).map f) = r) : (dCompG set c h e (xs.map cv)).bind kk = r := by
  rw [dCompG_of (by rw [List.length_map]; exact hl), dComp_filter xs hh]
  exact hk
theorem g_map {cv : α → D} {e : SE} (f : α → D) (xs : List α) (hl : xs.length ≤ 1000000) (hh : ∀ x, x ∈ xs → ∃ e1, set (cv x) e = some e1 ∧ c e1 = some true ∧ h e1 = some (f x)) : dCompG set c h e (xs.map cv) = some (xs.map f) := by
  rw [dCompG_of (by rw [List.length_map]; exact hl), dComp_map xs hh]
theorem g_filter {cv : α → D} {e : SE} (f : α → D) (p : α → Bool) (xs : List α) (hl : xs.length ≤ 1000000) (hh : ∀ x, x ∈ xs → ∃ e1, set (cv x) e = some e1 ∧ c e1 = some (p x) ∧ (p x = true → h e1 = some (f x))) : dCompG set c h e (xs.map cv) = some ((xs.filter p).map f) := by
  rw [dCompG_of (by rw [List.length_map]; exact hl), dComp_filter xs hh]
end
end PV

namespace PV
open PySem PySem.Spec PyProof.Rows L2
/-! ### a list of one's own that rests while it is walked -/
section
variable {K : PySem.W.Frag} {Γ : List Md} {G H0 H0' H H' : Hp} {own own' : List (Option Addr)} {env : SE} {σ : L2.St} {i k : Nat} {v : V} {d : D} {m : Md} {r : Rl}
theorem rg_base (h : Same H0 H0') : Same (rg r G H0' own H) (rg r G H0 own H) := fun a o q => by
  obtain ⟨i, e⟩ := rg_iff.mp q
  refine rg_iff.mpr ⟨?_, e⟩
  cases r with
  | bo => trivial
  | nw => exact ⟨i.1, h.free i.2.1, i.2.2⟩
  | od => exact ⟨i.1, i.2.imp (fun z => ⟨h.free z.1, z.2⟩) id⟩
theorem SlotOk.step2 (sub : ∀ {rr : Rl}, rr ≠ .bo → Same (rg rr G H0 own H) (rg rr G H0' own' H')) (h0 : Same H0 H0') (ho : ∀ a, own[i]? = some (some a) → own'[i]? = some (some a) ∧ ∀ o, H a = some o → H' a = some o) (h : SlotOk K m G H0 own H i v d) : SlotOk K m G H0' own' H' i v d := by
  have so := sub (rr := .od) (by intro z; cases z)
  have sn := sub (rr := .nw) (by intro z; cases z)
  cases m with
  | od => exact dp_mono so _ _ h
  | nw => exact dp_mono sn _ _ h
  | mo =>
    obtain ⟨a, vs, ds, h0, h1, h2, h4, h3⟩ := h
    exact ⟨a, vs, ds, h0, (ho a h1).1, (ho a h1).2 _ h2, h4, dps_mono so _ _ h3⟩
  | mn =>
    obtain ⟨a, vs, ds, h0, h1, h2, h4, h3⟩ := h
    exact ⟨a, vs, ds, h0, (ho a h1).1, (ho a h1).2 _ h2, h4, dps_mono sn _ _ h3⟩
  | pd r a =>
    obtain ⟨q0, vs, ds, h1, h2, h3⟩ := h
    exact ⟨q0, vs, ds, h0 _ _ h1, h2, dps_mono (sub pr_bo) _ _ h3⟩
  | cv v0 => exact ⟨h.1, dp_mono so _ _ h.2.1, h.2.2⟩
  | tr => exact dp_mono (fun a o e => rgt_iff.mpr ⟨(rgt_iff.mp e).1, h0 _ _ (rgt_iff.mp e).2⟩) _ _ h
  | mp j =>
    obtain ⟨a, p, vs, us, ds, es, q0, h1, h2, h3, h4, h5, h6, h7, h8, h9⟩ := h
    exact ⟨a, p, vs, us, ds, es, q0, sn _ _ h1, h2, (ho p h3).1, (ho p h3).2 _ h4, dps_mono so _ _ h5, h6, h7, h8, fun m d' q e => let ⟨v', e1, e2⟩ := h9 m d' q e; ⟨v', e1, dp_mono so _ _ e2⟩⟩
def flat : Md → Bool
  | .pd _ _ => false
  | .tr => false
  | _ => true
theorem SlotOk.step3 (sub : ∀ {rr : Rl}, rr ≠ .bo → Same (rg rr G H0 own H) (rg rr G H0' own' H')) (hf : flat m = true) (ho : ∀ a, own[i]? = some (some a) → own'[i]? = some (some a) ∧ ∀ o, H a = some o → H' a = some o) (h : SlotOk K m G H0 own H i v d) : SlotOk K m G H0' own' H' i v d := by
  have so := sub (rr := .od) (by intro z; cases z)
  have sn := sub (rr := .nw) (by intro z; cases z)
  cases m with
  | od => exact dp_mono so _ _ h
  | nw => exact dp_mono sn _ _ h
  | mo =>
    obtain ⟨a, vs, ds, h0, h1, h2, h4, h3⟩ := h
    exact ⟨a, vs, ds, h0, (ho a h1).1, (ho a h1).2 _ h2, h4, dps_mono so _ _ h3⟩
  | mn =>
    obtain ⟨a, vs, ds, h0, h1, h2, h4, h3⟩ := h
    exact ⟨a, vs, ds, h0, (ho a h1).1, (ho a h1).2 _ h2, h4, dps_mono sn _ _ h3⟩
  | pd r a => cases hf
  | cv v0 => exact ⟨h.1, dp_mono so _ _ h.2.1, h.2.2⟩
  | tr => cases hf
  | mp j =>
    obtain ⟨a, p, vs, us, ds, es, q0, h1, h2, h3, h4, h5, h6, h7, h8, h9⟩ := h
    exact ⟨a, p, vs, us, ds, es, q0, sn _ _ h1, h2, (ho p h3).1, (ho p h3).2 _ h4, dps_mono so _ _ h5, h6, h7, h8, fun m d' q e => let ⟨v', e1, e2⟩ := h9 m d' q e; ⟨v', e1, dp_mono so _ _ e2⟩⟩
theorem md_self {m' : Md} (h : k < Γ.length) : md (Γ.set k m') k = m' := by
  unfold md
  rw [List.getD_eq_getElem?_getD, List.getElem?_set_self h]
  rfl
theorem md_ne {m' : Md} {j : Nat} (h : k ≠ j) : md (Γ.set k m') j = md Γ j := by
  unfold md
  rw [List.getD_eq_getElem?_getD, List.getD_eq_getElem?_getD, List.getElem?_set_ne h]
theorem isM_lt (hm : isM (md Γ k) = true) : k < Γ.length := by
  by_cases z : k < Γ.length
  · exact z
  · unfold md at hm
    rw [List.getD_eq_getElem?_getD, List.getElem?_eq_none (by omega)] at hm
    cases hm
theorem pr_mo {m : Md} : pr (moR m) = moR m := by cases m <;> rfl
/-- behind the pin, what is apart from all lists of one's own stays so -/
theorem pin_sub {a : Addr} {vs : List V} (R : ER K Γ G H0 own env σ H) (ho : own[k]? = some (some a)) (hr : r ≠ .bo) : Same (rg r G H0 own H') (rg r G (upd H0 a (.lst vs)) (own.set k none) H') := fun b o q => by
  obtain ⟨i, e⟩ := rg_iff.mp q
  have nb : ¬ Ow own b := i.now hr
  have ne : b ≠ a := fun z => nb (z ▸ ⟨k, ho⟩)
  have nb' : ¬ Ow (own.set k none) b := fun z => by
    obtain ⟨j, _, e⟩ := ow_unset z
    exact nb ⟨j, e⟩
  refine rg_iff.mpr ⟨?_, e⟩
  cases r with
  | bo => trivial
  | nw => exact ⟨nb', by unfold Nw; rw [upd_ne ne]; exact i.2⟩
  | od => exact ⟨nb', by unfold Nw; rw [upd_ne ne]; exact i.2⟩
/-- .. and back -/
theorem pin_back {a : Addr} {vs : List V} {ex : List (Option Addr)} (gs : Same G H0) (n0 : H0 a = none) (ho : own[k]? = some (some a)) (inj : ∀ (i j : Nat) (a : Addr), own[i]? = some (some a) → own[j]? = some (some a) → i = j) :
    Same (rg r G (upd H0 a (.lst vs)) (own.set k none ++ ex) H') (rg r G H0 (own ++ ex) H') := fun b o q => by
  obtain ⟨i, e⟩ := rg_iff.mp q
  refine rg_iff.mpr ⟨?_, e⟩
  have ga : G a = none := by
    cases q : G a with
    | none => rfl
    | some o => have := gs _ _ q; rw [n0] at this; cases this
  have now : b ≠ a → ¬ Ow (own.set k none ++ ex) b → ¬ Ow (own ++ ex) b := fun ne h ⟨j, z⟩ => by
    by_cases hl : j < own.length
    · rw [List.getElem?_append_left hl] at z
      by_cases hj : k = j
      · subst hj; rw [ho] at z; cases z; exact ne rfl
      · exact h ⟨j, by rw [List.getElem?_append_left (by rw [List.length_set]; exact hl), List.getElem?_set_ne hj]; exact z⟩
    · rw [List.getElem?_append_right (by omega)] at z
      exact h ⟨j, by rw [List.getElem?_append_right (by rw [List.length_set]; omega), List.length_set]; exact z⟩
  cases r with
  | bo => trivial
  | nw =>
    have ne : b ≠ a := fun z => by have := i.2.1; rw [z, upd_same] at this; cases this
    exact ⟨now ne i.1, by have := i.2; unfold Nw at this ⊢; rw [upd_ne ne] at this; exact this⟩
  | od =>
    have ne : b ≠ a := fun z => by
      rcases i.2 with h | h
      · have h := h.1; rw [z, upd_same] at h; cases h
      · rw [z] at h; exact h ga
    exact ⟨now ne i.1, by have := i.2; unfold Nw at this ⊢; rw [upd_ne ne] at this; exact this⟩
theorem ER.pin (R : ER K Γ G H0 own env σ H) (hm : isM (md Γ k) = true) (hd : dV k env = some d) : ∃ a vs, H0 a = none ∧ own[k]? = some (some a) ∧ H a = some (.lst vs) ∧
    ER K (Γ.set k (.pd (moR (md Γ k)) a)) G (upd H0 a (.lst vs)) (own.set k none) env σ H := by
  obtain ⟨v, hv, so⟩ := R.sl k d (dV_get hd)
  obtain ⟨a, vs, ds, rfl, ho, hH, rfl, hds⟩ := slotM_of hm so
  have n0 := (R.fr k a ho).1
  have key : ∀ (j : Nat) (b : Addr), (own.set k none)[j]? = some (some b) → j ≠ k ∧ own[j]? = some (some b) := fun j b h => by
    by_cases hj : k = j
    · subst hj
      rw [List.getElem?_set_self (List.getElem?_eq_some_iff.mp ho).1] at h
      cases h
    · rw [List.getElem?_set_ne hj] at h
      exact ⟨fun z => hj z.symm, h⟩
  have s0 : Same H0 (upd H0 a (.lst vs)) := same_new n0
  refine ⟨a, vs, n0, ho, hH, R.gs.trans s0, fun b o e => ?_, fun i j b hi hj => R.inj i j b (key i b hi).2 (key j b hj).2, fun i b hi => ?_, R.le, by rw [List.length_set]; exact R.ol, fun j d hj => ?_⟩
  · by_cases z : b = a
    · subst z; rw [upd_same] at e; cases e; exact hH
    · rw [upd_ne z] at e; exact R.ex _ _ e
  · obtain ⟨ne, hi⟩ := key i b hi
    obtain ⟨h1, o, h2⟩ := R.fr i b hi
    refine ⟨?_, o, h2⟩
    have nb : b ≠ a := fun z => by subst z; exact ne (R.inj i k b hi ho)
    rw [upd_ne nb]
    exact h1
  · obtain ⟨w, hw, so'⟩ := R.sl j d hj
    refine ⟨w, hw, ?_⟩
    by_cases z : k = j
    · subst z
      rw [md_self (isM_lt hm)]
      rw [hv] at hw
      cases hw
      obtain ⟨a', vs', ds', e1, e2, e3, rfl, e4⟩ := slotM_of hm so'
      cases e1
      rw [hH] at e3
      cases e3
      refine ⟨rfl, vs, _, upd_same, rfl, ?_⟩
      rw [pr_mo]
      exact dps_mono (pin_sub R ho (by cases md Γ k <;> intro z <;> cases z)) _ _ e4
    · rw [md_ne z]
      exact so'.step2 (fun hr => pin_sub R ho hr) s0 fun b hb => ⟨by rw [List.getElem?_set_ne z]; exact hb, fun o q => q⟩
theorem unpin_sub {a : Addr} {vs : List V} (gs : Same G H0) (n0 : H0 a = none) (hr : r ≠ .bo) : Same (rg r G (upd H0 a (.lst vs)) own H) (rg r G H0 (own.set k (some a)) H) := fun b o q => by
  obtain ⟨i, e⟩ := rg_iff.mp q
  refine rg_iff.mpr ⟨?_, e⟩
  have ga : G a = none := by
    cases q : G a with
    | none => rfl
    | some o => have := gs _ _ q; rw [n0] at this; cases this
  have now : b ≠ a → ¬ Ow own b → ¬ Ow (own.set k (some a)) b := fun ne h z => (ow_of_set z).elim h ne
  cases r with
  | bo => exact absurd rfl hr
  | nw =>
    have ne : b ≠ a := fun z => by have := i.2.1; rw [z, upd_same] at this; cases this
    exact ⟨now ne i.1, by have := i.2; unfold Nw at this ⊢; rw [upd_ne ne] at this; exact this⟩
  | od =>
    have ne : b ≠ a := fun z => by
      rcases i.2 with h | h
      · have h := h.1; rw [z, upd_same] at h; cases h
      · rw [z] at h; exact h ga
    exact ⟨now ne i.1, by have := i.2; unfold Nw at this ⊢; rw [upd_ne ne] at this; exact this⟩
theorem ER.unpin {a : Addr} {vs : List V} (gs : Same G H0) (n0 : H0 a = none) (hm : isM (md Γ k) = true) (hf : Γ.all flat = true) (R : ER K (Γ.set k (.pd (moR (md Γ k)) a)) G (upd H0 a (.lst vs)) own env σ H) : ER K Γ G H0 (own.set k (some a)) env σ H := by
  have key : ∀ (j : Nat) (b : Addr), (own.set k (some a))[j]? = some (some b) → (j = k ∧ b = a) ∨ (j ≠ k ∧ b ≠ a ∧ own[j]? = some (some b)) := fun j b h => by
    by_cases hj : k = j
    · subst hj
      by_cases hl : k < own.length
      · rw [List.getElem?_set_self hl] at h; cases h; exact .inl ⟨rfl, rfl⟩
      · rw [List.getElem?_eq_none (by rw [List.length_set]; omega)] at h; cases h
    · rw [List.getElem?_set_ne hj] at h
      refine .inr ⟨fun z => hj z.symm, fun z => ?_, h⟩
      have := (R.fr j b h).1
      rw [z, upd_same] at this
      cases this
  have s0 : Same H0 (upd H0 a (.lst vs)) := same_new n0
  refine ⟨gs, s0.trans R.ex, fun i j b hi hj => ?_, fun i b hi => ?_, R.le, by rw [List.length_set]; exact R.ol, fun j d hj => ?_⟩
  · rcases key i b hi with ⟨i1, b1⟩ | ⟨i1, b1, i2⟩ <;> rcases key j b hj with ⟨j1, c1⟩ | ⟨j1, c1, j2⟩
    · rw [i1, j1]
    · exact absurd b1 c1
    · exact absurd c1 b1
    · exact R.inj i j b i2 j2
  · rcases key i b hi with ⟨i1, rfl⟩ | ⟨i1, b1, i2⟩
    · exact ⟨n0, _, R.ex _ _ upd_same⟩
    · obtain ⟨h1, o, h2⟩ := R.fr i b i2
      exact ⟨s0.free h1, o, h2⟩
  · obtain ⟨w, hw, so⟩ := R.sl j d hj
    refine ⟨w, hw, ?_⟩
    by_cases z : k = j
    · subst z
      rw [md_self (isM_lt hm)] at so
      obtain ⟨rfl, us, ds, h1, rfl, h2⟩ := so
      rw [upd_same] at h1
      cases h1
      have hk : k < own.length := by
        have := (List.getElem?_eq_some_iff.mp hw).1
        exact Nat.lt_of_lt_of_le this R.ol
      rw [pr_mo] at h2
      have fin : SlotM K (moR (md Γ k)) G H0 (own.set k (some a)) H k (.ref a) (.list ds) := ⟨a, vs, ds, rfl, List.getElem?_set_self hk, R.ex _ _ upd_same, rfl, dps_mono (unpin_sub gs n0 (by cases md Γ k <;> intro z <;> cases z)) _ _ h2⟩
      cases hh : md Γ k with
      | mo => rw [hh] at fin; exact fin
      | mn => rw [hh] at fin; exact fin
      | _ => rw [hh] at hm; cases hm
    · rw [md_ne z] at so
      have fl : flat (md Γ j) = true := by
        unfold md
        rw [List.getD_eq_getElem?_getD]
        cases e : Γ[j]? with
        | none => rfl
        | some m => exact List.all_eq_true.mp hf m (List.mem_of_getElem? e)
      exact so.step3 (fun hr => unpin_sub gs n0 hr) fl fun b hb => ⟨by rw [List.getElem?_set_ne z]; exact hb, fun o q => q⟩
end
/-- reckoned only where slot k holds something -/
def pinF {α : Type} (k : Nat) (f : SE → Option α) (e : SE) : Option α := (dV k e).bind fun _ => f e
def pinK {α : Type} (f : SE → Option α) (e : SE) (_ : D) : Option α := f e
theorem v_pinF {α : Type} {k : Nat} {f : SE → Option α} {e : SE} : pinF k f e = (dV k e).bind (pinK f e) := rfl
theorem k_pin {α : Type} {f : SE → Option α} {e : SE} {d : D} : pinK f e d = f e := rfl
theorem pinF_ok {α : Type} {k : Nat} {f : SE → Option α} {e : SE} {x : α} (h : pinF k f e = some x) : (∃ d, dV k e = some d) ∧ f e = some x := by
  unfold pinF at h
  cases q : dV k e with
  | none => rw [q] at h; cases h
  | some d => rw [q] at h; exact ⟨⟨d, rfl⟩, h⟩
section
variable {K : PySem.W.Frag} {Γ : List Md} {k : Nat} {u : Bool} {r : Rl}
theorem ok_pinE {f : SE → Option D} {t : TE} (hm : isM (md Γ k) = true) (h : ∀ a, OkE K (Γ.set k (.pd (moR (md Γ k)) a)) r f t) : OkE K Γ r (pinF k f) t := fun G H0 own env σ H Q d R q c => by
  obtain ⟨⟨x, e1⟩, q⟩ := pinF_ok q
  obtain ⟨a, vs, n0, ho, hH, R'⟩ := R.pin hm e1
  refine h a G _ _ env σ H Q d R' q fun v H' s p => c v H' s ?_
  have := pin_back (r := r) (vs := vs) (ex := []) (H' := H') R.gs n0 ho R.inj
  rw [List.append_nil, List.append_nil] at this
  exact dp_mono this _ _ p
theorem ok_pinT {f : SE → Option Bool} {t : TT} (hm : isM (md Γ k) = true) (h : ∀ a, OkT K (Γ.set k (.pd (moR (md Γ k)) a)) f t) : OkT K Γ (pinF k f) t := fun G H0 own env σ H Q d R q c => by
  obtain ⟨⟨x, e1⟩, q⟩ := pinF_ok q
  obtain ⟨a, vs, n0, ho, hH, R'⟩ := R.pin hm e1
  exact h a G _ _ env σ H Q d R' q c
theorem ok_pinL {f : SE → Option (List D)} {t : TE} (hm : isM (md Γ k) = true) (h : ∀ a, OkL K (Γ.set k (.pd (moR (md Γ k)) a)) r f t) : OkL K Γ r (pinF k f) t := fun G H0 own env σ H Q d R q c => by
  obtain ⟨⟨x, e1⟩, q⟩ := pinF_ok q
  obtain ⟨a, vs, n0, ho, hH, R'⟩ := R.pin hm e1
  refine h a G _ _ env σ H Q d R' q fun v us H' s n e p => c v us H' s n e ?_
  exact dps_mono (pin_back R.gs n0 ho R.inj) _ _ p
theorem ret_base {G H0 H0' H : Hp} {v : V} {d : D} (s : Same H0 H0') (p : RetOk K u r G H0' H v d) : RetOk K u r G H0 H v d := by
  cases u with
  | true =>
    obtain ⟨a, vs, ds, h1, h2, h3, h4, h5⟩ := p
    exact ⟨a, vs, ds, h1, h2, s.free h3, h4, dps_mono (rg_base s) _ _ h5⟩
  | false => exact dp_mono (rg_base s) _ _ p
theorem ok_pinS {g : SE → Option Rs} {t : TS} (hm : isM (md Γ k) = true) (hf : Γ.all flat = true) (h : ∀ a, OkS K (Γ.set k (.pd (moR (md Γ k)) a)) u r g t) : OkS K Γ u r (pinF k g) t := fun G H0 own env σ H D res R z p => by
  obtain ⟨⟨x, e1⟩, z⟩ := pinF_ok z
  obtain ⟨a, vs, n0, ho, hH, R'⟩ := R.pin hm e1
  refine h a G _ _ env σ H D res R' z ?_
  have gr : ∀ own' H', Gr (own.set k none) H own' H' → Same (upd H0 a (.lst vs)) H' → (∀ (i : Nat) (b : Addr), own'[i]? = some (some b) → upd H0 a (.lst vs) b = none) → Gr own H (own'.set k (some a)) H' := fun own' H' g s fr b o nb e => by
    obtain ⟨h1, h2⟩ := g b o (fun z => nb (let ⟨j, _, q⟩ := ow_unset z; ⟨j, q⟩)) e
    exact ⟨fun z => (ow_of_set z).elim h1 fun q => nb (q ▸ ⟨k, ho⟩), h2⟩
  cases res with
  | nx e => exact fun own' σ' H' R2 g => p _ σ' H' (R2.unpin R.gs n0 hm hf) (gr own' H' g R2.ex fun i b q => (R2.fr i b q).1)
  | bk e => exact fun own' σ' H' R2 g => p _ σ' H' (R2.unpin R.gs n0 hm hf) (gr own' H' g R2.ex fun i b q => (R2.fr i b q).1)
  | ct e => exact fun own' σ' H' R2 g => p _ σ' H' (R2.unpin R.gs n0 hm hf) (gr own' H' g R2.ex fun i b q => (R2.fr i b q).1)
  | rt d => exact fun v H' s q => p v H' ((same_new n0).trans s) (ret_base (same_new n0) q)
end
section
variable {X : Cx} {Γ : List Md} {u : Bool} {r : Rl} {e tg : Expr} {st : Stmt} {x : Str} {pos : Pos}
theorem v_pin (k : Nat) {f : SE → Option D} {t : TE} (h : ∀ a, VE X (Γ.set k (.pd (moR (md Γ k)) a)) e r f t) (hm : isM (md Γ k) = true := by rfl) : VE X Γ e r (pinF k f) t := ⟨(h 0).pe, ok_pinE hm fun a => (h a).ok⟩
theorem vt_pin (k : Nat) {f : SE → Option Bool} {t : TT} (h : ∀ a, VT X (Γ.set k (.pd (moR (md Γ k)) a)) e f t) (hm : isM (md Γ k) = true := by rfl) : VT X Γ e (pinF k f) t := ⟨(h 0).pt, ok_pinT hm fun a => (h a).ok⟩
theorem vl_pin (k : Nat) {f : SE → Option (List D)} {t : TE} (h : ∀ a, VL X (Γ.set k (.pd (moR (md Γ k)) a)) e r f t) (hm : isM (md Γ k) = true := by rfl) : VL X Γ e r (pinF k f) t := ⟨(h 0).pe, ok_pinL hm fun a => (h a).ok⟩
theorem vs_pin (k : Nat) {g : SE → Option Rs} {t : TS} (h : ∀ a, VS X (Γ.set k (.pd (moR (md Γ k)) a)) u r st g t) (hm : isM (md Γ k) = true := by rfl) (hf : Γ.all flat = true := by rfl) : VS X Γ u r st (pinF k g) t := ⟨(h 0).ps, ok_pinS hm hf fun a => (h a).ok⟩
theorem vi_listB (k : Nat) {a : Addr} (hm : md Γ k = .pd r a := by rfl) (hN : X.N[k]? = some x := by rfl) (hv : Vis X.env.scope x := by first | exact Or.inl rfl | exact Or.inr (Or.inl rfl) | exact Or.inr (Or.inr rfl)) (hd : (x == ("__debug__" : Str)) = false := by decide)
    (hcd : (x == ("__classdict__" : Str)) = false := by decide) : VI X Γ tg (.Name x pos) (pr r) (iL (dV k)) (iList X.K (tVar k)) := ⟨pi_list (pe_var hN hv hd hcd), fun G H0 own env σ H R ds E z c => by
  unfold iL at z
  cases e1 : dV k env with
  | none => rw [e1] at z; cases z
  | some x =>
    rw [e1] at z
    simp only [Option.bind_some] at z
    obtain ⟨v, h1, h2⟩ := E.sl k _ (dV_get e1)
    rw [hm] at h2
    obtain ⟨rfl, vs, es, h3, rfl, hd⟩ := h2
    cases z
    refine ⟨_, h1, _, rfl, ⟨_, SqL.of (E.ex _ _ h3)⟩, c _ H (Same.refl H) fun own2 H2 gr s0 _ => ?_⟩
    have hs2 := SqL.of (K := X.K) (s0 _ _ h3)
    have hd2 := dps_mono (rg_gr gr pr_bo) _ _ hd
    refine ⟨fun i d hi => ?_, ⟨_, hs2, by rw [dps_len hd2]; exact Nat.le_refl _⟩⟩
    obtain ⟨w, g1, g2⟩ := dps_get hd2 hi
    refine ⟨⟨_, w, hs2, g1⟩, fun y H' hy => ?_⟩
    obtain ⟨rfl, hy⟩ := hy
    have e : y = w := Option.some.inj ((hy _ hs2).symm.trans g1)
    rw [e]
    exact ⟨Same.refl _, g2⟩⟩
/-- a statement that is not come to -/
theorem vs_never : VS X Γ u r st (fun _ => none) (fun _ _ _ => False) := ⟨⟨fun pins s σ H D I h => h.elim⟩, fun G H0 own env σ H D res R z p => by cases z⟩
end

/-! ### min of a list of alike data -/
section
open PySem.W PySem.SeqAt
variable {prog : Program} {w : World} {A : Around} {E : Value → Shared → Prop} {s : Shared}
theorem min_at {l : Addr} {vs : Array Value} {x : PyData} {xs : List PyData} {as : List Addr} {Q : Value → Shared → Prop} (hh : A.handled = none) (hl : s.heap.IsList l vs) (hr : ReadsAll s.heap vs.toList (x :: xs) as) (ha : AlikeAll (x :: xs)) (hu : A.units + 1 + PyData.depthAll (x :: xs) < cLine)
    (h : ∀ (i : Nat) v h' tk, vs[i]? = some v → (x :: xs).getD i .none = minD x xs → (∀ b o, s.heap.get? b = some o → h'.get? b = some o) → Q v { s with heap := h', toks := tk }) :
    wpAny (model prog w) A (call (.builtin "min") [.ref l]) Q E s := by
  have hn : vs.size = xs.length + 1 := readsAll_len hr
  refine call_min_walkH (iter_listW (A := A.in1) hh hl fun s₂ e W st hfp hw hk => ?_)
  refine ⟨_, _, _, _, _, _, _, s.heap, _, rfl, W, st, hfp, by omega, hw, hk, cmpIn_lt (A := A.in1) hr ha (by show A.units + 1 + _ < _; exact hu), fun v s' hP m => ?_⟩
  obtain ⟨h', tk, rfl, hk'⟩ := moved_old e rfl m
  have e1 : vs.size - 1 = xs.length := by omega
  have e2 := (argBest_fold dataLt PyData.none x xs xs.length (Nat.le_refl _)).2
  rw [List.take_length] at e2
  rw [e1] at hP
  exact h _ v h' tk hP (by unfold minD; rw [← e2]) hk'
end
def alB (xs : List D) : Bool := xs.all (fun x => xs.all fun y => PySem.W.alike x y) && xs.all (fun x => !isNone x) && decide (PyData.depthAll xs ≤ 32)
def hMinL : List D → Option D
  | [.list (x :: xs)] => if alB (x :: xs) = true then some (PySem.W.minD x xs) else none
  | _ => none
section
variable {X : Cx}
def rMinD (K : PySem.W.Frag) : List V → Hp → VK → Prop := fun vs H Q => ∃ (a : Addr) (us : List V) (x : D) (xs : List D), vs = [V.ref a] ∧ SqL K H a us ∧ DpAll K H us (x :: xs) ∧ alB (x :: xs) = true ∧ ∀ (i : Nat) v, us[i]? = some v → (x :: xs)[i]? = some (PySem.W.minD x xs) → Q v H
theorem cr_minD (hc : X.calm = true) (hu : X.A.units + 64 < cLine) : CallR X (.builtin "min") (rMinD X.K) := by
  intro pins s σ H vs us Q I r h
  obtain ⟨a, ws, x, xs, rfl, hs, hd, hal, q⟩ := h
  obtain ⟨its, rv, hl, _⟩ := I.list hs
  rw [Vals.ref1 r]
  obtain ⟨as, hr⟩ := Dp.readsAll I _ _ its hd rv
  unfold alB at hal
  rw [Bool.and_eq_true, Bool.and_eq_true, decide_eq_true_eq] at hal
  have hA : PySem.W.AlikeAll (x :: xs) := ⟨fun u hu v hv => List.all_eq_true.mp (List.all_eq_true.mp hal.1.1 u hu) v hv, fun u hu e => by
    have := List.all_eq_true.mp hal.1.2 u hu
    rw [e] at this
    cases this⟩
  refine min_at (I.ok.hd hc) hl.isList (show ReadsAll s.heap its.toArray.toList (x :: xs) as from hr) hA (by omega) fun i v h' tk hv hi hk => ?_
  have hv' : its[i]? = some v := by rw [← hv]; simp
  have hlen : its.length = (x :: xs).length := by rw [← rv.length, dps_len hd]
  have hi1 : i < (x :: xs).length := by rw [← hlen]; exact (List.getElem?_eq_some_iff.mp hv').1
  have hw1 : i < ws.length := by rw [rv.length, hlen]; exact hi1
  obtain ⟨u, hu1, ru⟩ := rv.get (List.getElem?_eq_getElem hw1)
  rw [hv'] at hu1
  cases hu1
  refine ⟨_, H, I.kept hk, ru, q i _ (List.getElem?_eq_getElem hw1) ?_⟩
  rw [← hi, List.getD_eq_getElem?_getD, List.getElem?_eq_getElem hi1]
  rfl
end
section
variable {X : Cx} {Γ : List Md} {r rb : Rl} {e a b : Expr} {es : List Expr} {f g : SE → Option D} {fs : SE → Option (List D)} {ts : TA} {t ta tb : TE} {p pos : Pos} {x : Str}
theorem v_minD (hc : X.calm = true) (hu : X.A.units + 64 < cLine) (hm : X.mg "min" = none) (ha : VA X Γ [a] r fs ts) (hg : Gl X "min" := by rfl)
    (he : starEach [a] X.env = (false, eval a X.env) :: starEach [] X.env := by rfl) (hpl : (backTo pos (starEach [] X.env)).any (·.1) = false := by rfl) : VE X Γ (.Call (.Name "min" p) [a] [] pos) r (dA hMinL fs) (tCB (rMinD X.K) ts) :=
  ⟨pe_callB (cr_minD hc hu) hg hm (by decide +kernel) ha.pa (by decide) (by decide) he hpl, fun G H0 own env σ H Q d R z k => by
    unfold dA at z
    cases e1 : fs env with
    | none => rw [e1] at z; cases z
    | some y =>
      rw [e1] at z
      simp only [Option.bind_some] at z
      match y, e1, z with
      | [.list (x :: xs)], e1, z =>
        have z : (if alB (x :: xs) = true then some (PySem.W.minD x xs) else none) = some d := z
        obtain ⟨hal, rfl⟩ := ite_some z
        refine ha.ok G H0 own env σ H _ _ R e1 fun vs H1 s1 c => ?_
        match vs, c with
        | _, .cons (.lst hs hd) .nil =>
          refine ⟨_, _, x, xs, rfl, rg_sub.seq hs, dps_mono rg_sub _ _ hd, hal, fun i v hv hi => k v H1 s1 ?_⟩
          obtain ⟨v', e1, e2⟩ := dps_get hd hi
          rw [hv] at e1
          cases e1
          exact e2⟩
end
/-! ### list(range(..)) -/
def rgD (i j : Int) : List D := rangeD i (j - i).toNat
def hRg1 (x : List D) : Option (List D) := match x with
  | [.int j] => if -1000000 < j ∧ j < 1000000 then some (rangeD 0 j.toNat) else none
  | _ => none
theorem rgV_dps {K : PySem.W.Frag} {H : Hp} (j : Int) : DpAll K H (rgV 0 j) (rangeD 0 j.toNat) := by
  refine dps_of_get (by rw [rgV_length]; unfold rangeD; simp) fun m d' e => ?_
  unfold rangeD at e
  rw [List.getElem?_map] at e
  cases q : (List.range j.toNat)[m]? with
  | none => rw [q] at e; cases e
  | some k =>
    rw [q] at e
    cases e
    obtain ⟨h1, h2⟩ := List.getElem?_eq_some_iff.mp q
    rw [List.getElem_range] at h2
    subst h2
    rw [List.length_range] at h1
    refine ⟨.int (0 + (m : Nat)), ?_, .int _⟩
    unfold rgV
    rw [List.getElem?_map, List.getElem?_range (by omega)]
    rfl
section
variable {X : Cx} {Γ : List Md} {r rb : Rl} {e a b : Expr} {f g : SE → Option D} {fs : SE → Option (List D)} {ts : TA} {t ta tb : TE} {p p2 pos pos2 : Pos} {x : Str}
def lRng (f : SE → Option D) (e : SE) : Option (List D) := (f e).bind fun x => hRg1 [x]
theorem vl_rng (hc : X.calm = true) (hm : X.mg "list" = none) (hm2 : X.mg "range" = none) (ha : VE X Γ a r f ta) (hg : Gl X "list" := by rfl) (hg2 : Gl X "range" := by rfl) (na : starEach [a] X.env = (false, eval a X.env) :: starEach [] X.env := by rfl)
    (na2 : starEach [.Call (.Name "range" p2) [a] [] pos2] X.env = (false, eval (.Call (.Name "range" p2) [a] [] pos2) X.env) :: starEach [] X.env := by rfl) :
    VL X Γ (.Call (.Name "list" p) [.Call (.Name "range" p2) [a] [] pos2] [] pos) .nw (lRng f) (tLstRg (tRg1 ta)) := ⟨pe_listRg hc hg hm (prg_1 hg2 hm2 ha.pe na) na2, fun G H0 own env σ H Q ds R z k => by
  unfold lRng at z
  cases e1 : f env with
  | none => rw [e1] at z; cases z
  | some y =>
    rw [e1] at z
    simp only [Option.bind_some] at z
    cases y with
    | int j =>
      simp only [hRg1] at z
      by_cases q : -1000000 < j ∧ j < 1000000
      · rw [if_pos q] at z
        cases z
        refine ha.ok G H0 own env σ H _ _ R e1 fun v H1 s1 c => ?_
        cases c
        refine ⟨j, rfl, ⟨by omega, by omega, by omega, by omega, by omega⟩, fun w hw => k w _ _ (s1.trans (same_new hw)) (s1.free hw) upd_same (rgV_dps j)⟩
      · rw [if_neg q] at z; cases z
    | _ => cases z⟩
end
/-! ### sorted of pairs of numbers -/
def pairs? : List D → Option (List (Int × Int))
  | [] => some []
  | .tuple [.int a, .int b] :: r => (pairs? r).map ((a, b) :: ·)
  | _ => none
def pD (p : Int × Int) : D := .tuple [.int p.1, .int p.2]
theorem pairs_is : ∀ {ds : List D} {ps : List (Int × Int)}, pairs? ds = some ps → ds = ps.map pD
  | [], _, h => by cases h; rfl
  | d :: r, ps, h => by
    unfold pairs? at h
    split at h
    · rename_i h1; cases h1
    · rename_i a b r' h1
      cases h1
      cases e : pairs? r with
      | none => rw [e] at h; cases h
      | some qs =>
        rw [e] at h
        cases h
        rw [List.map_cons, pairs_is e]
        rfl
    · cases h
theorem pairs_map : ∀ ps : List (Int × Int), pairs? (ps.map pD) = some ps
  | [] => rfl
  | p :: ps => by
    rw [List.map_cons]
    show (pairs? (ps.map pD)).map ((p.1, p.2) :: ·) = _
    rw [pairs_map ps]
    rfl
def leP (p q : Int × Int) : Bool := decide (p.1 < q.1 ∨ (p.1 = q.1 ∧ p.2 ≤ q.2))
def sortP (ps : List (Int × Int)) : List (Int × Int) := ps.mergeSort leP
theorem sortP_unique {ps qs : List (Int × Int)} (h1 : qs.Perm ps) (h2 : qs.Pairwise (fun p q => leP p q = true)) : qs = sortP ps := by
  have p : (sortP ps).Perm ps := List.mergeSort_perm _ _
  have s : (sortP ps).Pairwise (fun p q => leP p q = true) := List.pairwise_mergeSort (le := leP) (fun a b c h1 h2 => by unfold leP at *; simp only [decide_eq_true_eq] at *; omega) (fun a b => by unfold leP; simp only [Bool.or_eq_true, decide_eq_true_eq]; omega) ps
  refine List.Perm.eq_of_pairwise (fun a b _ _ h1 h2 => ?_) h2 s (h1.trans p.symm)
  unfold leP at h1 h2
  simp only [decide_eq_true_eq] at h1 h2
  exact Prod.ext (by omega) (by omega)
def rSortedPQ (K : PySem.W.Frag) : List V → Hp → VK → Prop := fun vs H Q => ∃ (a : Addr) (xs : List V) (ps : List (Int × Int)), vs = [V.ref a] ∧ SqL K H a xs ∧ xs.length = ps.length ∧ (∀ (i : Nat) x q, xs[i]? = some x → ps[i]? = some q → ∃ t, x = V.ref t ∧ SqT K H t [.int q.1, .int q.2]) ∧
  ∀ ys p, ys.length = ps.length → (∀ (m : Nat) y, ys[m]? = some y → ∃ i : Nat, xs[i]? = some y ∧ ps[i]? = (sortP ps)[m]?) → H p = none → Q (.ref p) (upd H p (.lst ys))
open Classical in
theorem cr_sortedPQ {X : Cx} : CallR X (.builtin "sorted") (rSortedPQ X.K) := by
  intro pins s σ H vs us Q I r h
  obtain ⟨a, xs, ps, rfl, hs, hlen, hx, q⟩ := h
  let k : V → Int × Int := fun v => if h : ∃ q : Int × Int, ∃ t, v = V.ref t ∧ SqT X.K H t [.int q.1, .int q.2] then Classical.choose h else (0, 0)
  have hk : ∀ (i : Nat) x q, xs[i]? = some x → ps[i]? = some q → k x = q := fun i x q h1 h2 => by
    obtain ⟨t, rfl, ht⟩ := hx i x q h1 h2
    have h : ∃ q : Int × Int, ∃ t', V.ref t = V.ref t' ∧ SqT X.K H t' [.int q.1, .int q.2] := ⟨q, t, rfl, ht⟩
    show (if h : ∃ q : Int × Int, ∃ t', V.ref t = V.ref t' ∧ SqT X.K H t' [.int q.1, .int q.2] then Classical.choose h else (0, 0)) = q
    rw [dif_pos h]
    obtain ⟨t', e, h3⟩ := Classical.choose_spec h
    cases e
    have e2 := I.tuple_inj ht h3
    generalize Classical.choose h = q' at e2
    simp only [List.cons.injEq, V.int.injEq] at e2
    exact Prod.ext e2.1.symm e2.2.1.symm
  have at' : ∀ (i : Nat) x, xs[i]? = some x → ∃ q, ps[i]? = some q := fun i x h1 => by
    have := (List.getElem?_eq_some_iff.mp h1).1
    exact ⟨ps[i], List.getElem?_eq_getElem (by omega)⟩
  have hx' : ∀ x ∈ xs, ∃ t, x = V.ref t ∧ SqT X.K H t [.int (k x).1, .int (k x).2] := fun x hm => by
    obtain ⟨i, hi⟩ := List.getElem?_of_mem hm
    obtain ⟨q, hq⟩ := at' i x hi
    rw [hk i x q hi hq]
    exact hx i x q hi hq
  have hmap : xs.map k = ps := by
    refine List.ext_getElem? fun i => ?_
    rw [List.getElem?_map]
    cases e : xs[i]? with
    | none =>
      have := List.getElem?_eq_none_iff.mp e
      rw [List.getElem?_eq_none (by omega)]
      rfl
    | some x =>
      obtain ⟨q, hq⟩ := at' i x e
      rw [hq, ← hk i x q e hq]
      rfl
  obtain ⟨its, rv, hl, hz⟩ := I.list hs
  obtain ⟨u, rfl, ru⟩ := vals1 r
  obtain rfl : u = Value.ref a := ru
  obtain ⟨e1, e2⟩ := refs_back rv fun x m => by
    obtain ⟨t, e, _⟩ := hx' x m
    exact ⟨t, e⟩
  refine SrtO.sorted_pairsO (k := fun u => k (backV u)) hl.isList (by rw [← rv.length]; exact hz) (fun v hv => ?_) fun h' d out h1 h2 kp hd hn => ?_
  · obtain ⟨t, rfl⟩ := e2 v hv
    have hm : V.ref t ∈ xs := by rw [e1]; exact List.mem_map.mpr ⟨_, hv, rfl⟩
    obtain ⟨t', e, ht⟩ := hx' _ hm
    cases e
    obtain ⟨its2, r2, ⟨o, ho, hc, n, hd⟩, _⟩ := I.tuple ht
    obtain ⟨u1, u2, rfl, ri, rj⟩ := vals2 r2
    obtain ⟨t1, rfl⟩ := ri
    obtain ⟨t2, rfl⟩ := rj
    exact ⟨t, o, t1, t2, n, rfl, ho, hc, hd⟩
  · have h3 : ∀ u ∈ out, ∃ a, u = Value.ref a := fun u hu => e2 u (h2.perm.mem_iff.mp hu)
    obtain ⟨n, hn⟩ := hn
    have hb : SrtO.Stb (ltP k) (out.map backV) xs := by
      rw [e1]
      exact SrtO.Stb.map (ltP_swo k) backV h2
    have hsd : SrtO.Srtd (ltP k) (out.map backV) := SrtO.srtd_map h1
    have hq : (out.map backV).map k = sortP ps := by
      refine sortP_unique ?_ ?_
      · rw [← hmap]
        exact hb.perm.map k
      · refine List.pairwise_map.mpr (List.Pairwise.imp ?_ hsd)
        intro x y hxy
        have := SrtO.lexB_no.mp hxy
        unfold leP
        rw [decide_eq_true_eq]
        omega
    refine ⟨.ref d, upd H d (.lst (out.map backV)), I.laid (t' := s.toks) kp hd ⟨?_, out, n, vals_back h3, hn⟩, rfl, q _ d (by rw [hb.len, hlen]) (fun m y hy => ?_) (I.hok.fresh hd)⟩
    · rw [hb.len]
      exact hz
    · obtain ⟨i, hi⟩ := List.getElem?_of_mem (hb.perm.mem_iff.mp (List.mem_of_getElem? hy))
      obtain ⟨p, hp⟩ := at' i y hi
      refine ⟨i, hi, ?_⟩
      rw [← hq, List.getElem?_map, hy, hp, ← hk i y p hi hp]
      rfl
def lSortP (f : SE → Option D) (e : SE) : Option (List D) := (f e).bind fun x => (list? x).bind fun xs => (pairs? xs).bind fun ps => some ((sortP ps).map pD)
section
variable {X : Cx} {Γ : List Md} {r : Rl} {a : Expr} {f : SE → Option D} {ta : TE} {p pos : Pos}
open Classical in
theorem vl_sortP (hm : X.mg "sorted" = none) (ha : VE X Γ a r f ta) (hg : Gl X "sorted" := by rfl) (he : starEach [a] X.env = (false, eval a X.env) :: starEach [] X.env := by rfl) (hpl : (backTo pos (starEach [] X.env)).any (·.1) = false := by rfl) :
    VL X Γ (.Call (.Name "sorted" p) [a] [] pos) r (lSortP f) (tCB (rSortedPQ X.K) (tCons ta tNil)) :=
  ⟨pe_callB cr_sortedPQ hg hm (by decide +kernel) (pa_cons ha.pe pa_nil he) (by decide) (by decide) he hpl, fun G H0 own env σ H Q ds R z c => by
    unfold lSortP at z
    cases e1 : f env with
    | none => rw [e1] at z; cases z
    | some x =>
      rw [e1] at z
      simp only [Option.bind_some] at z
      cases x with
      | list xs =>
        simp only [list?, Option.bind_some] at z
        cases e2 : pairs? xs with
        | none => rw [e2] at z; cases z
        | some ps =>
          rw [e2] at z
          cases z
          refine ha.ok G H0 own env σ H _ _ R e1 fun v H1 s1 p1 => ?_
          cases p1 with
          | lst hs hd =>
            rename_i a0 vs0
            rw [pairs_is e2] at hd
            have hl := dps_len hd
            rw [List.length_map] at hl
            refine ⟨a0, vs0, ps, rfl, rg_sub.seq hs, hl, fun i x q hx hq => ?_, fun ys q h1 h2 hq => ?_⟩
            · obtain ⟨d, g1, g2⟩ := dps_at hd hx
              rw [List.getElem?_map, hq] at g1
              cases g1
              cases g2 with
              | tup hs2 hd2 =>
                cases hd2 with
                | cons h1 h2 =>
                  cases h1
                  cases h2 with
                  | cons h3 h4 =>
                    cases h3
                    cases h4
                    exact ⟨_, rfl, same_t rg_sub hs2⟩
            · have hs3 : (sortP ps).length = ps.length := (List.mergeSort_perm _ _).length_eq
              refine c q ys _ (s1.trans (same_new hq)) (s1.free hq) upd_same (rg_new hq (dps_of_get (by rw [List.length_map, h1, hs3]) fun m d' e => ?_))
              rw [List.getElem?_map] at e
              cases q2 : (sortP ps)[m]? with
              | none => rw [q2] at e; cases e
              | some w =>
                rw [q2] at e
                cases e
                have hm : m < ys.length := by rw [h1, ← hs3]; exact (List.getElem?_eq_some_iff.mp q2).1
                obtain ⟨i, hi1, hi2⟩ := h2 m _ (List.getElem?_eq_getElem hm)
                rw [q2] at hi2
                obtain ⟨v', g1, g2⟩ := dps_get hd (i := i) (d := pD w) (by rw [List.getElem?_map, hi2]; rfl)
                rw [hi1] at g1
                cases g1
                exact ⟨_, List.getElem?_eq_getElem hm, g2⟩
      | _ => cases z⟩
end
/-! ### a list whose last item is a list of one's own -/
section
variable {K : PySem.W.Frag} {Γ : List Md} {G H0 H H' : Hp} {own own' : List (Option Addr)} {env : SE} {σ : L2.St} {i k : Nat} {v : V} {d : D} {m : Md} {r : Rl}
/-- a new list at slot i's place among one's own; the slot holds nothing yet -/
theorem ER.renew {p : Addr} {o : HO} (R : ER K Γ G H0 own env σ H) (hi : i < σ.length) (n : H p = none) : ER K Γ G H0 (own.set i (some p)) (env.set i none) σ (upd H p o) ∧ Gr own H (own.set i (some p)) (upd H p o) := by
  have s : Same H (upd H p o) := same_new n
  have hl : i < own.length := Nat.lt_of_lt_of_le hi R.ol
  have n0 : H0 p = none := R.new n
  have nO : ¬ Ow own p := R.live n
  refine ⟨⟨R.gs, R.ex.trans s, fun j k b hj hk => ?_, fun j b hj => ?_, by rw [List.length_set]; exact R.le, by rw [List.length_set]; exact R.ol, fun j d hj => ?_⟩, fun b o nb e => ⟨fun z => (ow_of_set z).elim nb fun q => ?_, s _ _ e⟩⟩
  · have key : ∀ j, (own.set i (some p))[j]? = some (some b) → (j = i ∧ b = p) ∨ (j ≠ i ∧ own[j]? = some (some b)) := fun j hj => by
      by_cases q : i = j
      · subst q
        rw [List.getElem?_set_self hl] at hj
        cases hj
        exact .inl ⟨rfl, rfl⟩
      · rw [List.getElem?_set_ne q] at hj
        exact .inr ⟨fun z => q z.symm, hj⟩
    rcases key j hj with ⟨j1, b1⟩ | ⟨j1, b1⟩ <;> rcases key k hk with ⟨k1, c1⟩ | ⟨k1, c1⟩
    · rw [j1, k1]
    · subst b1
      exact absurd ⟨k, c1⟩ nO
    · subst c1
      exact absurd ⟨j, b1⟩ nO
    · exact R.inj j k b b1 c1
  · by_cases q : i = j
    · subst q
      rw [List.getElem?_set_self hl] at hj
      cases hj
      exact ⟨n0, _, upd_same⟩
    · rw [List.getElem?_set_ne q] at hj
      obtain ⟨h1, o, h2⟩ := R.fr j b hj
      exact ⟨h1, o, s _ _ h2⟩
  · by_cases q : i = j
    · subst q
      by_cases hl2 : i < env.length
      · rw [List.getElem?_set_self hl2] at hj; cases hj
      · rw [List.getElem?_eq_none (by rw [List.length_set]; omega)] at hj; cases hj
    · rw [List.getElem?_set_ne q] at hj
      obtain ⟨w, h1, h2⟩ := R.sl j d hj
      refine ⟨w, h1, ?_⟩
      have sub : ∀ {rr : Rl}, rr ≠ .bo → Same (rg rr G H0 own H) (rg rr G H0 (own.set i (some p)) (upd H p o)) := fun {rr} hr => rg_gr (fun b o nb e => ⟨fun z => (ow_of_set z).elim nb fun q => (by rw [q, n] at e; cases e), s _ _ e⟩) hr
      exact h2.step sub fun b hb => ⟨by rw [List.getElem?_set_ne q]; exact hb, fun o => s _ _⟩
  · rw [q, n] at e; cases e
theorem rg_set {p : Addr} {o : HO} (n : H p = none) (hr : r ≠ .bo) : Same (rg r G H0 own H) (rg r G H0 (own.set i (some p)) (upd H p o)) := rg_gr (fun b o nb e => ⟨fun z => (ow_of_set z).elim nb fun q => (by rw [q, n] at e; cases e), same_new n _ _ e⟩) hr
end
def OkP (K : PySem.W.Frag) (Γ : List Md) (f : SE → Option (List D)) (t : TA) : Prop :=
  ∀ (G H0 : Hp) (own : List (Option Addr)) (env : SE) (σ : L2.St) (H : Hp) (Q : List V → Hp → Prop) (ds : List D), ER K Γ G H0 own env σ H → f env = some ds →
    (∀ vs H1 p, Same H H1 → DpAll K (rg .od G H0 own H1) vs ds → H1 p = none → Q (vs ++ [.ref p]) (upd H1 p (.lst []))) → t σ H Q
structure VP (X : Cx) (Γ : List Md) (es : List Expr) (f : SE → Option (List D)) (t : TA) : Prop where
  pa : PA X es t
  ln : ∀ env ds, f env = some ds → ds.length + 1 = es.length
  ok : OkP X.K Γ f t
def sSetP (i n : Nat) (f : SE → Option (List D)) (e : SE) : Option Rs := (f e).bind fun ds => if ds.length = n ∧ i < e.length then some (.nx (e.set i (some (.list (ds ++ [.list []]))))) else none
def setPK (i n : Nat) (e : SE) (ds : List D) : Option Rs := if ds.length = n ∧ i < e.length then some (.nx (e.set i (some (.list (ds ++ [.list []]))))) else none
def isMp : Md → Nat → Bool
  | .mp j, n => j == n
  | _, _ => false
theorem isMp_is {m : Md} {n : Nat} (h : isMp m n = true) : m = .mp n := by
  cases m with
  | mp j => exact congrArg Md.mp (beq_iff_eq.mp h)
  | _ => cases h
section
variable {X : Cx} {Γ : List Md} {u : Bool} {r ra re : Rl} {a e : Expr} {es : List Expr} {f : SE → Option D} {fs : SE → Option (List D)} {t te : TE} {ts : TA} {x : Str} {pos pos' px apos cpos spos ipos : Pos}
theorem vp_one : VP X Γ [.List [] pos] dNil (tCons (tLst tNil) tNil) := ⟨pa_cons (pe_lst pa_nil) pa_nil, fun env ds z => by cases z; rfl, fun G H0 own env σ H Q ds R z k => by
  cases z
  exact ⟨Nat.zero_le _, fun p hp => k [] H p (Same.refl H) .nil hp⟩⟩
theorem vp_cons (ha : VE X Γ a .od f t) (hb : VP X Γ es fs ts) (hs : starEach (a :: es) X.env = (false, eval a X.env) :: starEach es X.env := by rfl) : VP X Γ (a :: es) (dCons f fs) (tCons t ts) := ⟨pa_cons ha.pe hb.pa hs, fun env ds z => by
  unfold dCons at z
  cases e1 : f env with
  | none => rw [e1] at z; cases z
  | some x =>
    cases e2 : fs env with
    | none => rw [e1, e2] at z; cases z
    | some y =>
      rw [e1, e2] at z
      cases z
      rw [List.length_cons, List.length_cons, ← hb.ln env y e2], fun G H0 own env σ H Q d R z k => by
  unfold dCons at z
  cases e1 : f env with
  | none => rw [e1] at z; cases z
  | some x =>
    cases e2 : fs env with
    | none => rw [e1, e2] at z; cases z
    | some y =>
      rw [e1, e2] at z
      cases z
      refine ha.ok G H0 own env σ H _ x R e1 fun v1 H1 s1 p1 => ?_
      refine hb.ok G H0 own env σ H1 _ y (R.ext s1) e2 fun vs H2 p s2 p2 n => ?_
      exact k (v1 :: vs) H2 p (s1.trans s2) (.cons (dp_mono (rg_ext s2) _ _ p1) p2) n⟩
theorem ok_setP {K : PySem.W.Frag} {i n : Nat} (hm : isMp (md Γ i) n = true) (hn : n + 1 ≤ 1000) (ha : OkP K Γ fs ts) : OkS K Γ u r (sSetP i n fs) (tAsg (tLst ts) (gName i)) := fun G H0 own env σ H D' res R z p => by
  unfold sSetP at z
  cases e1 : fs env with
  | none => rw [e1] at z; cases z
  | some ds =>
    rw [e1] at z
    simp only [Option.bind_some] at z
    by_cases q : ds.length = n ∧ i < env.length
    · rw [if_pos q] at z
      cases z
      refine ha G H0 own env σ H _ ds R e1 fun vs H1 a s1 hv na => ?_
      have hl := dps_len hv
      refine ⟨by rw [List.length_append, List.length_singleton, hl, q.1]; exact Nat.le_trans hn (by decide), fun b hb => ?_⟩
      have hi : i < σ.length := by rw [← R.le]; exact q.2
      obtain ⟨R1, g1⟩ := (R.ext s1).renew (o := .lst []) hi na
      have hne : b ≠ a := fun z => by rw [z, upd_same] at hb; cases hb
      have s2 := same_new (o := .lst (vs ++ [.ref a])) hb
      have R2 := R1.ext s2
      have hown : (own.set i (some a))[i]? = some (some a) := List.getElem?_set_self (Nat.lt_of_lt_of_le hi R.ol)
      have nb : ¬ Ow (own.set i (some a)) b := R1.live hb
      have hv2 : DpAll K (rg .od G H0 (own.set i (some a)) (upd (upd H1 a (.lst [])) b (.lst (vs ++ [.ref a])))) vs ds := dps_mono ((rg_set na (by intro z; cases z)).trans (rg_ext s2)) _ _ hv
      have so : SlotOk K (md Γ i) G H0 (own.set i (some a)) (upd (upd H1 a (.lst [])) b (.lst (vs ++ [.ref a]))) i (.ref b) (.list (ds ++ [.list []])) := by
        rw [isMp_is hm]
        refine ⟨b, a, vs ++ [.ref a], [], ds ++ [.list []], [], rfl, rg_iff.mpr ⟨⟨nb, R1.new hb, trivial⟩, upd_same⟩, ?_, hown, by rw [upd_ne (Ne.symm hne)]; exact upd_same, .nil, rfl, by rw [List.length_append, List.length_append, hl]; rfl, ?_, fun m d' hm' hd => ?_⟩
        · rw [← q.1, ← hl]; simp
        · rw [← q.1]; simp
        · by_cases hlt : m < ds.length
          · rw [List.getElem?_append_left hlt] at hd
            obtain ⟨v', g1, g2⟩ := dps_get hv2 hd
            exact ⟨v', by rw [List.getElem?_append_left (by rw [hl]; exact hlt)]; exact g1, g2⟩
          · have := (List.getElem?_eq_some_iff.mp hd).1
            rw [List.length_append, List.length_singleton] at this
            omega
      have R3 := R2.put i _ _ so
      rw [List.set_set] at R3
      exact p _ _ _ R3 (((Gr.of s1).trans g1).trans (Gr.of s2))
    · rw [if_neg q] at z; cases z
theorem vs_setP (i n : Nat) (hN : X.N.Nodup) (ha : VP X Γ es fs ts) (hm : isMp (md Γ i) n = true := by rfl) (hn : n + 1 ≤ 1000 := by decide) (hi : X.N[i]? = some x := by rfl) (hx : Loc X.env.scope x := by first | exact Or.inl rfl | exact Or.inr rfl) (hs : swapsWith (.List es spos) (some (.Name x pos')) pos.line X.env = pure false := by rfl)
    (hf : X.fn x = true ∨ X.env.scope.names.lookup x = some .local := by first | exact .inl rfl | exact .inr rfl) : VS X Γ u r (.Assign [.Name x pos'] (.List es spos) pos) (sSetP i n fs) (tAsg (tLst ts) (gName i)) := ⟨ps_set hN hi hx (pe_lst ha.pa) hs hf, ok_setP hm hn ha.ok⟩
end
/-- x[j].append(e) -/
def appPK4 (k j : Nat) (e : SE) (ds es' : List D) : Option Rs := some (.nx (e.set k (some (.list (ds.set j (.list es'))))))
def appPK3 (k j : Nat) (e : SE) (ds as : List D) (y : D) : Option Rs := (list? y).bind fun es => (hApp es as).bind (appPK4 k j e ds)
def appPK2 (k j : Nat) (e : SE) (ds as : List D) : Option Rs := (ds[j]?).bind (appPK3 k j e ds as)
def appPK1 (k j : Nat) (fs : SE → Option (List D)) (e : SE) (ds : List D) : Option Rs := (fs e).bind (appPK2 k j e ds)
def appPK (k j : Nat) (fs : SE → Option (List D)) (e : SE) (x : D) : Option Rs := (list? x).bind (appPK1 k j fs e)
def sAppP (k j : Nat) (fs : SE → Option (List D)) (e : SE) : Option Rs := (dV k e).bind (appPK k j fs e)
section
variable {X : Cx} {Γ : List Md} {u : Bool} {r ra re : Rl} {a e : Expr} {es : List Expr} {f : SE → Option D} {fs : SE → Option (List D)} {t te : TE} {ts : TA} {x : Str} {pos pos' px apos cpos spos ipos : Pos} {jj : Int} {kk : Nat}
theorem ok_appP {K : PySem.W.Frag} {k j : Nat} (hm : isMp (md Γ k) j = true) (hc : accE ra .od = true) (ha : OkA K Γ ra fs ts) :
    OkS K Γ u r (sAppP k j fs) (fun D σ H => (tBM K "list" rAppend (tOp (rIxL K) (tVar k) (tC (.int (j : Nat)))) ts) σ H fun _ H1 => D.nx σ H1) := fun G H0 own env σ H D' res R z p => by
  unfold sAppP at z
  cases e1 : dV k env with
  | none => rw [e1] at z; cases z
  | some y =>
    rw [e1] at z
    simp only [Option.bind_some, appPK] at z
    cases e2 : list? y with
    | none => rw [e2] at z; cases z
    | some ds0 =>
      rw [e2] at z
      simp only [Option.bind_some, appPK1] at z
      cases e3 : fs env with
      | none => rw [e3] at z; cases z
      | some as =>
        rw [e3] at z
        simp only [Option.bind_some, appPK2] at z
        cases e4 : ds0[j]? with
        | none => rw [e4] at z; cases z
        | some w =>
          rw [e4] at z
          simp only [Option.bind_some, appPK3] at z
          cases e5 : list? w with
          | none => rw [e5] at z; cases z
          | some es0 =>
            rw [e5] at z
            simp only [Option.bind_some] at z
            cases e6 : hApp es0 as with
            | none => rw [e6] at z; cases z
            | some ys =>
              rw [e6] at z
              simp only [Option.bind_some, appPK4] at z
              cases z
              obtain ⟨v, h1, h2⟩ := R.sl k y (dV_get e1)
              rw [isMp_is hm] at h2
              obtain ⟨b, q, vs, us, ds, es, rfl, g1, g2, g3, g4, g5, rfl, g6, g7, g8⟩ := h2
              cases e2
              rw [g7] at e4
              cases e4
              cases e5
              have hj : j < vs.length := (List.getElem?_eq_some_iff.mp g2).1
              have hb : H b = some (.lst vs) := rg_sub _ _ g1
              refine ⟨_, h1, b, vs, (j : Nat), .ref q, rfl, rfl, SqL.of hb, by rw [atI_in (by omega) (by omega), Int.toNat_natCast]; exact g2, .inl ⟨rfl, us, SqL.of g4⟩, ha G H0 own env σ H _ as R e3 fun ws H1 s1 c => ?_⟩
              have R1 := R.ext s1
              have g5' := dps_mono (rg_ext s1) _ _ g5
              obtain ⟨us', q1, q2⟩ := mu_app K H1 _ (fun _ H1 => D'.nx σ H1) q us ws _ as ys (s1 _ _ g4) g5' (dps_mono (rg_le (accE_le hc)) _ _ c) e6
              have how : Ow own q := ⟨k, g3⟩
              have gr : Gr own H1 own (upd H1 q (.lst us')) := Gr.chg how
              have hkl : k < σ.length := (List.getElem?_eq_some_iff.mp h1).1
              have R2 := (R1.forget k).chg (o := .lst us') g3 fun d e => by
                rw [List.getElem?_set_self (by rw [R.le]; exact hkl)] at e; cases e
              have sod : Same (rg .od G H0 own H1) (rg .od G H0 own (upd H1 q (.lst us'))) := rg_gr gr (by intro z; cases z)
              have hbq : b ≠ q := fun z => by
                have := (rg_iff.mp g1).1.1
                rw [z] at this
                exact this how
              have so : SlotOk K (md Γ k) G H0 own (upd H1 q (.lst us')) k (.ref b) (.list (ds0.set j (.list ys))) := by
                rw [isMp_is hm]
                refine ⟨b, q, vs, us', ds0.set j (.list ys), ys, rfl, rg_iff.mpr ⟨(rg_iff.mp g1).1, by rw [upd_ne hbq]; exact s1 _ _ hb⟩, g2, g3, upd_same, dps_mono sod _ _ q1, rfl, by rw [List.length_set]; exact g6, by rw [List.getElem?_set_self (by rw [← g6]; exact hj)], fun m d' hm' hd => ?_⟩
                rw [List.getElem?_set_ne (Ne.symm hm')] at hd
                obtain ⟨v', x1, x2⟩ := g8 m d' hm' hd
                exact ⟨v', x1, dp_mono ((rg_ext s1).trans sod) _ _ x2⟩
              have R3 := R2.put k _ _ so
              rw [List.set_set] at R3
              have e : σ.set k (some (.ref b)) = σ := by
                apply List.ext_getElem?
                intro i
                by_cases q : k = i
                · subst q; rw [List.getElem?_set_self hkl, h1]
                · rw [List.getElem?_set_ne q]
              rw [e] at R3
              exact q2 (p own σ _ R3 ((Gr.of s1).trans gr))
theorem vs_appP (k j : Nat) (ha : VA X Γ [e] ra fs ts) (hm : isMp (md Γ k) j = true := by rfl) (hc : accE ra .od = true := by rfl) (hN : X.N[k]? = some x := by rfl) (hv : Vis X.env.scope x := by first | exact Or.inl rfl | exact Or.inr (Or.inl rfl) | exact Or.inr (Or.inr rfl))
    (hd : (x == ("__debug__" : Str)) = false := by decide) (hcd : (x == ("__classdict__" : Str)) = false := by decide)
    (hb : attributeBase (.Subscript (.Name x px) (.Constant (.int (j : Nat)) kk ipos) spos) "append" X.env (eval (.Subscript (.Name x px) (.Constant (.int (j : Nat)) kk ipos) spos) X.env) = eval (.Subscript (.Name x px) (.Constant (.int (j : Nat)) kk ipos) spos) X.env := by rfl)
    (h1 : ((((backTo cpos (starEach [e] X.env)).all fun x => !x.fst) && (backToKw cpos (keywordEach [] X.env)).all fun x => x.fst.isSome) && decide (([e].length + ([] : List Keyword).length + if ([] : List Keyword).isEmpty = true then 0 else 1) < 30)) = true := by rfl)
    (h2 : (apos.endLine == cpos.line) = true := by rfl) (h3 : starEach [e] X.env = (false, eval e X.env) :: starEach [] X.env := by rfl) (h4 : ((backTo cpos (starEach [] X.env)).any fun x => x.fst) = false := by rfl)
    (hp : PlainIx (.Constant (.int (j : Nat)) kk ipos) := by exact fun _ _ => rfl)
    (hs : swapsWith (.Call (.Attribute (.Subscript (.Name x px) (.Constant (.int (j : Nat)) kk ipos) spos) "append" apos) [e] [] cpos) none pos.line X.env = pure false := by rfl) :
    VS X Γ u r (.Expr (.Call (.Attribute (.Subscript (.Name x px) (.Constant (.int (j : Nat)) kk ipos) spos) "append" apos) [e] [] cpos) pos) (sAppP k j fs) (fun D σ H => (tBM X.K "list" rAppend (tOp (rIxL X.K) (tVar k) (tC (.int (j : Nat)))) ts) σ H fun _ H1 => D.nx σ H1) :=
  ⟨ps_expr (pe_bm PySem.F.plainAttrs_list PySem.F.slot_list_append PySem.F.type_list_append mt_append (pe_ix ix_list (pe_var hN hv hd hcd) pe_int hp) ha.pa hb h1 h2 h3 h4) hs, ok_appP hm hc ha.ok⟩
end
/-! ### zip of three lists -/
section
open PySem
def Itz3 (K : PySem.W.Frag) (a b c : Addr) : It :=
  ⟨fun i H => ∃ (xs ys zs : List V) (x y z : V), SqL K H a xs ∧ SqL K H b ys ∧ SqL K H c zs ∧ xs[i]? = some x ∧ ys[i]? = some y ∧ zs[i]? = some z,
    fun i H v H' => ∃ T x y z, v = .ref T ∧ H T = none ∧ H' = upd H T (.tup [x, y, z]) ∧ (∀ xs, SqL K H a xs → xs[i]? = some x) ∧ (∀ ys, SqL K H b ys → ys[i]? = some y) ∧ ∀ zs, SqL K H c zs → zs[i]? = some z,
    fun i H => ∃ xs ys zs : List V, SqL K H a xs ∧ SqL K H b ys ∧ SqL K H c zs ∧ (i ≤ xs.length ∧ i ≤ ys.length ∧ i ≤ zs.length) ∧ (xs.length = i ∨ ys.length = i ∨ zs.length = i)⟩
theorem turn_zip3 {P : Program} {w : World} {K : PySem.W.Frag} {elts : List Expr} {kk : Nat} {tpos : Pos} {a b c z TI TO i1 i2 i3 : Addr} (S : ZipSep3 z TI TO i1 i2 i3 [i1, a] [i2, b] [i3, c]) :
    Turn P w K (.Tuple elts kk tpos) (Itz3 K a b c) [z, TI, TO, i1, i2, i3] z (fun i h => IsZip h z TI TO .none ∧ IsTupOf3 h TI (.ref i1) (.ref i2) (.ref i3) ∧ (∃ x y z, IsTupOf3 h TO x y z) ∧ h.IsListIter i1 a i ∧ h.IsListIter i2 b i ∧ h.IsListIter i3 c i) where
  mem := by simp
  obj := fun i h st c hc => by
    obtain ⟨hz, hTI, ⟨x, y, z', hTO⟩, ⟨o1, e1, _, d1⟩, ⟨o2, e2, _, d2⟩, ⟨o3, e3, _, d3⟩⟩ := st
    have e' : c = z ∨ c = TI ∨ c = TO ∨ c = i1 ∨ c = i2 ∨ c = i3 := by simpa using hc
    rcases e' with q | q | q | q | q | q
    · rw [q]; exact ⟨_, hz, fun v q => nomatch q⟩
    · rw [q]; exact ⟨_, hTI, fun v q => nomatch q⟩
    · rw [q]; exact ⟨_, hTO, fun v q => nomatch q⟩
    · rw [q]; exact ⟨o1, e1, fun v q => by rw [d1] at q; cases q⟩
    · rw [q]; exact ⟨o2, e2, fun v q => by rw [d2] at q; cases q⟩
    · rw [q]; exact ⟨o3, e3, fun v q => by rw [d3] at q; cases q⟩
  keep := fun i h h' st k => by
    obtain ⟨hz, hTI, ⟨x, y, z', hTO⟩, h1, h2, h3⟩ := st
    exact ⟨k z (by simp) _ hz, k TI (by simp) _ hTI, ⟨x, y, z', k TO (by simp) _ hTO⟩, h1.at fun o q => k i1 (by simp) o q, h2.at fun o q => k i2 (by simp) o q, h3.at fun o q => k i3 (by simp) o q⟩
  item := by
    intro X hP hw hK hc i pins s σ H E I hf st hg
    subst hP hw hK
    obtain ⟨hz, hTI, ⟨x0, y0, z0, hTO⟩, h1, h2, h3⟩ := st
    obtain ⟨xs, ys, zs, x, y, zz, hqx, hqy, hqz, hx, hy, hzz⟩ := hg
    obtain ⟨its, rv, p, _⟩ := I.list hqx
    obtain ⟨its2, rv2, p2, _⟩ := I.list hqy
    obtain ⟨its3, rv3, p3, _⟩ := I.list hqz
    obtain ⟨u, hu, ru⟩ := rv.get hx
    obtain ⟨u2, hu2, ru2⟩ := rv2.get hy
    obtain ⟨u3, hu3, ru3⟩ := rv3.get hzz
    have hzl : z < s.heap.objs.size := Heap.lt_size hz
    have hh := I.ok.hd hc
    have n1 : a ≠ i1 := fun e => by
      obtain ⟨o1, e1, c1, _⟩ := h1
      obtain ⟨o, e2, c2, _⟩ := p.isList
      rw [e] at e2
      rw [e1] at e2
      cases e2
      rw [c1] at c2
      injection c2 with c2
      exact absurd c2 (by decide)
    have n2 : b ≠ i2 := fun e => by
      obtain ⟨o1, e1, c1, _⟩ := h2
      obtain ⟨o, e2, c2, _⟩ := p2.isList
      rw [e] at e2
      rw [e1] at e2
      cases e2
      rw [c1] at c2
      injection c2 with c2
      exact absurd c2 (by decide)
    have n3 : c ≠ i3 := fun e => by
      obtain ⟨o1, e1, c1, _⟩ := h3
      obtain ⟨o, e2, c2, _⟩ := p3.isList
      rw [e] at e2
      rw [e1] at e2
      cases e2
      rw [c1] at c2
      injection c2 with c2
      exact absurd c2 (by decide)
    refine wpAny_pyNext_zipD3_item S (Draws.list (A := X.A.in1) hh i1 a n1 its.toArray) (Draws.list (A := X.A.in1) hh i2 b n2 its2.toArray) (Draws.list (A := X.A.in1) hh i3 c n3 its3.toArray) hz hTI hTO ⟨h1, p.isList⟩ ⟨h2, p2.isList⟩ ⟨h3, p3.isList⟩
      (by simpa using (List.getElem?_eq_some_iff.mp hu).1) (by simpa using (List.getElem?_eq_some_iff.mp hu2).1) (by simpa using (List.getElem?_eq_some_iff.mp hu3).1) fun y1 y2 y3 h' tk w1 w2 w3 z' TO' st1 st2 st3 hT hsz hk => ?_
    have q1 : y1 = u := by
      have : its[i]? = some y1 := by simpa using w1
      rw [hu] at this
      exact (Option.some.inj this).symm
    have q2 : y2 = u2 := by
      have : its2[i]? = some y2 := by simpa using w2
      rw [hu2] at this
      exact (Option.some.inj this).symm
    have q3 : y3 = u3 := by
      have : its3[i]? = some y3 := by simpa using w3
      rw [hu3] at this
      exact (Option.some.inj this).symm
    subst q1 q2 q3
    refine ⟨_, rfl, wpAny_letOwnedTupleGo_zip (s := { s with heap := h', toks := tk }) z' fun h'' z'' sb => ?_⟩
    have hT2 : h''.get? s.heap.objs.size = some { cls := .type "tuple", data := .seq #[y1, y2, y3] } := (sb.2 _ (Nat.ne_of_gt hzl)).trans hT
    have new : ObjOk X.prog X.w (upd H s.heap.objs.size (.tup [x, y, zz])) h'' s.heap.objs.size (.tup [x, y, zz]) :=
      ⟨by show 3 ≤ sizeLine; decide, [y1, y2, y3], .cons ru (.cons ru2 (.cons ru3 .nil)), ⟨_, hT2, rfl, _, rfl⟩⟩
    have I1 : Inv X pins σ (upd H s.heap.objs.size (.tup [x, y, zz])) { s with heap := h'', toks := tk } :=
      I.turnedNew (t' := tk) (ch := [z, TI, TO, i1, i2, i3]) (fun c o hb q => (sb.2 c (fun q' => hb (by simp [q']))).trans (hk c o (fun q' => hb (by simp [q'])) (fun q' => hb (by simp [q'])) (fun q' => hb (by simp [q'])) (fun q' => hb (by simp [q'])) (fun q' => hb (by simp [q'])) q)) hf (Nat.le_refl _) new
    refine ⟨.ref s.heap.objs.size, _, I1, rfl, ⟨_, x, y, zz, rfl, I.hok.fresh (Nat.le_refl _), rfl, fun l hl => by rw [I.list_inj hl hqx]; exact hx, fun l hl => by rw [I.list_inj hl hqy]; exact hy, fun l hl => by rw [I.list_inj hl hqz]; exact hzz⟩, ⟨z'', ?_, ⟨y1, y2, y3, ?_⟩, ?_, ?_, ?_⟩, fun c hcm => ?_⟩
    · exact (sb.2 _ S.TIz).trans (hk _ _ S.TIz S.TITO S.TIi1 S.TIi2 S.TIi3 hTI)
    · exact (sb.2 _ S.TOz).trans TO'
    · exact st1.1.at fun o q => (sb.2 _ (Ne.symm S.zi1)).trans q
    · exact st2.1.at fun o q => (sb.2 _ (Ne.symm S.zi2)).trans q
    · exact st3.1.at fun o q => (sb.2 _ (Ne.symm S.zi3)).trans q
    · have hlt : c < s.heap.objs.size := by
        have e' : c = z ∨ c = TI ∨ c = TO ∨ c = i1 ∨ c = i2 ∨ c = i3 := by simpa using hcm
        rcases e' with q | q | q | q | q | q
        · rw [q]; exact hzl
        · rw [q]; exact Heap.lt_size hTI
        · rw [q]; exact Heap.lt_size hTO
        · rw [q]; obtain ⟨_, e1, _⟩ := h1; exact Heap.lt_size e1
        · rw [q]; obtain ⟨_, e2, _⟩ := h2; exact Heap.lt_size e2
        · rw [q]; obtain ⟨_, e3, _⟩ := h3; exact Heap.lt_size e3
      rw [upd_ne (Nat.ne_of_lt hlt)]
      exact (hf c hcm).1
  done := by
    intro X hP hw hK hc i pins s σ H E I hf st hg
    subst hP hw hK
    obtain ⟨hz, hTI, ⟨x0, y0, z0, hTO⟩, h1, h2, h3⟩ := st
    obtain ⟨xs, ys, zs, hqx, hqy, hqz, ⟨b1, b2, b3⟩, hend⟩ := hg
    obtain ⟨its, rv, p, _⟩ := I.list hqx
    obtain ⟨its2, rv2, p2, _⟩ := I.list hqy
    obtain ⟨its3, rv3, p3, _⟩ := I.list hqz
    have l1 := rv.length
    have l2 := rv2.length
    have l3 := rv3.length
    have hh := I.ok.hd hc
    have n1 : a ≠ i1 := fun e => by
      obtain ⟨o1, e1, c1, _⟩ := h1
      obtain ⟨o, e2, c2, _⟩ := p.isList
      rw [e] at e2
      rw [e1] at e2
      cases e2
      rw [c1] at c2
      injection c2 with c2
      exact absurd c2 (by decide)
    have n2 : b ≠ i2 := fun e => by
      obtain ⟨o1, e1, c1, _⟩ := h2
      obtain ⟨o, e2, c2, _⟩ := p2.isList
      rw [e] at e2
      rw [e1] at e2
      cases e2
      rw [c1] at c2
      injection c2 with c2
      exact absurd c2 (by decide)
    have n3 : c ≠ i3 := fun e => by
      obtain ⟨o1, e1, c1, _⟩ := h3
      obtain ⟨o, e2, c2, _⟩ := p3.isList
      rw [e] at e2
      rw [e1] at e2
      cases e2
      rw [c1] at c2
      injection c2 with c2
      exact absurd c2 (by decide)
    have s1 : its.toArray.size = xs.length := by rw [List.size_toArray, ← l1]
    have s2 : its2.toArray.size = ys.length := by rw [List.size_toArray, ← l2]
    have s3 : its3.toArray.size = zs.length := by rw [List.size_toArray, ← l3]
    exact wpAny_pyNext_zipD3_end S (Draws.list (A := X.A.in1) hh i1 a n1 its.toArray) (Draws.list (A := X.A.in1) hh i2 b n2 its2.toArray) (Draws.list (A := X.A.in1) hh i3 c n3 its3.toArray) hz hTI hTO ⟨h1, p.isList⟩ ⟨h2, p2.isList⟩ ⟨h3, p3.isList⟩
      (by omega) (by omega) (by omega) (by omega) fun h' tk hk => ⟨rfl, I.turnedL (t' := tk) (ch := [z, TI, TO, i1, i2, i3]) (fun c o hb q =>
      hk c o (fun q' => hb (by simp [q'])) (fun q' => hb (by simp [q'])) (fun q' => hb (by simp [q'])) (fun q' => hb (by simp [q'])) (fun q' => hb (by simp [q'])) q) hf⟩
  self := fun A i s Q E st h => wpAny_pyIter_zip st.1 h
theorem zs3 {n a b c : Nat} (h1 : a < n) (h2 : b < n) (h3 : c < n) : ZipSep3 (n + 5) (n + 3) (n + 4) n (n + 1) (n + 2) [n, a] [n + 1, b] [n + 2, c] := by
  constructor <;> first | (simp; done) | (simp; intro e; have e' : @Eq Nat _ _ := e; omega) | (intro e; have e' : @Eq Nat _ _ := e; omega)
def iZip3 (K : PySem.W.Frag) (ta : TA) : TI := fun σ H R => ta σ H fun vs H1 => ∃ a b c xs ys zs, vs = [.ref a, .ref b, .ref c] ∧ SqL K H1 a xs ∧ SqL K H1 b ys ∧ SqL K H1 c zs ∧ R (Itz3 K a b c) H1
theorem pi_zip3 {X : Cx} {e e2 e3 : Expr} {ta : TA} {p pos tpos : Pos} {elts : List Expr} {kk : Nat} (hg : Gl X "zip") (hm : X.mg "zip" = none) (ha : PA X [e, e2, e3] ta)
    (hs : starEach [e, e2, e3] X.env = (false, eval e X.env) :: starEach [e2, e3] X.env := by rfl) (hpl : (backTo pos (starEach [e2, e3] X.env)).any (·.1) = false := by rfl) :
    PI X (.Tuple elts kk tpos) (.Call (.Name "zip" p) [e, e2, e3] [] pos) (iZip3 X.K ta) := by
  refine ⟨fun pins s σ H R I h => ?_⟩
  refine Call_ (ld_blt I hg hm PyProof.Rows.boot_zip (PyProof.Rows.callWith_type1 (thn (ha.run pos pins s σ H _ I h) fun us s1 ⟨vs, H1, I1, r1, q1⟩ => ?_) hs hpl))
  obtain ⟨a, b, c, xs, ys, zs, ex, hqx, hqy, hqz, q⟩ := q1
  subst ex
  cases r1 with
  | cons r rr =>
    cases rr with
    | cons r' rr =>
      cases rr with
      | cons r'' rr =>
        cases rr
        cases r
        cases r'
        cases r''
        obtain ⟨its, rv, p1, _⟩ := I1.list hqx
        obtain ⟨its2, rv2, p2, _⟩ := I1.list hqy
        obtain ⟨its3, rv3, p3, _⟩ := I1.list hqz
        have la : a < s1.heap.objs.size := p1.lt
        have lb : b < s1.heap.objs.size := p2.lt
        have lc : c < s1.heap.objs.size := p3.lt
        refine zip_begins3 (begins_list a its.toArray) (begins_list b its2.toArray) (begins_list c its3.toArray) p1.isList p2.isList p3.isList fun h' hz hTI hTO h1 h2 h3 hsz hk => wpAny_pyIter_zip hz ?_
        have I2 : Inv X pins σ H1 { s1 with heap := h' } := I1.kept (t' := s1.toks) hk
        refine ⟨s1.heap.objs.size + 5, [s1.heap.objs.size + 5, s1.heap.objs.size + 3, s1.heap.objs.size + 4, s1.heap.objs.size, s1.heap.objs.size + 1, s1.heap.objs.size + 2], _, _, H1, rfl, I2, turn_zip3 (zs3 la lb lc), ⟨hz, hTI, ⟨_, _, _, hTO⟩, ⟨_, h1, rfl, rfl⟩, ⟨_, h2, rfl, rfl⟩, ⟨_, h3, rfl, rfl⟩⟩, fun c hcm => ?_, q⟩
        have hle : s1.heap.objs.size ≤ c := by
          have e' : c = s1.heap.objs.size + 5 ∨ c = s1.heap.objs.size + 3 ∨ c = s1.heap.objs.size + 4 ∨ c = s1.heap.objs.size ∨ c = s1.heap.objs.size + 1 ∨ c = s1.heap.objs.size + 2 := by simpa using hcm
          rcases e' with z | z | z | z | z | z
          · rw [z]; exact Nat.le_add_right _ _
          · rw [z]; exact Nat.le_add_right _ _
          · rw [z]; exact Nat.le_add_right _ _
          · rw [z]; exact Nat.le_refl _
          · rw [z]; exact Nat.le_add_right _ _
          · rw [z]; exact Nat.le_add_right _ _
        exact I1.fpOk hle (I1.hok.fresh hle)
end
def zip3D (xs ys zs : List D) : List D := List.zipWith (fun x (p : D × D) => .tuple [x, p.1, p.2]) xs (ys.zip zs)
def zp3K : List D → Option (List D)
  | [.list xs, .list ys, .list zs] => some (zip3D xs ys zs)
  | _ => none
def iZp3 (f : SE → Option (List D)) (e : SE) : Option (List D) := (f e).bind zp3K
theorem v_iZp3 {f : SE → Option (List D)} {e : SE} : iZp3 f e = (f e).bind zp3K := rfl
theorem k_zp3 {xs ys zs : List D} : zp3K [.list xs, .list ys, .list zs] = some (zip3D xs ys zs) := rfl
theorem triple_in {K : PySem.W.Frag} {r : Rl} {G H0 H2 : Hp} {own2 : List (Option Addr)} {T : Addr} {x y z : V} {d e f : D} (s0 : Same H0 H2) (al : ∀ a, Ow own2 a → ∃ o, H2 a = some o) (n : H2 T = none) (h1 : Dp K (rg r G H0 own2 H2) x d) (h2 : Dp K (rg r G H0 own2 H2) y e) (h3 : Dp K (rg r G H0 own2 H2) z f) :
    Dp K (rg r G H0 own2 (upd H2 T (.tup [x, y, z]))) (.ref T) (.tuple [d, e, f]) := by
  have nO : ¬ Ow own2 T := fun z => by
    obtain ⟨o, q⟩ := al T z
    rw [n] at q; cases q
  exact .tup (SqT.of (rg_iff.mpr ⟨tup_in nO (s0.free n), upd_same⟩)) (.cons (dp_mono (rg_ext (same_new n)) _ _ h1) (.cons (dp_mono (rg_ext (same_new n)) _ _ h2) (.cons (dp_mono (rg_ext (same_new n)) _ _ h3) .nil)))
section
variable {X : Cx} {Γ : List Md} {r : Rl} {a b c : Expr} {elts : List Expr} {fs : SE → Option (List D)} {ts : TA} {p pos tpos : Pos} {kk : Nat}
theorem vi_zip3 (hm : X.mg "zip" = none) (ha : VA X Γ [a, b, c] r fs ts) (hr : r ≠ .bo := by intro z; cases z) (hg : Gl X "zip" := by rfl) (hs : starEach [a, b, c] X.env = (false, eval a X.env) :: starEach [b, c] X.env := by rfl) (hpl : (backTo pos (starEach [b, c] X.env)).any (·.1) = false := by rfl) :
    VI X Γ (.Tuple elts kk tpos) (.Call (.Name "zip" p) [a, b, c] [] pos) r (iZp3 fs) (iZip3 X.K ts) := ⟨pi_zip3 hg hm ha.pa hs hpl, fun G H0 own env σ H R ds E z k => by
  unfold iZp3 at z
  cases e1 : fs env with
  | none => rw [e1] at z; cases z
  | some x =>
    rw [e1] at z
    simp only [Option.bind_some] at z
    match x, e1, z with
    | [.list xs, .list ys, .list zs], e1, z =>
      cases z
      refine ha.ok G H0 own env σ H _ _ E e1 fun v H1 s1 c => ?_
      match v, c with
      | _, .cons (.lst hs hd) (.cons (.lst hs' hd') (.cons (.lst hs'' hd'') .nil)) =>
        refine ⟨_, _, _, _, _, _, rfl, rg_sub.seq hs, rg_sub.seq hs', rg_sub.seq hs'', k _ H1 s1 fun own2 H2 gr s0 al => ?_⟩
        have hs2 := (rg_gr gr hr).seq hs
        have hd2 := dps_mono (rg_gr gr hr) _ _ hd
        have hs2' := (rg_gr gr hr).seq hs'
        have hd2' := dps_mono (rg_gr gr hr) _ _ hd'
        have hs2'' := (rg_gr gr hr).seq hs''
        have hd2'' := dps_mono (rg_gr gr hr) _ _ hd''
        have hl : (zip3D xs ys zs).length = min xs.length (min ys.length zs.length) := by unfold zip3D; rw [List.length_zipWith, List.length_zip]
        refine ⟨fun i d hi => ?_, ⟨_, _, _, rg_sub.seq hs2, rg_sub.seq hs2', rg_sub.seq hs2'', ?_, ?_⟩⟩
        · unfold zip3D at hi
          rw [List.getElem?_zipWith] at hi
          cases e2 : xs[i]? with
          | none => rw [e2] at hi; cases hi
          | some d2 =>
            cases e3 : (ys.zip zs)[i]? with
            | none => rw [e2, e3] at hi; cases hi
            | some q =>
              rw [e2, e3] at hi
              cases hi
              obtain ⟨e4, e5⟩ := List.getElem?_zip_eq_some.mp e3
              obtain ⟨w, h1, h2⟩ := dps_get hd2 e2
              obtain ⟨w', h1', h2'⟩ := dps_get hd2' e4
              obtain ⟨w'', h1'', h2''⟩ := dps_get hd2'' e5
              refine ⟨⟨_, _, _, w, w', w'', rg_sub.seq hs2, rg_sub.seq hs2', rg_sub.seq hs2'', h1, h1', h1''⟩, fun y H' hy => ?_⟩
              obtain ⟨T, y1, y2, y3, rfl, nT, rfl, hy1, hy2, hy3⟩ := hy
              have e : y1 = w := Option.some.inj ((hy1 _ (rg_sub.seq hs2)).symm.trans h1)
              have e' : y2 = w' := Option.some.inj ((hy2 _ (rg_sub.seq hs2')).symm.trans h1')
              have e'' : y3 = w'' := Option.some.inj ((hy3 _ (rg_sub.seq hs2'')).symm.trans h1'')
              subst e e' e''
              exact ⟨same_new nT, triple_in s0 al nT h2 h2' h2''⟩
        · rw [dps_len hd2, dps_len hd2', dps_len hd2'', hl]
          omega
        · rw [dps_len hd2, dps_len hd2', dps_len hd2'', hl]
          omega⟩
end
/-! ### reckoning -/
def srtPK (xs : List D) : Option (List D) := (pairs? xs).bind fun ps => some ((sortP ps).map pD)
def srtPK0 (x : D) : Option (List D) := (list? x).bind srtPK
def rngK (x : D) : Option (List D) := hRg1 [x]
section
variable {f : SE → Option D} {e : SE} {x : D}
theorem v_setP {i n : Nat} {fs : SE → Option (List D)} : sSetP i n fs e = (fs e).bind (setPK i n e) := rfl
theorem setPK_of {i n : Nat} {ds : List D} (h : ds.length = n) (h2 : i < e.length) : setPK i n e ds = some (.nx (e.set i (some (.list (ds ++ [.list []]))))) := if_pos ⟨h, h2⟩
theorem v_appP {k j : Nat} {fs : SE → Option (List D)} : sAppP k j fs e = (dV k e).bind (appPK k j fs e) := rfl
theorem k_appP {k j : Nat} {fs : SE → Option (List D)} : appPK k j fs e x = (list? x).bind (appPK1 k j fs e) := rfl
theorem k_appP1 {k j : Nat} {fs : SE → Option (List D)} {ds : List D} : appPK1 k j fs e ds = (fs e).bind (appPK2 k j e ds) := rfl
theorem k_appP2 {k j : Nat} {ds as : List D} : appPK2 k j e ds as = (ds[j]?).bind (appPK3 k j e ds as) := rfl
theorem k_appP3 {k j : Nat} {ds as es : List D} : appPK3 k j e ds as (.list es) = (hApp es as).bind (appPK4 k j e ds) := rfl
theorem k_appP4 {k j : Nat} {ds as : List D} : appPK4 k j e ds as = some (.nx (e.set k (some (.list (ds.set j (.list as)))))) := rfl
theorem v_lSortP : lSortP f e = (f e).bind srtPK0 := rfl
theorem k_srtP0 : srtPK0 x = (list? x).bind srtPK := rfl
theorem k_srtP (ps : List (Int × Int)) : srtPK (ps.map pD) = some ((sortP ps).map pD) := by
  unfold srtPK
  rw [pairs_map]
  rfl
theorem v_lRng : lRng f e = (f e).bind rngK := rfl
theorem k_rng : rngK x = hRg1 [x] := rfl
theorem hRg1_of {j : Int} (h1 : -1000000 < j) (h2 : j < 1000000) : hRg1 [.int j] = some (rangeD 0 j.toNat) := if_pos ⟨h1, h2⟩
end
end PV

set_option maxHeartbeats 400000
namespace PV
open PySem PySem.Spec PyProof.Rows L2
/-! ### the end of a def that hands out a number, a truth ..: there what is not needed any more may be changed, too -/
def NoL (K : PySem.W.Frag) : Prop := ∀ a o, K.lookup a = some o → o.cls ≠ .type "list"
def noL (K : PySem.W.Frag) : Bool := K.all fun p => !(p.2.cls == .type "list")
theorem noL_ok {K : PySem.W.Frag} (h : noL K = true) : NoL K := fun a o e => by
  unfold noL at h
  induction K with
  | nil => cases e
  | cons p r ih =>
    rw [List.all_cons, Bool.and_eq_true] at h
    rw [List.lookup_cons] at e
    split at e
    · cases e
      intro z
      have := h.1
      rw [z] at this
      simp at this
    · exact ih h.2 e
def OkTail (K : PySem.W.Frag) (Γ : List Md) (g : SE → Option Rs) (t : TS) : Prop :=
  ∀ (N G H0 : Hp) (own : List (Option Addr)) (env : SE) (σ : L2.St) (H : Hp) (E : Ends) (d : D), ER K Γ G H0 own env σ H → Same N G → g env = some (.rt d) → isSc d = true → (∀ v H', Same N H' → Dp K H' v d → E.rt v H') → t E σ H
structure VTail (X : Cx) (Γ : List Md) (st : List Stmt) (g : SE → Option Rs) (t : TS) : Prop where
  ps : PSs X st t
  ok : OkTail X.K Γ g t
inductive Pl where
  | kp | tr | nx (m : Md)
def mkG : List Pl → Nat → (Nat → V) → List Md
  | [], _, _ => []
  | .kp :: ps, i, w => .cv (w i) :: mkG ps (i + 1) w
  | .tr :: ps, i, w => .tr :: mkG ps (i + 1) w
  | .nx m :: ps, i, w => m :: mkG ps (i + 1) w
def klG : List Pl → Nat → List Nat
  | [], _ => []
  | .nx _ :: ps, i => i :: klG ps (i + 1)
  | _ :: ps, i => klG ps (i + 1)
def kpG : Pl → Bool
  | .kp => true
  | _ => false
theorem mkG_at : ∀ (ps : List Pl) (i j : Nat) (w : Nat → V), (mkG ps i w)[j]? = (ps[j]?).map fun p => match p with | .kp => .cv (w (i + j)) | .tr => .tr | .nx m => m
  | [], i, j, w => by simp [mkG]
  | .kp :: ps, i, 0, w => rfl
  | .tr :: ps, i, 0, w => rfl
  | .nx m :: ps, i, 0, w => rfl
  | .kp :: ps, i, j + 1, w => by
    have := mkG_at ps (i + 1) j w
    rw [mkG, List.getElem?_cons_succ, List.getElem?_cons_succ, this, Nat.add_assoc, Nat.add_comm 1 j]
  | .tr :: ps, i, j + 1, w => by
    have := mkG_at ps (i + 1) j w
    rw [mkG, List.getElem?_cons_succ, List.getElem?_cons_succ, this, Nat.add_assoc, Nat.add_comm 1 j]
  | .nx m :: ps, i, j + 1, w => by
    have := mkG_at ps (i + 1) j w
    rw [mkG, List.getElem?_cons_succ, List.getElem?_cons_succ, this, Nat.add_assoc, Nat.add_comm 1 j]
theorem klG_of : ∀ (ps : List Pl) (i j : Nat) (m : Md), ps[j]? = some (.nx m) → i + j ∈ klG ps i
  | [], i, j, m, h => by simp at h
  | p :: ps, i, 0, m, h => by
    simp at h
    subst h
    exact List.mem_cons_self
  | p :: ps, i, j + 1, m, h => by
    have := klG_of ps (i + 1) j m (by simpa using h)
    rw [Nat.add_assoc, Nat.add_comm 1 j] at this
    cases p with
    | nx _ => exact List.mem_cons_of_mem _ this
    | kp => exact this
    | tr => exact this
theorem kil_len : ∀ (kl : List Nat) (e : SE), (kil kl e).length = e.length
  | [], _ => rfl
  | k :: kl, e => by rw [kil, List.length_set, kil_len kl e]
theorem kil_at : ∀ {kl : List Nat} {e : SE} {i : Nat} {d : D}, (kil kl e)[i]? = some (some d) → i ∉ kl ∧ e[i]? = some (some d)
  | [], _, _, _, h => ⟨(fun z => by cases z), h⟩
  | k :: kl, e, i, d, h => by
    rw [kil] at h
    by_cases q : k = i
    · subst q
      by_cases hl : k < (kil kl e).length
      · rw [List.getElem?_set_self hl] at h; cases h
      · rw [List.getElem?_eq_none (by rw [List.length_set]; omega)] at h; cases h
    · rw [List.getElem?_set_ne q] at h
      obtain ⟨h1, h2⟩ := kil_at h
      exact ⟨fun z => (List.mem_cons.mp z).elim (fun z => q z.symm) h1, h2⟩
theorem ow_rep {n : Nat} {a : Addr} : ¬ Ow (List.replicate n none) a := fun ⟨j, e⟩ => by
  rw [List.getElem?_replicate] at e
  split at e <;> cases e
section
variable {K : PySem.W.Frag} {Γ : List Md} {G H0 H H' : Hp} {own own' : List (Option Addr)} {env : SE} {σ : L2.St} {i k : Nat} {v : V} {d : D} {m : Md} {r : Rl} {g f : SE → Option Rs} {t t2 : TS}
/-- everything that is there is handed in -/
theorem ER.allIn (R : ER K Γ G H0 own env σ H) (plan : List Pl) (ht : plan.all (fun p => match p with | .tr => false | _ => true) = true) : ER K (mkG plan 0 fun i => ((σ.getD i none).getD .non)) H H (List.replicate own.length none) (PV.kil (klG plan 0) env) σ H := by
  refine ⟨Same.refl H, Same.refl H, fun i j a hi => (ow_rep ⟨i, hi⟩).elim, fun i a hi => (ow_rep ⟨i, hi⟩).elim, by rw [kil_len]; exact R.le, by rw [List.length_replicate]; exact R.ol, fun i d hi => ?_⟩
  obtain ⟨nk, he⟩ := kil_at hi
  obtain ⟨v, hv, so⟩ := R.sl i d he
  refine ⟨v, hv, ?_⟩
  have dp : Dp K H v d := dp_mono rg_sub _ _ (so.dp R.ex)
  have dpo : Dp K (rg .od H H (List.replicate own.length none) H) v d := dp_mono (fun a o q => (rg_iff (r := .od)).mpr ⟨⟨ow_rep, .inr (by rw [q]; intro z; cases z)⟩, q⟩) _ _ dp
  unfold md
  rw [List.getD_eq_getElem?_getD, mkG_at]
  cases e : plan[i]? with
  | none => exact dpo
  | some p =>
    cases p with
    | kp =>
      refine ⟨?_, dpo, dp⟩
      show v = ((σ.getD (0 + i) none).getD .non)
      rw [Nat.zero_add, List.getD_eq_getElem?_getD, hv]
      rfl
    | tr =>
      have := List.all_eq_true.mp ht _ (List.mem_of_getElem? e)
      cases this
    | nx m => exact absurd (klG_of plan 0 i m e) (by rw [Nat.zero_add]; exact nk)
def rebOk : List Md → List Pl → Bool
  | .cv _ :: ms, .kp :: ps => rebOk ms ps
  | .nw :: ms, .tr :: ps => rebOk ms ps
  | _ :: ms, .nx _ :: ps => rebOk ms ps
  | [], [] => true
  | _, _ => false
theorem rebOk_at : ∀ {Γ : List Md} {ps : List Pl} {i : Nat} {p : Pl}, rebOk Γ ps = true → ps[i]? = some p → (p = .kp → ∃ v, Γ[i]? = some (.cv v)) ∧ (p = .tr → Γ[i]? = some .nw)
  | [], [], _, _, _, h => by simp at h
  | [], _ :: _, _, _, h, _ => by simp [rebOk] at h
  | m :: ms, [], _, _, h, _ => by cases m <;> simp [rebOk] at h
  | m :: ms, q :: ps, 0, p, h, e => by
    simp at e
    subst e
    cases q with
    | kp => cases m <;> first | (simp [rebOk] at h; done) | exact ⟨fun _ => ⟨_, rfl⟩, fun z => by cases z⟩
    | tr => cases m <;> first | (simp [rebOk] at h; done) | exact ⟨(fun z => by cases z), fun _ => rfl⟩
    | nx m' => exact ⟨(fun z => by cases z), fun z => by cases z⟩
  | m :: ms, q :: ps, i + 1, p, h, e => by
    have h2 : rebOk ms ps = true := by
      cases q with
      | kp => cases m <;> first | (simp [rebOk] at h; done) | (simpa [rebOk] using h)
      | tr => cases m <;> first | (simp [rebOk] at h; done) | (simpa [rebOk] using h)
      | nx m' => cases m <;> simpa [rebOk] using h
    simpa using rebOk_at h2 (by simpa using e)
/-- what is new may be changed from here on, where it is not needed any more -/
theorem ER.reb (R : ER K Γ G H0 own env σ H) (plan : List Pl) (ht : rebOk Γ plan = true) (hl : env.length ≤ plan.length) : ER K (mkG plan 0 fun i => ((σ.getD i none).getD .non)) H0 H (List.replicate own.length none) (PV.kil (klG plan 0) env) σ H := by
  have ext : Same H0 (rg .od H0 H (List.replicate own.length none) H) := fun a o q => (rg_iff (r := .od)).mpr ⟨⟨ow_rep, .inr (by rw [q]; intro z; cases z)⟩, R.ex _ _ q⟩
  refine ⟨R.ex, Same.refl H, fun i j a hi => (ow_rep ⟨i, hi⟩).elim, fun i a hi => (ow_rep ⟨i, hi⟩).elim, by rw [kil_len]; exact R.le, by rw [List.length_replicate]; exact R.ol, fun i d hi => ?_⟩
  obtain ⟨nk, he⟩ := kil_at hi
  obtain ⟨v, hv, so⟩ := R.sl i d he
  refine ⟨v, hv, ?_⟩
  unfold md
  rw [List.getD_eq_getElem?_getD, mkG_at]
  cases e : plan[i]? with
  | none =>
    have e1 := List.getElem?_eq_none_iff.mp e
    have := (List.getElem?_eq_some_iff.mp he).1
    omega
  | some p =>
    obtain ⟨k1, k2⟩ := rebOk_at ht e
    cases p with
    | kp =>
      obtain ⟨v0, e0⟩ := k1 rfl
      have em : md Γ i = .cv v0 := by
        unfold md
        rw [List.getD_eq_getElem?_getD, e0]
        rfl
      rw [em] at so
      have dp : Dp K H0 v d := dp_mono R.gs _ _ so.2.2
      refine ⟨?_, dp_mono ext _ _ dp, dp⟩
      show v = ((σ.getD (0 + i) none).getD .non)
      rw [Nat.zero_add, List.getD_eq_getElem?_getD, hv]
      rfl
    | tr =>
      have em : md Γ i = .nw := by
        unfold md
        rw [List.getD_eq_getElem?_getD, k2 rfl]
        rfl
      rw [em] at so
      refine dp_mono (fun a o q => ?_) _ _ (show Dp K (rg .nw G H0 own H) v d from so)
      obtain ⟨i1, q⟩ := rg_iff.mp q
      exact rgt_iff.mpr ⟨⟨i1.2.1, i1.2.2⟩, q⟩
    | nx m => exact absurd (klG_of plan 0 i m e) (by rw [Nat.zero_add]; exact nk)

theorem OkTail.of (h : OkS K Γ false r g t) : OkTail K Γ g t := fun N G H0 own env σ H D d R hN z hs k => h G H0 own env σ H D (.rt d) R z fun v H' s q => k v H' ((hN.trans R.gs).trans s) (dp_mono rg_sub _ _ q)
theorem OkTail.seq (hf : OkS K Γ false r f t) (hg : OkTail K Γ g t2) : OkTail K Γ (sSeq f g) (tSeq t t2) := fun N G H0 own env σ H D d R hN z hs k => by
  unfold sSeq at z
  cases e1 : f env with
  | none => rw [e1] at z; cases z
  | some x =>
    rw [e1] at z
    simp only [Option.bind_some] at z
    refine hf G H0 own env σ H _ x R e1 ?_
    cases x with
    | nx e => exact fun own' σ' H' R' gr => hg N G H0 own' e σ' H' D d R' hN z hs k
    | rt d' => cases z; exact fun v H' s q => k v H' ((hN.trans R.gs).trans s) (dp_mono rg_sub _ _ q)
    | bk e => cases z
    | ct e => cases z
def sZ (kl : List Nat) (g : SE → Option Rs) (e : SE) : Option Rs := (g (kil kl e)).bind fun x => match x with
  | .rt d => if isSc d = true then some (.rt d) else none
  | _ => none
theorem OkTail.base (plan : List Pl) (hl : Γ.length ≤ plan.length) (ht : plan.all (fun p => match p with | .tr => false | _ => true) = true) (h : ∀ w, OkTail K (mkG plan 0 w) g t) : OkS K Γ false r (sZ (klG plan 0) g) t := fun G H0 own env σ H D res R z p => by
  unfold sZ at z
  cases e1 : g (kil (klG plan 0) env) with
  | none => rw [e1] at z; cases z
  | some x =>
    rw [e1] at z
    simp only [Option.bind_some] at z
    cases x with
    | rt d =>
      simp only at z
      by_cases hs : isSc d = true
      · rw [if_pos hs] at z
        cases z
        exact h _ H0 H H _ _ σ H D d (R.allIn plan ht) R.ex e1 hs fun v H' s q => p v H' s (dp_flat hs q)
      · rw [if_neg hs] at z; cases z
    | nx e => cases z
    | bk e => cases z
    | ct e => cases z
def sReb (n : Nat) (kl : List Nat) (g : SE → Option Rs) (e : SE) : Option Rs := if e.length ≤ n then g (kil kl e) else none
theorem OkTail.reb (plan : List Pl) (ht : rebOk Γ plan = true) (h : ∀ w, OkTail K (mkG plan 0 w) g t) : OkTail K Γ (sReb plan.length (klG plan 0) g) t := by
  intro N G H0 own env σ H D d R hN z hs k
  unfold sReb at z
  by_cases q : env.length ≤ plan.length
  · rw [if_pos q] at z
    exact h _ N H0 H _ _ σ H D d (R.reb plan ht q) (hN.trans R.gs) z hs k
  · rw [if_neg q] at z; cases z
theorem ER.sig (R : ER K Γ G H0 own env σ H) {x : Option V} (hd : ∀ d, env[i]? ≠ some (some d)) : ER K Γ G H0 own env (σ.set i x) H := by
  refine ⟨R.gs, R.ex, R.inj, R.fr, by rw [List.length_set]; exact R.le, by rw [List.length_set]; exact R.ol, fun j d hj => ?_⟩
  have hne : i ≠ j := fun z => by subst z; exact hd d hj
  rw [List.getElem?_set_ne hne]
  exact R.sl j d hj
/-- what isn't needed any more is changed -/
theorem ER.trash {p : Addr} {xs ys : List V} (R : ER K Γ G H0 own env σ H) (hp : H0 p = some (.lst xs)) (hg : G p = none) (hf : ∀ (j : Nat) d, env[j]? = some (some d) → flat (md Γ j) = true) : ER K Γ G (upd H0 p (.lst ys)) own env σ (upd H p (.lst ys)) := by
  have no : ∀ (i : Nat) (a : Addr), own[i]? = some (some a) → a ≠ p := fun i a h z => by
    have := (R.fr i a h).1
    rw [z, hp] at this
    cases this
  refine ⟨fun a o e => by rw [upd_ne (ne_of_none e hg)]; exact R.gs _ _ e, fun a o e => ?_, R.inj, fun i a h => ?_, R.le, R.ol, fun j d hj => ?_⟩
  · by_cases z : a = p
    · subst z; rw [upd_same] at e ⊢; exact e
    · rw [upd_ne z] at e ⊢; exact R.ex _ _ e
  · obtain ⟨h1, o, h2⟩ := R.fr i a h
    rw [upd_ne (no i a h), upd_ne (no i a h)]
    exact ⟨h1, o, h2⟩
  · obtain ⟨v, hv, so⟩ := R.sl j d hj
    refine ⟨v, hv, so.step3 (fun {rr} hr => fun a o q => ?_) (hf j d hj) fun a ha => ⟨ha, fun o q => by rw [upd_ne (no j a ha)]; exact q⟩⟩
    obtain ⟨i1, q'⟩ := rg_iff.mp q
    cases rr with
    | bo => exact absurd rfl hr
    | nw =>
      have na : a ≠ p := fun z => by have := i1.2.1; rw [z, hp] at this; cases this
      exact rg_iff.mpr ⟨⟨i1.1, by rw [upd_ne na]; exact i1.2.1, i1.2.2⟩, by rw [upd_ne na]; exact q'⟩
    | od =>
      have na : a ≠ p := fun z => by
        rcases i1.2 with h | h
        · have := h.1; rw [z, hp] at this; cases this
        · rw [z] at h; exact h hg
      refine rg_iff.mpr ⟨⟨i1.1, ?_⟩, by rw [upd_ne na]; exact q'⟩
      rcases i1.2 with h | h
      · exact .inl ⟨by rw [upd_ne na]; exact h.1, h.2⟩
      · exact .inr h
/-- a list that may be changed is tracked -/
theorem trk (NL : NoL K) {G H0 : Hp} {v : V} {ds : List D} (h : Dp K (rgt G H0) v (.list ds)) : ∃ a vs, v = .ref a ∧ H0 a = some (.lst vs) ∧ G a = none ∧ DpAll K (rgt G H0) vs ds := by
  cases h with
  | lst hs hd =>
    rcases hs with (h | ⟨o, h⟩) | ⟨o, its, n, h1, h2, _⟩
    · exact ⟨_, _, rfl, (rgt_iff.mp h).2, (rgt_iff.mp h).1.1, hd⟩
    · exact absurd (rgt_iff.mp h).1.2 (fun z => z)
    · exact absurd h2 (NL _ _ h1)
end
def tClr (K : PySem.W.Frag) (z : Nat) : TS := fun D σ H => tBM0 K "list" rClear (tVar z) σ H fun _ H1 => D.nx σ H1
def flK (Γ : List Md) (kl : List Nat) : Bool := (List.range Γ.length).all fun j => flat (md Γ j) || kl.contains j
theorem flK_ok {Γ : List Md} {kl : List Nat} (h : flK Γ kl = true) {e : SE} (j : Nat) (d : D) (hj : (kil kl e)[j]? = some (some d)) : flat (md Γ j) = true := by
  by_cases q : j < Γ.length
  · have := List.all_eq_true.mp h j (List.mem_range.mpr q)
    rcases Bool.or_eq_true _ _ ▸ this with z | z
    · exact z
    · exact absurd (List.contains_iff_mem.mp z) (kil_at hj).1
  · unfold md
    rw [List.getD_eq_getElem?_getD, List.getElem?_eq_none (by omega)]
    rfl
def isTr : Md → Bool
  | .tr => true
  | _ => false
theorem isTr_is {m : Md} (h : isTr m = true) : m = .tr := by cases m <;> first | rfl | cases h
def sClr (ok : D → Bool) (k z : Nat) (kl : List Nat) (g : SE → Option Rs) (e : SE) : Option Rs := (dV k e).bind fun x => match x with
  | .list ds => if ds.all ok = true ∧ z < e.length then g (kil kl e) else none
  | _ => none
def is3 : D → Bool
  | .tuple [_, _, .list xs] => xs.all isSc
  | _ => false
def is1 : D → Bool
  | .list xs => xs.all isSc
  | _ => false
theorem is3_is {d : D} (h : is3 d = true) : ∃ a b xs, d = .tuple [a, b, .list xs] ∧ xs.all isSc = true := by
  unfold is3 at h
  split at h
  · exact ⟨_, _, _, rfl, h⟩
  · cases h
def It3 (K : PySem.W.Frag) (G H0 : Hp) (y : V) : Prop := ∃ T w l p xs, y = .ref T ∧ SqT K H0 T [w, l, .ref p] ∧ H0 p = some (.lst xs) ∧ G p = none ∧ ∀ (m : Nat) b, xs[m]? ≠ some (.ref b)
theorem sqt_upd {K : PySem.W.Frag} {H0 : Hp} {T p : Addr} {ws xs ys : List V} (h : SqT K H0 T ws) (hp : H0 p = some (.lst xs)) : SqT K (upd H0 p (.lst ys)) T ws := by
  rcases h with (h | ⟨o, h⟩) | h
  · have : T ≠ p := fun z => by rw [z, hp] at h; cases h
    exact .inl (.inl (by rw [upd_ne this]; exact h))
  · have : T ≠ p := fun z => by rw [z, hp] at h; cases h
    exact .inl (.inr ⟨o, by rw [upd_ne this]; exact h⟩)
  · exact .inr h
theorem It3.upd {K : PySem.W.Frag} {G H0 : Hp} {y : V} {p : Addr} {xs : List V} (h : It3 K G H0 y) (hp : H0 p = some (.lst xs)) : It3 K G (L2.upd H0 p (.lst [])) y := by
  obtain ⟨T, w, l, q, us, rfl, h1, h2, h3, h4⟩ := h
  by_cases z : q = p
  · subst z
    exact ⟨T, w, l, q, [], rfl, sqt_upd h1 hp, upd_same, h3, fun m b => by simp⟩
  · exact ⟨T, w, l, q, us, rfl, sqt_upd h1 hp, by rw [upd_ne z]; exact h2, h3, h4⟩
theorem is1_is {d : D} (h : is1 d = true) : ∃ xs, d = .list xs ∧ xs.all isSc = true := by
  unfold is1 at h
  split at h
  · exact ⟨_, rfl, h⟩
  · cases h
def It1 (_ : PySem.W.Frag) (G H0 : Hp) (y : V) : Prop := ∃ p xs, y = .ref p ∧ H0 p = some (.lst xs) ∧ G p = none ∧ ∀ (m : Nat) b, xs[m]? ≠ some (.ref b)
theorem It1.upd {K : PySem.W.Frag} {G H0 : Hp} {y : V} {p : Addr} {xs : List V} (h : It1 K G H0 y) (_ : H0 p = some (.lst xs)) : It1 K G (L2.upd H0 p (.lst [])) y := by
  obtain ⟨q, us, rfl, h2, h3, h4⟩ := h
  by_cases z : q = p
  · subst z
    exact ⟨q, [], rfl, upd_same, h3, fun m b => by simp⟩
  · exact ⟨q, us, rfl, by rw [upd_ne z]; exact h2, h3, h4⟩
theorem sc_noref {K : PySem.W.Frag} {H : Hp} {vs : List V} {ds : List D} (h : DpAll K H vs ds) (hs : ds.all isSc = true) {j : Nat} {a : Addr} : vs[j]? ≠ some (.ref a) := fun e => by
  obtain ⟨d, h1, h2⟩ := dps_at h e
  have := List.all_eq_true.mp hs d (List.mem_of_getElem? h1)
  have := dp_sc this h2
  cases d <;> cases this
section
variable {K : PySem.W.Frag} {Γ : List Md} {k i1 i2 z : Nat} {kl : List Nat} {g : SE → Option Rs} {t : TS}
/-- for a, b, x in S: x.clear(); S.clear() -/
theorem ok_clr3 (NL : NoL K) (hk : isTr (md Γ k) = true) (hz : kl.contains k && kl.contains i1 && kl.contains i2 && kl.contains z = true) (hd : (z != i1 && z != i2 && k != z && k != i1 && k != i2) = true) (hf : flK Γ kl = true) (hg : OkTail K Γ g t) :
    OkTail K Γ (sClr is3 k z kl g) (tSeq (tFor (iList K (tVar k)) (gTup K 3 (gCons (gName i1) (gCons (gName i2) (gCons (gName z) gNil)))) (tClr K z)) (tSeq (tClr K k) t)) := by
  intro N G H0 own env σ H D d R hN q hs c
  unfold sClr at q
  cases e1 : dV k env with
  | none => rw [e1] at q; cases q
  | some x =>
    rw [e1] at q
    simp only [Option.bind_some] at q
    cases x with
    | list ds =>
      simp only at q
      by_cases h34 : ds.all is3 = true ∧ z < env.length
      · rw [if_pos h34] at q
        obtain ⟨h3, hzl⟩ := h34
        obtain ⟨v, hv, so⟩ := R.sl k _ (dV_get e1)
        rw [isTr_is hk] at so
        obtain ⟨a, vs, rfl, ha, ga, hds⟩ := trk NL (show Dp K (rgt G H0) v (.list ds) from so)
        simp only [Bool.and_eq_true, bne_iff_ne, ne_eq, List.contains_iff_mem] at hz hd
        obtain ⟨⟨⟨zk, z1⟩, z2⟩, zz⟩ := hz
        obtain ⟨⟨⟨⟨d1, d2⟩, d3⟩, d4⟩, d5⟩ := hd
        have R0 := ER.kil kl R
        have items : ∀ (j : Nat) y, vs[j]? = some y → It3 K G H0 y := fun j y hy => by
          obtain ⟨dd, g1, g2⟩ := dps_at hds hy
          obtain ⟨da, db, us, rfl, hu⟩ := is3_is (List.all_eq_true.mp h3 dd (List.mem_of_getElem? g1))
          cases g2 with
          | tup hs h4 =>
            cases h4 with
            | cons h5 h6 =>
              cases h6 with
              | cons h7 h8 =>
                cases h8 with
                | cons h9 h10 =>
                  cases h10
                  obtain ⟨p, xs, rfl, hp, gp, hx⟩ := trk NL h9
                  exact ⟨_, _, _, p, xs, rfl, same_t rgt_sub hs, hp, gp, fun m b => sc_noref hx hu⟩
        have dead : ∀ j, j ∈ kl → ∀ d, (kil kl env)[j]? ≠ some (some d) := fun j hj d e => (kil_at e).1 hj
        have fl := fun (j : Nat) d hj => flK_ok hf (e := env) j d hj
        refine ⟨.ref a, hv, a, rfl, ⟨vs, SqL.of (R.ex _ _ ha)⟩, fun i m σ' H' => ∃ H0', ER K Γ G H0' own (kil kl env) σ' H' ∧ H0' a = some (.lst vs) ∧ (∀ (j : Nat) y, vs[j]? = some y → It3 K G H0' y) ∧ m + i = vs.length ∧ σ'[k]? = some (some (.ref a)), ⟨vs.length, H0, R0, ha, items, by omega, hv⟩, ?_⟩
        rintro i m σ' H' ⟨H0', R', ha', it', hm, hk'⟩
        have hH := R'.ex _ _ ha'
        cases m with
        | zero =>
          refine .inl ⟨⟨vs, SqL.of hH, by omega⟩, .ref a, hk', .inl ⟨rfl, vs, SqL.of hH⟩, a, vs, rfl, rfl, hH, ?_⟩
          exact hg N G _ own (kil kl env) σ' _ D d (R'.trash ha' ga fl) hN q hs c
        | succ m =>
          have hi : i < vs.length := by omega
          refine .inr ⟨⟨vs, vs[i], SqL.of hH, List.getElem?_eq_getElem hi⟩, fun σ2 H2 => ∃ H0', ER K Γ G H0' own (kil kl env) σ2 H2 ∧ H0' a = some (.lst vs) ∧ (∀ (j : Nat) y, vs[j]? = some y → It3 K G H0' y) ∧ m + (i + 1) = vs.length ∧ σ2[k]? = some (some (.ref a)), fun σ2 H2 h => ⟨m, Nat.lt_succ_self m, h⟩, fun y H2 yl => ?_⟩
          obtain ⟨rfl, hy⟩ := yl
          have hy := hy vs (SqL.of hH)
          obtain ⟨T, w, l, p, xs, rfl, hT, hp, gp, hx⟩ := it' i y hy
          have hpH := R'.ex _ _ hp
          have hap : a ≠ p := fun e => by
            rw [e, hp] at ha'
            cases ha'
            exact hx i T hy
          refine ⟨T, _, rfl, same_t R'.ex hT, rfl, _, _, rfl, _, _, rfl, _, _, rfl, rfl, .ref p, List.getElem?_set_self (by rw [List.length_set, List.length_set, ← R'.le, kil_len]; exact hzl), .inl ⟨rfl, xs, SqL.of hpH⟩, p, xs, rfl, rfl, hpH, ?_⟩
          refine ⟨L2.upd H0' p (.lst []), (((R'.sig (dead i1 z1)).sig (dead i2 z2)).sig (dead z (of_decide_eq_true zz))).trash hp gp fl, by rw [upd_ne hap]; exact ha', fun j y hy => (it' j y hy).upd hp, by omega, ?_⟩
          rw [List.getElem?_set_ne (Ne.symm d3), List.getElem?_set_ne (Ne.symm d5), List.getElem?_set_ne (Ne.symm d4)]
          exact hk'
      · rw [if_neg h34] at q; cases q
    | _ => cases q
/-- for x in S: x.clear(); S.clear() -/
theorem ok_clr1 (NL : NoL K) (hk : isTr (md Γ k) = true) (hz : kl.contains k && kl.contains z = true) (hd : (k != z) = true) (hf : flK Γ kl = true) (hg : OkTail K Γ g t) :
    OkTail K Γ (sClr is1 k z kl g) (tSeq (tFor (iList K (tVar k)) (gName z) (tClr K z)) (tSeq (tClr K k) t)) := by
  intro N G H0 own env σ H D d R hN q hs c
  unfold sClr at q
  cases e1 : dV k env with
  | none => rw [e1] at q; cases q
  | some x =>
    rw [e1] at q
    simp only [Option.bind_some] at q
    cases x with
    | list ds =>
      simp only at q
      by_cases h34 : ds.all is1 = true ∧ z < env.length
      · rw [if_pos h34] at q
        obtain ⟨h3, hzl⟩ := h34
        obtain ⟨v, hv, so⟩ := R.sl k _ (dV_get e1)
        rw [isTr_is hk] at so
        obtain ⟨a, vs, rfl, ha, ga, hds⟩ := trk NL (show Dp K (rgt G H0) v (.list ds) from so)
        simp only [Bool.and_eq_true, bne_iff_ne, ne_eq, List.contains_iff_mem] at hz hd
        obtain ⟨zk, zz⟩ := hz
        have R0 := ER.kil kl R
        have items : ∀ (j : Nat) y, vs[j]? = some y → It1 K G H0 y := fun j y hy => by
          obtain ⟨dd, g1, g2⟩ := dps_at hds hy
          obtain ⟨us, rfl, hu⟩ := is1_is (List.all_eq_true.mp h3 dd (List.mem_of_getElem? g1))
          obtain ⟨p, xs, rfl, hp, gp, hx⟩ := trk NL g2
          exact ⟨p, xs, rfl, hp, gp, fun m b => sc_noref hx hu⟩
        have dead : ∀ j, j ∈ kl → ∀ d, (kil kl env)[j]? ≠ some (some d) := fun j hj d e => (kil_at e).1 hj
        have fl := fun (j : Nat) d hj => flK_ok hf (e := env) j d hj
        refine ⟨.ref a, hv, a, rfl, ⟨vs, SqL.of (R.ex _ _ ha)⟩, fun i m σ' H' => ∃ H0', ER K Γ G H0' own (kil kl env) σ' H' ∧ H0' a = some (.lst vs) ∧ (∀ (j : Nat) y, vs[j]? = some y → It1 K G H0' y) ∧ m + i = vs.length ∧ σ'[k]? = some (some (.ref a)), ⟨vs.length, H0, R0, ha, items, by omega, hv⟩, ?_⟩
        rintro i m σ' H' ⟨H0', R', ha', it', hm, hk'⟩
        have hH := R'.ex _ _ ha'
        cases m with
        | zero =>
          refine .inl ⟨⟨vs, SqL.of hH, by omega⟩, .ref a, hk', .inl ⟨rfl, vs, SqL.of hH⟩, a, vs, rfl, rfl, hH, ?_⟩
          exact hg N G _ own (kil kl env) σ' _ D d (R'.trash ha' ga fl) hN q hs c
        | succ m =>
          have hi : i < vs.length := by omega
          refine .inr ⟨⟨vs, vs[i], SqL.of hH, List.getElem?_eq_getElem hi⟩, fun σ2 H2 => ∃ H0', ER K Γ G H0' own (kil kl env) σ2 H2 ∧ H0' a = some (.lst vs) ∧ (∀ (j : Nat) y, vs[j]? = some y → It1 K G H0' y) ∧ m + (i + 1) = vs.length ∧ σ2[k]? = some (some (.ref a)), fun σ2 H2 h => ⟨m, Nat.lt_succ_self m, h⟩, fun y H2 yl => ?_⟩
          obtain ⟨rfl, hy⟩ := yl
          have hy := hy vs (SqL.of hH)
          obtain ⟨p, xs, rfl, hp, gp, hx⟩ := it' i y hy
          have hpH := R'.ex _ _ hp
          have hap : a ≠ p := fun e => by
            rw [e, hp] at ha'
            cases ha'
            exact hx i _ hy
          refine ⟨.ref p, List.getElem?_set_self (by rw [← R'.le, kil_len]; exact hzl), .inl ⟨rfl, xs, SqL.of hpH⟩, p, xs, rfl, rfl, hpH, ?_⟩
          refine ⟨L2.upd H0' p (.lst []), (R'.sig (dead z (of_decide_eq_true zz))).trash hp gp fl, by rw [upd_ne hap]; exact ha', fun j y hy => (it' j y hy).upd hp, by omega, ?_⟩
          rw [List.getElem?_set_ne (Ne.symm hd)]
          exact hk'
      · rw [if_neg h34] at q; cases q
    | _ => cases q
end
section
variable {X : Cx} {Γ : List Md} {r : Rl} {st b c : Stmt} {rest : List Stmt} {tg eS : Expr} {f g : SE → Option Rs} {t v : TS} {pos : Pos} {k i1 i2 z : Nat}
theorem vt_of (h : VSs X Γ false .nw rest g t) : VTail X Γ rest g t := ⟨h.ps, OkTail.of h.ok⟩
theorem vt_cons (h : VS X Γ false .nw st f t) (hr : VTail X Γ rest g v) : VTail X Γ (st :: rest) (sSeq f g) (tSeq t v) := ⟨pss_cons h.ps hr.ps, OkTail.seq h.ok hr.ok⟩
theorem vss_base (plan : List Pl) (h : ∀ w, VTail X (mkG plan 0 w) rest g t) (hl : Γ.length ≤ plan.length := by decide) (ht : plan.all (fun p => match p with | .tr => false | _ => true) = true := by rfl) : VSs X Γ false r rest (sZ (klG plan 0) g) t := ⟨(h fun _ => .non).ps, OkTail.base plan hl ht fun w => (h w).ok⟩
theorem vt_reb (plan : List Pl) (h : ∀ w, VTail X (mkG plan 0 w) rest g t) (ht : rebOk Γ plan = true := by rfl) : VTail X Γ rest (sReb plan.length (klG plan 0) g) t := ⟨(h fun _ => .non).ps, OkTail.reb plan ht fun w => (h w).ok⟩
theorem vt_clr3 (k i1 i2 z : Nat) (kl : List Nat) (NL : NoL X.K) (hp : PassesOwn (model X.prog X.w) X.A X.env X.xe) (hc : X.calm = true) (hS : PE X eS (tVar k)) (hg : PG X tg (gTup X.K 3 (gCons (gName i1) (gCons (gName i2) (gCons (gName z) gNil)))))
    (hb : PS X b (tClr X.K z)) (hc2 : PS X c (tClr X.K k)) (hr : VTail X Γ rest g v) (hk : isTr (md Γ k) = true := by rfl) (hz : kl.contains k && kl.contains i1 && kl.contains i2 && kl.contains z = true := by decide) (hd : (z != i1 && z != i2 && k != z && k != i1 && k != i2) = true := by decide) (hf : flK Γ kl = true := by rfl)
    (hs : ∀ x, foldedSetIterable eS X.env x = pure x := by intro _; rfl) : VTail X Γ (.For tg eS [b] [] pos :: c :: rest) (sClr is3 k z kl g) (tSeq (tFor (iList X.K (tVar k)) (gTup X.K 3 (gCons (gName i1) (gCons (gName i2) (gCons (gName z) gNil)))) (tClr X.K z)) (tSeq (tClr X.K k) v)) :=
  ⟨pss_cons (ps_for hp hc (pi_list hS) hg (pss_one hb) hs) (pss_cons hc2 hr.ps), ok_clr3 NL hk hz hd hf hr.ok⟩
theorem vt_clr1 (k z : Nat) (kl : List Nat) (NL : NoL X.K) (hp : PassesOwn (model X.prog X.w) X.A X.env X.xe) (hc : X.calm = true) (hS : PE X eS (tVar k)) (hg : PG X tg (gName z))
    (hb : PS X b (tClr X.K z)) (hc2 : PS X c (tClr X.K k)) (hr : VTail X Γ rest g v) (hk : isTr (md Γ k) = true := by rfl) (hz : kl.contains k && kl.contains z = true := by decide) (hd : (k != z) = true := by decide) (hf : flK Γ kl = true := by rfl)
    (hs : ∀ x, foldedSetIterable eS X.env x = pure x := by intro _; rfl) : VTail X Γ (.For tg eS [b] [] pos :: c :: rest) (sClr is1 k z kl g) (tSeq (tFor (iList X.K (tVar k)) (gName z) (tClr X.K z)) (tSeq (tClr X.K k) v)) :=
  ⟨pss_cons (ps_for hp hc (pi_list hS) hg (pss_one hb) hs) (pss_cons hc2 hr.ps), ok_clr1 NL hk hz hd hf hr.ok⟩
/-- x.clear() of a slot -/
theorem ps_clr {x : Str} {px apos cpos : Pos} (h : PE X (.Name x px) (tVar k)) (hb : attributeBase (.Name x px) "clear" X.env (eval (.Name x px) X.env) = eval (.Name x px) X.env := by rfl) (h2 : (apos.endLine == cpos.line) = true := by rfl)
    (hs : swapsWith (.Call (.Attribute (.Name x px) "clear" apos) [] [] cpos) none pos.line X.env = pure false := by rfl) : PS X (.Expr (.Call (.Attribute (.Name x px) "clear" apos) [] [] cpos) pos) (tClr X.K k) :=
  ps_expr (pe_bm0 PySem.F.plainAttrs_list PySem.F.slot_list_clear PySem.F.type_list_clear mt_clear h hb h2) hs
end
section
variable {K : PySem.W.Frag} {Γ : List Md} {r : Rl}
/-- everything is handed in -/
theorem ER.allOd {G H0 H : Hp} {own : List (Option Addr)} {env : SE} {σ : L2.St} (R : ER K Γ G H0 own env σ H) : ER K [] H H (List.replicate own.length none) env σ H := R.allIn [] rfl
theorem od_back {G H0 H H' : Hp} {own ex : List (Option Addr)} {env : SE} {σ : L2.St} (R : ER K Γ G H0 own env σ H) : Same (rg .nw H H (List.replicate own.length none ++ ex) H') (rg .nw G H0 (own ++ ex) H') := fun b o e => by
  obtain ⟨⟨i1, i2, i3⟩, q⟩ := rg_iff.mp e
  refine rg_iff.mpr ⟨⟨fun ⟨j, hj⟩ => ?_, ?_, i3⟩, q⟩
  · by_cases z : j < own.length
    · rw [List.getElem?_append_left z] at hj
      obtain ⟨_, o', h⟩ := R.fr j b hj
      rw [i2] at h; cases h
    · refine i1 ⟨j, ?_⟩
      rw [List.getElem?_append_right (by rw [List.length_replicate]; omega), List.length_replicate]
      rw [List.getElem?_append_right (by omega)] at hj
      exact hj
  · cases e1 : H0 b with
    | none => rfl
    | some o1 => have := R.ex _ _ e1; rw [i2] at this; cases this
theorem okL_od {f : SE → Option (List D)} {t : TE} (h : OkL K [] .nw f t) : OkL K Γ .nw f t := fun G H0 own env σ H Q ds R z k =>
  h H H _ env σ H Q ds R.allOd z fun a vs H' s n e p => k a vs H' s n e (dps_mono (od_back R) _ _ p)
theorem okE_od {f : SE → Option D} {t : TE} (h : OkE K [] .nw f t) : OkE K Γ .nw f t := fun G H0 own env σ H Q d R z k =>
  h H H _ env σ H Q d R.allOd z fun v H' s p => k v H' s (dp_mono (by have := od_back (ex := []) (H' := H') R; rwa [List.append_nil, List.append_nil] at this) _ _ p)
theorem okT_od {f : SE → Option Bool} {t : TT} (h : OkT K [] f t) : OkT K Γ f t := fun G H0 own env σ H Q d R z k => h H H _ env σ H Q d R.allOd z k
end
section
variable {X : Cx} {Γ : List Md} {u : Bool} {r ri re : Rl} {e elt iter tg : Expr} {scope : Scope} {own : List (Str × Nat)} {is : List Nat} {set : D → SE → Option SE} {c : SE → Option Bool} {h : SE → Option D} {f : SE → Option (List D)} {wi : TI} {y : Str} {pos py spos : Pos} {ifs : List Expr}
theorem v_od {f : SE → Option D} {t : TE} (h : VE X [] e .nw f t) : VE X Γ e .nw f t := ⟨h.pe, okE_od h.ok⟩
theorem vt_od {f : SE → Option Bool} {t : TT} (h : VT X [] e f t) : VT X Γ e f t := ⟨h.pt, okT_od h.ok⟩
theorem vl_od {f : SE → Option (List D)} {t : TE} (h : VL X [] e .nw f t) : VL X Γ e .nw f t := ⟨h.pe, okL_od h.ok⟩
/-- y = [.. for ..] on one row, everything taken as handed in -/
theorem vs_setCD {ws : List Nat} {te : Fam TE} {tt : Fam TT} {g : Fam TG} (i : Nat) (hcalm : X.calm = true) (hN : X.N.Nodup) (hsw : swapsWith (.ListComp elt [⟨tg, iter, ifs, 0⟩] scope pos) (some (.Name y py)) spos.line X.env = pure true) (hi : VI X [] tg iter ri f wi) (ok : BlkOk X.N X.env.scope scope own)
    (hg : ∀ s H C cl fp, VG (X.blk s H scope (compEnvC scope cl C X.env) fp) [] tg ri is set (g s H C cl fp))
    (ht : ∀ s H C cl fp, VTs (X.blk s H scope (compEnvC scope cl C X.env) fp) [] ifs c (tt s H C cl fp))
    (he : ∀ s H C cl fp, VE (X.blk s H scope (compEnvC scope cl C X.env) fp) [] elt re h (te s H C cl fp)) (hre : re = .nw := by rfl) (hws : own.map (·.2) = ws := by rfl) (his : ∀ j ∈ is, j ∈ ws := by decide)
    (ha : acc .nw (md Γ i) = true := by rfl) (hyi : X.N[i]? = some y := by rfl) (hyl : X.env.scope.names.lookup y = some .local := by rfl)
    (hs : ∀ x, foldedSetIterable iter X.env x = pure x := by intro _; rfl) : VS X Γ u r (.Assign [.Name y py] (.ListComp elt [⟨tg, iter, ifs, 0⟩] scope pos) spos) (sSet i (dLst (lComp ws set c h f))) (tAsg (tLc wi (allG g) (allT tt) (allE te) ws) (gName i)) := by
  subst hre
  have S := vs_setC (u := u) (r := r) (Γ := []) i hcalm hN hsw hi ok (fam_g hg) (fam_t ht) (fam_e he) (by intro z; cases z) hws his (by rfl) hyi hyl hs
  have V := vl_comp (pos := pos) hcalm hN hi ok (fam_g hg) (fam_t ht) (fam_e he) (by intro z; cases z) hws his hs
  exact ⟨S.ps, ok_set ha (ok_ofL (okL_od V.ok))⟩
end
section
variable {kl : List Nat} {g : SE → Option Rs} {e : SE} {n k z : Nat} {ok : D → Bool} {ds : List D}
def zK (x : Rs) : Option Rs := match x with
  | .rt d => if isSc d = true then some (.rt d) else none
  | _ => none
theorem v_sZ : sZ kl g e = (g (kil kl e)).bind zK := rfl
theorem k_sZ {b : Bool} : zK (.rt (.bool b)) = some (.rt (.bool b)) := rfl
theorem v_sReb : sReb n kl g e = if e.length ≤ n then g (kil kl e) else none := rfl
def clrK (ok : D → Bool) (z : Nat) (kl : List Nat) (g : SE → Option Rs) (e : SE) (x : D) : Option Rs := match x with
  | .list ds => if ds.all ok = true ∧ z < e.length then g (kil kl e) else none
  | _ => none
theorem v_sClr : sClr ok k z kl g e = (dV k e).bind (clrK ok z kl g e) := rfl
theorem k_sClr (h : ds.all ok = true) : clrK ok z kl g e (.list ds) = if z < e.length then g (kil kl e) else none := by
  show (if ds.all ok = true ∧ z < e.length then g (kil kl e) else none) = _
  rw [h]
  simp
end
end PV

namespace PV
open PySem PySem.Spec PyProof.Rows L2
theorem list_extW (l : Addr) (items : Array Value) (n : Nat) (b : Addr) (items2 : Array Value) (n2 : Nat) (dd2 : Option Addr) (sl2 : Array (Option Value)) (hc0 : ¬(!items.isEmpty && Builtin.List.listTooLong (items.size + items2.size)) = true) (hc1 : items.size ≤ sizeLine) (hs2 : items.size + items2.size ≤ sizeLine + 1) :
    Meets (Builtin.«list.extend» ⟨[.ref l, .ref b], []⟩) (fun _ R s => s.heap.get? l = some { cls := .type "list", dict := none, data := .seq items n, slots := #[] } ∧ s.heap.get? b = some { cls := .type "list", dict := dd2, data := .seq items2 n2, slots := sl2 } ∧ R (.ok (.ret Value.none)) { s with heap := s.heap.update l (Obj.mapSeq fun x => x ++ items2), toks := s.toks }) :=
  .of_wp fun prog w A R s h => by
    obtain ⟨hp, g, d, tk, os⟩ := s; obtain ⟨hl, hb, h⟩ := h; have f1 := AutoSeq1.idx_int; have f2 := AutoSeq1.sub_tuple_tuple; have f3 := AutoSeq1.sub_list_list; have f4 := AutoSeq1.sub_tuple_list; have f5 := AutoSeq1.sub_list_tuple;
    have hz' : (items ++ items2).size ≤ sizeLine + 1 := by rw [Array.size_append]; exact hs2
    wp_walk using (wpAny_updateSeq hl rfl (hz := hc1) (_hz' := hz')), AutoSeq1.wpAny_loadPart' hl, AutoSeq1.wpAny_loadPart' hb; exact ⟨_, rfl, h⟩
def rExtW (K : PySem.W.Frag) : V → List V → Hp → VK → Prop := fun x vs H Q => ∃ l b xs zs, x = .ref l ∧ vs = [.ref b] ∧ H l = some (.lst xs) ∧ SqL K H b zs ∧ xs.length + zs.length ≤ sizeLine ∧ Q .non (upd H l (.lst (xs ++ zs)))
theorem mt_extW {X : Cx} : MtM X "list.extend" (rExtW X.K) := by
  intro pins s σ H x vs v us Q I rx rv h
  obtain ⟨l, b, xs, zs, rfl, rfl, hH, hB, hz, q⟩ := h
  cases rx
  obtain ⟨u, rfl, ru⟩ := rv.one
  cases ru
  obtain ⟨z, its, n, r, hl, e⟩ := I.lstM hH
  obtain ⟨its2, r2, p2, z2⟩ := I.list hB
  obtain ⟨⟨cls2, dd2, data2, sl2⟩, n2, ho2, hc2, hdd2, hd2⟩ := p2
  simp only at hc2 hd2
  subst hc2 hd2
  have l2 := r2.length
  have hsz : its.toArray.size + its2.toArray.size ≤ sizeLine := by rw [List.size_toArray, List.size_toArray]; omega
  have hlong : ¬ (!its.toArray.isEmpty && Builtin.List.listTooLong (its.toArray.size + its2.toArray.size)) = true := by
    rw [notLongL hsz, Bool.and_false]
    exact Bool.false_ne_true
  refine call_meets PySem.F.slot_list_extend ⟨_, e, rfl⟩ PySem.F.entry_list_extend (PySem.F.args_list_extend_2 _ _)
    (list_extW l its.toArray n b its2.toArray n2 dd2 sl2 hlong (by rw [List.size_toArray]; omega) (by omega)) ⟨e, ho2, ?_⟩
  refine ⟨.non, _, I.lset (its' := its ++ its2) hH e (by simp) (r.append r2) ?_, rfl, q⟩
  rw [List.length_append]
  omega
def hExt (xs as : List D) : Option (List D) := match as with
  | [.list ys] => if xs.length + ys.length ≤ 1000000 then some (xs ++ ys) else none
  | _ => none
theorem hExt_of {xs ys : List D} (h : xs.length + ys.length ≤ 1000000) : hExt xs [.list ys] = some (xs ++ ys) := by
  unfold hExt
  simp only [if_pos h]
section
variable {K : PySem.W.Frag} {Γ : List Md} {u : Bool} {r ra : Rl}
theorem ok_ext {k : Nat} {fs : SE → Option (List D)} {ts : TA} (ha : OkA K Γ ra fs ts) (hm : isM (md Γ k) = true) (hc : accE ra (moR (md Γ k)) = true) :
    OkS K Γ u r (sMut k hExt fs) (fun D σ H => (tBM K "list" (rExtW K) (tVar k) ts) σ H fun _ H1 => D.nx σ H1) := fun G H0 own env σ H D' res R z p => by
  unfold sMut at z
  cases e1 : dV k env with
  | none => rw [e1] at z; cases z
  | some y =>
    rw [e1] at z
    simp only [Option.bind_some] at z
    cases e2 : list? y with
    | none => rw [e2] at z; cases z
    | some xs =>
      rw [e2] at z
      simp only [Option.bind_some] at z
      cases e3 : fs env with
      | none => rw [e3] at z; cases z
      | some as =>
        rw [e3] at z
        simp only [Option.bind_some] at z
        cases e4 : hExt xs as with
        | none => rw [e4] at z; cases z
        | some ys =>
          rw [e4] at z
          cases z
          obtain ⟨w, h1, h2⟩ := R.sl k y (dV_get e1)
          obtain ⟨a, vs, ds, rfl, ho, hH, rfl, hd⟩ := slotM_of hm h2
          cases e2
          refine ⟨_, h1, .inl ⟨rfl, vs, SqL.of hH⟩, ha G H0 own env σ H _ as R e3 fun us H1 s1 c => ?_⟩
          have R1 := R.ext s1
          unfold hExt at e4
          split at e4
          · rename_i zs
            split at e4
            · rename_i hz
              cases e4
              cases c with
              | cons c c2 =>
                cases c2
                cases c with
                | lst hs hds =>
                  have hd1 := dps_mono (rg_ext s1) _ _ hd
                  have hd2 := dps_mono (rg_le (accE_le hc)) _ _ hds
                  obtain ⟨R3, g3⟩ := R1.mutd hm ho h1 (dps_app hd1 hd2)
                  have hH1 := s1 _ _ hH
                  refine ⟨a, _, vs, _, rfl, rfl, hH1, rg_sub.seq hs, ?_, p own σ _ R3 ((Gr.of s1).trans g3)⟩
                  rw [dps_len hd, dps_len hds]
                  exact Nat.le_trans hz (by decide)
            · cases e4
          · cases e4
end
section
variable {X : Cx} {Γ : List Md} {u : Bool} {r re ra rb : Rl} {e : Expr} {fs : SE → Option (List D)} {ts : TA} {x : Str} {pos px apos cpos : Pos}
theorem vs_ext (k : Nat) (ha : VA X Γ [e] ra fs ts) (hm : isM (md Γ k) = true := by rfl) (hc : accE ra (moR (md Γ k)) = true := by rfl) (hN : X.N[k]? = some x := by rfl) (hv : Vis X.env.scope x := by first | exact Or.inl rfl | exact Or.inr (Or.inl rfl) | exact Or.inr (Or.inr rfl))
    (hd : (x == ("__debug__" : Str)) = false := by decide) (hcd : (x == ("__classdict__" : Str)) = false := by decide)
    (hb : attributeBase (.Name x px) "extend" X.env (eval (.Name x px) X.env) = eval (.Name x px) X.env := by rfl)
    (h1 : ((((backTo cpos (starEach [e] X.env)).all fun x => !x.fst) && (backToKw cpos (keywordEach [] X.env)).all fun x => x.fst.isSome) && decide (([e].length + ([] : List Keyword).length + if ([] : List Keyword).isEmpty = true then 0 else 1) < 30)) = true := by rfl)
    (h2 : (apos.endLine == cpos.line) = true := by rfl) (h3 : starEach [e] X.env = (false, eval e X.env) :: starEach [] X.env := by rfl) (h4 : ((backTo cpos (starEach [] X.env)).any fun x => x.fst) = false := by rfl)
    (hs : swapsWith (.Call (.Attribute (.Name x px) "extend" apos) [e] [] cpos) none pos.line X.env = pure false := by rfl) :
    VS X Γ u r (.Expr (.Call (.Attribute (.Name x px) "extend" apos) [e] [] cpos) pos) (sMut k hExt fs) (fun D σ H => (tBM X.K "list" (rExtW X.K) (tVar k) ts) σ H fun _ H1 => D.nx σ H1) :=
  ⟨ps_expr (pe_bm PySem.F.plainAttrs_list PySem.F.slot_list_extend PySem.F.type_list_extend mt_extW (pe_var hN hv hd hcd) ha.pa hb h1 h2 h3 h4) hs, ok_ext ha.ok hm hc⟩
end
end PV

set_option maxHeartbeats 4000000
namespace PV
open PySem PySem.Spec PyProof.Rows L2
section
variable {X : Cx} {Γ : List Md} {u : Bool} {r ra : Rl} {a : Expr} {f : SE → Option D} {ta : TE} {p p2 q pos : Pos} {sts : List Stmt}
/-- statements that are not come to -/
theorem vss_never : VSs X Γ u r sts (fun _ => none) (fun _ _ _ => False) := ⟨⟨fun pins s σ H D I h => h.elim⟩, fun G H0 own env σ H D res R z p => by cases z⟩
/-- len(set(numbers)), none of them twice -/
def lenSet1 : D → Option D
  | .list xs => (ints? xs).bind fun ns => if ns.Nodup ∧ ns.length < 64 then some (.int (ns.length : Int)) else none
  | _ => none
theorem v_lenSet (hc : X.calm = true) (hm : X.mg "len" = none) (hm2 : X.mg "set" = none) (ha : VE X Γ a r f ta) (hg : Gl X "len" := by rfl) (hg2 : Gl X "set" := by rfl)
    (na : starEach [a] X.env = (false, eval a X.env) :: starEach [] X.env := by rfl) : VE X Γ (.Call (.Name "len" p) [.Call (.Name "set" p2) [a] [] q] [] pos) .nw (d1 lenSet1 f) (tLenSetI X.K ta) :=
  ⟨pe_lenSetI hc hg hm hg2 hm2 ha.pe na, fun G H0 own env σ H Q d R z k => by
    unfold d1 at z
    cases e1 : f env with
    | none => rw [e1] at z; cases z
    | some x =>
      rw [e1] at z
      simp only [Option.bind_some] at z
      cases x with
      | list xs =>
        simp only [lenSet1] at z
        cases e2 : ints? xs with
        | none => rw [e2] at z; cases z
        | some ns =>
          rw [e2] at z
          simp only [Option.bind_some] at z
          obtain ⟨hn, rfl⟩ := ite_some z
          refine ha.ok G H0 own env σ H _ _ R e1 fun v1 H1 s1 p1 => ?_
          cases p1 with
          | lst hs hd =>
            rw [ints_is e2] at hd
            rw [dps_ints hd] at hs
            exact ⟨_, ns, rfl, rg_sub.seq hs, hn.2, hn.1, k _ H1 s1 (.int _)⟩
      | _ => cases z⟩
end
theorem lenSet1_of (ns : List Int) (h : ns.Nodup) (hl : ns.length < 64) : lenSet1 (.list (ns.map PyData.int)) = some (.int (ns.length : Int)) := by
  show (ints? (ns.map PyData.int)).bind (fun ns => if ns.Nodup ∧ ns.length < 64 then some (PyData.int (ns.length : Int)) else none) = _
  rw [ints_map]
  simp only [Option.bind_some, if_pos (And.intro h hl)]
end PV

namespace PV
open PySem PySem.Spec PyProof.Rows L2
/-! ### sorted(set(numbers)) -/
def set0 (w : World) : Obj := { cls := .type "set", dict := none, data := .set #[] 0 (.fresh 0 0 (!w.params.followText "set-order")) }
section
variable {P : Program} {w : World} {A : Around} {E : Value → Shared → Prop} {s : Shared}
theorem set_listI {l : Addr} {its : Array Value} (ns : List Int) {Q : Value → Shared → Prop} (hq : A.handled = none) (hl : s.heap.IsList l its) (hit : IntsAre its.toList ns) (hb : ns.length + 1 < scanBound)
    (hQ : ∀ (h' : Heap) (tk c : Nat), SetR w h' s.heap.objs.size (fun j => decide (j ∈ ns)) c → c ≤ ns.length → (∀ b o, s.heap.get? b = some o → h'.get? b = some o) → Q (.ref s.heap.objs.size) { s with heap := h', toks := tk }) :
    wpAny (model P w) A (call (.type "set") [.ref l]) Q E s := by
  have isz : its.size = ns.length := by have q := IntsAre.length hit; rw [Array.length_toList] at q; exact q
  obtain ⟨cc, tl, hmro⟩ := F.called_set.mro
  have a1 := F.called_set.made; have a2 := F.called_set.sub
  refine wpAny_call (codeAny_of_tree ?_); show wpAny _ _ (callAny (.type "set") _) _ _ _
  refine wpAny_pure ⟨Code.quiet_builtin _ (by decide +kernel), codeAny_builtin F.entry_type_call ?_⟩; rw [Around.under_plain (weight_type_call_type "set" [.ref l] []) rfl]
  have a3 := F.called_set.notType; have a4 := F.called_set.canCreate; have a5 := F.typeCall_set_1 (.ref l)
  (repeat (any_goals (first | assumption | wp_step)))
  refine codeAny_mono (code_set_led1 (.ref l) (E := E) (Q₁ := fun ob t => ob = .ref s.heap.objs.size ∧ t = { s with heap := s.heap.push (set0 w) }) ⟨rfl, rfl⟩) fun r t ht => ?_
  cases r with
  | error e => exact ht
  | ok fl =>
    cases fl with
    | ret ob =>
      obtain ⟨rfl, rfl⟩ := ht
      have hS : (s.heap.push (set0 w)).get? s.heap.objs.size = some (set0 w) := Heap.get?_push_size _ rfl
      have hT : Shared.TypeIs { s with heap := s.heap.push (set0 w) } (.ref s.heap.objs.size) "set" := ⟨_, hS, rfl⟩
      have b1 := F.called_set.init.lookup; have b2 := F.called_set.init.bind (.ref s.heap.objs.size)
      (repeat (any_goals (first | assumption | wp_step)))
      refine codeAny_mono (codeAny_call_builtin (R := wants (fun r t => r = .none ∧ ∃ h' tk c, t = { s with heap := h', toks := tk } ∧ SetR w h' s.heap.objs.size (fun j => decide (j ∈ ns)) c ∧ c ≤ ns.length ∧ (∀ b o, s.heap.get? b = some o → h'.get? b = some o)) E) F.called_set.init.plain F.entry_set_init (check_set_init_1 hT ?_)) fun r2 t2 ht2 => ?_
      · obtain ⟨⟨ocls, odict, odata, oslots⟩, hol, hcl, nl, hdl⟩ := hl
        simp only at hcl hdl; subst hcl; subst hdl
        have hol' : (s.heap.push (set0 w)).get? l = some { cls := .type "list", dict := odict, data := .seq its nl, slots := oslots } := Heap.get?_push_of_some _ hol
        have c1 := F.sub_list_set; have c2 := F.sub_list_frozenset; have c3 : (Value.type "list" == Value.type "dict") = false := by decide
        have hl1 : (s.heap.push (set0 w)).IsList l its := ⟨_, hol', rfl, nl, rfl⟩
        unfold Builtin.«set.__init__» noKeywords Builtin.Frozenset.updateFrom; generalize hPI : pyIter = PI
        wp_walk
        subst hPI
        refine wpAny_pyIter_list hl1 ?_; refine wpAny_bind (wpAny_runValue ?_)
        have d1 : l < s.heap.objs.size := Heap.lt_size hol
        have d2 : A.in1.in1.in1.handled = none := by simp [hq]
        have d3 : l ≠ (s.heap.push (set0 w)).objs.size := by rw [Heap.size_push]; exact Nat.ne_of_lt (Nat.lt_succ_of_lt d1)
        have d4 : s.heap.objs.size ∉ [(s.heap.push (set0 w)).objs.size, l] := by rw [Heap.size_push]; intro z; simp only [List.mem_cons, List.not_mem_nil, or_false] at z; exact z.elim (fun z => Nat.ne_of_lt (Nat.lt_succ_self _) z) (fun z => Nat.ne_of_gt d1 z)
        have d5 : ∀ (i : Nat) (v : Value), its[i]? = some v → ∃ k t, ns[i]? = some k ∧ v = .int k t := fun i v hv => by
          have hi : i < ns.length := by rw [← isz]; exact (Array.getElem?_eq_some_iff.mp hv).1
          obtain ⟨t, e⟩ := PyProof.Rows.IntsAre.int_at hit i v (by rw [Array.getElem?_toList]; exact hv)
          exact ⟨ns[i], t, List.getElem?_eq_getElem hi, by rw [e, List.getD_eq_getElem?_getD, List.getElem?_eq_getElem hi] <;> rfl⟩
        refine set_update_ints ((Walks.list d2 _ l d3 its).toS) s.heap.objs.size d4 ns isz hb d5 (its.size - 0) 0 _ (by omega) (Nat.zero_le _) ⟨⟨_, Heap.get?_push_size _ rfl, rfl, rfl⟩, (hl1.push _)⟩ ?g1 ?g2
        case g1 => exact ⟨0, Nat.le_refl 0, setR_new_at (Heap.get?_push_of_some _ hS)⟩
        case g2 =>
          intro t c hm hc hR
          obtain ⟨h', g2, d', tk', os'⟩ := t
          obtain ⟨e1, e2, e3⟩ : g2 = s.gens ∧ d' = s.drawn ∧ os' = s.os := ⟨hm.gens, hm.drawn, hm.os⟩
          subst e1; subst e2; subst e3
          show wpAny _ _ _ _ _ _
          refine wpAny_pure ?_; show wpAny _ _ (ret Value.none) _ _ _
          rw [isz] at hc
          refine wpAny_pure ⟨rfl, h', tk', c, rfl, hR, hc, fun b o e => ?_⟩
          have f0 : b < s.heap.objs.size := Heap.lt_size e
          exact hm.heap b o (by rw [Heap.size_push]; intro z; simp only [List.mem_cons, List.not_mem_nil, or_false] at z; exact z.elim (fun z => Nat.ne_of_lt f0 z) (fun z => Nat.ne_of_lt (Nat.lt_succ_of_lt f0) z)) (Heap.get?_push_of_some _ (Heap.get?_push_of_some _ e))
      · cases r2 with
        | error e => exact ht2
        | ok fl2 =>
          cases fl2 with
          | ret r =>
            obtain ⟨rfl, h', tk, c, rfl, hR, hc, hk⟩ := ht2
            (repeat (any_goals (first | assumption | wp_step)))
            exact hQ _ _ _ hR hc hk
          | _ => exact ht2.elim
    | _ => exact ht.elim
end
section
variable {X : Cx} {Γ : List Md} {u : Bool} {r ra : Rl} {a : Expr} {f : SE → Option D} {ta : TE} {p p2 q pos : Pos}
def tSrtSet (K : PySem.W.Frag) (ta : TE) : TE := fun σ H Q => ta σ H fun x H1 => ∃ (l : Addr) (ns : List Int), x = V.ref l ∧ SqL K H1 l (ns.map V.int) ∧ ns.length < 64 ∧ ns.Nodup ∧ ∀ (p : Addr), H1 p = none → Q (.ref p) (upd H1 p (.lst ((sortI ns).map V.int)))
theorem srtSet_eq {ns out : List Int} (hn : ns.Nodup) (h1 : out.Pairwise (· < ·)) (h2 : ∀ k : Int, k ∈ out ↔ decide (k ∈ ns) = true) : out = sortI ns := by
  refine sortI_unique ?_ (h1.imp fun h => by omega)
  refine (List.perm_ext_iff_of_nodup (h1.imp fun h => by omega) hn).mpr fun k => ?_
  rw [h2 k, decide_eq_true_iff]
theorem srt_step {pins : List (Addr × Obj)} {s : Shared} {σ : L2.St} {H : Hp} {Q : VK} {b : Addr} {S : Int → Bool} {n : Nat} (hc : X.calm = true) (hS : SetR X.w s.heap b S n) (h64 : n < 64) (I : Inv X pins σ H s) (q : ∀ (ns : List Int) (p : Addr), ns.Pairwise (· < ·) → (∀ k : Int, k ∈ ns ↔ S k = true) → H p = none → Q (.ref p) (upd H p (.lst (ns.map V.int)))) :
    wpAny (model X.prog X.w) X.A (call (.builtin "sorted") [.ref b]) (EP X pins σ Q) X.xe s := by
  refine sorted_set hS (I.ok.hd hc) h64 fun s' p out c ns k g o hp hg hi hs hm hl => ?_
  have hlen : (ns.map V.int).length ≤ sizeLine := by rw [List.length_map, hl, sizeLine_eq] <;> omega
  have hn : H p = none := I.hok.fresh hp
  have e : s' = { s with heap := s'.heap, gens := s'.gens, drawn := s'.drawn, toks := s'.toks } := by
    cases s'; cases s; cases o; rfl
  have J : Inv X pins σ (upd H p (.lst (ns.map V.int))) { s with heap := s'.heap, gens := s'.gens, drawn := s'.drawn, toks := s'.toks } := I.call (ch := []) (Un.laid k hp hn) (I.hok.laid k hp ⟨hlen, out.toList, c, vals_of_ints hi, hg⟩) (by rw [g]; exact I.bare) (fun _ z => nomatch z)
  rw [e]; exact ⟨.ref p, _, J, rfl, q ns p hs hm hn⟩
theorem pe_srtSet (hc : X.calm = true) (hg : Gl X "sorted") (hm : X.mg "sorted" = none) (hg2 : Gl X "set") (hm2 : X.mg "set" = none) (ha : PE X a ta)
    (na : starEach [a] X.env = (false, eval a X.env) :: starEach [] X.env := by rfl) : PE X (.Call (.Name "sorted" p) [.Call (.Name "set" p2) [a] [] q] [] pos) (tSrtSet X.K ta) := by
  refine ⟨fun pins s σ H Q I h => ?_⟩
  refine Call_ (ld_blt I hg hm (show bootBuiltins "sorted" = some (.builtin "sorted") by decide +kernel) ?_)
  refine PyProof.Rows.callWith_builtin1 (PyProof.Rows.args_cons ?_ rfl) rfl rfl
  refine Call_ (ld_blt I hg2 hm2 PyProof.Rows.boot_set ?_)
  refine PyProof.Rows.callWith_type1 (PyProof.Rows.args_cons (thn (ha.run pins s σ H _ I h) fun v s1 ⟨x, H1, I1, r1, q1⟩ => PyProof.Rows.args_nil ?_) na) na rfl
  obtain ⟨l, ns, rfl, hq, h1, hnd, q1⟩ := q1
  cases r1
  obtain ⟨its, r, pl, hz⟩ := I1.list hq
  refine set_listI ns (I1.ok.hd hc) pl.isList (by simpa using r.ints) (by unfold scanBound; omega) fun h' tk c hS hc2 hk => ?_
  refine PyProof.Rows.args_nil ?_
  have I2 : Inv X pins σ H1 { s1 with heap := h', toks := tk } := I1.kept hk
  exact srt_step hc hS (by omega) I2 fun ns' p hs hm hn => by
    have := q1 p hn
    rw [← srtSet_eq hnd hs hm] at this
    exact this
/-- sorted(set(x)), x of numbers that are none twice -/
def lSrtSet (f : SE → Option D) (e : SE) : Option (List D) := (f e).bind fun x => (list? x).bind fun xs => (ints? xs).bind fun ns => if ns.Nodup ∧ ns.length < 64 then some ((sortI ns).map PyData.int) else none
theorem vl_srtSet (hc : X.calm = true) (hm : X.mg "sorted" = none) (hm2 : X.mg "set" = none) (ha : VE X Γ a r f ta) (hg : Gl X "sorted" := by rfl) (hg2 : Gl X "set" := by rfl)
    (na : starEach [a] X.env = (false, eval a X.env) :: starEach [] X.env := by rfl) : VL X Γ (.Call (.Name "sorted" p) [.Call (.Name "set" p2) [a] [] q] [] pos) .nw (lSrtSet f) (tSrtSet X.K ta) :=
  ⟨pe_srtSet hc hg hm hg2 hm2 ha.pe na, fun G H0 own env σ H Q ds R z k => by
    unfold lSrtSet at z
    cases e1 : f env with
    | none => rw [e1] at z; cases z
    | some x =>
      rw [e1] at z
      simp only [Option.bind_some] at z
      cases x with
      | list xs =>
        simp only [list?, Option.bind_some] at z
        cases e2 : ints? xs with
        | none => rw [e2] at z; cases z
        | some ns =>
          rw [e2] at z
          simp only [Option.bind_some] at z
          by_cases hn : ns.Nodup ∧ ns.length < 64
          · rw [if_pos hn] at z
            cases z
            refine ha.ok G H0 own env σ H _ _ R e1 fun v1 H1 s1 p1 => ?_
            cases p1 with
            | lst hs hd =>
              rw [ints_is e2] at hd
              rw [dps_ints hd] at hs
              exact ⟨_, ns, rfl, rg_sub.seq hs, hn.2, hn.1, fun q hq => k q _ _ (s1.trans (same_new hq)) (s1.free hq) upd_same ints_dps⟩
          · rw [if_neg hn] at z; cases z
      | _ => cases z⟩
end
def srtSetK2 (xs : List D) : Option (List D) := (ints? xs).bind fun ns => if ns.Nodup ∧ ns.length < 64 then some ((sortI ns).map PyData.int) else none
def srtSetK (x : D) : Option (List D) := (list? x).bind srtSetK2
theorem v_srtSet {f : SE → Option D} {e : SE} : lSrtSet f e = (f e).bind srtSetK := rfl
theorem k_srtSet {xs : List D} : srtSetK (.list xs) = srtSetK2 xs := rfl
theorem srtSetK_of (ns : List Int) (h : ns.Nodup) (hl : ns.length < 64) : srtSetK2 (ns.map PyData.int) = some ((sortI ns).map PyData.int) := by
  unfold srtSetK2
  rw [ints_map]
  simp only [Option.bind_some, if_pos (And.intro h hl)]
end PV

namespace PV
open PySem PySem.Spec PyProof.Rows L2
/-! ### if test: x[0].clear(); x[1].append(e) -- x a pair of lists that isn't needed any more -/
def tIt (K : PySem.W.Frag) (k : Nat) (i : Int) : TE := tOp (rIxT K) (tVar k) (tC (.int i))
def tIClr (K : PySem.W.Frag) (k : Nat) (i : Int) : TS := fun D σ H => tBM0 K "list" rClear (tIt K k i) σ H fun _ H1 => D.nx σ H1
def tIApp (K : PySem.W.Frag) (k : Nat) (i : Int) (ts : TA) : TS := fun D σ H => tBM K "list" rAppend (tIt K k i) ts σ H fun _ H1 => D.nx σ H1
def ifM2 (k : Nat) (kl : List Nat) (fs : SE → Option (List D)) (g : SE → Option Rs) (e : SE) : Bool → Option Rs
  | true => (dV k e).bind fun x => match x with
    | .tuple [.list _, .list ys] => if ys.length < 1000000 then (fs (kil kl e)).bind fun as => match as with
      | [_] => g (kil kl e)
      | _ => none
      else none
    | _ => none
  | false => g (kil kl e)
def sIfM2 (c : SE → Option Bool) (k : Nat) (kl : List Nat) (fs : SE → Option (List D)) (g : SE → Option Rs) (e : SE) : Option Rs := (c e).bind (ifM2 k kl fs g e)
section
variable {K : PySem.W.Frag} {Γ : List Md} {k : Nat} {kl : List Nat} {g : SE → Option Rs} {t : TS} {c : SE → Option Bool} {tc : TT} {fs : SE → Option (List D)} {ts : TA} {ra : Rl}
theorem ok_ifM2 (NL : NoL K) (hk : isTr (md Γ k) = true) (hf : flK Γ kl = true) (hc : OkT K Γ c tc) (ha : OkA K Γ ra fs ts) (hg : OkTail K Γ g t) :
    OkTail K Γ (sIfM2 c k kl fs g) (tSeq (tIfS tc (tSeq (tIClr K k 0) (tIApp K k 1 ts)) tNext) t) := by
  intro N G H0 own env σ H D d R hN q hs cc
  unfold sIfM2 at q
  cases e1 : c env with
  | none => rw [e1] at q; cases q
  | some b =>
    rw [e1] at q
    simp only [Option.bind_some] at q
    refine hc G H0 own env σ H _ b R e1 fun H1 s1 => ?_
    have R1 := R.ext s1
    have R0 := ER.kil kl R1
    have fl := fun (j : Nat) d hj => flK_ok hf (e := env) j d hj
    cases b with
    | false =>
      exact hg N G H0 own (kil kl env) σ H1 D d R0 hN q hs cc
    | true =>
      show tSeq (tIClr K k 0) (tIApp K k 1 ts) _ σ H1
      simp only [ifM2] at q
      cases e2 : dV k env with
      | none => rw [e2] at q; cases q
      | some x =>
        rw [e2] at q
        simp only [Option.bind_some] at q
        split at q
        · rename_i xs ys
          by_cases hl : ys.length < 1000000
          · rw [if_pos hl] at q
            cases e3 : fs (kil kl env) with
            | none => rw [e3] at q; cases q
            | some as =>
              rw [e3] at q
              simp only [Option.bind_some] at q
              match as, e3, q with
              | [a0], e3, q =>
                obtain ⟨v, hv, so⟩ := R1.sl k _ (dV_get e2)
                rw [isTr_is hk] at so
                have so : Dp K (rgt G H0) v (.tuple [.list xs, .list ys]) := so
                cases so with
                | tup hT h4 =>
                  cases h4 with
                  | cons h5 h6 =>
                    cases h6 with
                    | cons h7 h8 =>
                      cases h8
                      obtain ⟨p, us, rfl, hp, gp, hxs⟩ := trk NL h5
                      obtain ⟨p2, us2, rfl, hp2, gp2, hys⟩ := trk NL h7
                      have hT0 := same_t rgt_sub hT
                      have hpH := R1.ex _ _ hp
                      refine ⟨_, hv, _, _, 0, .ref p, rfl, rfl, same_t R1.ex hT0, rfl, ⟨.inl ⟨rfl, us, SqL.of hpH⟩, p, us, rfl, rfl, hpH, ?_⟩⟩
                      have R2 := R0.trash hp gp fl (ys := [])
                      have hT2 := sqt_upd (ys := []) hT0 hp
                      obtain ⟨zs, hz, hzl⟩ : ∃ zs, upd H0 p (.lst []) p2 = some (.lst zs) ∧ zs.length ≤ us2.length := by
                        by_cases e : p2 = p
                        · exact ⟨[], by rw [e]; exact upd_same, Nat.zero_le _⟩
                        · exact ⟨us2, by rw [upd_ne e]; exact hp2, Nat.le_refl _⟩
                      refine ⟨_, hv, _, _, 1, .ref p2, rfl, rfl, same_t R2.ex hT2, rfl, ?_⟩
                      refine ⟨.inl ⟨rfl, zs, SqL.of (R2.ex _ _ hz)⟩, ha G _ own _ σ _ _ _ R2 e3 fun vs H3 s3 c3 => ?_⟩
                      cases c3 with
                      | cons c3 c4 =>
                        cases c4
                        have R3 := R2.ext s3
                        have l2 := dps_len hys
                        refine ⟨p2, zs, _, rfl, rfl, R3.ex _ _ hz, ?_, ?_⟩
                        · have : us2.length < 1000000 := by omega
                          exact Nat.lt_of_le_of_lt hzl (Nat.lt_of_lt_of_le this (by decide))
                        · exact hg N G _ own (kil kl env) σ _ D d (R3.trash hz gp2 fl) hN q hs cc
              | [], _, q => cases q
              | _ :: _ :: _, _, q => cases q
          · rw [if_neg hl] at q; cases q
        · cases q
end
section
variable {X : Cx} {Γ : List Md} {rest : List Stmt} {cE e : Expr} {c : SE → Option Bool} {tc : TT} {g : SE → Option Rs} {v : TS} {fs : SE → Option (List D)} {ts : TA} {ra : Rl} {s1 s2 : Stmt} {pos : Pos}
theorem vt_ifM2 (k : Nat) (kl : List Nat) (NL : NoL X.K) (hc : VT X Γ cE c tc) (h1 : PS X s1 (tIClr X.K k 0)) (ha : VA X Γ [e] ra fs ts) (h2 : PA X [e] ts → PS X s2 (tIApp X.K k 1 ts)) (hr : VTail X Γ rest g v) (hk : isTr (md Γ k) = true := by rfl) (hf : flK Γ kl = true := by rfl) :
    VTail X Γ (.If cE [s1, s2] [] pos :: rest) (sIfM2 c k kl fs g) (tSeq (tIfS tc (tSeq (tIClr X.K k 0) (tIApp X.K k 1 ts)) tNext) v) :=
  ⟨pss_cons (ps_if hc.pt (pss_cons h1 (pss_one (h2 ha.pa))) pss_nil) hr.ps, ok_ifM2 NL hk hf hc.ok ha.ok hr.ok⟩
theorem ps_iclr {o : Expr} {k : Nat} {i : Int} {apos cpos : Pos} (h : PE X o (tIt X.K k i)) (hb : attributeBase o "clear" X.env (eval o X.env) = eval o X.env := by rfl) (h2 : (apos.endLine == cpos.line) = true := by rfl)
    (hs : swapsWith (.Call (.Attribute o "clear" apos) [] [] cpos) none pos.line X.env = pure false := by rfl) : PS X (.Expr (.Call (.Attribute o "clear" apos) [] [] cpos) pos) (tIClr X.K k i) :=
  ps_expr (pe_bm0 PySem.F.plainAttrs_list PySem.F.slot_list_clear PySem.F.type_list_clear mt_clear h hb h2) hs
theorem ps_iapp {o : Expr} {k : Nat} {i : Int} {apos cpos : Pos} (h : PE X o (tIt X.K k i)) (ha : PA X [e] ts) (hb : attributeBase o "append" X.env (eval o X.env) = eval o X.env := by rfl)
    (h1 : ((((backTo cpos (starEach [e] X.env)).all fun x => !x.fst) && (backToKw cpos (keywordEach [] X.env)).all fun x => x.fst.isSome) && decide (([e].length + ([] : List Keyword).length + if ([] : List Keyword).isEmpty = true then 0 else 1) < 30)) = true := by rfl)
    (h2 : (apos.endLine == cpos.line) = true := by rfl) (h3 : starEach [e] X.env = (false, eval e X.env) :: starEach [] X.env := by rfl) (h4 : ((backTo cpos (starEach [] X.env)).any fun x => x.fst) = false := by rfl)
    (hs : swapsWith (.Call (.Attribute o "append" apos) [e] [] cpos) none pos.line X.env = pure false := by rfl) : PS X (.Expr (.Call (.Attribute o "append" apos) [e] [] cpos) pos) (tIApp X.K k i ts) :=
  ps_expr (pe_bm PySem.F.plainAttrs_list PySem.F.slot_list_append PySem.F.type_list_append mt_append h ha hb h1 h2 h3 h4) hs
end
/-! ### for x in a tuple -/
def tup? : D → Option (List D)
  | .tuple xs => some xs
  | _ => none
def iTp (f : SE → Option D) (e : SE) : Option (List D) := (f e).bind tup?
theorem v_iTp {f : SE → Option D} {e : SE} : iTp f e = (f e).bind tup? := rfl
theorem tup?_tuple (xs : List D) : tup? (.tuple xs) = some xs := rfl
section
variable {X : Cx} {Γ : List Md} {r : Rl} {a tg : Expr} {f : SE → Option D} {ta : TE}
theorem vi_tupl (ha : VE X Γ a r f ta) (hr : r ≠ .bo := by intro z; cases z) : VI X Γ tg a r (iTp f) (iTup X.K ta) := ⟨pi_tup ha.pe, fun G H0 own env σ H R ds E z k => by
  unfold iTp at z
  cases e1 : f env with
  | none => rw [e1] at z; cases z
  | some x =>
    rw [e1] at z
    simp only [Option.bind_some] at z
    cases x with
    | tuple xs =>
      cases z
      refine ha.ok G H0 own env σ H _ _ E e1 fun v H1 s1 c => ?_
      cases c with
      | tup hs hd =>
        refine ⟨_, rfl, ⟨_, same_t rg_sub hs⟩, k _ H1 s1 fun own2 H2 gr _ _ => ?_⟩
        have hs2 := same_t (rg_gr gr hr) hs
        have hd2 := dps_mono (rg_gr gr hr) _ _ hd
        refine ⟨fun i d hi => ?_, ⟨_, same_t rg_sub hs2, by rw [dps_len hd2]; exact Nat.le_refl _⟩⟩
        obtain ⟨w, h1, h2⟩ := dps_get hd2 hi
        refine ⟨⟨_, w, same_t rg_sub hs2, h1⟩, fun y H' hy => ?_⟩
        obtain ⟨rfl, hy⟩ := hy
        have e : y = w := Option.some.inj ((hy _ (same_t rg_sub hs2)).symm.trans h1)
        rw [e]
        exact ⟨Same.refl _, h2⟩
    | _ => cases z⟩
end
section
variable {k : Nat} {kl : List Nat} {g : SE → Option Rs} {c : SE → Option Bool} {fs : SE → Option (List D)} {e : SE}
theorem v_sIfM2 : sIfM2 c k kl fs g e = (c e).bind (ifM2 k kl fs g e) := rfl
theorem k_ifM2_0 : ifM2 k kl fs g e false = g (kil kl e) := rfl
theorem k_ifM2_1 : ifM2 k kl fs g e true = (dV k e).bind fun x => match x with
    | .tuple [.list _, .list ys] => if ys.length < 1000000 then (fs (kil kl e)).bind fun as => match as with
      | [_] => g (kil kl e)
      | _ => none
      else none
    | _ => none := rfl
end
end PV

set_option autoImplicit false
namespace PV
open PySem PySem.Spec PyProof.Rows L2
/-! ### texts -/
def repT (k : Nat) (a : Str) : Str := ⟨(List.replicate k a.cps.toList).flatten.toArray⟩
def hAddT : D → D → Option D
  | .str a, .str b => if a.length + b.length ≤ 1000000 then some (.str (a ++ b)) else none
  | _, _ => none
def hMulT : D → D → Option D
  | .str a, .int n => if (-1000 ≤ n ∧ n ≤ 1000) ∧ a.length ≤ 1000 then some (.str (repT n.toNat a)) else none
  | _, _ => none
def hIxS : D → D → Option D
  | .str z, .int i => if z.length ≤ 1000000 then (atI z.cps.toList i).map fun c => .str ⟨#[c]⟩ else none
  | _, _ => none
def hCutS (x : D) (a b : Option Int) : Option D := match x with
  | .str z => if z.length ≤ 1000000 then some (.str (cutS z a b)) else none
  | _ => none
def dCutS (f : SE → Option D) (lo hi : SE → Option (Option Int)) (e : SE) : Option D := (f e).bind fun x => (lo e).bind fun a => (hi e).bind fun b => hCutS x a b
/-- a text within a text -/
def subT (i j : Str) : Bool := !(Builtin.Str.occurrences j i 0 j.length 1).isEmpty
def hInT : D → D → Option D
  | .str i, .str j => some (.bool (subT i j))
  | _, _ => none
def hNotInT : D → D → Option D
  | .str i, .str j => some (.bool (!subT i j))
  | _, _ => none
def hLenS : List D → Option D
  | [.str z] => if z.length ≤ 1000000 then some (.int z.length) else none
  | _ => none
def hStrI : List D → Option D
  | [.int i] => if i.natAbs.log2 < 1920 then some (.str (toString i)) else none
  | _ => none
def hIntS : List D → Option D
  | [.str a] => if a.length ≤ 640 then (PySem.intText? a).map .int else none
  | _ => none
def strs? : List D → Option (List Str)
  | [] => some []
  | .str x :: ds => (strs? ds).map (x :: ·)
  | _ :: _ => none
def hJoin : D → D → Option D
  | .str a, .list ds => (strs? ds).bind fun ys => if (ys.map (·.length)).sum + ys.length * a.length ≤ 1000000 then some (.str (Txt.join a ys)) else none
  | _, _ => none
def hUpper : D → Option D
  | .str a => if a.length ≤ 100000 then some (.str (Txt.upper a)) else none
  | _ => none
def hSplit : D → D → Option (List D)
  | .str a, .str b => if b.length ≠ 0 ∧ a.length ≤ 1000000 then some ((Txt.split a b).map .str) else none
  | _, _ => none
def lSplit (f g : SE → Option D) (e : SE) : Option (List D) := (f e).bind fun x => (g e).bind fun y => hSplit x y
theorem strs_is : ∀ {ds : List D} {ys : List Str}, strs? ds = some ys → ds = ys.map .str
  | [], _, h => by cases h; rfl
  | d :: ds, ys, h => by
    cases d with
    | str x =>
      unfold strs? at h
      cases e : strs? ds with
      | none => rw [e] at h; cases h
      | some zs =>
        rw [e] at h
        cases h
        rw [strs_is e]; rfl
    | _ => cases h
theorem strs_map : ∀ ys : List Str, strs? (ys.map PyData.str) = some ys
  | [] => rfl
  | y :: ys => by
    rw [List.map_cons]
    unfold strs?
    rw [strs_map ys]; rfl
theorem flat_len {α : Type} (l : List α) : ∀ n : Nat, (List.replicate n l).flatten.length = n * l.length
  | 0 => by simp
  | n + 1 => by rw [List.replicate_succ, List.flatten_cons, List.length_append, flat_len l n, Nat.succ_mul]; omega
theorem foldl_cps (a : Array Nat) : ∀ (k : Nat) (b : Array Nat), (List.replicate k a).foldl (· ++ ·) b = (b.toList ++ (List.replicate k a.toList).flatten).toArray
  | 0, b => by simp
  | k + 1, b => by
    rw [List.replicate_succ, List.foldl_cons, foldl_cps a k, List.replicate_succ, List.flatten_cons]
    simp [List.append_assoc]
section
variable {K : PySem.W.Frag} {H : Hp}
theorem dps_strs : ∀ {ys : List Str} {vs : List V}, DpAll K H vs (ys.map PyData.str) → vs = ys.map V.str
  | [], _, h => by cases h; rfl
  | y :: ys, _, h => by
    cases h with
    | cons h1 h2 =>
      cases h1
      rw [dps_strs h2]; rfl
theorem strs_dps : ∀ {ys : List Str}, DpAll K H (ys.map V.str) (ys.map PyData.str)
  | [] => .nil
  | y :: ys => .cons (.str y) strs_dps
end
section
variable {X : Cx} {K : PySem.W.Frag}
theorem line_le {n : Nat} (h : n ≤ 1000000) : n ≤ sizeLine := Nat.le_trans h (by decide)
theorem op_addT : OpR X (binaryOp .Add) (fun x y H Q => ∃ i j, x = .str i ∧ y = .str j ∧ i.length + j.length ≤ sizeLine ∧ Q (.str (i ++ j)) H) := op_add_str
theorem r_addT : R2s K (fun x y H Q => ∃ i j, x = .str i ∧ y = .str j ∧ i.length + j.length ≤ sizeLine ∧ Q (.str (i ++ j)) H) hAddT := fun x y dx dy d H Q px py z => by
  cases dx <;> cases dy <;> try cases z
  cases px
  cases py
  obtain ⟨h, rfl⟩ := ite_some z
  exact ⟨rfl, fun k => ⟨_, _, rfl, rfl, line_le h, k⟩⟩
def rMulT : R2 := fun x y H Q => ∃ a n, x = .str a ∧ y = .int n ∧ ((-1000 ≤ n ∧ n ≤ 1000) ∧ a.length ≤ 1000) ∧ Q (.str (repT n.toNat a)) H
theorem op_mulT : OpR X (binaryOp .Mult) rMulT := by
  intro pins s σ H x y v u Q I rx ry h
  obtain ⟨a, n, rfl, rfl, ⟨⟨h1, h2⟩, h3⟩, q⟩ := h
  obtain ⟨t, rfl⟩ := rx
  obtain ⟨t', rfl⟩ := ry
  have hz : sizeLine = 16777216 := sizeLine_eq
  refine PySem.P.mul_str ?_ (fun h4 h5 => ?_) (fun h4 h5 => ?_) ?_
  · have e1 : decide (n < -(2 ^ 63 : Int)) = false := decide_eq_false (by omega)
    have e2 : decide (n ≥ (2 ^ 63 : Int)) = false := decide_eq_false (by omega)
    rw [e1, e2]; rfl
  · have h0 : (0 : Int) < n := by omega
    have h6 : (1000 : Int) ≤ (2 ^ 63 - 1) / n := by
      rw [Int.le_ediv_iff_mul_le h0]
      have : 1000 * n ≤ 1000 * 1000 := by omega
      have h8 : (2 ^ 63 - 1 : Int) = 9223372036854775807 := by decide
      rw [h8]
      omega
    have h7 : (a.length : Int) ≤ 1000 := by omega
    omega
  · have h6 : n.toNat ≤ 1000 := by omega
    have h7 : a.length * n.toNat ≤ 1000 * 1000 := Nat.mul_le_mul h3 h6
    unfold Builtin.Str.tooLong
    refine decide_eq_false ?_
    rw [hz]
    omega
  · by_cases c1 : n < 1
    · rw [if_pos c1]
      have e : n.toNat = 0 := by omega
      rw [e] at q
      exact ⟨by decide, ⟨.str (repT 0 a), H, I.tok _, ⟨_, rfl⟩, q⟩⟩
    · rw [if_neg c1]
      by_cases c2 : (n == 1 || a.length == 0) = true
      · rw [if_pos c2]
        have e : repT n.toNat a = a := by
          unfold repT
          rcases Bool.or_eq_true _ _ ▸ c2 with c | c
          · have : n = 1 := by simpa using c
            subst this
            simp [List.replicate]
          · have hl : a.cps.toList = [] := by
              have : a.length = 0 := by simpa using c
              have h9 : a.cps.size = 0 := this
              exact List.length_eq_zero_iff.mp (by simpa using h9)
            rw [hl]
            have : (List.replicate n.toNat ([] : List Nat)).flatten = [] := by simp
            rw [this]
            cases a with
            | mk c =>
              simp only at hl
              rw [← hl]
        rw [e] at q
        exact ⟨.str a, H, I.tok _, ⟨_, rfl⟩, q⟩
      · rw [if_neg c2]
        have e : (⟨(List.replicate n.toNat a.cps).foldl (· ++ ·) #[]⟩ : Str) = repT n.toNat a := by
          unfold repT
          rw [foldl_cps]
          simp
        rw [e]
        refine ⟨?_, ⟨.str _, H, I.tok _, ⟨_, rfl⟩, q⟩⟩
        have h6 : n.toNat ≤ 1000 := by omega
        have h7 : n.toNat * a.length ≤ 1000 * 1000 := Nat.mul_le_mul h6 h3
        have h8 : (repT n.toNat a).length = n.toNat * a.length := by
          unfold repT
          show (List.flatten _).toArray.size = _
          rw [List.size_toArray, flat_len]
          rfl
        rw [h8, hz]
        omega
theorem r_mulT : R2s K rMulT hMulT := fun x y dx dy d H Q px py z => by
  cases dx <;> cases dy <;> try cases z
  cases px
  cases py
  obtain ⟨h, rfl⟩ := ite_some z
  exact ⟨rfl, fun k => ⟨_, _, rfl, rfl, h, k⟩⟩
theorem r_inT : R2s K (fun x y H Q => ∃ i j, x = .str i ∧ y = .str j ∧ Q (.bl (!(Builtin.Str.occurrences j i 0 j.length 1).isEmpty)) H) hInT := fun x y dx dy d H Q px py z => by
  cases dx <;> cases dy <;> cases z
  cases px
  cases py
  exact ⟨rfl, fun k => ⟨_, _, rfl, rfl, k⟩⟩
theorem r_notInT : R2s K (fun x y H Q => ∃ i j, x = .str i ∧ y = .str j ∧ Q (.bl (!(!(Builtin.Str.occurrences j i 0 j.length 1).isEmpty))) H) hNotInT := fun x y dx dy d H Q px py z => by
  cases dx <;> cases dy <;> cases z
  cases px
  cases py
  exact ⟨rfl, fun k => ⟨_, _, rfl, rfl, k⟩⟩
theorem c_lenS : CaS K (fun xs H Q => ∃ z, xs = [.str z] ∧ z.length ≤ sizeLine ∧ Q (.int z.length) H) hLenS := fun vs ds d H Q p z => by
  match ds, p, z with
  | [.str a], .cons h .nil, z =>
    cases h
    obtain ⟨h, rfl⟩ := ite_some (show (if a.length ≤ 1000000 then some (.int a.length) else none) = some d from z)
    exact ⟨rfl, fun k => ⟨_, rfl, line_le h, k⟩⟩
theorem c_strI : CaS K (fun xs H Q => ∃ i, xs = [.int i] ∧ i.natAbs.log2 < 1920 ∧ Q (.str (toString i)) H) hStrI := fun vs ds d H Q p z => by
  match ds, p, z with
  | [.int i], .cons h .nil, z =>
    cases h
    obtain ⟨h, rfl⟩ := ite_some (show (if i.natAbs.log2 < 1920 then some (.str (toString i)) else none) = some d from z)
    exact ⟨rfl, fun k => ⟨_, rfl, h, k⟩⟩
theorem c_intS : CaS K (fun xs H Q => ∃ a n, xs = [.str a] ∧ PySem.intText? a = some n ∧ a.length ≤ 640 ∧ Q (.int n) H) hIntS := fun vs ds d H Q p z => by
  match ds, p, z with
  | [.str a], .cons h .nil, z =>
    cases h
    have z : (if a.length ≤ 640 then (PySem.intText? a).map .int else none) = some d := z
    by_cases c : a.length ≤ 640
    · rw [if_pos c] at z
      cases e : PySem.intText? a with
      | none => rw [e] at z; cases z
      | some n =>
        rw [e] at z
        cases z
        exact ⟨rfl, fun k => ⟨_, _, rfl, e, c, k⟩⟩
    · rw [if_neg c] at z; cases z
/-- divmod of numbers of any size -/
def rDivmodW : List V → Hp → VK → Prop := fun xs H Q => ∃ i j, xs = [.int i, .int j] ∧ DivC i j ∧ ∀ p, H p = none → Q (.ref p) (upd H p (.tup [.int (i / j), .int (i % j)]))
theorem call_divmodD : CallR X (.builtin "divmod") rDivmodW := by
  intro pins s σ H xs us Q I r h
  obtain ⟨i, j, rfl, ⟨h1, h2⟩, q⟩ := h
  obtain ⟨u, w', rfl, ⟨t, rfl⟩, ⟨t', rfl⟩⟩ := vals2 r
  refine divmod_int (by omega) ?_ (.inl (PyProof.noPylong_of_log2 h2))
  rw [Int.fdiv_eq_ediv_of_nonneg i (by omega), Int.fmod_eq_emod_of_nonneg i (by omega)]
  have hn : H s.heap.objs.size = none := I.hok.fresh (Nat.le_refl _)
  refine ⟨.ref s.heap.objs.size, _, ?_, rfl, q _ hn⟩
  refine I.laid (fun b o e => Heap.get?_push_of_some _ e) (Nat.le_refl _) ⟨by simp only [List.length_cons, List.length_nil]; rw [sizeLine_eq]; decide, [.int (i / j) s.toks, .int (i % j) (s.toks + 1)], .cons ⟨_, rfl⟩ (.cons ⟨_, rfl⟩ .nil), ?_⟩
  exact ⟨_, Heap.get?_push_size s.heap rfl, rfl, 0, rfl⟩
end
/-! the rules -/
/-- a text's method of one argument -/
def M1s (K : PySem.W.Frag) (r : V → List V → Hp → VK → Prop) (h : D → D → Option D) : Prop := ∀ (a : Str) (y : V) (dy d : D) (H : Hp) (Q : VK), Dp K H y dy → h (.str a) dy = some d → isSc d = true ∧ (Q (sv d) H → r (.str a) [y] H Q)
def rJoinS (K : PySem.W.Frag) : V → List V → Hp → VK → Prop := fun x xs H Q => ∃ a p, ∃ ys : List Str, x = .str a ∧ xs = [.ref p] ∧ (SqL K H p (ys.map V.str) ∨ SqT K H p (ys.map V.str)) ∧ (ys.map (·.length)).sum + ys.length * a.length ≤ 16777216 ∧ Q (.str (Txt.join a ys)) H
theorem m1_join {K : PySem.W.Frag} : M1s K (rJoinS K) hJoin := fun a y dy d H Q p z => by
  cases dy with
  | list ds =>
    unfold hJoin at z
    simp only at z
    cases e : strs? ds with
    | none => rw [e] at z; cases z
    | some ys =>
      rw [e] at z
      simp only [Option.bind_some] at z
      obtain ⟨h, rfl⟩ := ite_some z
      cases p with
      | lst hs hd =>
        rw [strs_is e] at hd
        rw [dps_strs hd] at hs
        exact ⟨rfl, fun k => ⟨a, _, ys, rfl, rfl, .inl hs, Nat.le_trans h (by decide), k⟩⟩
  | _ => cases z
section
variable {X : Cx} {Γ : List Md} {r ra rb : Rl} {a b e : Expr} {f g : SE → Option D} {ta tb : TE} {x : Str} {pos p2 apos cpos : Pos}
theorem v_ixS (ha : VE X Γ a r f ta) (hb : VE X Γ b rb g tb) (hp : PlainIx b := by exact fun _ _ => rfl) : VE X Γ (.Subscript a b pos) .nw (d2 hIxS f g) (tOp rIxS ta tb) := ⟨pe_ix ix_str ha.pe hb.pe hp, fun G H0 own env σ H Q d R z k => by
  unfold d2 at z
  cases e1 : f env with
  | none => rw [e1] at z; cases z
  | some x =>
    cases e2 : g env with
    | none => rw [e1, e2] at z; cases z
    | some y =>
      rw [e1, e2] at z
      simp only [Option.bind_some] at z
      cases x <;> cases y <;> try cases z
      rename_i z0 i
      unfold hIxS at z
      simp only at z
      by_cases hl : z0.length ≤ 1000000
      · rw [if_pos hl] at z
        cases e3 : atI z0.cps.toList i with
        | none => rw [e3] at z; cases z
        | some c =>
          rw [e3] at z
          cases z
          refine ha.ok G H0 own env σ H _ _ R e1 fun v1 H1 s1 p1 => ?_
          cases p1
          refine hb.ok G H0 own env σ H1 _ _ (R.ext s1) e2 fun v2 H2 s2 p2 => ?_
          cases p2
          exact ⟨z0, i, c, rfl, rfl, line_le hl, e3, k _ H2 (s1.trans s2) (.str _)⟩
      · rw [if_neg hl] at z; cases z⟩
theorem v_cutS {lo hi : Option Expr} {fl fh : SE → Option (Option Int)} {tl th : TO} (ha : VE X Γ a r f ta) (h1 : VO X Γ lo fl tl) (h2 : VO X Γ hi fh th) : VE X Γ (.Subscript a (.Slice lo hi none p2) pos) .nw (dCutS f fl fh) (tSl rSlS ta tl th) := ⟨pe_slice sl_str ha.pe h1.po h2.po, fun G H0 own env σ H Q d R z k => by
  unfold dCutS at z
  cases e1 : f env with
  | none => rw [e1] at z; cases z
  | some x =>
    cases e2 : fl env with
    | none => rw [e1, e2] at z; cases z
    | some l =>
      cases e3 : fh env with
      | none => rw [e1, e2, e3] at z; cases z
      | some h =>
        rw [e1, e2, e3] at z
        simp only [Option.bind_some] at z
        cases x <;> try cases z
        rename_i z0
        obtain ⟨hl, rfl⟩ := ite_some (show (if z0.length ≤ 1000000 then some (.str (cutS z0 l h)) else none) = some d from z)
        refine ha.ok G H0 own env σ H _ _ R e1 fun v1 H1 s1 p1 => ?_
        cases p1
        refine h1.ok G H0 own env σ H1 _ l (R.ext s1) e2 fun H2 s2 => ?_
        refine h2.ok G H0 own env σ H2 _ h (R.ext (s1.trans s2)) e3 fun H3 s3 => ?_
        exact ⟨z0, rfl, line_le hl, k _ H3 ((s1.trans s2).trans s3) (.str _)⟩⟩
theorem v_join (ha : VE X Γ a r f ta) (hb : VE X Γ b rb g tb) (hs : starEach [b] X.env = [(false, eval b X.env)] := by rfl) (hbase : attributeBase a "join" X.env (eval a X.env) = eval a X.env := by rfl) (hline : (apos.endLine == cpos.line) = true := by rfl) :
    VE X Γ (.Call (.Attribute a "join" apos) [b] [] cpos) .nw (d2 hJoin f g) (tM1 (rJoinS X.K) ta tb) := ⟨pe_join ha.pe hb.pe hs hbase hline, fun G H0 own env σ H Q d R z k => by
  unfold d2 at z
  cases e1 : f env with
  | none => rw [e1] at z; cases z
  | some x =>
    cases e2 : g env with
    | none => rw [e1, e2] at z; cases z
    | some y =>
      rw [e1, e2] at z
      simp only [Option.bind_some] at z
      cases x <;> try cases z
      rename_i z0
      refine ha.ok G H0 own env σ H _ _ R e1 fun v1 H1 s1 p1 => ?_
      cases p1
      refine ⟨⟨_, rfl⟩, hb.ok G H0 own env σ H1 _ _ (R.ext s1) e2 fun v2 H2 s2 p2 => ?_⟩
      obtain ⟨h1, h2⟩ := m1_join (K := X.K) z0 v2 y d H2 Q (dp_mono rg_sub _ _ p2) z
      exact h2 (k _ H2 (s1.trans s2) (sc_dp h1))⟩
theorem v_upper (ha : VE X Γ a r f ta) (hbase : attributeBase a "upper" X.env (eval a X.env) = eval a X.env := by rfl) (hline : (apos.endLine == cpos.line) = true := by rfl) :
    VE X Γ (.Call (.Attribute a "upper" apos) [] [] cpos) .nw (d1 hUpper f) (tM0 (fun x xs H Q => ∃ a, x = .str a ∧ xs = [] ∧ a.length ≤ 5592405 ∧ Q (.str (Txt.upper a)) H) ta) := ⟨pe_upper ha.pe hbase hline, fun G H0 own env σ H Q d R z k => by
  unfold d1 at z
  cases e1 : f env with
  | none => rw [e1] at z; cases z
  | some x =>
    rw [e1] at z
    simp only [Option.bind_some] at z
    cases x <;> try cases z
    rename_i z0
    obtain ⟨hl, rfl⟩ := ite_some (show (if z0.length ≤ 100000 then some (.str (Txt.upper z0)) else none) = some d from z)
    refine ha.ok G H0 own env σ H _ _ R e1 fun v1 H1 s1 p1 => ?_
    cases p1
    exact ⟨⟨_, rfl⟩, z0, rfl, rfl, Nat.le_trans hl (by decide), k _ H1 s1 (.str _)⟩⟩
theorem vl_split (ha : VE X Γ a r f ta) (hb : VE X Γ b rb g tb) (hs : starEach [b] X.env = [(false, eval b X.env)] := by rfl) (hbase : attributeBase a "split" X.env (eval a X.env) = eval a X.env := by rfl) (hline : (apos.endLine == cpos.line) = true := by rfl) :
    VL X Γ (.Call (.Attribute a "split" apos) [b] [] cpos) .nw (lSplit f g) (tM1 (fun x xs H Q => ∃ a b, x = .str a ∧ xs = [.str b] ∧ (b.length == 0) = false ∧ a.length + 2 ≤ sizeLine ∧ rNewStrs (Txt.split a b) H Q) ta tb) := ⟨pe_split ha.pe hb.pe hs hbase hline, fun G H0 own env σ H Q d R z k => by
  unfold lSplit at z
  cases e1 : f env with
  | none => rw [e1] at z; cases z
  | some x =>
    cases e2 : g env with
    | none => rw [e1, e2] at z; cases z
    | some y =>
      rw [e1, e2] at z
      simp only [Option.bind_some] at z
      cases x <;> cases y <;> try cases z
      rename_i z0 z1
      have z : (if z1.length ≠ 0 ∧ z0.length ≤ 1000000 then some ((Txt.split z0 z1).map PyData.str) else none) = some d := z
      by_cases hl : z1.length ≠ 0 ∧ z0.length ≤ 1000000
      case neg => rw [if_neg hl] at z; cases z
      rw [if_pos hl] at z
      cases z
      refine ha.ok G H0 own env σ H _ _ R e1 fun v1 H1 s1 p1 => ?_
      cases p1
      refine ⟨⟨_, rfl⟩, hb.ok G H0 own env σ H1 _ _ (R.ext s1) e2 fun v2 H2 s2 p2 => ?_⟩
      cases p2
      have hz : sizeLine = 16777216 := sizeLine_eq
      refine ⟨z0, z1, rfl, rfl, by simpa using hl.1, by rw [hz]; have := hl.2; omega, fun p n => ?_⟩
      exact k p _ _ ((s1.trans s2).trans (same_new n)) ((s1.trans s2).free n) upd_same strs_dps⟩
theorem v_globS {z : Str} (hm : ∃ t, X.mg x = some (.str z t)) (hg : Gl X x := by rfl) (hd : (x == ("__debug__" : Str)) = false := by decide) : VE X Γ (.Name x pos) .nw (dC (.str z)) (tC (.str z)) := by
  obtain ⟨t, h⟩ := hm
  exact v_con (d := .str z) rfl (pe_glob (v := .str z) hg h ⟨t, rfl⟩ hd)
end
end PV

/-! MV: defs that change what they are handed: a store of cells (lists, tuples, dicts, instances, caught errors), each at an address of its own; beside them data that nobody changes. -/
namespace MV
open PySem PySem.Spec PyProof.Rows L2 PV
/-! ### values, cells, stores -/
/-- a value: data that nobody changes, or a cell -/
inductive SV where
  | dat (d : D)
  | ref (i : Nat)
inductive Cell where
  | lst (xs : List SV)
  | tup (xs : List SV)
  | dic (kvs : List (Key × SV))
  | ins (c : Nat) (xs : List SV)
  | exc (c : Nat)
abbrev Store := List Cell
abbrev SEnv := List (Option SV)
/-- an answer, or an error of the class c -/
inductive Er (α : Type) where
  | ok (a : α)
  | ex (c : Nat)
abbrev Mo (α : Type) := Store → Option (Er α × Store)
def mb {α β : Type} (x : Mo α) (f : α → Mo β) : Mo β := fun st => (x st).bind fun r => match r with
  | (.ok a, st1) => f a st1
  | (.ex c, st1) => some (.ex c, st1)
/-- the classes: where each stands, its fields in their order -/
structure CT where
  ca : Nat → Addr
  fn : Nat → List Str
/-! ### cells read as data -/
def omap {α β : Type} (f : α → Option β) : List α → Option (List β)
  | [] => some []
  | x :: xs => (f x).bind fun y => (omap f xs).bind fun ys => some (y :: ys)
def dr : Nat → Store → SV → Option D
  | 0, _, s => match s with
    | .dat d => some d
    | .ref _ => none
  | n + 1, st, s => match s with
    | .dat d => some d
    | .ref i => match st[i]? with
      | some (.lst xs) => (omap (dr n st) xs).map .list
      | some (.tup xs) => (omap (dr n st) xs).map .tuple
      | _ => none
def view (st : Store) (env : SEnv) : SE := env.map fun o => o.bind (dr 6 st)
/-! ### how the store lies in the heap -/
/-- what isn't a cell's -/
def oth (m : List Addr) (H : Hp) : Hp := fun a => if a ∈ m then none else H a
def VR (K : PySem.W.Frag) (m : List Addr) (H : Hp) (v : V) : SV → Prop
  | .dat d => Dp K (oth m H) v d
  | .ref i => ∃ a, m[i]? = some a ∧ v = .ref a
abbrev VRs (K : PySem.W.Frag) (m : List Addr) (H : Hp) : List V → List SV → Prop := Paired (VR K m H)
abbrev FR {κ : Type} (K : PySem.W.Frag) (m : List Addr) (H : Hp) : List (κ × V) → List (κ × SV) → Prop := Paired fun p q => p.1 = q.1 ∧ VR K m H p.2 q.2
def ExcAt (C a : Addr) : Heap → Prop := fun h => ∃ o vs, h.get? a = some o ∧ o.cls = .ref C ∧ o.dict = none ∧ o.data = .fields vs
def CR (K : PySem.W.Frag) (C : CT) (m : List Addr) (H : Hp) (a : Addr) : Cell → Prop
  | .lst xs => ∃ vs, H a = some (.lst vs) ∧ VRs K m H vs xs
  | .tup xs => ∃ vs, H a = some (.tup vs) ∧ VRs K m H vs xs
  | .dic kvs => ∃ ps, H a = some (.dK ps) ∧ FR K m H ps kvs
  | .ins c xs => ∃ dx vs, H a = some (.ins (C.ca c) dx ((C.fn c).zip vs)) ∧ VRs K m H vs xs ∧ xs.length ≤ (C.fn c).length
  | .exc c => H a = some (.ext (ExcAt (C.ca c) a))
structure SR (K : PySem.W.Frag) (C : CT) (st : Store) (m : List Addr) (H : Hp) : Prop where
  nd : ∀ (i j : Nat) (a : Addr), m[i]? = some a → m[j]? = some a → i = j
  ln : m.length = st.length
  cl : ∀ (i : Nat) (c : Cell), st[i]? = some c → ∃ a, m[i]? = some a ∧ CR K C m H a c
structure MR (K : PySem.W.Frag) (C : CT) (st : Store) (env : SEnv) (m : List Addr) (σ : L2.St) (H : Hp) : Prop where
  sr : SR K C st m H
  le : env.length = σ.length
  sl : ∀ (i : Nat) (s : SV), env[i]? = some (some s) → ∃ v, σ[i]? = some (some v) ∧ VR K m H v s
/-- from one state to a later one: data stay, cells keep their addresses -/
structure Ex (m : List Addr) (H : Hp) (m' : List Addr) (H' : Hp) : Prop where
  pre : ∀ (i : Nat) (a : Addr), m[i]? = some a → m'[i]? = some a
  sm : Same (oth m H) (oth m' H')
section
variable {K : PySem.W.Frag} {C : CT} {st st' : Store} {env : SEnv} {m m' m2 : List Addr} {σ : L2.St} {H H' H2 : Hp} {v : V} {s : SV} {a p : Addr} {o : HO} {c : Cell}
theorem oth_iff : oth m H a = some o ↔ a ∉ m ∧ H a = some o := by
  unfold oth
  by_cases h : a ∈ m
  · rw [if_pos h]; exact ⟨fun z => (nomatch z), fun z => absurd h z.1⟩
  · rw [if_neg h]; exact ⟨fun z => ⟨h, z⟩, fun z => z.2⟩
theorem oth_sub : Same (oth m H) H := fun _ _ e => (oth_iff.mp e).2
theorem Ex.refl : Ex m H m H := ⟨fun _ _ h => h, Same.refl _⟩
theorem Ex.trans (e : Ex m H m' H') (f : Ex m' H' m2 H2) : Ex m H m2 H2 := ⟨fun i a h => f.pre i a (e.pre i a h), e.sm.trans f.sm⟩
theorem VR.ex (e : Ex m H m' H') (h : VR K m H v s) : VR K m' H' v s := by
  cases s with
  | dat d => exact dp_mono e.sm _ _ h
  | ref i => obtain ⟨a, h1, h2⟩ := h; exact ⟨a, e.pre i a h1, h2⟩
theorem VRs.ex {vs : List V} {xs : List SV} (e : Ex m H m' H') (h : VRs K m H vs xs) : VRs K m' H' vs xs := L2.Paired.mapP h fun _ _ q => q.ex e
theorem FR.ex {κ : Type} {vs : List (κ × V)} {xs : List (κ × SV)} (e : Ex m H m' H') (h : FR K m H vs xs) : FR K m' H' vs xs := L2.Paired.mapP h fun _ _ q => ⟨q.1, q.2.ex e⟩
theorem CR.ex (e : Ex m H m' H') (he : H' a = H a) (h : CR K C m H a c) : CR K C m' H' a c := by
  cases c with
  | lst xs => obtain ⟨vs, h1, h2⟩ := h; exact ⟨vs, he.trans h1, VRs.ex e h2⟩
  | tup xs => obtain ⟨vs, h1, h2⟩ := h; exact ⟨vs, he.trans h1, VRs.ex e h2⟩
  | dic xs => obtain ⟨vs, h1, h2⟩ := h; exact ⟨vs, he.trans h1, FR.ex e h2⟩
  | ins k xs => obtain ⟨dx, vs, h1, h2, h3⟩ := h; exact ⟨dx, vs, he.trans h1, VRs.ex e h2, h3⟩
  | exc k => exact he.trans h
theorem CR.some (h : CR K C m H a c) : ∃ o, H a = some o := by
  cases c with
  | lst xs => obtain ⟨vs, h1, h2⟩ := h; exact ⟨_, h1⟩
  | tup xs => obtain ⟨vs, h1, h2⟩ := h; exact ⟨_, h1⟩
  | dic xs => obtain ⟨vs, h1, h2⟩ := h; exact ⟨_, h1⟩
  | ins k xs => obtain ⟨dx, vs, h1, h2⟩ := h; exact ⟨_, h1⟩
  | exc k => exact ⟨_, h⟩
theorem SR.live (R : SR K C st m H) (ha : a ∈ m) : ∃ o, H a = some o := by
  obtain ⟨i, hi, rfl⟩ := List.mem_iff_getElem.mp ha
  have hs : i < st.length := by rw [← R.ln]; exact hi
  obtain ⟨b, h1, h2⟩ := R.cl i st[i] (List.getElem?_eq_getElem hs)
  rw [List.getElem?_eq_getElem hi] at h1
  cases h1
  exact h2.some
theorem SR.out (R : SR K C st m H) (n : H a = none) : a ∉ m := fun z => by
  obtain ⟨o, e⟩ := R.live z
  rw [n] at e; cases e
/-- new objects -/
theorem SR.grow (R : SR K C st m H) (e : Same H H') : SR K C st m H' ∧ Ex m H m H' := by
  have x : Ex m H m H' := ⟨fun _ _ h => h, fun b o q => oth_iff.mpr ⟨(oth_iff.mp q).1, e _ _ (oth_iff.mp q).2⟩⟩
  refine ⟨⟨R.nd, R.ln, fun i c h => ?_⟩, x⟩
  obtain ⟨a, h1, h2⟩ := R.cl i c h
  obtain ⟨o, h3⟩ := h2.some
  exact ⟨a, h1, h2.ex x ((e _ _ h3).trans h3.symm)⟩
theorem ex_push (e : Same H H') (n : H p = none) : Ex m H (m ++ [p]) H' := by
  refine ⟨fun i a h => ?_, fun b o q => ?_⟩
  · rw [List.getElem?_append_left (List.getElem?_eq_some_iff.mp h).1]; exact h
  · obtain ⟨q1, q2⟩ := oth_iff.mp q
    refine oth_iff.mpr ⟨fun z => ?_, e _ _ q2⟩
    rcases List.mem_append.mp z with z | z
    · exact q1 z
    · rw [List.mem_singleton.mp z, n] at q2; cases q2
/-- a new cell -/
theorem SR.push (R : SR K C st m H) (e : Same H H') (n : H p = none) (h : CR K C (m ++ [p]) H' p c) : SR K C (st ++ [c]) (m ++ [p]) H' := by
  have x : Ex m H (m ++ [p]) H' := ex_push e n
  have key : ∀ (i : Nat) (a : Addr), (m ++ [p])[i]? = some a → m[i]? = some a ∨ (i = m.length ∧ a = p) := fun i a h => by
    by_cases q : i < m.length
    · rw [List.getElem?_append_left q] at h; exact .inl h
    · rw [List.getElem?_append_right (by omega)] at h
      have : i - m.length = 0 := by
        have := (List.getElem?_eq_some_iff.mp h).1
        simp at this
        omega
      rw [this] at h
      simp at h
      exact .inr ⟨by omega, h.symm⟩
  refine ⟨fun i j a hi hj => ?_, by rw [List.length_append, List.length_append, R.ln]; rfl, fun i c' hi => ?_⟩
  · rcases key i a hi with h1 | ⟨h1, e1⟩ <;> rcases key j a hj with h2 | ⟨h2, e2⟩
    · exact R.nd i j a h1 h2
    · exact absurd (e2 ▸ List.mem_of_getElem? h1) (R.out n)
    · exact absurd (e1 ▸ List.mem_of_getElem? h2) (R.out n)
    · rw [h1, h2]
  · by_cases q : i < st.length
    · rw [List.getElem?_append_left q] at hi
      obtain ⟨a, h1, h2⟩ := R.cl i c' hi
      obtain ⟨o, h3⟩ := h2.some
      exact ⟨a, x.pre i a h1, h2.ex x ((e _ _ h3).trans h3.symm)⟩
    · rw [List.getElem?_append_right (by omega)] at hi
      have h0 : i - st.length = 0 := by
        have := (List.getElem?_eq_some_iff.mp hi).1
        simp at this
        omega
      rw [h0] at hi
      simp at hi
      subst hi
      have : i = m.length := by rw [R.ln]; omega
      exact ⟨p, by rw [this]; simp, h⟩
theorem oth_upd (ha : a ∈ m) : oth m (upd H a o) = oth m H := by
  funext b
  unfold oth
  by_cases h : b ∈ m
  · rw [if_pos h, if_pos h]
  · rw [if_neg h, if_neg h, upd_ne (fun z => h (by rw [z]; exact ha))]
theorem ex_upd (ha : a ∈ m) : Ex m H m (upd H a o) := ⟨fun _ _ h => h, by rw [oth_upd ha]; exact Same.refl _⟩
/-- a cell is changed -/
theorem SR.set {i : Nat} (R : SR K C st m H) (hi : m[i]? = some a) (h : CR K C m (upd H a o) a c) : SR K C (st.set i c) m (upd H a o) ∧ Ex m H m (upd H a o) := by
  have ha : a ∈ m := List.mem_of_getElem? hi
  have x : Ex m H m (upd H a o) := ex_upd ha
  refine ⟨⟨R.nd, by rw [List.length_set]; exact R.ln, fun j c' hj => ?_⟩, x⟩
  by_cases q : i = j
  · subst q
    have hl : i < st.length := by
      have := (List.getElem?_eq_some_iff.mp hj).1
      rw [List.length_set] at this
      exact this
    rw [List.getElem?_set_self hl] at hj
    cases hj
    exact ⟨a, hi, h⟩
  · rw [List.getElem?_set_ne q] at hj
    obtain ⟨b, h1, h2⟩ := R.cl j c' hj
    refine ⟨b, h1, h2.ex x (upd_ne fun z => q ?_)⟩
    subst z
    exact R.nd i j b hi h1
theorem omap_len {α β : Type} {f : α → Option β} : ∀ {xs : List α} {ys : List β}, omap f xs = some ys → xs.length = ys.length
  | [], _, h => by cases h; rfl
  | x :: xs, ys, h => by
    unfold omap at h
    cases e1 : f x with
    | none => rw [e1] at h; cases h
    | some y =>
      rw [e1] at h
      simp only [Option.bind_some] at h
      cases e2 : omap f xs with
      | none => rw [e2] at h; cases h
      | some zs =>
        rw [e2] at h
        cases h
        rw [List.length_cons, List.length_cons, omap_len e2]
theorem omap_dps {f : SV → Option D} (hf : ∀ v s d, VR K m H v s → f s = some d → Dp K H v d) : ∀ {xs : List SV} {vs : List V} {ds : List D}, VRs K m H vs xs → omap f xs = some ds → DpAll K H vs ds
  | [], _, _, h, e => by cases h; cases e; exact .nil
  | x :: xs, _, ds, h, e => by
    cases h with
    | cons h1 h2 =>
      unfold omap at e
      cases e1 : f x with
      | none => rw [e1] at e; cases e
      | some y =>
        rw [e1] at e
        simp only [Option.bind_some] at e
        cases e2 : omap f xs with
        | none => rw [e2] at e; cases e
        | some zs =>
          rw [e2] at e
          cases e
          exact .cons (hf _ _ _ h1 e1) (omap_dps hf h2 e2)
theorem dr_dp (R : SR K C st m H) : ∀ (n : Nat) (v : V) (s : SV) (d : D), VR K m H v s → dr n st s = some d → Dp K H v d
  | 0, v, s, d, h, e => by
    cases s with
    | dat x => cases e; exact dp_mono oth_sub _ _ h
    | ref i => cases e
  | n + 1, v, s, d, h, e => by
    cases s with
    | dat x => cases e; exact dp_mono oth_sub _ _ h
    | ref i =>
      obtain ⟨a, h1, rfl⟩ := h
      unfold dr at e
      simp only at e
      cases hc : st[i]? with
      | none => rw [hc] at e; cases e
      | some c =>
        rw [hc] at e
        obtain ⟨b, h2, h3⟩ := R.cl i c hc
        rw [h1] at h2
        cases h2
        cases c with
        | lst xs =>
          simp only at e
          obtain ⟨vs, h4, h5⟩ := h3
          cases e1 : omap (dr n st) xs with
          | none => rw [e1] at e; cases e
          | some ds =>
            rw [e1] at e
            cases e
            exact .lst (SqL.of h4) (omap_dps (dr_dp R n) h5 e1)
        | tup xs =>
          simp only at e
          obtain ⟨vs, h4, h5⟩ := h3
          cases e1 : omap (dr n st) xs with
          | none => rw [e1] at e; cases e
          | some ds =>
            rw [e1] at e
            cases e
            exact .tup (SqT.of h4) (omap_dps (dr_dp R n) h5 e1)
        | dic xs => cases e
        | ins k xs => cases e
        | exc k => cases e
theorem MR.ex {σ : L2.St} (R : MR K C st env m σ H) (S : SR K C st' m' H') (e : Ex m H m' H') : MR K C st' env m' σ H' := ⟨S, R.le, fun i s h => let ⟨v, h1, h2⟩ := R.sl i s h; ⟨v, h1, h2.ex e⟩⟩
theorem no_own {n i : Nat} {a : Addr} (h : (List.replicate n (none : Option Addr))[i]? = some (some a)) : False := by
  rw [List.getElem?_replicate] at h
  split at h <;> cases h
/-- the state as the value layer sees it -/
theorem MR.er (R : MR K C st env m σ H) : ER K [] H H (List.replicate σ.length none) (view st env) σ H := by
  refine ⟨Same.refl _, Same.refl _, fun i j a h => (no_own h).elim, fun i a h => (no_own h).elim, by unfold view; rw [List.length_map]; exact R.le, by rw [List.length_replicate]; exact Nat.le_refl _, fun i d h => ?_⟩
  unfold view at h
  rw [List.getElem?_map] at h
  cases e : env[i]? with
  | none => rw [e] at h; cases h
  | some x =>
    rw [e] at h
    cases x with
    | none => cases h
    | some s =>
      have h' : dr 6 st s = some d := by
        have := Option.some.inj h
        exact this
      obtain ⟨v, h1, h2⟩ := R.sl i s e
      refine ⟨v, h1, ?_⟩
      have e0 : md [] i = .od := rfl
      rw [e0]
      refine dp_mono (fun b o q => (rg_iff (r := .od)).mpr ⟨⟨fun ⟨j, z⟩ => no_own z, .inr (by rw [q]; intro z; cases z)⟩, q⟩) _ _ (dr_dp R.sr 6 v s d h2 h')
theorem nw_oth {own : List (Option Addr)} (R : SR K C st m H) (n : ∀ b, b ∈ m' → b ∈ m ∨ H b = none ∧ Ow own b) : Same (rg .nw H H own H') (oth m' H') := fun a o q => by
  obtain ⟨h1, h2⟩ := rg_iff.mp q
  refine oth_iff.mpr ⟨fun z => ?_, h2⟩
  rcases n a z with z | z
  · exact R.out h1.2.1 z
  · exact h1.1 z.2
theorem MR.put (R : MR K C st env m σ H) (i : Nat) (s : SV) (v : V) (h : VR K m H v s) : MR K C st (env.set i (some s)) m (σ.set i (some v)) H := by
  refine ⟨R.sr, by rw [List.length_set, List.length_set]; exact R.le, fun j s' hj => ?_⟩
  by_cases hi : i = j
  · subst hi
    have hl : i < env.length := by
      have := (List.getElem?_eq_some_iff.mp hj).1
      rw [List.length_set] at this
      exact this
    rw [List.getElem?_set_self hl] at hj
    cases hj
    exact ⟨v, List.getElem?_set_self (by rw [← R.le]; exact hl), h⟩
  · rw [List.getElem?_set_ne hi] at hj
    rw [List.getElem?_set_ne hi]
    exact R.sl j s' hj
def kilM : List Nat → SEnv → SEnv
  | [], e => e
  | i :: is, e => (kilM is e).set i none
theorem MR.forget (R : MR K C st env m σ H) (i : Nat) : MR K C st (env.set i none) m σ H := by
  refine ⟨R.sr, by rw [List.length_set]; exact R.le, fun j s hj => ?_⟩
  by_cases hi : i = j
  · subst hi
    by_cases hl : i < env.length
    · rw [List.getElem?_set_self hl] at hj; cases hj
    · rw [List.getElem?_eq_none (by rw [List.length_set]; omega)] at hj; cases hj
  · rw [List.getElem?_set_ne hi] at hj
    exact R.sl j s hj
theorem MR.forget2 (R : MR K C st env m σ H) (i : Nat) : MR K C st (env.set i none) m (σ.set i none) H := by
  refine ⟨R.sr, by rw [List.length_set, List.length_set]; exact R.le, fun j s hj => ?_⟩
  by_cases hi : i = j
  · subst hi
    by_cases hl : i < env.length
    · rw [List.getElem?_set_self hl] at hj; cases hj
    · rw [List.getElem?_eq_none (by rw [List.length_set]; omega)] at hj; cases hj
  · rw [List.getElem?_set_ne hi] at hj
    rw [List.getElem?_set_ne hi]
    exact R.sl j s hj
theorem MR.kil : ∀ (ks : List Nat) {env : SEnv}, MR K C st env m σ H → MR K C st (kilM ks env) m σ H
  | [], _, R => R
  | i :: is, _, R => (MR.kil is R).forget i
theorem MR.wipe : ∀ (ks : List Nat) {env : SEnv} {σ : L2.St}, MR K C st env m σ H → MR K C st (kilM ks env) m (L2.wipe σ ks) H
  | [], _, _, R => R
  | i :: is, _, _, R => (MR.wipe is R).forget2 i
end
/-! ### judgements -/
/-- what is wanted of an answer -/
def Po {α β : Type} (K : PySem.W.Frag) (C : CT) (W : WX) (rel : List Addr → Hp → β → α → Prop) (st' : Store) (env : SEnv) (m : List Addr) (σ : L2.St) (H : Hp) (Q : β → Hp → Prop) : Er α → Prop
  | .ok a => ∀ b m' H', Ex m H m' H' → MR K C st' env m' σ H' → rel m' H' b a → Q b H'
  | .ex c => ∀ m' H', Ex m H m' H' → MR K C st' env m' σ H' → W (.ref (C.ca c)) none σ H'
def OkG {α β : Type} (K : PySem.W.Frag) (C : CT) (W : WX) (rel : List Addr → Hp → β → α → Prop) (f : SEnv → Mo α) (t : L2.St → Hp → (β → Hp → Prop) → Prop) : Prop :=
  ∀ (m : List Addr) (env : SEnv) (σ : L2.St) (H : Hp) (st : Store) (Q : β → Hp → Prop) (r : Er α) (st' : Store), MR K C st env m σ H → f env st = some (r, st') → Po K C W rel st' env m σ H Q r → t σ H Q
abbrev relT : List Addr → Hp → Bool → Bool → Prop := fun _ _ b a => b = a
section
variable {α β γ δ : Type} {K : PySem.W.Frag} {C : CT} {W : WX} {rel : List Addr → Hp → β → α → Prop} {rel2 : List Addr → Hp → δ → γ → Prop} {f : SEnv → Mo α} {t : L2.St → Hp → (β → Hp → Prop) → Prop}
theorem Po.mono {m m1 : List Addr} {env : SEnv} {σ : L2.St} {H H1 : Hp} {st' : Store} {Q : β → Hp → Prop} {r : Er α} (e : Ex m H m1 H1) (p : Po K C W rel st' env m σ H Q r) : Po K C W rel st' env m1 σ H1 Q r := by
  cases r with
  | ok a => exact fun b m' H' e' => p b m' H' (e.trans e')
  | ex c => exact fun m' H' e' => p m' H' (e.trans e')
/-- one part, then the rest -/
theorem ok_mb {m : List Addr} {env : SEnv} {σ : L2.St} {H : Hp} {st st' : Store} {Q' : β → Hp → Prop} {Q : δ → Hp → Prop} {r : Er γ} {k : α → Mo γ} (h1 : OkG K C W rel f t) (R : MR K C st env m σ H) (z : mb (f env) k st = some (r, st')) (p : Po K C W rel2 st' env m σ H Q r)
    (h2 : ∀ b m1 H1 a st1, Ex m H m1 H1 → MR K C st1 env m1 σ H1 → rel m1 H1 b a → k a st1 = some (r, st') → Po K C W rel2 st' env m1 σ H1 Q r → Q' b H1) : t σ H Q' := by
  unfold mb at z
  cases e1 : f env st with
  | none => rw [e1] at z; cases z
  | some x =>
    rw [e1] at z
    obtain ⟨x, st1⟩ := x
    refine h1 m env σ H st Q' x st1 R e1 ?_
    cases x with
    | ok a => exact fun b m' H' e M q => h2 b m' H' a st1 e M q z (p.mono e)
    | ex c =>
      cases z
      exact p
end
structure ME (X : Cx) (C : CT) (W : WX) (e : Expr) (f : SEnv → Mo SV) (t : TE) : Prop where
  pe : PE X e t
  ok : OkG X.K C W (VR X.K) f t
structure MT (X : Cx) (C : CT) (W : WX) (e : Expr) (f : SEnv → Mo Bool) (t : TT) : Prop where
  pt : PT X e t
  ok : OkG X.K C W relT f t
structure MW (X : Cx) (C : CT) (W : WX) (e : Expr) (f : SEnv → Mo Bool) (t : TT) : Prop where
  pt : PW X e t
  ok : OkG X.K C W relT f t
structure MA (X : Cx) (C : CT) (W : WX) (es : List Expr) (f : SEnv → Mo (List SV)) (t : TA) : Prop where
  pa : PA X es t
  ln : ∀ env st xs st', f env st = some (.ok xs, st') → xs.length = es.length
  ok : OkG X.K C W (fun m H => VRs X.K m H) f t
end MV

namespace MV
open PySem PySem.Spec PyProof.Rows L2 PV
/-! ### what expressions are worth -/
def mret {α : Type} (a : α) : Mo α := fun st => some (.ok a, st)
def mP (f : SE → Option D) (env : SEnv) : Mo SV := fun st => (f (view st env)).map fun d => (.ok (.dat d), st)
def mPT (f : SE → Option Bool) (env : SEnv) : Mo Bool := fun st => (f (view st env)).map fun d => (.ok d, st)
/-- a new cell -/
def mnew (c : Cell) : Mo SV := fun st => some (.ok (.ref st.length), st ++ [c])
def mAl (f : SE → Option (List D)) (env : SEnv) : Mo SV := fun st => (f (view st env)).bind fun ds => mnew (.lst (ds.map .dat)) st
def mV (i : Nat) (env : SEnv) : Mo SV := fun st => (env.getD i none).map fun v => (.ok v, st)
def mNil (_ : SEnv) : Mo (List SV) := mret []
def mCons (f : SEnv → Mo SV) (g : SEnv → Mo (List SV)) (env : SEnv) : Mo (List SV) := mb (f env) fun x => mb (g env) fun xs => mret (x :: xs)
def mLst (f : SEnv → Mo (List SV)) (env : SEnv) : Mo SV := mb (f env) fun xs => mnew (.lst xs)
def mTup (f : SEnv → Mo (List SV)) (env : SEnv) : Mo SV := mb (f env) fun xs => mnew (.tup xs)
def mDic0 (_ : SEnv) : Mo SV := mnew (.dic [])
/-- an operation on data -/
def mOp (h : D → D → Option D) (f g : SEnv → Mo SV) (env : SEnv) : Mo SV := mb (f env) fun x => mb (g env) fun y st => (dr 6 st x).bind fun u => (dr 6 st y).bind fun w => (h u w).map fun d => (.ok (.dat d), st)
def mUn (h : D → Option D) (f : SEnv → Mo SV) (env : SEnv) : Mo SV := mb (f env) fun x st => (dr 6 st x).bind fun u => (h u).map fun d => (.ok (.dat d), st)
def mCB (h : List D → Option D) (f : SEnv → Mo (List SV)) (env : SEnv) : Mo SV := mb (f env) fun xs st => (omap (dr 6 st) xs).bind fun ds => (h ds).map fun d => (.ok (.dat d), st)
/-- .. that makes a list -/
def mCL (h : List D → Option D) (f : SEnv → Mo (List SV)) (env : SEnv) : Mo SV := mb (f env) fun xs st => (omap (dr 6 st) xs).bind fun ds => (h ds).bind fun d => match d with
  | .list es => mnew (.lst (es.map .dat)) st
  | _ => none
def mB (f : SEnv → Mo SV) (env : SEnv) : Mo Bool := mb (f env) fun v => match v with
  | .dat (.bool b) => mret b
  | _ => fun _ => none
def mAndT (f g : SEnv → Mo Bool) (env : SEnv) : Mo Bool := mb (f env) fun b => match b with
  | true => g env
  | false => mret false
def mOrT (f g : SEnv → Mo Bool) (env : SEnv) : Mo Bool := mb (f env) fun b => match b with
  | true => mret true
  | false => g env
def mNotT (f : SEnv → Mo Bool) (env : SEnv) : Mo Bool := mb (f env) fun b => mret (!b)
def mAndV (f g : SEnv → Mo SV) (env : SEnv) : Mo SV := mb (mB f env) fun b => match b with
  | true => g env
  | false => mret (.dat (.bool false))
def mOrV (f g : SEnv → Mo SV) (env : SEnv) : Mo SV := mb (mB f env) fun b => match b with
  | true => mret (.dat (.bool true))
  | false => g env
def mT (f : SEnv → Mo Bool) (env : SEnv) : Mo SV := mb (f env) fun b => mret (.dat (.bool b))
/-- the fields of an instance of the class c -/
def insAt (c : Nat) (st : Store) : SV → Option (List SV)
  | .ref i => match st[i]? with
    | some (.ins c' xs) => if c' = c then some xs else none
    | _ => none
  | _ => none
def mFld (c k : Nat) (f : SEnv → Mo SV) (env : SEnv) : Mo SV := mb (f env) fun o st => (insAt c st o).bind fun xs => (xs[k]?).map fun v => (.ok v, st)
def lstOf (st : Store) : SV → Option (List SV)
  | .ref i => match st[i]? with
    | some (.lst xs) => some xs
    | _ => none
  | .dat (.list ds) => some (ds.map .dat)
  | _ => none
def tupOf (st : Store) : SV → Option (List SV)
  | .ref i => match st[i]? with
    | some (.tup xs) => some xs
    | _ => none
  | .dat (.tuple ds) => some (ds.map .dat)
  | _ => none
def intOf : SV → Option Int
  | .dat (.int i) => some i
  | _ => none
def mIx (o : Store → SV → Option (List SV)) (f g : SEnv → Mo SV) (env : SEnv) : Mo SV := mb (f env) fun x => mb (g env) fun y st => (o st x).bind fun xs => (intOf y).bind fun i => (atI xs i).map fun v => (.ok v, st)
def keyOf : SV → Option Key
  | .dat (.int i) => some (.inl i)
  | .dat (.str x) => some (.inr x)
  | _ => none
def dicOf (st : Store) : SV → Option (List (Key × SV))
  | .ref i => match st[i]? with
    | some (.dic kvs) => some kvs
    | _ => none
  | _ => none
/-- what a dict holds at a key -/
def valS (kvs : List (Key × SV)) (k : Key) : Option SV := (kvs.find? fun kv => decide (kv.1 = k)).map (·.2)
def mIxD (f g : SEnv → Mo SV) (env : SEnv) : Mo SV := mb (f env) fun x => mb (g env) fun y st => (dicOf st x).bind fun kvs => (keyOf y).bind fun k => (valS kvs k).map fun v => (.ok v, st)
def mInD (n : Bool) (f g : SEnv → Mo SV) (env : SEnv) : Mo SV := mb (f env) fun y => mb (g env) fun x st => (dicOf st x).bind fun kvs => (keyOf y).map fun k => (.ok (.dat (.bool (if n then !(valS kvs k).isSome else (valS kvs k).isSome))), st)
/-- a call -/
def mCall (F : List SV → Mo SV) (f : SEnv → Mo (List SV)) (env : SEnv) : Mo SV := mb (f env) F
def mMeth (c : Nat) (F : List SV → Mo SV) (fo : SEnv → Mo SV) (f : SEnv → Mo (List SV)) (env : SEnv) : Mo SV := mb (fo env) fun o st => (insAt c st o).bind fun _ => mb (f env) (fun xs => F (o :: xs)) st
/-- a new instance: its __init__ answers None -/
def mMake (c : Nat) (F : List SV → Mo SV) (f : SEnv → Mo (List SV)) (env : SEnv) : Mo SV := mb (f env) fun xs st => (F (.ref st.length :: xs) (st ++ [.ins c []])).bind fun r => match r with
  | (.ok (.dat .none), st') => some (.ok (.ref st.length), st')
  | (.ex k, st') => some (.ex k, st')
  | _ => none
section
variable {α β : Type} {K : PySem.W.Frag} {C : CT} {W : WX} {st : Store} {env : SEnv} {m : List Addr} {σ : L2.St} {H H' : Hp} {a p : Addr} {v : V} {s : SV}
theorem ok_ret {rel : List Addr → Hp → β → α → Prop} {st' : Store} {Q : β → Hp → Prop} {r : Er α} {x : α} {y : β} (R : MR K C st env m σ H) (z : mret x st = some (r, st')) (q : rel m H y x) (p : Po K C W rel st' env m σ H Q r) : Q y H := by
  cases z
  exact p y m H Ex.refl R q
theorem dps_vrs : ∀ {ds : List D} {vs : List V}, DpAll K (oth m H) vs ds → VRs K m H vs (ds.map .dat)
  | [], _, h => by cases h; exact .nil
  | d :: ds, _, h => by
    cases h with
    | cons h1 h2 => exact .cons h1 (dps_vrs h2)
/-- a new cell -/
theorem MR.new {c : Cell} (R : MR K C st env m σ H) (e : Same H H') (n : H p = none) (h : CR K C (m ++ [p]) H' p c) : MR K C (st ++ [c]) env (m ++ [p]) σ H' ∧ Ex m H (m ++ [p]) H' ∧ VR K (m ++ [p]) H' (.ref p) (.ref st.length) :=
  ⟨R.ex (R.sr.push e n h) (ex_push e n), ex_push e n, p, by rw [← R.sr.ln]; simp, rfl⟩
theorem pr_get : ∀ {vs : List V} {xs : List SV} {i : Nat} {s : SV}, VRs K m H vs xs → xs[i]? = some s → ∃ v, vs[i]? = some v ∧ VR K m H v s
  | _, _, _, _, .nil, e => by simp at e
  | _, _, 0, _, .cons r _, e => by simp at e; subst e; exact ⟨_, rfl, r⟩
  | _, _, i + 1, s, .cons _ t, e => by
    obtain ⟨u, h1, h2⟩ := pr_get (i := i) (s := s) t (by simpa using e)
    exact ⟨u, by simpa using h1, h2⟩
theorem pr_len {γ δ : Type} {F : γ → δ → Prop} {xs : List γ} {ys : List δ} (h : Paired F xs ys) : xs.length = ys.length := Paired.length h
theorem pr_at {vs : List V} {xs : List SV} {i : Int} (h : VRs K m H vs xs) (e : atI xs i = some s) : ∃ v, atI vs i = some v ∧ VR K m H v s := by
  unfold atI at e ⊢
  rw [pr_len h]
  cases e1 : ixN xs.length i with
  | none => rw [e1] at e; cases e
  | some j =>
    rw [e1] at e
    exact pr_get h e
theorem pr_app {γ δ : Type} {F : γ → δ → Prop} : ∀ {xs xs' : List γ} {ys ys' : List δ}, Paired F xs ys → Paired F xs' ys' → Paired F (xs ++ xs') (ys ++ ys')
  | _, _, _, _, .nil, h => h
  | _, _, _, _, .cons r t, h => .cons r (pr_app t h)
theorem pr_set {γ δ : Type} {F : γ → δ → Prop} {x : γ} {y : δ} (q : F x y) : ∀ {xs : List γ} {ys : List δ} (i : Nat), Paired F xs ys → Paired F (xs.set i x) (ys.set i y)
  | _, _, _, .nil => .nil
  | _, _, 0, .cons r t => .cons q t
  | _, _, i + 1, .cons r t => .cons r (pr_set q i t)
theorem pr_take {γ δ : Type} {F : γ → δ → Prop} : ∀ {xs : List γ} {ys : List δ} (i : Nat), Paired F xs ys → Paired F (xs.take i) (ys.take i)
  | _, _, 0, _ => .nil
  | _, _, i + 1, .nil => .nil
  | _, _, i + 1, .cons r t => .cons r (pr_take i t)
theorem pr_drop {γ δ : Type} {F : γ → δ → Prop} : ∀ {xs : List γ} {ys : List δ} (i : Nat), Paired F xs ys → Paired F (xs.drop i) (ys.drop i)
  | _, _, 0, h => h
  | _, _, i + 1, .nil => .nil
  | _, _, i + 1, .cons r t => pr_drop i t
theorem pr_erase {γ δ : Type} {F : γ → δ → Prop} : ∀ {xs : List γ} {ys : List δ} (i : Nat), Paired F xs ys → Paired F (xs.eraseIdx i) (ys.eraseIdx i)
  | _, _, 0, .nil => .nil
  | _, _, i + 1, .nil => .nil
  | _, _, 0, .cons r t => t
  | _, _, i + 1, .cons r t => .cons r (pr_erase i t)
theorem lstOf_ok {xs : List SV} (R : SR K C st m H) (h : VR K m H v s) (e : lstOf st s = some xs) : ∃ a vs, v = .ref a ∧ SqL K H a vs ∧ VRs K m H vs xs := by
  cases s with
  | dat d =>
    cases d with
    | list ds =>
      cases e
      cases h with
      | lst hs ha => exact ⟨_, _, rfl, oth_sub.seq hs, dps_vrs ha⟩
    | _ => cases e
  | ref i =>
    obtain ⟨a, h1, rfl⟩ := h
    unfold lstOf at e
    simp only at e
    cases hc : st[i]? with
    | none => rw [hc] at e; cases e
    | some c =>
      rw [hc] at e
      cases c with
      | lst ys =>
        cases e
        obtain ⟨b, h2, vs, h3, h4⟩ := R.cl i _ hc
        rw [h1] at h2
        cases h2
        exact ⟨a, vs, rfl, SqL.of h3, h4⟩
      | _ => cases e
theorem tupOf_ok {xs : List SV} (R : SR K C st m H) (h : VR K m H v s) (e : tupOf st s = some xs) : ∃ a vs, v = .ref a ∧ SqT K H a vs ∧ VRs K m H vs xs := by
  cases s with
  | dat d =>
    cases d with
    | tuple ds =>
      cases e
      cases h with
      | tup hs ha => exact ⟨_, _, rfl, PV.same_t oth_sub hs, dps_vrs ha⟩
    | _ => cases e
  | ref i =>
    obtain ⟨a, h1, rfl⟩ := h
    unfold tupOf at e
    simp only at e
    cases hc : st[i]? with
    | none => rw [hc] at e; cases e
    | some c =>
      rw [hc] at e
      cases c with
      | tup ys =>
        cases e
        obtain ⟨b, h2, vs, h3, h4⟩ := R.cl i _ hc
        rw [h1] at h2
        cases h2
        exact ⟨a, vs, rfl, SqT.of h3, h4⟩
      | _ => cases e
theorem intOf_ok {i : Int} (h : VR K m H v s) (e : intOf s = some i) : v = .int i := by
  cases s with
  | ref j => cases e
  | dat d =>
    cases d with
    | int j => cases e; cases h; rfl
    | _ => cases e
theorem keyOf_ok {k : Key} (h : VR K m H v s) (e : keyOf s = some k) : v = kV k := by
  cases s with
  | ref j => cases e
  | dat d =>
    cases d with
    | int j => cases e; cases h; rfl
    | str j => cases e; cases h; rfl
    | _ => cases e
theorem dicOf_ok {kvs : List (Key × SV)} (R : SR K C st m H) (h : VR K m H v s) (e : dicOf st s = some kvs) : ∃ i a ps, s = .ref i ∧ v = .ref a ∧ m[i]? = some a ∧ st[i]? = some (.dic kvs) ∧ H a = some (.dK ps) ∧ FR K m H ps kvs := by
  cases s with
  | dat d => cases e
  | ref i =>
    obtain ⟨a, h1, rfl⟩ := h
    unfold dicOf at e
    simp only at e
    cases hc : st[i]? with
    | none => rw [hc] at e; cases e
    | some c =>
      rw [hc] at e
      cases c with
      | dic ys =>
        cases e
        obtain ⟨b, h2, vs, h3, h4⟩ := R.cl i _ hc
        rw [h1] at h2
        cases h2
        exact ⟨i, a, vs, rfl, rfl, h1, hc, h3, h4⟩
      | _ => cases e
theorem insAt_ok {c : Nat} {xs : List SV} (R : SR K C st m H) (h : VR K m H v s) (e : insAt c st s = some xs) : ∃ i a dx vs, s = .ref i ∧ v = .ref a ∧ m[i]? = some a ∧ st[i]? = some (.ins c xs) ∧ H a = some (.ins (C.ca c) dx ((C.fn c).zip vs)) ∧ VRs K m H vs xs ∧ xs.length ≤ (C.fn c).length := by
  cases s with
  | dat d => cases e
  | ref i =>
    obtain ⟨a, h1, rfl⟩ := h
    unfold insAt at e
    simp only at e
    cases hc : st[i]? with
    | none => rw [hc] at e; cases e
    | some c =>
      rw [hc] at e
      cases c with
      | ins k ys =>
        simp only at e
        by_cases hk : k = c
        · subst hk
          rw [if_pos rfl] at e
          cases e
          obtain ⟨b, h2, dx, vs, h3, h4, h5⟩ := R.cl i _ hc
          rw [h1] at h2
          cases h2
          exact ⟨i, a, dx, vs, rfl, rfl, h1, hc, h3, h4, h5⟩
        · rw [if_neg hk] at e; cases e
      | _ => cases e
theorem valS_ok {k : Key} : ∀ {ps : List (Key × V)} {kvs : List (Key × SV)}, FR K m H ps kvs → match valV ps k, valS kvs k with
    | some v, some s => VR K m H v s
    | none, none => True
    | _, _ => False
  | _, _, .nil => by unfold valV valS; simp
  | _, _, .cons (a := p) (b := q) (l₁ := l1) r t => by
    by_cases e : q.1 = k
    · have e1 : p.1 = k := r.1.trans e
      unfold valS
      rw [valV_pos e1]
      simp only [List.find?_cons, e, decide_true, Option.map_some]
      exact r.2
    · have e1 : ¬ p.1 = k := fun z => e (r.1.symm.trans z)
      have h2 := valS_ok (k := k) t
      rw [valV_neg e1]
      unfold valS at h2 ⊢
      rw [List.find?_cons]
      simp only [e, decide_false]
      exact h2
theorem valS_some {k : Key} {ps : List (Key × V)} {kvs : List (Key × SV)} {s : SV} (h : FR K m H ps kvs) (e : valS kvs k = some s) : ∃ v, valV ps k = some v ∧ VR K m H v s := by
  have q := valS_ok (k := k) h
  rw [e] at q
  cases e1 : valV ps k with
  | none => rw [e1] at q; exact q.elim
  | some v => rw [e1] at q; exact ⟨v, rfl, q⟩
theorem valS_is {k : Key} {ps : List (Key × V)} {kvs : List (Key × SV)} (h : FR K m H ps kvs) : (valV ps k).isSome = (valS kvs k).isSome := by
  have q := valS_ok (k := k) h
  cases e1 : valV ps k <;> cases e2 : valS kvs k <;> rw [e1, e2] at q <;> first | rfl | exact q.elim
theorem zip_look {f : Str} : ∀ {ns : List Str} {vs : List V} {k : Nat} {v : V}, ns.Nodup → ns[k]? = some f → vs[k]? = some v → (ns.zip vs).lookup f = some v
  | [], _, _, _, _, e, _ => by simp at e
  | n :: ns, [], _, _, _, _, e => by simp at e
  | n :: ns, w :: vs, 0, v, hd, e, h => by
    simp at e h
    subst e h
    simp [List.lookup]
  | n :: ns, w :: vs, k + 1, v, hd, e, h => by
    have hne : (f == n) = false := by
      rw [beq_eq_false_iff_ne]
      intro z
      subst z
      have := List.mem_of_getElem? (show ns[k]? = some f by simpa using e)
      exact (List.nodup_cons.mp hd).1 this
    rw [List.zip_cons_cons]
    unfold List.lookup
    rw [hne]
    exact zip_look (List.nodup_cons.mp hd).2 (by simpa using e) (by simpa using h)
theorem zip_out {f : Str} : ∀ {ns : List Str} {vs : List V}, f ∉ ns → (ns.zip vs).lookup f = none
  | [], _, _ => rfl
  | n :: ns, [], _ => rfl
  | n :: ns, w :: vs, h => by
    have hne : (f == n) = false := by
      rw [beq_eq_false_iff_ne]
      intro z
      exact h (by rw [z]; exact List.mem_cons_self)
    rw [List.zip_cons_cons]
    unfold List.lookup
    rw [hne]
    exact zip_out fun z => h (List.mem_cons_of_mem _ z)
end
section
variable {X : Cx} {C : CT} {W : WX} {e a b o : Expr} {es : List Expr} {pos apos : Pos} {f g : SEnv → Mo SV} {p q : SEnv → Mo Bool} {fs : SEnv → Mo (List SV)} {t ta tb te : TE} {tp tq : TT} {ts : TA}
/-! ### parts that change nothing -/
theorem m_pure {h : SE → Option D} (E : VE X [] e .nw h t) : ME X C W e (mP h) t := ⟨E.pe, fun m env σ H st Q r st' R z p => by
  unfold mP at z
  cases e1 : h (view st env) with
  | none => rw [e1] at z; cases z
  | some d =>
    rw [e1] at z
    cases z
    refine E.ok H H _ _ σ H Q d R.er e1 fun v H' s q => ?_
    obtain ⟨S, x⟩ := R.sr.grow s
    exact p v m H' x (R.ex S x) (dp_mono (nw_oth R.sr fun b hb => .inl hb) _ _ q)⟩
theorem mt_pure {h : SE → Option Bool} (E : VT X [] e h tp) : MT X C W e (mPT h) tp := ⟨E.pt, fun m env σ H st Q r st' R z p => by
  unfold mPT at z
  cases e1 : h (view st env) with
  | none => rw [e1] at z; cases z
  | some d =>
    rw [e1] at z
    cases z
    refine E.ok H H _ _ σ H Q d R.er e1 fun H' s => ?_
    obtain ⟨S, x⟩ := R.sr.grow s
    exact p d m H' x (R.ex S x) rfl⟩
/-- a new list of data: a cell -/
theorem m_newL {h : SE → Option (List D)} (E : VL X [] e .nw h t) : ME X C W e (mAl h) t := ⟨E.pe, fun m env σ H st Q r st' R z p => by
  unfold mAl at z
  cases e1 : h (view st env) with
  | none => rw [e1] at z; cases z
  | some ds =>
    rw [e1] at z
    cases z
    refine E.ok H H _ _ σ H Q ds R.er e1 fun a vs H' s n hv q => ?_
    have hn : ∀ b, b ∈ m ++ [a] → b ∈ m ∨ H b = none ∧ Ow (List.replicate σ.length none ++ [some a]) b := fun b hb => by
      rcases List.mem_append.mp hb with hb | hb
      · exact .inl hb
      · rw [List.mem_singleton.mp hb]; exact .inr ⟨n, ow_snoc_self⟩
    obtain ⟨M, x, y⟩ := R.new s n (c := .lst (ds.map .dat)) ⟨vs, hv, dps_vrs (dps_mono (nw_oth R.sr hn) _ _ q)⟩
    exact p _ _ H' x M y⟩
theorem m_name (i : Nat) {x : Str} (hN : X.N[i]? = some x := by rfl) (hv : Vis X.env.scope x := by first | exact Or.inl rfl | exact Or.inr (Or.inl rfl) | exact Or.inr (Or.inr rfl)) (hd : (x == ("__debug__" : Str)) = false := by decide)
    (hcd : (x == ("__classdict__" : Str)) = false := by decide) : ME X C W (.Name x pos) (mV i) (tVar i) := ⟨pe_var hN hv hd hcd, fun m env σ H st Q r st' R z p => by
  unfold mV at z
  rw [List.getD_eq_getElem?_getD] at z
  cases e1 : env[i]? with
  | none => rw [e1] at z; cases z
  | some x =>
    rw [e1] at z
    cases x with
    | none => cases z
    | some s =>
      cases z
      obtain ⟨v, h1, h2⟩ := R.sl i s e1
      exact ⟨v, h1, p v m H Ex.refl R h2⟩⟩
/-! ### rows -/
theorem ma_nil : MA X C W [] mNil tNil := ⟨pa_nil, fun env st xs st' z => by cases z; rfl, fun m env σ H st Q r st' R z p => by
  cases z
  exact p [] m H Ex.refl R .nil⟩
theorem ma_cons (ha : ME X C W e f te) (hb : MA X C W es fs ts) (hs : starEach (e :: es) X.env = (false, eval e X.env) :: starEach es X.env := by rfl) : MA X C W (e :: es) (mCons f fs) (tCons te ts) := ⟨pa_cons ha.pe hb.pa hs, fun env st xs st' z => by
  unfold mCons mb at z
  cases e1 : f env st with
  | none => rw [e1] at z; cases z
  | some y =>
    rw [e1] at z
    obtain ⟨y, st1⟩ := y
    cases y with
    | ex c => cases z
    | ok x =>
      simp only [Option.bind_some] at z
      cases e2 : fs env st1 with
      | none => rw [e2] at z; cases z
      | some y =>
        rw [e2] at z
        obtain ⟨y, st2⟩ := y
        cases y with
        | ex c => cases z
        | ok ys =>
          cases z
          rw [List.length_cons, List.length_cons, hb.ln env st1 ys st' e2], fun m env σ H st Q r st' R z p => by
  refine ok_mb (t := te) ha.ok R z p fun v m1 H1 s st1 x1 R1 q1 z1 p1 => ?_
  refine ok_mb (t := ts) hb.ok R1 z1 p1 fun vs m2 H2 xs st2 x2 R2 q2 z2 p2 => ?_
  exact ok_ret (y := v :: vs) R2 z2 (.cons (q1.ex x2) q2) p2⟩
theorem m_lst (ha : MA X C W es fs ts) (hl : es.length ≤ 1000 := by decide) : ME X C W (.List es pos) (mLst fs) (tLst ts) := ⟨pe_lst ha.pa, fun m env σ H st Q r st' R z p => by
  have len : ∀ xs st1, fs env st = some (.ok xs, st1) → xs.length ≤ 1000 := fun xs st1 e => by rw [ha.ln env st xs st1 e]; exact hl
  unfold mLst mb at z
  cases e1 : fs env st with
  | none => rw [e1] at z; cases z
  | some y =>
    rw [e1] at z
    obtain ⟨y, st1⟩ := y
    refine ha.ok m env σ H st _ y st1 R e1 ?_
    cases y with
    | ex c => cases z; exact p
    | ok xs =>
      cases z
      refine fun vs m1 H1 x1 R1 q1 => ⟨by rw [pr_len q1]; exact Nat.le_trans (len xs st1 e1) (by decide), fun a n => ?_⟩
      obtain ⟨M, x, y⟩ := R1.new (same_new (o := .lst vs) n) n (c := .lst xs) ⟨vs, upd_same, VRs.ex (ex_push (same_new n) n) q1⟩
      exact p _ _ _ (x1.trans x) M y⟩
theorem m_tup {j : Nat} (ha : MA X C W es fs ts) (hl : es.length ≤ 1000 := by decide) : ME X C W (.Tuple es j pos) (mTup fs) (tTup ts) := ⟨pe_tup ha.pa, fun m env σ H st Q r st' R z p => by
  have len : ∀ xs st1, fs env st = some (.ok xs, st1) → xs.length ≤ 1000 := fun xs st1 e => by rw [ha.ln env st xs st1 e]; exact hl
  unfold mTup mb at z
  cases e1 : fs env st with
  | none => rw [e1] at z; cases z
  | some y =>
    rw [e1] at z
    obtain ⟨y, st1⟩ := y
    refine ha.ok m env σ H st _ y st1 R e1 ?_
    cases y with
    | ex c => cases z; exact p
    | ok xs =>
      cases z
      refine fun vs m1 H1 x1 R1 q1 => ⟨by rw [pr_len q1]; exact Nat.le_trans (len xs st1 e1) (by decide), fun a n => ?_⟩
      obtain ⟨M, x, y⟩ := R1.new (same_new (o := .tup vs) n) n (c := .tup xs) ⟨vs, upd_same, VRs.ex (ex_push (same_new n) n) q1⟩
      exact p _ _ _ (x1.trans x) M y⟩
theorem m_dic0 : ME X C W (.Dict [] [] pos) mDic0 tDNewK := ⟨pe_dnewK, fun m env σ H st Q r st' R z p a n => by
  cases z
  obtain ⟨M, x, y⟩ := R.new (same_new (o := .dK []) n) n (c := .dic []) ⟨[], upd_same, .nil⟩
  exact p _ _ _ x M y⟩
/-! ### operations on data -/
theorem ok_mOp {K : PySem.W.Frag} {rr : R2} {h : D → D → Option D} (hs : R2s K rr h) (ha : OkG K C W (VR K) f ta) (hb : OkG K C W (VR K) g tb) : OkG K C W (VR K) (mOp h f g) (tOp rr ta tb) := fun m env σ H st Q r st' R z p => by
  refine ok_mb (t := ta) ha R z p fun v m1 H1 s st1 x1 R1 q1 z1 p1 => ?_
  refine ok_mb (t := tb) hb R1 z1 p1 fun w m2 H2 u st2 x2 R2 q2 z2 p2 => ?_
  cases e1 : dr 6 st2 s with
  | none => rw [e1] at z2; cases z2
  | some dx =>
    cases e2 : dr 6 st2 u with
    | none => rw [e1, e2] at z2; cases z2
    | some dy =>
      rw [e1, e2] at z2
      simp only [Option.bind_some] at z2
      cases e3 : h dx dy with
      | none => rw [e3] at z2; cases z2
      | some d =>
        rw [e3] at z2
        cases z2
        obtain ⟨h1, h2⟩ := hs v w dx dy d H2 Q (dr_dp R2.sr 6 _ _ _ (q1.ex x2) e1) (dr_dp R2.sr 6 _ _ _ q2 e2) e3
        exact h2 (p2 _ m2 H2 Ex.refl R2 (sc_dp h1))
theorem m_op {op : Operator} {rr : R2} {h : D → D → Option D} (ho : OpR X (binaryOp op) rr) (hs : R2s X.K rr h) (ha : ME X C W a f ta) (hb : ME X C W b g tb) : ME X C W (.BinOp a op b pos) (mOp h f g) (tOp rr ta tb) := ⟨pe_op ho ha.pe hb.pe, ok_mOp hs ha.ok hb.ok⟩
theorem m_cmp {op : CmpOp} {rr : R2} {h : D → D → Option D} (ho : OpR X (compareOp op) rr) (hs : R2s X.K rr h) (ha : ME X C W a f ta) (hb : ME X C W b g tb) (hm : behindInMarks op b = false := by first | exact nomark _ | rfl) :
    ME X C W (.Compare a [op] [b] pos) (mOp h f g) (tOp rr ta tb) := ⟨pe_cmpR ho ha.pe hb.pe hm, ok_mOp hs ha.ok hb.ok⟩
theorem ok_mB {K : PySem.W.Frag} (h : OkG K C W (VR K) f t) : OkG K C W relT (mB f) (tB t) := fun m env σ H st Q r st' R z p => by
  refine ok_mb (t := t) h R z p fun v m1 H1 s st1 x1 R1 q1 z1 p1 => ?_
  cases s with
  | ref i => cases z1
  | dat d =>
    cases d with
    | bool b =>
      cases q1
      exact ⟨b, rfl, ok_ret (y := b) R1 z1 rfl p1⟩
    | _ => cases z1
theorem mt_cmp {op : CmpOp} {rr : R2} {h : D → D → Option D} (ho : OpR X (compareOp op) rr) (hs : R2s X.K rr h) (ha : ME X C W a f ta) (hb : ME X C W b g tb) (hm : behindInMarks op b = false := by first | exact nomark _ | rfl) :
    MT X C W (.Compare a [op] [b] pos) (mB (mOp h f g)) (tTest (tOp rr ta tb)) := ⟨pt_cmpR ho ha.pe hb.pe hm, ok_mB (ok_mOp hs ha.ok hb.ok)⟩
theorem mt_val (h : ME X C W e f t) (he : ∀ whole, isTrue e X.env whole = (do let v ← whole; standAt e.pos; holding [v] (truthy v)) := by intro _; rfl) : MT X C W e (mB f) (tB t) := ⟨pt_val h.pe he, ok_mB h.ok⟩
theorem mw_pt (h : MW X C W e p tp) : MT X C W e p tp := ⟨h.pt.pt, h.ok⟩
theorem mw_and1 (h : MT X C W a p tp) : MW X C W (.BoolOp .And [a] pos) p tp := ⟨pw_and1 h.pt, h.ok⟩
theorem mw_or1 (h : MT X C W a p tp) : MW X C W (.BoolOp .Or [a] pos) p tp := ⟨pw_or1 h.pt, h.ok⟩
theorem mw_and (ha : MT X C W a p tp) (hb : MW X C W (.BoolOp .And (b :: es) pos) q tq) : MW X C W (.BoolOp .And (a :: b :: es) pos) (mAndT p q) (tAnd tp tq) := ⟨pw_and ha.pt hb.pt, fun m env σ H st Q r st' R z p => by
  refine ok_mb (t := tp) ha.ok R z p fun v m1 H1 s st1 x1 R1 q1 z1 p1 => ?_
  cases q1
  cases v with
  | true => exact iteT (hb.ok m1 env σ H1 st1 Q r st' R1 z1 p1)
  | false => exact iteF (ok_ret (y := false) R1 z1 rfl p1)⟩
theorem mw_or (ha : MT X C W a p tp) (hb : MW X C W (.BoolOp .Or (b :: es) pos) q tq) : MW X C W (.BoolOp .Or (a :: b :: es) pos) (mOrT p q) (tOr tp tq) := ⟨pw_or ha.pt hb.pt, fun m env σ H st Q r st' R z p => by
  refine ok_mb (t := tp) ha.ok R z p fun v m1 H1 s st1 x1 R1 q1 z1 p1 => ?_
  cases q1
  cases v with
  | false => exact iteF (hb.ok m1 env σ H1 st1 Q r st' R1 z1 p1)
  | true => exact iteT (ok_ret (y := true) R1 z1 rfl p1)⟩
theorem mt_not (ha : MT X C W a p tp) : MT X C W (.UnaryOp .Not a pos) (mNotT p) (tNot tp) := ⟨pt_not ha.pt, fun m env σ H st Q r st' R z p => by
  refine ok_mb (t := tp) ha.ok R z p fun v m1 H1 s st1 x1 R1 q1 z1 p1 => ?_
  cases q1
  exact ok_ret (y := !v) R1 z1 rfl p1⟩
theorem m_one {op : BoolOp} (h : ME X C W a f t) : ME X C W (.BoolOp op [a] pos) f t := ⟨pe_one h.pe, h.ok⟩
theorem m_and (ha : ME X C W a f ta) (hb : ME X C W (.BoolOp .And (b :: es) pos) g tb) : ME X C W (.BoolOp .And (a :: b :: es) pos) (mAndV f g) (tAndV ta tb) := ⟨pe_and ha.pe hb.pe, fun m env σ H st Q r st' R z p => by
  refine ok_mb (t := tB ta) (ok_mB ha.ok) R z p fun v m1 H1 s st1 x1 R1 q1 z1 p1 => ?_
  cases q1
  cases v with
  | true => exact iteT (hb.ok m1 env σ H1 st1 Q r st' R1 z1 p1)
  | false => exact iteF (ok_ret (y := .bl false) R1 z1 (.bl false) p1)⟩
theorem m_or (ha : ME X C W a f ta) (hb : ME X C W (.BoolOp .Or (b :: es) pos) g tb) : ME X C W (.BoolOp .Or (a :: b :: es) pos) (mOrV f g) (tOrV ta tb) := ⟨pe_or ha.pe hb.pe, fun m env σ H st Q r st' R z p => by
  refine ok_mb (t := tB ta) (ok_mB ha.ok) R z p fun v m1 H1 s st1 x1 R1 q1 z1 p1 => ?_
  cases q1
  cases v with
  | false => exact iteF (hb.ok m1 env σ H1 st1 Q r st' R1 z1 p1)
  | true => exact iteT (ok_ret (y := .bl true) R1 z1 (.bl true) p1)⟩
theorem m_not (ha : ME X C W a f ta) : ME X C W (.UnaryOp .Not a pos) (mT (mNotT (mB f))) (tNotV ta) := ⟨pe_not ha.pe, fun m env σ H st Q r st' R z p => by
  unfold mT at z
  have h : mb (mB f env) (fun b => mret (.dat (.bool (!b)))) st = some (r, st') := by
    rw [← z]
    unfold mNotT mb
    cases mB f env st with
    | none => rfl
    | some y =>
      obtain ⟨y, st1⟩ := y
      cases y <;> rfl
  refine ok_mb (t := tB ta) (ok_mB ha.ok) R h p fun v m1 H1 s st1 x1 R1 q1 z1 p1 => ?_
  cases q1
  exact ok_ret (y := .bl (!v)) R1 z1 (.bl _) p1⟩
/-! ### built-ins -/
theorem ok_mCB {K : PySem.W.Frag} {rr : List V → Hp → VK → Prop} {h : List D → Option D} (hs : CaS K rr h) (ha : OkG K C W (fun m H => VRs K m H) fs ts) : OkG K C W (VR K) (mCB h fs) (tCB rr ts) := fun m env σ H st Q r st' R z p => by
  refine ok_mb (t := ts) ha R z p fun vs m1 H1 xs st1 x1 R1 q1 z1 p1 => ?_
  cases e1 : omap (dr 6 st1) xs with
  | none => rw [e1] at z1; cases z1
  | some ds =>
    rw [e1] at z1
    simp only [Option.bind_some] at z1
    cases e2 : h ds with
    | none => rw [e2] at z1; cases z1
    | some d =>
      rw [e2] at z1
      cases z1
      obtain ⟨h1, h2⟩ := hs vs ds d H1 Q (omap_dps (dr_dp R1.sr 6) q1 e1) e2
      exact h2 (p1 _ m1 H1 Ex.refl R1 (sc_dp h1))
theorem m_callB {x : Str} {id : String} {rr : List V → Hp → VK → Prop} {h : List D → Option D} {p : Pos} (hc : CallR X (.builtin id) rr) (hs : CaS X.K rr h) (hm : X.mg x = none) (hv : bootBuiltins x = some (.builtin id)) (ha : MA X C W (e :: es) fs ts) (hg : Gl X x := by rfl) (hn : x ≠ "__name__" := by decide) (hdb : (x == ("__debug__" : Str)) = false := by decide)
    (he : starEach (e :: es) X.env = (false, eval e X.env) :: starEach es X.env := by rfl) (hpl : (backTo pos (starEach es X.env)).any (·.1) = false := by rfl) : ME X C W (.Call (.Name x p) (e :: es) [] pos) (mCB h fs) (tCB rr ts) := ⟨pe_callB hc hg hm hv ha.pa hn hdb he hpl, ok_mCB hs ha.ok⟩
theorem m_callTy {x : Str} {T : String} {rr : List V → Hp → VK → Prop} {h : List D → Option D} {p : Pos} (hc : CallR X (.type T) rr) (hs : CaS X.K rr h) (hm : X.mg x = none) (hv : bootBuiltins x = some (.type T)) (ha : MA X C W (e :: es) fs ts) (hg : Gl X x := by rfl) (hn : x ≠ "__name__" := by decide) (hdb : (x == ("__debug__" : Str)) = false := by decide)
    (he : starEach (e :: es) X.env = (false, eval e X.env) :: starEach es X.env := by rfl) (hpl : (backTo pos (starEach es X.env)).any (·.1) = false := by rfl) : ME X C W (.Call (.Name x p) (e :: es) [] pos) (mCB h fs) (tCB rr ts) := ⟨pe_callTy hc hg hm hv ha.pa hn hdb he hpl, ok_mCB hs ha.ok⟩
/-! ### fields, items -/
theorem m_fld {x : Str} (c k : Nat) (ha : ME X C W o f ta) (hc : Cls X.K (C.ca c)) (hn : NoAttr X.K (C.ca c) x) (hk : (C.fn c)[k]? = some x := by rfl) (hd : (C.fn c).Nodup := by decide) (hb : attributeBase o x X.env (eval o X.env) = eval o X.env := by rfl) :
    ME X C W (.Attribute o x pos) (mFld c k f) (tFld X.K ta x) := ⟨pe_fld ha.pe hb, fun m env σ H st Q r st' R z p => by
  refine ok_mb (t := ta) ha.ok R z p fun v m1 H1 s st1 x1 R1 q1 z1 p1 => ?_
  cases e1 : insAt c st1 s with
  | none => rw [e1] at z1; cases z1
  | some xs =>
    rw [e1] at z1
    simp only [Option.bind_some] at z1
    cases e2 : xs[k]? with
    | none => rw [e2] at z1; cases z1
    | some u =>
      rw [e2] at z1
      cases z1
      obtain ⟨i, a, dx, vs, rfl, rfl, h1, h2, h3, h4, h5⟩ := insAt_ok R1.sr q1 e1
      obtain ⟨w, h6, h7⟩ := pr_get h4 e2
      exact ⟨a, _, dx, _, w, rfl, h3, hc, hn, zip_look hd hk h6, p1 w m1 H1 Ex.refl R1 h7⟩⟩
theorem m_ixL (ha : ME X C W a f ta) (hb : ME X C W b g tb) (hp : PlainIx b := by exact fun _ _ => rfl) : ME X C W (.Subscript a b pos) (mIx lstOf f g) (tOp (rIxL X.K) ta tb) := ⟨pe_ix ix_list ha.pe hb.pe hp, fun m env σ H st Q r st' R z p => by
  refine ok_mb (t := ta) ha.ok R z p fun v m1 H1 s st1 x1 R1 q1 z1 p1 => ?_
  refine ok_mb (t := tb) hb.ok R1 z1 p1 fun w m2 H2 u st2 x2 R2 q2 z2 p2 => ?_
  cases e1 : lstOf st2 s with
  | none => rw [e1] at z2; cases z2
  | some xs =>
    cases e2 : intOf u with
    | none => rw [e1, e2] at z2; cases z2
    | some i =>
      rw [e1, e2] at z2
      simp only [Option.bind_some] at z2
      cases e3 : atI xs i with
      | none => rw [e3] at z2; cases z2
      | some y =>
        rw [e3] at z2
        cases z2
        obtain ⟨a, vs, rfl, h1, h2⟩ := lstOf_ok R2.sr (q1.ex x2) e1
        obtain rfl := intOf_ok q2 e2
        obtain ⟨w, h3, h4⟩ := pr_at h2 e3
        exact ⟨a, vs, i, w, rfl, rfl, h1, h3, p2 w m2 H2 Ex.refl R2 h4⟩⟩
theorem m_ixT (ha : ME X C W a f ta) (hb : ME X C W b g tb) (hp : PlainIx b := by exact fun _ _ => rfl) : ME X C W (.Subscript a b pos) (mIx tupOf f g) (tOp (rIxT X.K) ta tb) := ⟨pe_ix ix_tup ha.pe hb.pe hp, fun m env σ H st Q r st' R z p => by
  refine ok_mb (t := ta) ha.ok R z p fun v m1 H1 s st1 x1 R1 q1 z1 p1 => ?_
  refine ok_mb (t := tb) hb.ok R1 z1 p1 fun w m2 H2 u st2 x2 R2 q2 z2 p2 => ?_
  cases e1 : tupOf st2 s with
  | none => rw [e1] at z2; cases z2
  | some xs =>
    cases e2 : intOf u with
    | none => rw [e1, e2] at z2; cases z2
    | some i =>
      rw [e1, e2] at z2
      simp only [Option.bind_some] at z2
      cases e3 : atI xs i with
      | none => rw [e3] at z2; cases z2
      | some y =>
        rw [e3] at z2
        cases z2
        obtain ⟨a, vs, rfl, h1, h2⟩ := tupOf_ok R2.sr (q1.ex x2) e1
        obtain rfl := intOf_ok q2 e2
        obtain ⟨w, h3, h4⟩ := pr_at h2 e3
        exact ⟨a, vs, i, w, rfl, rfl, h1, h3, p2 w m2 H2 Ex.refl R2 h4⟩⟩
theorem m_ixD (hu : X.A.units + 1 < cLine) (ha : ME X C W a f ta) (hb : ME X C W b g tb) (hp : NoSl b := by exact fun _ _ => rfl) : ME X C W (.Subscript a b pos) (mIxD f g) (tDGet ta tb) := ⟨pe_dget hu ha.pe hb.pe hp, fun m env σ H st Q r st' R z p => by
  refine ok_mb (t := ta) ha.ok R z p fun v m1 H1 s st1 x1 R1 q1 z1 p1 => ?_
  refine ok_mb (t := tb) hb.ok R1 z1 p1 fun w m2 H2 u st2 x2 R2 q2 z2 p2 => ?_
  cases e1 : dicOf st2 s with
  | none => rw [e1] at z2; cases z2
  | some kvs =>
    cases e2 : keyOf u with
    | none => rw [e1, e2] at z2; cases z2
    | some k =>
      rw [e1, e2] at z2
      simp only [Option.bind_some] at z2
      cases e3 : valS kvs k with
      | none => rw [e3] at z2; cases z2
      | some y =>
        rw [e3] at z2
        cases z2
        obtain ⟨i, a, ps, rfl, rfl, h1, h2, h3, h4⟩ := dicOf_ok R2.sr (q1.ex x2) e1
        obtain rfl := keyOf_ok q2 e2
        obtain ⟨w, h5, h6⟩ := valS_some h4 e3
        have g1 := DGet.k (k := k) h3
        rw [h5] at g1
        exact ⟨a, w, rfl, g1, p2 w m2 H2 Ex.refl R2 h6⟩⟩
theorem ok_inD {K : PySem.W.Frag} (ha : OkG K C W (VR K) f ta) (hb : OkG K C W (VR K) g tb) : OkG K C W (VR K) (mInD false f g) (tDIn ta tb) := fun m env σ H st Q r st' R z p => by
  refine ok_mb (t := ta) ha R z p fun v m1 H1 s st1 x1 R1 q1 z1 p1 => ?_
  refine ok_mb (t := tb) hb R1 z1 p1 fun w m2 H2 u st2 x2 R2 q2 z2 p2 => ?_
  cases e1 : dicOf st2 u with
  | none => rw [e1] at z2; cases z2
  | some kvs =>
    cases e2 : keyOf s with
    | none => rw [e1, e2] at z2; cases z2
    | some k =>
      rw [e1, e2] at z2
      cases z2
      obtain ⟨i, a, ps, rfl, rfl, h1, h2, h3, h4⟩ := dicOf_ok R2.sr q2 e1
      obtain rfl := keyOf_ok (q1.ex x2) e2
      refine ⟨a, _, rfl, DGet.k (k := k) h3, p2 _ m2 H2 Ex.refl R2 ?_⟩
      rw [valS_is h4]
      exact .bl _
theorem ok_notInD {K : PySem.W.Frag} (ha : OkG K C W (VR K) f ta) (hb : OkG K C W (VR K) g tb) : OkG K C W (VR K) (mInD true f g) (tDNotIn ta tb) := fun m env σ H st Q r st' R z p => by
  refine ok_mb (t := ta) ha R z p fun v m1 H1 s st1 x1 R1 q1 z1 p1 => ?_
  refine ok_mb (t := tb) hb R1 z1 p1 fun w m2 H2 u st2 x2 R2 q2 z2 p2 => ?_
  cases e1 : dicOf st2 u with
  | none => rw [e1] at z2; cases z2
  | some kvs =>
    cases e2 : keyOf s with
    | none => rw [e1, e2] at z2; cases z2
    | some k =>
      rw [e1, e2] at z2
      cases z2
      obtain ⟨i, a, ps, rfl, rfl, h1, h2, h3, h4⟩ := dicOf_ok R2.sr q2 e1
      obtain rfl := keyOf_ok (q1.ex x2) e2
      refine ⟨a, _, rfl, DGet.k (k := k) h3, p2 _ m2 H2 Ex.refl R2 ?_⟩
      rw [valS_is h4]
      exact .bl _
theorem m_inD (hu : X.A.units + 1 < cLine) (ha : ME X C W a f ta) (hb : ME X C W b g tb) (hm : behindInMarks .In b = false := by rfl) : ME X C W (.Compare a [.In] [b] pos) (mInD false f g) (tDIn ta tb) := ⟨pe_cmp (pc_din hu ha.pe hb.pe) hm, ok_inD ha.ok hb.ok⟩
theorem m_notInD (hu : X.A.units + 1 < cLine) (ha : ME X C W a f ta) (hb : ME X C W b g tb) (hm : behindInMarks .NotIn b = false := by rfl) : ME X C W (.Compare a [.NotIn] [b] pos) (mInD true f g) (tDNotIn ta tb) := ⟨pe_cmp (pc_dnotin hu ha.pe hb.pe) hm, ok_notInD ha.ok hb.ok⟩
theorem mt_inD (hu : X.A.units + 1 < cLine) (ha : ME X C W a f ta) (hb : ME X C W b g tb) (hm : behindInMarks .In b = false := by rfl) : MT X C W (.Compare a [.In] [b] pos) (mB (mInD false f g)) (tB (tDIn ta tb)) := ⟨pt_cmp (pc_din hu ha.pe hb.pe) hm, ok_mB (ok_inD ha.ok hb.ok)⟩
theorem mt_notInD (hu : X.A.units + 1 < cLine) (ha : ME X C W a f ta) (hb : ME X C W b g tb) (hm : behindInMarks .NotIn b = false := by rfl) : MT X C W (.Compare a [.NotIn] [b] pos) (mB (mInD true f g)) (tB (tDNotIn ta tb)) := ⟨pt_cmp (pc_dnotin hu ha.pe hb.pe) hm, ok_mB (ok_notInD ha.ok hb.ok)⟩
end
end MV

namespace MV
open PySem PySem.Spec PyProof.Rows L2 PV
/-! ### calls whose errors are wished for at the caller's slots (methods, no arguments, new instances) -/
section
variable {X : Cx} {CX : CXT} {k : Nat} {f C : Addr} {fd : FuncData} {ps : List Str} {sp : Sp} {E : L2.St → XK} {x m : Str} {p pos apos : Pos} {e o : Expr} {es : List Expr} {ta : TE} {t : TA}
theorem pe_callS0 (F : FnOk X.prog X.w X.K X.mg X.base CX k f fd ps sp) (hr : Room k X.A) (hg : Gl X x) (hm : X.mg x = some (.ref f)) (hk : PySem.W.keepIn X.K (.ref f) = true) (hb : Binds X.K fd ps []) (hx : ∀ σ, PassesAt CX X σ (E σ))
    (hdb : (x == ("__debug__" : Str)) = false := by decide) : PE X (.Call (.Name x p) [] [] pos) (tCallS sp E tNil) := by
  refine ⟨fun pins s σ H Q I h => ?_⟩
  refine wpAny_Call_Name_kw (ld_glob I hg hm ?_ hdb)
  exact PySem.W.callWith_K0 I.kIn hk (run_fnS (us := []) F hr hb (hx σ) I .nil h)
def tMethE (C : Addr) (m : Str) (sp : Sp) (E : L2.St → XK) (ta : TE) (t : TA) : TE := fun σ H Q => ta σ H fun x H1 => ∃ a dx fs, x = .ref a ∧ H1 a = some (.ins C dx fs) ∧ fs.lookup m = none ∧ t σ H1 fun vs H2 => sp (x :: vs) H2 Q (E σ)
theorem pe_methE {pl : Sem Bool} (he : PE X o ta) (c : Cls X.K C) (hm : Meth X.K C m f) (F : FnOk X.prog X.w X.K X.mg X.base CX k f fd ps sp) (hr : Room k X.A) (hb : Binds X.K fd ps []) (hx : ∀ σ, PassesAt CX X σ (E σ)) (ha : PA X (e :: es) t)
    (hst : starEach (e :: es) X.env = (false, eval e X.env) :: starEach es X.env := by rfl) (hpl : (backTo pos (starEach es X.env)).any (·.1) = false := by rfl)
    (ht : eval (.Call (.Attribute o m apos) (e :: es) [] pos) X.env = (do
      let ov ← eval o X.env
      standAt apos.atName
      let (f, first) ← holding [ov] (getMethod ov m pl)
      callWith pos f first (backTo pos (starEach (e :: es) X.env)) (backToKw pos (keywordEach [] X.env))) := by rfl) :
    PE X (.Call (.Attribute o m apos) (e :: es) [] pos) (tMethE C m sp E ta t) := by
  refine ⟨fun pins s σ H Q I h => ?_⟩
  refine PySem.W.methodCall_KW (pl := pl) (thn (he.run pins s σ H _ I h) fun u s1 ⟨x, H1, I1, rx, a, dx, fs, ex, ea, l, q⟩ => ?_) ht
  subst ex
  obtain rfl : u = Value.ref a := rx
  refine getmeth_ok I1 ea c hm l ?_
  refine PySem.W.callWith_K (first := [.ref a]) (h₀ := X.base) I.ok.mod.kin hm.kp (thn (ha.run pos pins s1 σ H1 _ I1 q) fun us s2 ⟨vs, H2, I2, r, q2⟩ => ⟨I2.kIn, ?_⟩) hst hpl
  exact run_fnS (us := .ref a :: us) (vs := .ref a :: vs) F hr hb (hx σ) I2 (.cons rfl r) q2
theorem pe_methE0 {pl : Sem Bool} (he : PE X o ta) (c : Cls X.K C) (hm : Meth X.K C m f) (F : FnOk X.prog X.w X.K X.mg X.base CX k f fd ps sp) (hr : Room k X.A) (hb : Binds X.K fd ps []) (hx : ∀ σ, PassesAt CX X σ (E σ))
    (ht : eval (.Call (.Attribute o m apos) [] [] pos) X.env = (do
      let ov ← eval o X.env
      standAt apos.atName
      let (f, first) ← holding [ov] (getMethod ov m pl)
      callWith pos f first (backTo pos (starEach [] X.env)) (backToKw pos (keywordEach [] X.env))) := by rfl) :
    PE X (.Call (.Attribute o m apos) [] [] pos) (tMethE C m sp E ta tNil) := by
  refine ⟨fun pins s σ H Q I h => ?_⟩
  refine PySem.W.methodCall_KW (pl := pl) (thn (he.run pins s σ H _ I h) fun u s1 ⟨x, H1, I1, rx, a, dx, fs, ex, ea, l, q⟩ => ?_) ht
  subst ex
  obtain rfl : u = Value.ref a := rx
  refine getmeth_ok I1 ea c hm l ?_
  exact PySem.W.callWith_K0 (first := [.ref a]) I1.kIn hm.kp (run_fnS (us := [.ref a]) (vs := [.ref a]) F hr hb (hx σ) I1 (.cons rfl .nil) q)
def tMakeE (C : Addr) (sp : Sp) (E : L2.St → XK) (t : TA) : TE := fun σ H Q => t σ H fun vs H1 => ∀ x dx, H1 x = none → H1 dx = none → dx ≠ x →
  sp (.ref x :: vs) (upd (upd H1 dx (.own x)) x (.ins C dx [])) (fun v H2 => v = .non ∧ Q (.ref x) H2) (E σ)
theorem run_makeE {pins : List (Addr × Obj)} {σ : L2.St} {H : Hp} {s : Shared} {Q : VK} {us : List Value} {vs : List V} (M : Mk X.K C f) (F : FnOk X.prog X.w X.K X.mg X.base CX k f fd ps sp) (hr : Room (k + 1) X.A) (hb : Binds X.K fd ps [])
    (hx : PassesAt CX X σ (E σ)) (I : Inv X pins σ H s) (r : Vals vs us)
    (h : ∀ x dx, H x = none → H dx = none → dx ≠ x → sp (.ref x :: vs) (upd (upd H dx (.own x)) x (.ins C dx [])) (fun v H2 => v = .non ∧ Q (.ref x) H2) (E σ)) :
    wpAny (model X.prog X.w) X.A (call (.ref C) us) (EP X pins σ Q) X.xe s := by
  have hq := h (s.heap.objs.size + 1) s.heap.objs.size (I.hok.fresh (Nat.le_succ _)) (I.hok.fresh (Nat.le_refl _)) (Nat.ne_of_lt (Nat.lt_succ_self _))
  have I2 := Inv.made (C := C) I
  have r2 : Vals (V.ref (s.heap.objs.size + 1) :: vs) (Value.ref (s.heap.objs.size + 1) :: us) := .cons rfl r
  have hl : (Value.ref (s.heap.objs.size + 1) :: us).length = ps.length := by
    have e := r2.length
    rw [F.len _ _ _ _ hq] at e
    exact e.symm
  have hl2 : (Value.ref (s.heap.objs.size + 1) :: us ++ []).length = ps.length := by rw [List.append_nil]; exact hl
  have b := hb _ (Value.ref (s.heap.objs.size + 1) :: us) I2.kIn hl2
  rw [List.append_nil] at b
  refine wpAny_call (make_map (f := f) I.kIn M.makes M.init (beq_iff_eq.mp M.fn) (codeAny_mono (F.run _ X.stack _ _ ⟨Value.ref (s.heap.objs.size + 1) :: us, []⟩ (Value.ref (s.heap.objs.size + 1) :: us) _ _ (E σ) (hr.make C us [])
    (I2.env0.make C us []) b r2 hq) fun r s' hq' => ?_))
  cases r with
  | error e => exact hx pins _ _ e s' I2 hq'
  | ok fl =>
    cases fl with
    | ret u =>
      obtain ⟨v, H', I3, rv, ev, q3⟩ := I2.after hq'
      subst ev
      exact ⟨rv, ⟨V.ref (s.heap.objs.size + 1), H', I3, rfl, q3⟩⟩
    | next => exact False.elim hq'
    | brk => exact False.elim hq'
    | cont => exact False.elim hq'
theorem pe_makeE0 (M : Mk X.K C f) (F : FnOk X.prog X.w X.K X.mg X.base CX k f fd ps sp) (hr : Room (k + 1) X.A) (hg : Gl X x) (hm : X.mg x = some (.ref C)) (hb : Binds X.K fd ps []) (hx : ∀ σ, PassesAt CX X σ (E σ))
    (hdb : (x == ("__debug__" : Str)) = false := by decide) : PE X (.Call (.Name x p) [] [] pos) (tMakeE C sp E tNil) := by
  refine ⟨fun pins s σ H Q I h => ?_⟩
  refine wpAny_Call_Name_kw (ld_glob I hg hm ?_ hdb)
  exact PySem.W.callWith_K0 I.kIn M.kp (run_makeE (us := []) M F hr hb (hx σ) I .nil h)
end
/-! ### a def's promise -/
def spM (K : PySem.W.Frag) (C : CT) (F : List SV → Mo SV) : Sp := fun vs H Q E => ∃ m st xs r st', SR K C st m H ∧ VRs K m H vs xs ∧ F xs st = some (r, st') ∧ match r with
  | .ok s => ∀ v m' H', Ex m H m' H' → SR K C st' m' H' → VR K m' H' v s → Q v H'
  | .ex c => ∀ m' H', Ex m H m' H' → SR K C st' m' H' → E (.ref (C.ca c)) none H'
/-- a def as its callers need it -/
structure CaM (P : Program) (w : World) (K : PySem.W.Frag) (mg : Str → Option Value) (base : Heap) (C : CT) (x : Str) (k : Nat) (ps : List Str) (F : List SV → Mo SV) : Prop where
  ex : ∃ (f : Addr) (fd : FuncData), FnOk P w K mg base (L2.CX P w) k f fd ps (spM K C F) ∧ mg x = some (.ref f) ∧ PySem.W.keepIn K (.ref f) = true ∧ Binds K fd ps []
/-- a method -/
structure CaMt (P : Program) (w : World) (K : PySem.W.Frag) (mg : Str → Option Value) (base : Heap) (C : CT) (c : Nat) (x : Str) (k : Nat) (ps : List Str) (F : List SV → Mo SV) : Prop where
  ex : ∃ (f : Addr) (fd : FuncData), FnOk P w K mg base (L2.CX P w) k f fd ps (spM K C F) ∧ Meth K (C.ca c) x f ∧ Binds K fd ps []
/-- a class's __init__ -/
structure CaMk (P : Program) (w : World) (K : PySem.W.Frag) (mg : Str → Option Value) (base : Heap) (C : CT) (c : Nat) (x : Str) (k : Nat) (ps : List Str) (F : List SV → Mo SV) : Prop where
  ex : ∃ (f : Addr) (fd : FuncData), FnOk P w K mg base (L2.CX P w) k f fd ps (spM K C F) ∧ Mk K (C.ca c) f ∧ mg x = some (.ref (C.ca c)) ∧ Binds K fd ps []
section
variable {K : PySem.W.Frag} {C : CT} {W : WX} {F : List SV → Mo SV} {fs : SEnv → Mo (List SV)} {fo : SEnv → Mo SV} {ts : TA} {ta : TE}
theorem sp_of {m : List Addr} {env : SEnv} {σ : L2.St} {H : Hp} {st st' : Store} {Q : VK} {r : Er SV} {vs : List V} {xs : List SV} (R : MR K C st env m σ H) (q : VRs K m H vs xs) (z : F xs st = some (r, st')) (p : Po K C W (VR K) st' env m σ H Q r) : spM K C F vs H Q (WE W σ) := by
  refine ⟨m, st, xs, r, st', R.sr, q, z, ?_⟩
  cases r with
  | ok s => exact fun v m' H' x S h => p v m' H' x (R.ex S x) h
  | ex c => exact fun m' H' x S => p m' H' x (R.ex S x)
theorem ok_mCall (ha : OkG K C W (fun m H => VRs K m H) fs ts) : OkG K C W (VR K) (mCall F fs) (tCallS (spM K C F) (WE W) ts) := fun m env σ H st Q r st' R z p => by
  refine ok_mb (t := ts) ha R z p fun vs m1 H1 xs st1 x1 R1 q1 z1 p1 => ?_
  exact sp_of R1 q1 z1 p1
theorem ok_mMeth {c : Nat} {x : Str} (hx : x ∉ C.fn c) (ho : OkG K C W (VR K) fo ta) (ha : OkG K C W (fun m H => VRs K m H) fs ts) : OkG K C W (VR K) (mMeth c F fo fs) (tMethE (C.ca c) x (spM K C F) (WE W) ta ts) := fun m env σ H st Q r st' R z p => by
  refine ok_mb (t := ta) ho R z p fun v m1 H1 s st1 x1 R1 q1 z1 p1 => ?_
  cases e1 : insAt c st1 s with
  | none => rw [e1] at z1; cases z1
  | some xs =>
    rw [e1] at z1
    simp only [Option.bind_some] at z1
    obtain ⟨i, a, dx, vs, rfl, rfl, h1, h2, h3, h4, h5⟩ := insAt_ok R1.sr q1 e1
    refine ⟨a, dx, _, rfl, h3, zip_out hx, ?_⟩
    refine ok_mb (t := ts) ha R1 z1 p1 fun us m2 H2 ys st2 x2 R2 q2 z2 p2 => ?_
    exact sp_of R2 (.cons (q1.ex x2) q2) z2 p2
theorem ok_mMake0 {c : Nat} : OkG K C W (VR K) (mMake c F mNil) (tMakeE (C.ca c) (spM K C F) (WE W) tNil) := fun m env σ H st Q r st' R z p x dx nx ndx ne => by
  have e0 : mMake c F mNil env st = (F [.ref st.length] (st ++ [.ins c []])).bind fun r => match r with
    | (.ok (.dat .none), st') => some (.ok (.ref st.length), st')
    | (.ex k, st') => some (.ex k, st')
    | _ => none := rfl
  rw [e0] at z
  have n1 : upd H dx (.own x) x = none := by rw [upd_ne (Ne.symm ne)]; exact nx
  have s1 : Same H (upd H dx (.own x)) := same_new ndx
  have s2 : Same H (upd (upd H dx (.own x)) x (.ins (C.ca c) dx [])) := s1.trans (same_new n1)
  obtain ⟨M, e1, y⟩ := R.new (p := x) s2 nx (c := .ins c []) ⟨dx, [], by rw [List.zip_nil_right]; exact upd_same, .nil, Nat.zero_le _⟩
  cases e2 : F [.ref st.length] (st ++ [.ins c []]) with
  | none => rw [e2] at z; cases z
  | some q =>
    rw [e2] at z
    obtain ⟨q, st2⟩ := q
    refine ⟨_, _, [.ref st.length], q, st2, M.sr, .cons y .nil, e2, ?_⟩
    cases q with
    | ex k =>
      cases z
      exact fun m' H' e S => p m' H' (e1.trans e) (M.ex S e)
    | ok s =>
      cases s with
      | ref i => cases z
      | dat d =>
        cases d with
        | none =>
          cases z
          intro v m' H' e S h
          cases h
          exact ⟨rfl, p _ m' H' (e1.trans e) (M.ex S e) (y.ex e)⟩
        | _ => cases z
end
section
variable {X : Cx} {C : CT} {W : WX} {e o : Expr} {es : List Expr} {pos apos p : Pos} {fo : SEnv → Mo SV} {fs : SEnv → Mo (List SV)} {ta : TE} {ts : TA} {x : Str} {k : Nat} {ps : List Str} {F : List SV → Mo SV}
theorem m_call (tk : Takes X W) (Ca : CaM X.prog X.w X.K X.mg X.base C x k ps F) (hr : Room k X.A) (ha : MA X C W (e :: es) fs ts)
    (hg : Gl X x := by rfl) (hdb : (x == ("__debug__" : Str)) = false := by decide) (he : starEach (e :: es) X.env = (false, eval e X.env) :: starEach es X.env := by rfl) (hpl : (backTo pos (starEach es X.env)).any (·.1) = false := by rfl) :
    ME X C W (.Call (.Name x p) (e :: es) [] pos) (mCall F fs) (tCallS (spM X.K C F) (WE W) ts) := by
  obtain ⟨f, fd, h1, h2, h3, h4⟩ := Ca.ex
  exact ⟨pe_callS h1 hr hg h2 h3 h4 (fun σ => passAt tk σ) ha.pa hdb he hpl, ok_mCall ha.ok⟩
theorem m_call0 (tk : Takes X W) (Ca : CaM X.prog X.w X.K X.mg X.base C x k ps F) (hr : Room k X.A) (hg : Gl X x := by rfl) (hdb : (x == ("__debug__" : Str)) = false := by decide) :
    ME X C W (.Call (.Name x p) [] [] pos) (mCall F mNil) (tCallS (spM X.K C F) (WE W) tNil) := by
  obtain ⟨f, fd, h1, h2, h3, h4⟩ := Ca.ex
  exact ⟨pe_callS0 h1 hr hg h2 h3 h4 (fun σ => passAt tk σ) hdb, ok_mCall (ma_nil (X := X)).ok⟩
theorem m_meth {pl : Sem Bool} (c : Nat) (tk : Takes X W) (Ca : CaMt X.prog X.w X.K X.mg X.base C c x k ps F) (hc : Cls X.K (C.ca c)) (hr : Room k X.A) (ho : ME X C W o fo ta) (ha : MA X C W (e :: es) fs ts) (hx : x ∉ C.fn c := by decide)
    (hst : starEach (e :: es) X.env = (false, eval e X.env) :: starEach es X.env := by rfl) (hpl : (backTo pos (starEach es X.env)).any (·.1) = false := by rfl)
    (ht : eval (.Call (.Attribute o x apos) (e :: es) [] pos) X.env = (do
      let ov ← eval o X.env
      standAt apos.atName
      let (f, first) ← holding [ov] (getMethod ov x pl)
      callWith pos f first (backTo pos (starEach (e :: es) X.env)) (backToKw pos (keywordEach [] X.env))) := by rfl) :
    ME X C W (.Call (.Attribute o x apos) (e :: es) [] pos) (mMeth c F fo fs) (tMethE (C.ca c) x (spM X.K C F) (WE W) ta ts) := by
  obtain ⟨f, fd, h1, h2, h4⟩ := Ca.ex
  exact ⟨pe_methE ho.pe hc h2 h1 hr h4 (fun σ => passAt tk σ) ha.pa hst hpl ht, ok_mMeth hx ho.ok ha.ok⟩
theorem m_meth0 {pl : Sem Bool} (c : Nat) (tk : Takes X W) (Ca : CaMt X.prog X.w X.K X.mg X.base C c x k ps F) (hc : Cls X.K (C.ca c)) (hr : Room k X.A) (ho : ME X C W o fo ta) (hx : x ∉ C.fn c := by decide)
    (ht : eval (.Call (.Attribute o x apos) [] [] pos) X.env = (do
      let ov ← eval o X.env
      standAt apos.atName
      let (f, first) ← holding [ov] (getMethod ov x pl)
      callWith pos f first (backTo pos (starEach [] X.env)) (backToKw pos (keywordEach [] X.env))) := by rfl) :
    ME X C W (.Call (.Attribute o x apos) [] [] pos) (mMeth c F fo mNil) (tMethE (C.ca c) x (spM X.K C F) (WE W) ta tNil) := by
  obtain ⟨f, fd, h1, h2, h4⟩ := Ca.ex
  exact ⟨pe_methE0 ho.pe hc h2 h1 hr h4 (fun σ => passAt tk σ) ht, ok_mMeth hx ho.ok (ma_nil (X := X)).ok⟩
theorem m_make0 (c : Nat) (tk : Takes X W) (Ca : CaMk X.prog X.w X.K X.mg X.base C c x k ps F) (hr : Room (k + 1) X.A) (hg : Gl X x := by rfl) (hdb : (x == ("__debug__" : Str)) = false := by decide) :
    ME X C W (.Call (.Name x p) [] [] pos) (mMake c F mNil) (tMakeE (C.ca c) (spM X.K C F) (WE W) tNil) := by
  obtain ⟨f, fd, h1, h2, h3, h4⟩ := Ca.ex
  exact ⟨pe_makeE0 h2 h1 hr hg h3 h4 (fun σ => passAt tk σ) hdb, ok_mMake0⟩
end
/-! ### a def of the value layer, called -/
/-- its answer is data -/
def mCallV (F : List D → Option D) (fs : SEnv → Mo (List SV)) : SEnv → Mo SV := mCB F fs
section
variable {X : Cx} {C : CT} {W : WX} {e : Expr} {es : List Expr} {pos p : Pos} {fs : SEnv → Mo (List SV)} {ts : TA} {x : Str} {k : Nat} {ps : List Str} {F : List D → Option D}
theorem ok_callV {K : PySem.W.Frag} (ha : OkG K C W (fun m H => VRs K m H) fs ts) : OkG K C W (VR K) (mCallV F fs) (tCall (spV K false .nw F) [] E0 ts) := fun m env σ H st Q r st' R z p => by
  refine ok_mb (t := ts) ha R z p fun vs m1 H1 xs st1 x1 R1 q1 z1 p1 => ?_
  cases e1 : omap (dr 6 st1) xs with
  | none => rw [e1] at z1; cases z1
  | some ds =>
    rw [e1] at z1
    simp only [Option.bind_some] at z1
    cases e2 : F ds with
    | none => rw [e2] at z1; cases z1
    | some d =>
      rw [e2] at z1
      cases z1
      refine ⟨H1, ds, d, Same.refl _, by rw [List.append_nil]; exact omap_dps (dr_dp R1.sr 6) q1 e1, e2, fun v H' s q => ?_⟩
      obtain ⟨S, x⟩ := R1.sr.grow s
      exact p1 v m1 H' x (R1.ex S x) (dp_mono (nw_oth R1.sr fun b hb => .inl hb) _ _ q)
theorem ok_callVL {K : PySem.W.Frag} (ha : OkG K C W (fun m H => VRs K m H) fs ts) : OkG K C W (VR K) (mCL F fs) (tCall (spV K true .nw F) [] E0 ts) := fun m env σ H st Q r st' R z p => by
  refine ok_mb (t := ts) ha R z p fun vs m1 H1 xs st1 x1 R1 q1 z1 p1 => ?_
  cases e1 : omap (dr 6 st1) xs with
  | none => rw [e1] at z1; cases z1
  | some ds =>
    rw [e1] at z1
    simp only [Option.bind_some] at z1
    cases e2 : F ds with
    | none => rw [e2] at z1; cases z1
    | some d =>
      rw [e2] at z1
      refine ⟨H1, ds, d, Same.refl _, by rw [List.append_nil]; exact omap_dps (dr_dp R1.sr 6) q1 e1, e2, fun v H' s q => ?_⟩
      obtain ⟨a, us, es, rfl, rfl, n1, q1, q2⟩ := q
      cases z1
      have hn : ∀ b, b ∈ m1 ++ [a] → b ∈ m1 ∨ H1 b = none ∧ Ow [some a] b := fun b hb => by
        rcases List.mem_append.mp hb with hb | hb
        · exact .inl hb
        · rw [List.mem_singleton.mp hb]; exact .inr ⟨n1, 0, rfl⟩
      obtain ⟨M, x, y⟩ := R1.new s n1 (c := .lst (es.map .dat)) ⟨us, q1, dps_vrs (dps_mono (nw_oth R1.sr hn) _ _ q2)⟩
      exact p1 _ _ H' x M y
theorem m_callV (Ca : Cal X.prog X.w X.K X.mg X.base x k ps false .nw F) (hr : Room k X.A) (ha : MA X C W (e :: es) fs ts)
    (hg : Gl X x := by rfl) (hdb : (x == ("__debug__" : Str)) = false := by decide) (he : starEach (e :: es) X.env = (false, eval e X.env) :: starEach es X.env := by rfl) (hpl : (backTo pos (starEach es X.env)).any (·.1) = false := by rfl) :
    ME X C W (.Call (.Name x p) (e :: es) [] pos) (mCallV F fs) (tCall (spV X.K false .nw F) [] E0 ts) := by
  obtain ⟨f, fd, h1, h2, h3, h4⟩ := Ca
  exact ⟨pe_call h1 hr hg h2 h3 h4 .nil pass0 ha.pa hdb he hpl, ok_callV ha.ok⟩
theorem m_callVL (Ca : Cal X.prog X.w X.K X.mg X.base x k ps true .nw F) (hr : Room k X.A) (ha : MA X C W (e :: es) fs ts)
    (hg : Gl X x := by rfl) (hdb : (x == ("__debug__" : Str)) = false := by decide) (he : starEach (e :: es) X.env = (false, eval e X.env) :: starEach es X.env := by rfl) (hpl : (backTo pos (starEach es X.env)).any (·.1) = false := by rfl) :
    ME X C W (.Call (.Name x p) (e :: es) [] pos) (mCL F fs) (tCall (spV X.K true .nw F) [] E0 ts) := by
  obtain ⟨f, fd, h1, h2, h3, h4⟩ := Ca
  exact ⟨pe_call h1 hr hg h2 h3 h4 .nil pass0 ha.pa hdb he hpl, ok_callVL ha.ok⟩
end
end MV

namespace MV
open PySem PySem.Spec PyProof.Rows L2 PV
/-! ### statements -/
inductive Rz where
  | nx (e : SEnv) | rt (v : SV) | bk (e : SEnv) | ct (e : SEnv) | ex (c : Nat) (e : SEnv)
abbrev Zsem := SEnv → Store → Option (Rz × Store)
def PoS (K : PySem.W.Frag) (C : CT) (W : WX) (st' : Store) (m : List Addr) (H : Hp) (D : Ends) : Rz → Prop
  | .nx e => ∀ m' σ' H', Ex m H m' H' → MR K C st' e m' σ' H' → D.nx σ' H'
  | .bk e => ∀ m' σ' H', Ex m H m' H' → MR K C st' e m' σ' H' → D.bk σ' H'
  | .ct e => ∀ m' σ' H', Ex m H m' H' → MR K C st' e m' σ' H' → D.ct σ' H'
  | .rt s => ∀ v m' H', Ex m H m' H' → SR K C st' m' H' → VR K m' H' v s → D.rt v H'
  | .ex c e => ∀ m' σ' H', Ex m H m' H' → MR K C st' e m' σ' H' → W (.ref (C.ca c)) none σ' H'
def OkZ (K : PySem.W.Frag) (C : CT) (W : WX) (g : Zsem) (t : TS) : Prop :=
  ∀ (m : List Addr) (env : SEnv) (σ : L2.St) (H : Hp) (st : Store) (D : Ends) (res : Rz) (st' : Store), MR K C st env m σ H → g env st = some (res, st') → PoS K C W st' m H D res → t D σ H
structure MS (X : Cx) (C : CT) (W : WX) (s : Stmt) (g : Zsem) (t : TS) : Prop where
  ps : PS X s t
  ok : OkZ X.K C W g t
structure MSs (X : Cx) (C : CT) (W : WX) (s : List Stmt) (g : Zsem) (t : TS) : Prop where
  ps : PSs X s t
  ok : OkZ X.K C W g t
def zNx : Zsem := fun e st => some (.nx e, st)
def zBk : Zsem := fun e st => some (.bk e, st)
def zCt : Zsem := fun e st => some (.ct e, st)
def zSeq (f g : Zsem) : Zsem := fun e st => (f e st).bind fun r => match r with
  | (.nx e', st') => g e' st'
  | r => some r
/-- an expression, then the rest -/
def zB {α : Type} (f : SEnv → Mo α) (k : α → Zsem) : Zsem := fun env st => (f env st).bind fun r => match r with
  | (.ok a, st1) => k a env st1
  | (.ex c, st1) => some (.ex c env, st1)
def zIf (c : SEnv → Mo Bool) (f g : Zsem) : Zsem := zB c fun b => match b with
  | true => f
  | false => g
def zExpr (f : SEnv → Mo SV) : Zsem := zB f fun _ => zNx
def zRet (f : SEnv → Mo SV) : Zsem := zB f fun v _ st => some (.rt v, st)
def zRetN : Zsem := fun _ st => some (.rt (.dat .none), st)
def zNever : Zsem := fun _ _ => none
/-- raise X('..') -/
def zRaise (c : Nat) : Zsem := fun e st => some (.ex c e, st)
section
variable {K : PySem.W.Frag} {C : CT} {W : WX} {f g : Zsem} {t v : TS} {te : TE}
theorem PoS.mono {st' : Store} {m m1 : List Addr} {H H1 : Hp} {D : Ends} {res : Rz} (p : PoS K C W st' m H D res) (x : Ex m H m1 H1) : PoS K C W st' m1 H1 D res := by
  cases res with
  | nx e => exact fun m' σ' H' y => p m' σ' H' (x.trans y)
  | bk e => exact fun m' σ' H' y => p m' σ' H' (x.trans y)
  | ct e => exact fun m' σ' H' y => p m' σ' H' (x.trans y)
  | rt s => exact fun v m' H' y => p v m' H' (x.trans y)
  | ex c e => exact fun m' σ' H' y => p m' σ' H' (x.trans y)
theorem ok_zB {α β : Type} {rel : List Addr → Hp → β → α → Prop} {fe : SEnv → Mo α} {tt : L2.St → Hp → (β → Hp → Prop) → Prop} {k : α → Zsem} {m : List Addr} {env : SEnv} {σ : L2.St} {H : Hp} {st st' : Store} {Q' : β → Hp → Prop} {D : Ends} {res : Rz}
    (h1 : OkG K C W rel fe tt) (R : MR K C st env m σ H) (z : zB fe k env st = some (res, st')) (p : PoS K C W st' m H D res)
    (h2 : ∀ b m1 H1 a st1, Ex m H m1 H1 → MR K C st1 env m1 σ H1 → rel m1 H1 b a → k a env st1 = some (res, st') → PoS K C W st' m1 H1 D res → Q' b H1) : tt σ H Q' := by
  unfold zB at z
  cases e1 : fe env st with
  | none => rw [e1] at z; cases z
  | some x =>
    rw [e1] at z
    obtain ⟨x, st1⟩ := x
    refine h1 m env σ H st Q' x st1 R e1 ?_
    cases x with
    | ok a => exact fun b m' H' e M q => h2 b m' H' a st1 e M q z (p.mono e)
    | ex c =>
      cases z
      exact fun m' H' x M => p m' σ H' x M
theorem ok_seq (hf : OkZ K C W f t) (hg : OkZ K C W g v) : OkZ K C W (zSeq f g) (tSeq t v) := fun m env σ H st D res st' R z p => by
  unfold zSeq at z
  cases e1 : f env st with
  | none => rw [e1] at z; cases z
  | some x =>
    rw [e1] at z
    obtain ⟨x, st1⟩ := x
    simp only [Option.bind_some] at z
    refine hf m env σ H st _ x st1 R e1 ?_
    cases x with
    | nx e => exact fun m' σ' H' x R' => hg m' e σ' H' st1 D res st' R' z (p.mono x)
    | rt s => cases z; exact p
    | bk e => cases z; exact p
    | ct e => cases z; exact p
    | ex c e => cases z; exact p
end
section
variable {X : Cx} {C : CT} {W : WX} {s : Stmt} {rest sa sb : List Stmt} {e c : Expr} {f g : Zsem} {fe : SEnv → Mo SV} {p : SEnv → Mo Bool} {t v : TS} {te : TE} {tc : TT} {pos : Pos}
theorem mss_nil : MSs X C W [] zNx tNext := ⟨pss_nil, fun m env σ H st D res st' R z p => by cases z; exact p m σ H Ex.refl R⟩
theorem mss_one (h : MS X C W s f t) : MSs X C W [s] f t := ⟨pss_one h.ps, h.ok⟩
theorem mss_cons (h : MS X C W s f t) (hr : MSs X C W rest g v) : MSs X C W (s :: rest) (zSeq f g) (tSeq t v) := ⟨pss_cons h.ps hr.ps, ok_seq h.ok hr.ok⟩
theorem ms_pass : MS X C W (.Pass pos) zNx tNext := ⟨ps_pass, (mss_nil (X := X)).ok⟩
theorem ms_break : MS X C W (.Break pos) zBk tBreak := ⟨ps_break, fun m env σ H st D res st' R z p => by cases z; exact p m σ H Ex.refl R⟩
theorem ms_cont : MS X C W (.Continue pos) zCt tCont := ⟨ps_continue, fun m env σ H st D res st' R z p => by cases z; exact p m σ H Ex.refl R⟩
theorem ms_never : MS X C W s zNever tNever := ⟨ps_never, fun m env σ H st D res st' R z p => by cases z⟩
theorem ms_expr (he : ME X C W e fe te) (hs : swapsWith e none pos.line X.env = pure false := by rfl) : MS X C W (.Expr e pos) (zExpr fe) (tDrop te) := ⟨ps_expr he.pe hs, fun m env σ H st D res st' R z p => by
  refine ok_zB (tt := te) he.ok R z p fun v m1 H1 a st1 x1 R1 q1 z1 p1 => ?_
  cases z1
  exact p1 m1 σ H1 Ex.refl R1⟩
theorem ms_ret (he : ME X C W e fe te) : MS X C W (.Return (some e) pos) (zRet fe) (tRet te) := ⟨ps_ret he.pe, fun m env σ H st D res st' R z p => by
  refine ok_zB (tt := te) he.ok R z p fun v m1 H1 a st1 x1 R1 q1 z1 p1 => ?_
  cases z1
  exact p1 v m1 H1 Ex.refl R1.sr q1⟩
theorem ms_retN : MS X C W (.Return none pos) zRetN tRetN := ⟨ps_retN, fun m env σ H st D res st' R z p => by
  cases z
  exact p .non m H Ex.refl R.sr .non⟩
theorem ms_if (hc : MT X C W c p tc) (ha : MSs X C W sa f t) (hb : MSs X C W sb g v) : MS X C W (.If c sa sb pos) (zIf p f g) (tIfS tc t v) := ⟨ps_if hc.pt ha.ps hb.ps, fun m env σ H st D res st' R z p => by
  refine ok_zB (tt := tc) hc.ok R z p fun v m1 H1 a st1 x1 R1 q1 z1 p1 => ?_
  cases q1
  cases v with
  | true => exact iteT (ha.ok m1 env σ H1 st1 D res st' R1 z1 p1)
  | false => exact iteF (hb.ok m1 env σ H1 st1 D res st' R1 z1 p1)⟩
/-- raise X('..'), X of the class c -/
theorem ms_raise (c : Nat) {ty : L2.St → Hp → XK → Prop} {x : Str} (tk : Takes X W) (hc : X.calm = true) (he : PMk X e (fun _ H Q => Q (.ref (C.ca c)) none H)) : MS X C W (.Raise (some e) none pos) (zRaise c) (fun _ σ H => W (.ref (C.ca c)) none σ H) :=
  ⟨ps_raise hc tk he, fun m env σ H st D res st' R z p => by
  cases z
  exact p m σ H Ex.refl R⟩
end
/-! ### targets -/
inductive Itm where
  | one (v : SV)
  | pair (a b : SV)
def IR (K : PySem.W.Frag) (m : List Addr) (H : Hp) (x : V) : Itm → Prop
  | .one s => VR K m H x s
  | .pair a b => ∃ T u w, x = .ref T ∧ SqT K H T [u, w] ∧ VR K m H u a ∧ VR K m H w b
abbrev GSem := Itm → SEnv → Store → Option (SEnv × Store)
abbrev GsSem := List SV → SEnv → Store → Option (SEnv × Store)
def OkT1 {α β : Type} (K : PySem.W.Frag) (C : CT) (rel : List Addr → Hp → β → α → Prop) (is : List Nat) (set : α → SEnv → Store → Option (SEnv × Store)) (g : β → L2.St → Hp → (L2.St → Hp → Prop) → Prop) : Prop :=
  ∀ (m : List Addr) (env : SEnv) (σ : L2.St) (H : Hp) (st : Store) (x : β) (a : α) (Q : L2.St → Hp → Prop) (env' : SEnv) (st' : Store), MR K C st env m σ H → rel m H x a → set a env st = some (env', st') →
    (∀ m' σ' H', Ex m H m' H' → MR K C st' env' m' σ' H' → σ'.length = σ.length → (∀ j : Nat, j ∉ is → σ'[j]? = σ[j]?) → Q σ' H') → g x σ H Q
structure MG (X : Cx) (C : CT) (tg : Expr) (is : List Nat) (set : GSem) (g : TG) : Prop where
  pg : PG X tg g
  ok : OkT1 X.K C (IR X.K) is set g
structure MGs (X : Cx) (C : CT) (es : List Expr) (is : List Nat) (set : GsSem) (g : TGs) : Prop where
  pg : PGs X es g
  ln : ∀ xs env st r, set xs env st = some r → xs.length = es.length
  ok : OkT1 X.K C (fun m H => VRs X.K m H) is set g
def gN (i : Nat) : GSem := fun x e st => match x with
  | .one v => some (e.set i (some v), st)
  | .pair _ _ => none
def gsN : GsSem := fun xs e st => match xs with
  | [] => some (e, st)
  | _ => none
def gsC (s : GSem) (ss : GsSem) : GsSem := fun xs e st => match xs with
  | [] => none
  | x :: xs => (s (.one x) e st).bind fun r => ss xs r.1 r.2
def gT (ss : GsSem) : GSem := fun x e st => match x with
  | .one v => (tupOf st v).bind fun xs => ss xs e st
  | .pair a b => ss [a, b] e st
def gL (ss : GsSem) : GSem := fun x e st => match x with
  | .one v => (lstOf st v).bind fun xs => ss xs e st
  | .pair _ _ => none
section
variable {X : Cx} {C : CT} {W : WX} {e : Expr} {es : List Expr} {x : Str} {is js : List Nat} {s : GSem} {ss : GsSem} {g : TG} {gs : TGs} {pos : Pos}
theorem mg_name (i : Nat) (hN : X.N.Nodup) (hi : X.N[i]? = some x := by rfl) (hx : Loc X.env.scope x := by first | exact Or.inl rfl | exact Or.inr rfl)
    (hf : X.fn x = true ∨ X.env.scope.names.lookup x = some .local := by first | exact .inl rfl | exact .inr rfl) : MG X C (.Name x pos) [i] (gN i) (gName i) := ⟨pg_name hN hi hx hf, fun m env σ H st v a Q env' st' R q z k => by
  cases a with
  | pair a b => cases z
  | one s =>
    cases z
    exact k m _ H Ex.refl (R.put i s v q) (by rw [List.length_set]) fun j hj => List.getElem?_set_ne fun z => hj (by rw [z]; exact List.mem_singleton.mpr rfl)⟩
theorem mgs_nil : MGs X C [] [] gsN gNil := ⟨pgs_nil, fun xs env st r z => (by cases xs <;> first | rfl | cases z), fun m env σ H st v a Q env' st' R q z k => by
  cases a with
  | cons a b => cases z
  | nil =>
    cases z
    cases q
    exact ⟨rfl, k m σ H Ex.refl R rfl fun _ _ => rfl⟩⟩
theorem mgs_cons (h : MG X C e is s g) (hr : MGs X C es js ss gs) (hs : (assignEach (e :: es) X.env).map (·.2) = assign e X.env :: (assignEach es X.env).map (·.2) := by rfl) : MGs X C (e :: es) (is ++ js) (gsC s ss) (gCons g gs) := ⟨pgs_cons h.pg hr.pg hs, fun xs env st r z => by
  cases xs with
  | nil => cases z
  | cons a b =>
    unfold gsC at z
    simp only at z
    cases e1 : s (.one a) env st with
    | none => rw [e1] at z; cases z
    | some q =>
      rw [e1] at z
      rw [List.length_cons, List.length_cons, hr.ln b _ _ _ z], fun m env σ H st v a Q env' st' R q z k => by
  cases a with
  | nil => cases z
  | cons a b =>
    unfold gsC at z
    simp only at z
    cases e1 : s (.one a) env st with
    | none => rw [e1] at z; cases z
    | some y =>
      rw [e1] at z
      obtain ⟨e1', st1⟩ := y
      cases q with
      | cons q1 q2 =>
        refine ⟨_, _, rfl, h.ok m env σ H st _ (.one a) _ e1' st1 R q1 e1 fun m1 σ1 H1 x1 R1 l1 k1 => ?_⟩
        refine hr.ok m1 e1' σ1 H1 st1 _ b _ env' st' R1 (VRs.ex x1 q2) z fun m2 σ2 H2 x2 R2 l2 k2 => ?_
        exact k m2 σ2 H2 (x1.trans x2) R2 (l2.trans l1) fun j hj => (k2 j fun w => hj (List.mem_append_right _ w)).trans (k1 j fun w => hj (List.mem_append_left _ w))⟩
theorem mg_tup {j : Nat} (hc : X.calm = true) (h : MGs X C es is ss gs) (hn : (assignEach es X.env).length = es.length := by rfl) (hst : (assignEach es X.env).findIdx? (·.1) = none := by rfl) : MG X C (.Tuple es j pos) is (gT ss) (gTup X.K es.length gs) := ⟨pg_tup hc h.pg hn hst, fun m env σ H st v a Q env' st' R q z k => by
  cases a with
  | one s =>
    unfold gT at z
    simp only at z
    cases e1 : tupOf st s with
    | none => rw [e1] at z; cases z
    | some xs =>
      rw [e1] at z
      obtain ⟨a, vs, rfl, h1, h2⟩ := tupOf_ok R.sr q e1
      exact ⟨a, vs, rfl, h1, by rw [pr_len h2]; exact h.ln _ _ _ _ z, h.ok m env σ H st vs xs Q env' st' R h2 z k⟩
  | pair a b =>
    obtain ⟨T, u, w, rfl, h1, h2, h3⟩ := q
    have z' : ss [a, b] env st = some (env', st') := z
    exact ⟨T, _, rfl, h1, (h.ln [a, b] env st _ z'), h.ok m env σ H st [u, w] [a, b] Q env' st' R (.cons h2 (.cons h3 .nil)) z' k⟩⟩
theorem mg_lst {j : Nat} (hc : X.calm = true) (h : MGs X C es is ss gs) (hn : (assignEach es X.env).length = es.length := by rfl) (hst : (assignEach es X.env).findIdx? (·.1) = none := by rfl) : MG X C (.Tuple es j pos) is (gL ss) (gLst X.K es.length gs) := ⟨pg_lst hc h.pg hn hst, fun m env σ H st v a Q env' st' R q z k => by
  cases a with
  | one s =>
    unfold gL at z
    simp only at z
    cases e1 : lstOf st s with
    | none => rw [e1] at z; cases z
    | some xs =>
      rw [e1] at z
      obtain ⟨a, vs, rfl, h1, h2⟩ := lstOf_ok R.sr q e1
      exact ⟨a, vs, rfl, h1, by rw [pr_len h2]; exact h.ln _ _ _ _ z, h.ok m env σ H st vs xs Q env' st' R h2 z k⟩
  | pair a b => cases z⟩
end
/-! ### assignments -/
def zSet (i : Nat) (f : SEnv → Mo SV) : Zsem := zB f fun v e st => some (.nx (e.set i (some v)), st)
def zTgt (s : GSem) (f : SEnv → Mo SV) : Zsem := zB f fun v e st => (s (.one v) e st).map fun r => (.nx r.1, r.2)
/-- o.x = e: the field k of an instance of the class c -/
def putI (xs : List SV) (k : Nat) (v : SV) : Option (List SV) := if k < xs.length then some (xs.set k v) else if k = xs.length then some (xs ++ [v]) else none
def zFld (c k : Nat) (fo fv : SEnv → Mo SV) : Zsem := zB fv fun v => zB fo fun o e st => match o with
  | .ref i => (insAt c st (.ref i)).bind fun xs => (putI xs k v).map fun ys => (.nx e, st.set i (.ins c ys))
  | .dat _ => none
def hopI (h : D → D → Option D) (x y : SV) : Option SV := match x, y with
  | .dat a, .dat b => (h a b).map .dat
  | _, _ => none
/-- o.x op= e -/
def zFldAug (c k : Nat) (h : D → D → Option D) (fo fv : SEnv → Mo SV) : Zsem := zB fo fun o env st => (insAt c st o).bind fun xs => (xs[k]?).bind fun x => zB fv (fun v e st => match o with
  | .ref i => (hopI h x v).bind fun w => (insAt c st (.ref i)).bind fun xs => (putI xs k w).map fun ys => (.nx e, st.set i (.ins c ys))
  | .dat _ => none) env st
section
variable {X : Cx} {C : CT} {W : WX} {e o value : Expr} {x : Str} {is : List Nat} {s : GSem} {g : TG} {f fo fv : SEnv → Mo SV} {te ta tv : TE} {pos pos' tpos : Pos}
theorem ms_set (i : Nat) (hN : X.N.Nodup) (he : ME X C W e f te) (hi : X.N[i]? = some x := by rfl) (hx : Loc X.env.scope x := by first | exact Or.inl rfl | exact Or.inr rfl) (hs : swapsWith e (some (.Name x pos')) pos.line X.env = pure false := by rfl)
    (hf : X.fn x = true ∨ X.env.scope.names.lookup x = some .local := by first | exact .inl rfl | exact .inr rfl) : MS X C W (.Assign [.Name x pos'] e pos) (zSet i f) (tAsg te (gName i)) := ⟨ps_set hN hi hx he.pe hs hf, fun m env σ H st D res st' R z p => by
  refine ok_zB (tt := te) he.ok R z p fun v m1 H1 a st1 x1 R1 q1 z1 p1 => ?_
  cases z1
  exact p1 m1 _ H1 Ex.refl (R1.put i a v q1)⟩
theorem ms_tgt {tg : Expr} (he : ME X C W e f te) (hg : MG X C tg is s g) (hs : swapsWithSole [tg] e pos.line X.env = pure false := by rfl) (hw : swappedStores [tg] e X.env = pure none := by rfl)
    (h1 : (assignEach [tg] X.env).map (·.2) = [assign tg X.env] := by rfl) : MS X C W (.Assign [tg] e pos) (zTgt s f) (tAsg te g) := ⟨ps_asg he.pe hg.pg hs hw h1, fun m env σ H st D res st' R z p => by
  refine ok_zB (tt := te) he.ok R z p fun v m1 H1 a st1 x1 R1 q1 z1 p1 => ?_
  cases e1 : s (.one a) env st1 with
  | none => rw [e1] at z1; cases z1
  | some y =>
    rw [e1] at z1
    cases z1
    exact hg.ok m1 env σ H1 st1 v (.one a) _ y.1 y.2 R1 q1 e1 fun m2 σ2 H2 x2 R2 _ _ => p1 m2 σ2 H2 x2 R2⟩
theorem zip_put {f : Str} {v : V} : ∀ {ns : List Str} {vs : List V} {k : Nat}, ns.Nodup → ns[k]? = some f → k < vs.length → vs.length ≤ ns.length → putF f v (ns.zip vs) = ns.zip (vs.set k v)
  | [], vs, k, _, e, _, _ => by simp at e
  | n :: ns, [], k, _, _, h, _ => absurd h (Nat.not_lt_zero _)
  | n :: ns, w :: vs, 0, _, e, _, _ => by
    simp at e
    subst e
    simp [putF]
  | n :: ns, w :: vs, k + 1, hd, e, h, hl => by
    have hne : ¬ n = f := by
      intro z
      subst z
      have := List.mem_of_getElem? (show ns[k]? = some n by simpa using e)
      exact (List.nodup_cons.mp hd).1 this
    have ih := zip_put (v := v) (vs := vs) (k := k) (List.nodup_cons.mp hd).2 (by simpa using e) (by simpa using h) (by simpa using hl)
    rw [List.zip_cons_cons, List.set_cons_succ, List.zip_cons_cons, ← ih]
    simp [putF, hne]
theorem zip_put2 {f : Str} {v : V} : ∀ {ns : List Str} {vs : List V}, ns.Nodup → ns[vs.length]? = some f → putF f v (ns.zip vs) = ns.zip (vs ++ [v])
  | [], vs, _, e => by simp at e
  | n :: ns, [], _, e => by
    simp at e
    subst e
    simp [putF]
  | n :: ns, w :: vs, hd, e => by
    have hne : ¬ n = f := by
      intro z
      subst z
      have := List.mem_of_getElem? (show ns[vs.length]? = some n by simpa using e)
      exact (List.nodup_cons.mp hd).1 this
    have ih := zip_put2 (v := v) (vs := vs) (List.nodup_cons.mp hd).2 (by simpa using e)
    rw [List.zip_cons_cons, List.cons_append, List.zip_cons_cons, ← ih]
    simp [putF, hne]
/-- a field is stored -/
theorem MR.fld {K : PySem.W.Frag} {st : Store} {env : SEnv} {m : List Addr} {σ : L2.St} {H : Hp} {c k i : Nat} {a dx : Addr} {vs : List V} {xs ys : List SV} {v : V} {u : SV} (R : MR K C st env m σ H) (hi : m[i]? = some a) (ha : H a = some (.ins (C.ca c) dx ((C.fn c).zip vs))) (hv : VRs K m H vs xs) (hl : xs.length ≤ (C.fn c).length)
    (hk : (C.fn c)[k]? = some x) (hd : (C.fn c).Nodup) (q : VR K m H v u) (hp : putI xs k u = some ys) : MR K C (st.set i (.ins c ys)) env m σ (upd H a (.ins (C.ca c) dx (putF x v ((C.fn c).zip vs)))) ∧ Ex m H m (upd H a (.ins (C.ca c) dx (putF x v ((C.fn c).zip vs)))) := by
  have ha' : a ∈ m := List.mem_of_getElem? hi
  have hkl : k < (C.fn c).length := (List.getElem?_eq_some_iff.mp hk).1
  unfold putI at hp
  have key : ∃ ws, putF x v ((C.fn c).zip vs) = (C.fn c).zip ws ∧ VRs K m H ws ys ∧ ys.length ≤ (C.fn c).length := by
    by_cases h1 : k < xs.length
    · rw [if_pos h1] at hp
      cases hp
      exact ⟨vs.set k v, zip_put hd hk (by rw [pr_len hv]; exact h1) (by rw [pr_len hv]; exact hl), pr_set q k hv, by rw [List.length_set]; exact hl⟩
    · rw [if_neg h1] at hp
      by_cases h2 : k = xs.length
      · rw [if_pos h2] at hp
        cases hp
        refine ⟨vs ++ [v], zip_put2 hd (by rw [pr_len hv, ← h2]; exact hk), pr_app hv (.cons q .nil), ?_⟩
        rw [List.length_append, List.length_singleton]
        omega
      · rw [if_neg h2] at hp; cases hp
  obtain ⟨ws, k1, k2, k3⟩ := key
  rw [k1]
  obtain ⟨S, y⟩ := R.sr.set (o := .ins (C.ca c) dx ((C.fn c).zip ws)) (c := .ins c ys) hi ⟨dx, ws, upd_same, by
    exact VRs.ex (ex_upd ha') k2, k3⟩
  exact ⟨R.ex S y, y⟩
theorem zip_small {ns : List Str} {vs : List V} (h : ns.length < 1000) : (ns.zip vs).length < 1000 := by
  rw [List.length_zip]
  exact Nat.lt_of_le_of_lt (Nat.min_le_left _ _) h
theorem ms_fld (c k : Nat) (ha : ME X C W o fo ta) (hv : ME X C W value fv tv) (hc : Cls X.K (C.ca c)) (hn : NoAttr X.K (C.ca c) x) (hk : (C.fn c)[k]? = some x := by rfl) (hd : (C.fn c).Nodup := by decide) (hl : (C.fn c).length < 1000 := by decide)
    (hs : swapsWith value (some (.Attribute o x pos')) pos.line X.env = pure false := by rfl) : MS X C W (.Assign [.Attribute o x pos'] value pos) (zFld c k fo fv) (sFld X.K ta tv x) := ⟨ps_fld ha.pe hv.pe hs, fun m env σ H st D res st' R z p => by
  refine ok_zB (tt := tv) hv.ok R z p fun v m1 H1 u st1 x1 R1 q1 z1 p1 => ?_
  refine ok_zB (tt := ta) ha.ok R1 z1 p1 fun w m2 H2 b st2 x2 R2 q2 z2 p2 => ?_
  cases b with
  | dat d => cases z2
  | ref i =>
    simp only at z2
    cases e1 : insAt c st2 (.ref i) with
    | none => rw [e1] at z2; cases z2
    | some xs =>
      rw [e1] at z2
      simp only [Option.bind_some] at z2
      cases e2 : putI xs k u with
      | none => rw [e2] at z2; cases z2
      | some ys =>
        rw [e2] at z2
        cases z2
        obtain ⟨i', a, dx, vs, hi, rfl, h1, h2, h3, h4, h5⟩ := insAt_ok R2.sr q2 e1
        cases hi
        obtain ⟨R3, y⟩ := R2.fld h1 h3 h4 h5 hk hd (q1.ex x2) e2
        exact ⟨a, _, dx, _, rfl, h3, hc, hn, zip_small hl, p2 _ _ _ y R3⟩⟩
/-- an operator on numbers, in place -/
def InH (rd : V → V → Hp → VK → Prop) (h : D → D → Option D) : Prop := ∀ (a b d : D) (v w : V) (K : PySem.W.Frag) (H : Hp) (Q : VK), Dp K H v a → Dp K H w b → h a b = some d → isSc d = true ∧ (Q (sv d) H → rd v w H Q)
theorem inh_add : InH rAdd hAdd := fun a b d v w K H Q ha hb z => by
  cases a <;> cases b <;> cases z
  cases ha; cases hb
  exact ⟨rfl, fun k => ⟨_, _, rfl, rfl, k⟩⟩
theorem inh_sub : InH rSub hSub := fun a b d v w K H Q ha hb z => by
  cases a <;> cases b <;> cases z
  cases ha; cases hb
  exact ⟨rfl, fun k => ⟨_, _, rfl, rfl, k⟩⟩
end
end MV

namespace MV
open PySem PySem.Spec PyProof.Rows L2 PV
/-! ### stores at places -/
def putS (kvs : List (Key × SV)) (k : Key) (v : SV) : List (Key × SV) :=
  if (kvs.any fun kv => decide (kv.1 = k)) = true then kvs.map (fun kv => if kv.1 = k then (kv.1, v) else kv) else kvs ++ [(k, v)]
def dropS (kvs : List (Key × SV)) (k : Key) : List (Key × SV) := kvs.filter fun kv => decide (kv.1 ≠ k)
section
variable {K : PySem.W.Frag} {C : CT} {m : List Addr} {H : Hp} {st : Store} {env : SEnv} {σ : L2.St} {a : Addr} {i : Nat}
theorem fr_any {k : Key} : ∀ {ps : List (Key × V)} {kvs : List (Key × SV)}, FR K m H ps kvs → (ps.any fun kv => decide (kv.1 = k)) = kvs.any fun kv => decide (kv.1 = k)
  | _, _, .nil => rfl
  | _, _, .cons r t => by rw [List.any_cons, List.any_cons, fr_any t, r.1]
theorem fr_map {k : Key} {v : V} {s : SV} (q : VR K m H v s) : ∀ {ps : List (Key × V)} {kvs : List (Key × SV)}, FR K m H ps kvs → FR K m H (ps.map fun kv => if kv.1 = k then (kv.1, v) else kv) (kvs.map fun kv => if kv.1 = k then (kv.1, s) else kv)
  | _, _, .nil => .nil
  | _, _, .cons (a := p) (b := u) r t => by
    rw [List.map_cons, List.map_cons]
    refine .cons ?_ (fr_map q t)
    by_cases e : u.1 = k
    · rw [if_pos e, if_pos (r.1.trans e)]; exact ⟨r.1, q⟩
    · rw [if_neg e, if_neg (fun z => e (r.1.symm.trans z))]; exact r
theorem fr_put {k : Key} {v : V} {s : SV} (q : VR K m H v s) {ps : List (Key × V)} {kvs : List (Key × SV)} (h : FR K m H ps kvs) : FR K m H (putK ps k v) (putS kvs k s) := by
  unfold putK putS
  rw [fr_any h]
  by_cases c : (kvs.any fun kv => decide (kv.1 = k)) = true
  · rw [if_pos c, if_pos c]; exact fr_map q h
  · rw [if_neg c, if_neg c]; exact pr_app h (.cons ⟨rfl, q⟩ .nil)
theorem fr_drop {k : Key} : ∀ {ps : List (Key × V)} {kvs : List (Key × SV)}, FR K m H ps kvs → FR K m H (dropK ps k) (dropS kvs k)
  | _, _, .nil => .nil
  | _, _, .cons (a := p) (b := u) r t => by
    unfold dropK dropS
    by_cases e : u.1 = k
    · have h1 : decide (u.1 ≠ k) = false := decide_eq_false fun z => z e
      have h2 : decide (p.1 ≠ k) = false := decide_eq_false fun z => z (r.1.trans e)
      simp only [List.filter_cons, h1, h2, Bool.false_eq_true, if_false]
      exact fr_drop t
    · have h1 : decide (u.1 ≠ k) = true := decide_eq_true e
      have h2 : decide (p.1 ≠ k) = true := decide_eq_true fun z => e (r.1.symm.trans z)
      simp only [List.filter_cons, h1, h2, if_true]
      exact .cons r (fr_drop t)
/-- a dict is changed -/
theorem MR.dic {ps : List (Key × V)} {kvs : List (Key × SV)} (R : MR K C st env m σ H) (hi : m[i]? = some a) (q : FR K m H ps kvs) : MR K C (st.set i (.dic kvs)) env m σ (upd H a (.dK ps)) ∧ Ex m H m (upd H a (.dK ps)) := by
  have ha : a ∈ m := List.mem_of_getElem? hi
  obtain ⟨S, y⟩ := R.sr.set (o := .dK ps) (c := .dic kvs) hi ⟨ps, upd_same, FR.ex (ex_upd ha) q⟩
  exact ⟨R.ex S y, y⟩
/-- a list is changed -/
theorem MR.lst {vs : List V} {xs : List SV} (R : MR K C st env m σ H) (hi : m[i]? = some a) (q : VRs K m H vs xs) : MR K C (st.set i (.lst xs)) env m σ (upd H a (.lst vs)) ∧ Ex m H m (upd H a (.lst vs)) := by
  have ha : a ∈ m := List.mem_of_getElem? hi
  obtain ⟨S, y⟩ := R.sr.set (o := .lst vs) (c := .lst xs) hi ⟨vs, upd_same, VRs.ex (ex_upd ha) q⟩
  exact ⟨R.ex S y, y⟩
end
def putD (st : Store) (d k v : SV) : Option Store := match d with
  | .ref i => (dicOf st (.ref i)).bind fun kvs => (keyOf k).bind fun kk => if kvs.length < 1000000 then some (st.set i (.dic (putS kvs kk v))) else none
  | .dat _ => none
def putL (st : Store) (o k v : SV) : Option Store := match o with
  | .ref i => match st[i]? with
    | some (.lst xs) => (intOf k).bind fun z => (ixN xs.length z).map fun j => st.set i (.lst (xs.set j v))
    | _ => none
  | .dat _ => none
def putF1 (c k : Nat) (st : Store) (o v : SV) : Option Store := match o with
  | .ref i => (insAt c st (.ref i)).bind fun xs => (putI xs k v).map fun ys => st.set i (.ins c ys)
  | .dat _ => none
/-- d[k] = e -/
def zDPut (fd fk fv : SEnv → Mo SV) : Zsem := zB fv fun v => zB fd fun d => zB fk fun k e st => (putD st d k v).map fun st' => (.nx e, st')
/-- d[k] op= e -/
def zDAug (h : D → D → Option D) (fd fk fv : SEnv → Mo SV) : Zsem := zB fd fun d => zB fk fun k env st => (dicOf st d).bind fun kvs => (keyOf k).bind fun kk => (valS kvs kk).bind fun x =>
  zB fv (fun v e st => (hopI h x v).bind fun w => (putD st d k w).map fun st' => (.nx e, st')) env st
def okv {α : Type} : Option (Er α × Store) → Option (α × Store)
  | some (.ok a, st) => some (a, st)
  | _ => none
def gSubL (fo fi : SEnv → Mo SV) : GSem := fun x e st => match x with
  | .one v => (okv (fo e st)).bind fun r => (okv (fi e r.2)).bind fun q => (putL q.2 r.1 q.1 v).map fun st' => (e, st')
  | .pair _ _ => none
def gSubD (fo fi : SEnv → Mo SV) : GSem := fun x e st => match x with
  | .one v => (okv (fo e st)).bind fun r => (okv (fi e r.2)).bind fun q => (putD q.2 r.1 q.1 v).map fun st' => (e, st')
  | .pair _ _ => none
def gFld (c k : Nat) (fo : SEnv → Mo SV) : GSem := fun x e st => match x with
  | .one v => (okv (fo e st)).bind fun r => (putF1 c k r.2 r.1 v).map fun st' => (e, st')
  | .pair _ _ => none
section
variable {K : PySem.W.Frag} {C : CT} {m : List Addr} {H : Hp} {st st' : Store} {env : SEnv} {σ : L2.St} {v w u : V} {s k d : SV}
theorem putD_ok (R : MR K C st env m σ H) (hd : VR K m H v d) (hk : VR K m H w k) (hv : VR K m H u s) (z : putD st d k s = some st') : ∃ a H', v = .ref a ∧ DPut H a w u H' ∧ Ex m H m H' ∧ MR K C st' env m σ H' := by
  unfold putD at z
  cases d with
  | dat x => cases z
  | ref i =>
    simp only at z
    cases e1 : dicOf st (.ref i) with
    | none => rw [e1] at z; cases z
    | some kvs =>
      rw [e1] at z
      simp only [Option.bind_some] at z
      cases e2 : keyOf k with
      | none => rw [e2] at z; cases z
      | some kk =>
        rw [e2] at z
        simp only [Option.bind_some] at z
        by_cases hl : kvs.length < 1000000
        · rw [if_pos hl] at z
          cases z
          obtain ⟨i', a, ps, hi, rfl, h1, h2, h3, h4⟩ := dicOf_ok R.sr hd e1
          cases hi
          obtain rfl := keyOf_ok hk e2
          obtain ⟨R2, x⟩ := R.dic h1 (fr_put (k := kk) hv h4)
          exact ⟨a, _, rfl, DPut.k h3 (by rw [pr_len h4]; exact Nat.lt_of_lt_of_le hl (by decide)), x, R2⟩
        · rw [if_neg hl] at z; cases z
theorem putL_ok (R : MR K C st env m σ H) (hd : VR K m H v d) (hk : VR K m H w k) (hv : VR K m H u s) (z : putL st d k s = some st') : ∃ H', (∃ p xs i j, v = .ref p ∧ w = .int i ∧ H p = some (.lst xs) ∧ ixN xs.length i = some j ∧ H' = upd H p (.lst (xs.set j u))) ∧ Ex m H m H' ∧ MR K C st' env m σ H' := by
  unfold putL at z
  cases d with
  | dat x => cases z
  | ref i =>
    simp only at z
    obtain ⟨a, h1, rfl⟩ := hd
    cases hc : st[i]? with
    | none => rw [hc] at z; cases z
    | some c =>
      rw [hc] at z
      obtain ⟨b, h2, h3⟩ := R.sr.cl i c hc
      rw [h1] at h2
      cases h2
      cases c with
      | lst xs =>
        simp only at z
        obtain ⟨vs, h4, h5⟩ := h3
        cases e2 : intOf k with
        | none => rw [e2] at z; cases z
        | some n =>
          rw [e2] at z
          simp only [Option.bind_some] at z
          cases e3 : ixN xs.length n with
          | none => rw [e3] at z; cases z
          | some j =>
            rw [e3] at z
            cases z
            obtain rfl := intOf_ok hk e2
            obtain ⟨R2, x⟩ := R.lst h1 (pr_set hv j h5)
            exact ⟨_, ⟨a, vs, n, j, rfl, rfl, h4, by rw [pr_len h5]; exact e3, rfl⟩, x, R2⟩
      | _ => cases z
theorem putF1_ok {c n : Nat} {x : Str} (R : MR K C st env m σ H) (hd : VR K m H v d) (hv : VR K m H u s) (hk : (C.fn c)[n]? = some x) (hn : (C.fn c).Nodup) (hl : (C.fn c).length < 1000) (z : putF1 c n st d s = some st') :
    ∃ a dx fs, v = .ref a ∧ H a = some (.ins (C.ca c) dx fs) ∧ fs.length < 1000 ∧ Ex m H m (upd H a (.ins (C.ca c) dx (putF x u fs))) ∧ MR K C st' env m σ (upd H a (.ins (C.ca c) dx (putF x u fs))) := by
  unfold putF1 at z
  cases d with
  | dat x => cases z
  | ref i =>
    simp only at z
    cases e1 : insAt c st (.ref i) with
    | none => rw [e1] at z; cases z
    | some xs =>
      rw [e1] at z
      simp only [Option.bind_some] at z
      cases e2 : putI xs n s with
      | none => rw [e2] at z; cases z
      | some ys =>
        rw [e2] at z
        cases z
        obtain ⟨i', a, dx, vs, hi, rfl, h1, h2, h3, h4, h5⟩ := insAt_ok R.sr hd e1
        cases hi
        obtain ⟨R3, y⟩ := R.fld h1 h3 h4 h5 hk hn hv e2
        exact ⟨a, dx, _, rfl, h3, zip_small hl, y, R3⟩
end
section
variable {X : Cx} {C : CT} {W : WX} {e o i value : Expr} {x : Str} {f fo fi fv : SEnv → Mo SV} {te ta tv td ty to ti : TE} {pos pos' tpos : Pos}
theorem ms_dput (hu : X.A.units + 1 < cLine) (ho : ME X C W o fo td) (hi : ME X C W i fi ty) (hv : ME X C W value fv tv) (hs : swapsWith value (some (.Subscript o i pos')) pos.line X.env = pure false := by rfl) :
    MS X C W (.Assign [.Subscript o i pos'] value pos) (zDPut fo fi fv) (sDPut td ty tv) := ⟨ps_dput hu ho.pe hi.pe hv.pe hs, fun m env σ H st D res st' R z p => by
  refine ok_zB (tt := tv) hv.ok R z p fun v m1 H1 s st1 x1 R1 q1 z1 p1 => ?_
  refine ok_zB (tt := td) ho.ok R1 z1 p1 fun w m2 H2 d st2 x2 R2 q2 z2 p2 => ?_
  refine ok_zB (tt := ty) hi.ok R2 z2 p2 fun u m3 H3 k st3 x3 R3 q3 z3 p3 => ?_
  cases e1 : putD st3 d k s with
  | none => rw [e1] at z3; cases z3
  | some st4 =>
    rw [e1] at z3
    cases z3
    obtain ⟨a, H4, h1, h2, h3, h4⟩ := putD_ok R3 (q2.ex x3) q3 (q1.ex (x2.trans x3)) e1
    exact ⟨a, H4, h1, h2, p3 m3 σ H4 h3 h4⟩⟩
theorem hop_ok {K : PySem.W.Frag} {m : List Addr} {H : Hp} {h : D → D → Option D} {rd : V → V → Hp → VK → Prop} {v w : V} {s u y : SV} {Q : VK} (hh : InH rd h) (hv : VR K m H v s) (hw : VR K m H w u) (z : hopI h s u = some y) (k : ∀ x, VR K m H x y → Q x H) : rd v w H Q := by
  cases s with
  | ref i => cases z
  | dat a =>
    cases u with
    | ref i => cases z
    | dat b =>
      unfold hopI at z
      simp only at z
      cases e1 : h a b with
      | none => rw [e1] at z; cases z
      | some d =>
        rw [e1] at z
        cases z
        obtain ⟨h1, h2⟩ := hh a b d v w K H Q (dp_mono oth_sub _ _ hv) (dp_mono oth_sub _ _ hw) e1
        exact h2 (k _ (sc_dp h1))
theorem ms_daug {op : Operator} {rd : V → V → Hp → VK → Prop} {h : D → D → Option D} (hu : X.A.units + 1 < cLine) (ho : ME X C W o fo td) (hi : ME X C W i fi ty) (hv : ME X C W value fv tv) (hop : InOp X op rd) (hh : InH rd h) (hns : ∀ ov iv new, augStore i ov iv new = (do
      holding [new, ov, iv] (setItem ov iv new)
      release [new, ov, iv] []
      pure Flow.next) := by exact fun _ _ _ => rfl) (hns2 : ∀ ov iv, subscripted i false ov iv = operate [ov, iv] (getItem ov iv) := by exact fun _ _ => rfl) :
    MS X C W (.AugAssign (.Subscript o i tpos) op value pos) (zDAug h fo fi fv) (sDAug td ty tv rd) := ⟨ps_daug hu ho.pe hi.pe hv.pe hop hns, fun m env σ H st D res st' R z p => by
  refine ok_zB (tt := td) ho.ok R z p fun v m1 H1 d st1 x1 R1 q1 z1 p1 => ?_
  refine ok_zB (tt := ty) hi.ok R1 z1 p1 fun w m2 H2 k st2 x2 R2 q2 z2 p2 => ?_
  cases e1 : dicOf st2 d with
  | none => rw [e1] at z2; cases z2
  | some kvs =>
    cases e2 : keyOf k with
    | none => rw [e1, e2] at z2; cases z2
    | some kk =>
      rw [e1, e2] at z2
      simp only [Option.bind_some] at z2
      cases e3 : valS kvs kk with
      | none => rw [e3] at z2; cases z2
      | some y =>
        rw [e3] at z2
        simp only [Option.bind_some] at z2
        obtain ⟨i', a, ps, rfl, rfl, h1, h2, h3, h4⟩ := dicOf_ok R2.sr (q1.ex x2) e1
        obtain rfl := keyOf_ok q2 e2
        obtain ⟨b, h5, h6⟩ := valS_some h4 e3
        have g1 := DGet.k (k := kk) h3
        rw [h5] at g1
        refine ⟨a, b, rfl, g1, ?_⟩
        refine ok_zB (tt := tv) hv.ok R2 z2 p2 fun u m3 H3 s st3 x3 R3 q3 z3 p3 => ?_
        cases e4 : hopI h y s with
        | none => rw [e4] at z3; cases z3
        | some w2 =>
          rw [e4] at z3
          simp only [Option.bind_some] at z3
          refine hop_ok hh (h6.ex x3) q3 e4 fun x hx => ?_
          cases e5 : putD st3 (.ref i') k w2 with
          | none => rw [e5] at z3; cases z3
          | some st4 =>
            rw [e5] at z3
            cases z3
            obtain ⟨a', H4, g2, g3, g4, g5⟩ := putD_ok R3 ((q1.ex x2).ex x3) (q2.ex x3) hx e5
            cases g2
            exact ⟨H4, g3, p3 m3 σ H4 g4 g5⟩⟩
theorem ms_fldaug (c n : Nat) {op : Operator} {rd : V → V → Hp → VK → Prop} {h : D → D → Option D} (ho : ME X C W o fo ta) (hv : ME X C W value fv tv) (hop : InOp X op rd) (hh : InH rd h) (hc : Cls X.K (C.ca c)) (hno : NoAttr X.K (C.ca c) x) (hk : (C.fn c)[n]? = some x := by rfl) (hd : (C.fn c).Nodup := by decide) (hl : (C.fn c).length < 1000 := by decide) :
    MS X C W (.AugAssign (.Attribute o x tpos) op value pos) (zFldAug c n h fo fv) (sFldAug X.K ta tv rd x) := ⟨ps_fldaug ho.pe hv.pe hop, fun m env σ H st D res st' R z p => by
  refine ok_zB (tt := ta) ho.ok R z p fun v m1 H1 d st1 x1 R1 q1 z1 p1 => ?_
  cases e1 : insAt c st1 d with
  | none => rw [e1] at z1; cases z1
  | some xs =>
    rw [e1] at z1
    simp only [Option.bind_some] at z1
    cases e2 : xs[n]? with
    | none => rw [e2] at z1; cases z1
    | some y =>
      rw [e2] at z1
      simp only [Option.bind_some] at z1
      obtain ⟨i', a, dx, vs, rfl, rfl, h1, h2, h3, h4, h5⟩ := insAt_ok R1.sr q1 e1
      obtain ⟨b, h6, h7⟩ := pr_get h4 e2
      refine ⟨a, _, dx, _, b, rfl, h3, hc, hno, zip_look hd hk h6, ?_⟩
      refine ok_zB (tt := tv) hv.ok R1 z1 p1 fun u m2 H2 s st2 x2 R2 q2 z2 p2 => ?_
      simp only at z2
      cases e4 : hopI h y s with
      | none => rw [e4] at z2; cases z2
      | some w2 =>
        rw [e4] at z2
        simp only [Option.bind_some] at z2
        refine hop_ok hh (h7.ex x2) q2 e4 fun x' hx => ?_
        cases e5 : insAt c st2 (.ref i') with
        | none => rw [e5] at z2; cases z2
        | some zs =>
          rw [e5] at z2
          simp only [Option.bind_some] at z2
          cases e6 : putI zs n w2 with
          | none => rw [e6] at z2; cases z2
          | some ys =>
            rw [e6] at z2
            cases z2
            obtain ⟨j, a', dx', vs', hj, ha', g1, g2, g3, g4, g5⟩ := insAt_ok R2.sr (q1.ex x2) e5
            cases hj
            cases ha'
            obtain ⟨R3, y3⟩ := R2.fld g1 g3 g4 g5 hk hd hx e6
            exact ⟨dx', _, g3, zip_small hl, p2 _ _ _ y3 R3⟩⟩
theorem okv_ok {α : Type} {z : Option (Er α × Store)} {r : α × Store} (h : okv z = some r) : z = some (.ok r.1, r.2) := by
  unfold okv at h
  split at h
  · cases h; rfl
  · cases h
/-- a part of a target -/
theorem ok_part {K : PySem.W.Frag} {m : List Addr} {env : SEnv} {σ : L2.St} {H : Hp} {st st' : Store} {Q : VK} {s : SV} (h : OkG K C W (VR K) f te) (R : MR K C st env m σ H) (z : f env st = some (.ok s, st')) (k : ∀ v m' H', Ex m H m' H' → MR K C st' env m' σ H' → VR K m' H' v s → Q v H') : te σ H Q :=
  h m env σ H st Q (.ok s) st' R z k
theorem pg_sub2 {t : TSet} (ho : PE X o to) (hi : PE X i ti) (hs : PSet X t) : PG X (.Subscript o i pos) (gSub to ti t) := by
  refine ⟨fun pins s σ H v u Q I r h => ?_⟩
  exact PySem.W.kas_sub (thn (ho.run pins s σ H _ I h) fun ov s1 ⟨x, H1, I1, r1, q1⟩ => thn (hi.run pins s1 σ H1 _ I1 q1) fun iv s2 ⟨y, H2, I2, r2, q2⟩ => thn (hs pins s2 σ H2 x y v ov iv u _ I2 r1 r2 r q2) fun _ s3 ⟨H3, I3, q3⟩ => ⟨σ, H3, I3, q3⟩)
theorem mg_subL (ho : ME X C W o fo to) (hi : ME X C W i fi ti) : MG X C (.Subscript o i pos) [] (gSubL fo fi) (gSub to ti rSetL) := ⟨pg_sub2 ho.pe hi.pe set_list, fun m env σ H st v a Q env' st' R q z k => by
  cases a with
  | pair a b => cases z
  | one s =>
    unfold gSubL at z
    simp only at z
    cases e1 : okv (fo env st) with
    | none => rw [e1] at z; cases z
    | some r =>
      rw [e1] at z
      simp only [Option.bind_some] at z
      cases e2 : okv (fi env r.2) with
      | none => rw [e2] at z; cases z
      | some t =>
        rw [e2] at z
        simp only [Option.bind_some] at z
        cases e3 : putL t.2 r.1 t.1 s with
        | none => rw [e3] at z; cases z
        | some st4 =>
          rw [e3] at z
          cases z
          refine ok_part ho.ok R (okv_ok e1) fun u m1 H1 x1 R1 q1 => ?_
          refine ok_part hi.ok R1 (okv_ok e2) fun w m2 H2 x2 R2 q2 => ?_
          obtain ⟨H3, ⟨p, xs, n, j, rfl, rfl, h3, h4, rfl⟩, h5, h6⟩ := putL_ok R2 (q1.ex x2) q2 (q.ex (x1.trans x2)) e3
          exact ⟨p, xs, n, j, rfl, rfl, h3, h4, k m2 σ _ ((x1.trans x2).trans h5) h6 rfl fun _ _ => rfl⟩⟩
theorem mg_subD (hu : X.A.units + 1 < cLine) (ho : ME X C W o fo to) (hi : ME X C W i fi ti) : MG X C (.Subscript o i pos) [] (gSubD fo fi) (gSub to ti rSetD) := ⟨pg_sub2 ho.pe hi.pe (set_dict hu), fun m env σ H st v a Q env' st' R q z k => by
  cases a with
  | pair a b => cases z
  | one s =>
    unfold gSubD at z
    simp only at z
    cases e1 : okv (fo env st) with
    | none => rw [e1] at z; cases z
    | some r =>
      rw [e1] at z
      simp only [Option.bind_some] at z
      cases e2 : okv (fi env r.2) with
      | none => rw [e2] at z; cases z
      | some t =>
        rw [e2] at z
        simp only [Option.bind_some] at z
        cases e3 : putD t.2 r.1 t.1 s with
        | none => rw [e3] at z; cases z
        | some st4 =>
          rw [e3] at z
          cases z
          refine ok_part ho.ok R (okv_ok e1) fun u m1 H1 x1 R1 q1 => ?_
          refine ok_part hi.ok R1 (okv_ok e2) fun w m2 H2 x2 R2 q2 => ?_
          obtain ⟨p, H3, rfl, h3, h5, h6⟩ := putD_ok R2 (q1.ex x2) q2 (q.ex (x1.trans x2)) e3
          exact ⟨p, H3, rfl, h3, k m2 σ _ ((x1.trans x2).trans h5) h6 rfl fun _ _ => rfl⟩⟩
/-- o.x as a target -/
def gAttr (K : PySem.W.Frag) (C : Addr) (x : Str) (to : TE) : TG := fun v σ H Q => to σ H fun w H1 => ∃ a dx fs, w = .ref a ∧ H1 a = some (.ins C dx fs) ∧ Cls K C ∧ NoAttr K C x ∧ fs.length < 1000 ∧ Q σ (upd H1 a (.ins C dx (putF x v fs)))
theorem pg_attr {Ca : Addr} (ho : PE X o to) : PG X (.Attribute o x pos) (gAttr X.K Ca x to) := by
  refine ⟨fun pins s σ H v u Q I r h => ?_⟩
  refine PySem.W.kas_attr (thn (ho.run pins s σ H _ I h) fun ov s1 ⟨w, H1, I1, r1, a, dx, fs, ew, ha, c, n, l, q1⟩ => ?_)
  subst ew
  obtain rfl : ov = Value.ref a := r1
  exact setattr_ok I1 ha c n l r fun s3 I3 => ⟨σ, _, I3, q1⟩
theorem mg_fld (c n : Nat) (ho : ME X C W o fo to) (hc : Cls X.K (C.ca c)) (hno : NoAttr X.K (C.ca c) x) (hk : (C.fn c)[n]? = some x := by rfl) (hd : (C.fn c).Nodup := by decide) (hl : (C.fn c).length < 1000 := by decide) :
    MG X C (.Attribute o x pos) [] (gFld c n fo) (gAttr X.K (C.ca c) x to) := ⟨pg_attr ho.pe, fun m env σ H st v a Q env' st' R q z k => by
  cases a with
  | pair a b => cases z
  | one s =>
    unfold gFld at z
    simp only at z
    cases e1 : okv (fo env st) with
    | none => rw [e1] at z; cases z
    | some r =>
      rw [e1] at z
      simp only [Option.bind_some] at z
      cases e3 : putF1 c n r.2 r.1 s with
      | none => rw [e3] at z; cases z
      | some st4 =>
        rw [e3] at z
        cases z
        refine ok_part ho.ok R (okv_ok e1) fun u m1 H1 x1 R1 q1 => ?_
        obtain ⟨p, dx, fs, rfl, h3, h4, h5, h6⟩ := putF1_ok R1 q1 (q.ex x1) hk hd hl e3
        exact ⟨p, dx, fs, rfl, h3, hc, hno, h4, k m1 σ _ (x1.trans h5) h6 rfl fun _ _ => rfl⟩⟩
end
/-! ### methods that change their list -/
/-- h: the items, the arguments ↦ the answer, the new items -/
def mLM (h : List SV → List SV → Option (SV × List SV)) (fo : SEnv → Mo SV) (fs : SEnv → Mo (List SV)) (env : SEnv) : Mo SV := mb (fo env) fun o st1 => match o with
  | .ref i => match st1[i]? with
    | some (.lst _) => mb (fs env) (fun as st => match st[i]? with
      | some (.lst xs) => (h xs as).map fun r => (.ok r.1, st.set i (.lst r.2))
      | _ => none) st1
    | _ => none
  | .dat _ => none
def MuM (rr : V → List V → Hp → VK → Prop) (h : List SV → List SV → Option (SV × List SV)) : Prop := ∀ (K : PySem.W.Frag) (C : CT) (m : List Addr) (H : Hp) (st : Store) (Q : VK) (a : Addr) (vs us : List V) (xs as : List SV) (r : SV × List SV), SR K C st m H → H a = some (.lst vs) → VRs K m H vs xs → VRs K m H us as → h xs as = some r →
  ∃ vs' u, VRs K m H vs' r.2 ∧ VR K m H u r.1 ∧ (Q u (upd H a (.lst vs')) → rr (.ref a) us H Q)
def hAppS (xs as : List SV) : Option (SV × List SV) := match as with
  | [s] => if xs.length < 1000000 then some (.dat .none, xs ++ [s]) else none
  | _ => none
def hClrS (_ as : List SV) : Option (SV × List SV) := match as with
  | [] => some (.dat .none, [])
  | _ => none
def hPopS (xs as : List SV) : Option (SV × List SV) := match as with
  | [s] => (intOf s).bind fun i => if i < 1000000 ∧ -1000000 < i then (ixN xs.length i).bind fun j => (xs[j]?).map fun v => (v, xs.eraseIdx j) else none
  | _ => none
theorem mum_app : MuM rAppend hAppS := fun K C m H st Q a vs us xs as r R hH hv hu z => by
  match as, hu, z with
  | [s], .cons h1 .nil, z =>
    unfold hAppS at z
    by_cases q : xs.length < 1000000
    · simp only [if_pos q] at z
      cases z
      exact ⟨vs ++ [_], .non, pr_app hv (.cons h1 .nil), .non, fun k => ⟨a, vs, _, rfl, rfl, hH, by rw [pr_len hv]; exact Nat.lt_of_lt_of_le q (by decide), k⟩⟩
    · simp only [if_neg q] at z; cases z
theorem mum_clr : MuM rClear hClrS := fun K C m H st Q a vs us xs as r R hH hv hu z => by
  match as, hu, z with
  | [], .nil, z =>
    cases z
    exact ⟨[], .non, .nil, .non, fun k => ⟨a, vs, rfl, rfl, hH, k⟩⟩
theorem mum_pop : MuM rPopAt hPopS := fun K C m H st Q a vs us xs as r R hH hv hu z => by
  match as, hu, z with
  | [s], .cons (a := u) h1 .nil, z =>
    unfold hPopS at z
    simp only at z
    cases e1 : intOf s with
    | none => rw [e1] at z; cases z
    | some i =>
      rw [e1] at z
      simp only [Option.bind_some] at z
      by_cases q : i < 1000000 ∧ -1000000 < i
      · rw [if_pos q] at z
        cases e2 : ixN xs.length i with
        | none => rw [e2] at z; cases z
        | some j =>
          rw [e2] at z
          simp only [Option.bind_some] at z
          cases e3 : xs[j]? with
          | none => rw [e3] at z; cases z
          | some y =>
            rw [e3] at z
            cases z
            obtain rfl := intOf_ok h1 e1
            obtain ⟨w, h2, h3⟩ := pr_get hv e3
            have hs := ixN_seq e2
            refine ⟨vs.eraseIdx j, w, pr_erase j hv, h3, fun k => ⟨a, vs, i, j, w, rfl, rfl, hH, by omega, by omega, by rw [pr_len hv]; exact hs.1, h2, k⟩⟩
      · rw [if_neg q] at z; cases z
section
variable {X : Cx} {C : CT} {W : WX} {e o : Expr} {es : List Expr} {fo : SEnv → Mo SV} {fs : SEnv → Mo (List SV)} {to : TE} {ts : TA} {name : Str} {id : String} {rr : V → List V → Hp → VK → Prop} {h : List SV → List SV → Option (SV × List SV)} {apos cpos : Pos}
theorem ok_mLM {K : PySem.W.Frag} (hm : MuM rr h) (ho : OkG K C W (VR K) fo to) (ha : OkG K C W (fun m H => VRs K m H) fs ts) : OkG K C W (VR K) (mLM h fo fs) (tBM K "list" rr to ts) := fun m env σ H st Q r st' R z p => by
  refine ok_mb (t := to) ho R z p fun v m1 H1 s st1 x1 R1 q1 z1 p1 => ?_
  cases s with
  | dat d => cases z1
  | ref i =>
    simp only at z1
    obtain ⟨a, h1, rfl⟩ := q1
    cases hc : st1[i]? with
    | none => rw [hc] at z1; cases z1
    | some c =>
      rw [hc] at z1
      cases c with
      | lst ys =>
        simp only at z1
        obtain ⟨b, h2, ws, h3, h4⟩ := R1.sr.cl i _ hc
        rw [h1] at h2
        cases h2
        refine ⟨.inl ⟨rfl, ws, SqL.of h3⟩, ?_⟩
        refine ok_mb (t := ts) ha R1 z1 p1 fun us m2 H2 as st2 x2 R2 q2 z2 p2 => ?_
        have h1' := x2.pre i a h1
        cases hc2 : st2[i]? with
        | none => rw [hc2] at z2; cases z2
        | some c =>
          rw [hc2] at z2
          cases c with
          | lst xs =>
            simp only at z2
            obtain ⟨b, g2, vs, g3, g4⟩ := R2.sr.cl i _ hc2
            rw [h1'] at g2
            cases g2
            cases e3 : h xs as with
            | none => rw [e3] at z2; cases z2
            | some w =>
              rw [e3] at z2
              cases z2
              obtain ⟨vs', u, k1, k2, k3⟩ := hm K C m2 H2 st2 Q a vs us xs as w R2.sr g3 g4 q2 e3
              obtain ⟨R3, x3⟩ := R2.lst h1' k1
              exact k3 (p2 u m2 _ x3 R3 (k2.ex x3))
          | _ => cases z2
      | _ => cases z1
theorem m_lm (pa : PlainAttrs "list") (slot : Slot "list" name id) (hty : typeOf (.builtin id) = pure (.type "method_descriptor")) (hm : MtR X id rr) (hh : MuM rr h) (ho : ME X C W o fo to) (ha : MA X C W (e :: es) fs ts)
    (hbase : attributeBase o name X.env (eval o X.env) = eval o X.env := by rfl)
    (hfew : ((backTo cpos (starEach (e :: es) X.env)).all (fun x => !x.1) && (backToKw cpos (keywordEach [] X.env)).all (fun x => x.1.isSome)
      && decide ((e :: es).length + ([] : List Keyword).length + (if ([] : List Keyword).isEmpty then 0 else 1) < 30)) = true := by rfl)
    (hline : (apos.endLine == cpos.line) = true := by rfl) (hs : starEach (e :: es) X.env = (false, eval e X.env) :: starEach es X.env := by rfl) (hplain : (backTo cpos (starEach es X.env)).any (·.1) = false := by rfl) :
    ME X C W (.Call (.Attribute o name apos) (e :: es) [] cpos) (mLM h fo fs) (tBM X.K "list" rr to ts) := ⟨pe_bm pa slot hty hm ho.pe ha.pa hbase hfew hline hs hplain, ok_mLM hh ho.ok ha.ok⟩
theorem m_lm0 (pa : PlainAttrs "list") (slot : Slot "list" name id) (hty : typeOf (.builtin id) = pure (.type "method_descriptor")) (hm : MtR X id rr) (hh : MuM rr h) (ho : ME X C W o fo to)
    (hbase : attributeBase o name X.env (eval o X.env) = eval o X.env := by rfl) (hline : (apos.endLine == cpos.line) = true := by rfl) :
    ME X C W (.Call (.Attribute o name apos) [] [] cpos) (mLM h fo mNil) (tBM0 X.K "list" rr to) := ⟨pe_bm0 pa slot hty hm ho.pe hbase hline, ok_mLM (ts := tNil) hh ho.ok (ma_nil (X := X)).ok⟩
theorem m_app (ho : ME X C W o fo to) (ha : MA X C W [e] fs ts)
    (hbase : attributeBase o "append" X.env (eval o X.env) = eval o X.env := by rfl)
    (hfew : ((backTo cpos (starEach [e] X.env)).all (fun x => !x.1) && (backToKw cpos (keywordEach [] X.env)).all (fun x => x.1.isSome)
      && decide ([e].length + ([] : List Keyword).length + (if ([] : List Keyword).isEmpty then 0 else 1) < 30)) = true := by rfl)
    (hline : (apos.endLine == cpos.line) = true := by rfl) (hs : starEach [e] X.env = (false, eval e X.env) :: starEach [] X.env := by rfl) (hplain : (backTo cpos (starEach [] X.env)).any (·.1) = false := by rfl) :
    ME X C W (.Call (.Attribute o "append" apos) [e] [] cpos) (mLM hAppS fo fs) (tBM X.K "list" rAppend to ts) := m_lm PySem.F.plainAttrs_list PySem.F.slot_list_append PySem.F.type_list_append mt_append mum_app ho ha hbase hfew hline hs hplain
end
end MV

namespace MV
open PySem PySem.Spec PyProof.Rows L2 PV
/-! ### what is walked -/
structure Src where
  its : List Itm
  ok : Store → Prop
def ItR (K : PySem.W.Frag) (C : CT) (m1 : List Addr) (H1 : Hp) (J : It) (s : Src) : Prop := ∀ m2 H2 st2, Ex m1 H1 m2 H2 → SR K C st2 m2 H2 → s.ok st2 →
  (∀ (i : Nat) (x : Itm), s.its[i]? = some x → J.go i H2 ∧ ∀ y H3, J.yld i H2 y H3 → Same H2 H3 ∧ IR K m2 H3 y x) ∧ J.stop s.its.length H2
structure MI (X : Cx) (C : CT) (W : WX) (tg iter : Expr) (f : SEnv → Mo Src) (wi : TI) : Prop where
  pi : PI X tg iter wi
  ok : OkG X.K C W (ItR X.K C) f wi
def ones (xs : List SV) : List Itm := xs.map .one
def enumI (xs : List SV) : List Itm := xs.zipIdx.map fun p => .pair (.dat (.int (p.2 : Nat))) p.1
def zipI (xs ys : List SV) : List Itm := List.zipWith .pair xs ys
def rngI (lo : Int) (n : Nat) : List Itm := (List.range n).map fun k => .one (.dat (.int (lo + (k : Nat))))
def mIL (f : SEnv → Mo SV) (env : SEnv) : Mo Src := mb (f env) fun v st => (lstOf st v).map fun xs => (.ok ⟨ones xs, fun st' => lstOf st' v = some xs⟩, st)
def mIEn (f : SEnv → Mo (List SV)) (env : SEnv) : Mo Src := mb (f env) fun vs st => match vs with
  | [v] => (lstOf st v).map fun xs => (.ok ⟨enumI xs, fun st' => lstOf st' v = some xs⟩, st)
  | _ => none
def mIZp (f : SEnv → Mo (List SV)) (env : SEnv) : Mo Src := mb (f env) fun vs st => match vs with
  | [v, w] => (lstOf st v).bind fun xs => (lstOf st w).map fun ys => (.ok ⟨zipI xs ys, fun st' => lstOf st' v = some xs ∧ lstOf st' w = some ys⟩, st)
  | _ => none
def mIR1 (f : SEnv → Mo (List SV)) (env : SEnv) : Mo Src := mb (f env) fun vs st => match vs with
  | [v] => (intOf v).bind fun j => if -1000000 < j ∧ j < 1000000 then some (.ok ⟨rngI 0 j.toNat, fun _ => True⟩, st) else none
  | _ => none
def mIR2 (f : SEnv → Mo (List SV)) (env : SEnv) : Mo Src := mb (f env) fun vs st => match vs with
  | [v, w] => (intOf v).bind fun i => (intOf w).bind fun j => if (-1000000 < i ∧ i < 1000000) ∧ -1000000 < j ∧ j < 1000000 then some (.ok ⟨rngI i (j - i).toNat, fun _ => True⟩, st) else none
  | _ => none
section
variable {X : Cx} {C : CT} {W : WX} {a b tg : Expr} {elts : List Expr} {f : SEnv → Mo SV} {fs : SEnv → Mo (List SV)} {ta : TE} {ts : TA} {p pos tpos : Pos} {kk : Nat}
theorem mi_list (ha : ME X C W a f ta) : MI X C W tg a (mIL f) (iList X.K ta) := ⟨pi_list ha.pe, fun m env σ H st Q r st' R z p => by
  refine ok_mb (t := ta) ha.ok R z p fun v m1 H1 s st1 x1 R1 q1 z1 p1 => ?_
  cases e1 : lstOf st1 s with
  | none => rw [e1] at z1; cases z1
  | some xs =>
    rw [e1] at z1
    cases z1
    obtain ⟨a, vs, rfl, h1, h2⟩ := lstOf_ok R1.sr q1 e1
    refine ⟨a, rfl, ⟨vs, h1⟩, p1 _ m1 H1 Ex.refl R1 fun m2 H2 st2 x2 S2 ok => ?_⟩
    obtain ⟨a', ws, ea, h3, h4⟩ := lstOf_ok S2 (q1.ex x2) ok
    cases ea
    refine ⟨fun i x hx => ?_, ⟨ws, h3, by unfold ones; rw [List.length_map, pr_len h4]; exact Nat.le_refl _⟩⟩
    unfold ones at hx
    rw [List.getElem?_map] at hx
    cases e2 : xs[i]? with
    | none => rw [e2] at hx; cases hx
    | some s2 =>
      rw [e2] at hx
      cases hx
      obtain ⟨w, h5, h6⟩ := pr_get h4 e2
      refine ⟨⟨ws, w, h3, h5⟩, fun y H3 hy => ?_⟩
      obtain ⟨rfl, hy⟩ := hy
      have e : y = w := Option.some.inj ((hy _ h3).symm.trans h5)
      rw [e]
      exact ⟨Same.refl _, h6⟩⟩
theorem mi_enum (hm : X.mg "enumerate" = none) (ha : MA X C W [a] fs ts) (hg : Gl X "enumerate" := by rfl) (hs : starEach [a] X.env = [(false, eval a X.env)] := by rfl) :
    MI X C W (.Tuple elts kk tpos) (.Call (.Name "enumerate" p) [a] [] pos) (mIEn fs) (iEnum X.K ts) := ⟨pi_enum hg hm ha.pa hs, fun m env σ H st Q r st' R z p => by
  refine ok_mb (t := ts) ha.ok R z p fun us m1 H1 ss st1 x1 R1 q1 z1 p1 => ?_
  match ss, us, q1, z1 with
  | [s], _, .cons (a := v) q1 .nil, z1 =>
    simp only at z1
    cases e1 : lstOf st1 s with
    | none => rw [e1] at z1; cases z1
    | some xs =>
      rw [e1] at z1
      cases z1
      obtain ⟨a, vs, rfl, h1, h2⟩ := lstOf_ok R1.sr q1 e1
      refine ⟨a, vs, rfl, h1, p1 _ m1 H1 Ex.refl R1 fun m2 H2 st2 x2 S2 ok => ?_⟩
      obtain ⟨a', ws, ea, h3, h4⟩ := lstOf_ok S2 (q1.ex x2) ok
      cases ea
      refine ⟨fun i x hx => ?_, ⟨ws, h3, by unfold enumI; rw [List.length_map, List.length_zipIdx, pr_len h4]; exact Nat.le_refl _⟩⟩
      unfold enumI at hx
      rw [List.getElem?_map, List.getElem?_zipIdx] at hx
      cases e2 : xs[i]? with
      | none => rw [e2] at hx; cases hx
      | some s2 =>
        rw [e2] at hx
        simp only [Option.map_some, Nat.zero_add] at hx
        cases hx
        obtain ⟨w, h5, h6⟩ := pr_get h4 e2
        refine ⟨⟨ws, w, h3, h5⟩, fun y H3 hy => ?_⟩
        obtain ⟨T, y', rfl, nT, rfl, hy⟩ := hy
        have e : y' = w := Option.some.inj ((hy _ h3).symm.trans h5)
        subst e
        have g := S2.grow (same_new (o := .tup [.int (i : Nat), y']) nT)
        exact ⟨same_new nT, T, _, _, rfl, SqT.of upd_same, .int _, h6.ex g.2⟩⟩
theorem mi_zip (hm : X.mg "zip" = none) (ha : MA X C W [a, b] fs ts) (hg : Gl X "zip" := by rfl) (hs : starEach [a, b] X.env = (false, eval a X.env) :: starEach [b] X.env := by rfl) (hpl : (backTo pos (starEach [b] X.env)).any (·.1) = false := by rfl) :
    MI X C W (.Tuple elts kk tpos) (.Call (.Name "zip" p) [a, b] [] pos) (mIZp fs) (iZip X.K ts) := ⟨pi_zip hg hm ha.pa hs hpl, fun m env σ H st Q r st' R z p => by
  refine ok_mb (t := ts) ha.ok R z p fun us m1 H1 ss st1 x1 R1 q1 z1 p1 => ?_
  match ss, us, q1, z1 with
  | [s, s'], _, .cons (a := v) q1 (.cons (a := v') q1' .nil), z1 =>
    simp only at z1
    cases e1 : lstOf st1 s with
    | none => rw [e1] at z1; cases z1
    | some xs =>
      rw [e1] at z1
      simp only [Option.bind_some] at z1
      cases e2 : lstOf st1 s' with
      | none => rw [e2] at z1; cases z1
      | some ys =>
        rw [e2] at z1
        cases z1
        obtain ⟨a, vs, rfl, h1, h2⟩ := lstOf_ok R1.sr q1 e1
        obtain ⟨b, us, rfl, g1, g2⟩ := lstOf_ok R1.sr q1' e2
        refine ⟨a, b, vs, us, rfl, h1, g1, p1 _ m1 H1 Ex.refl R1 fun m2 H2 st2 x2 S2 ok => ?_⟩
        obtain ⟨a', ws, ea, h3, h4⟩ := lstOf_ok S2 (q1.ex x2) ok.1
        cases ea
        obtain ⟨b', zs, eb, g3, g4⟩ := lstOf_ok S2 (q1'.ex x2) ok.2
        cases eb
        refine ⟨fun i x hx => ?_, ⟨ws, zs, h3, g3, by
          have l1 := pr_len h4
          have l2 := pr_len g4
          unfold zipI
          rw [List.length_zipWith]
          omega⟩⟩
        unfold zipI at hx
        rw [List.getElem?_zipWith] at hx
        cases e3 : xs[i]? with
        | none => rw [e3] at hx; cases hx
        | some s2 =>
          cases e4 : ys[i]? with
          | none => rw [e3, e4] at hx; cases hx
          | some s3 =>
            rw [e3, e4] at hx
            cases hx
            obtain ⟨w, h5, h6⟩ := pr_get h4 e3
            obtain ⟨w', g5, g6⟩ := pr_get g4 e4
            refine ⟨⟨ws, zs, w, w', h3, g3, h5, g5⟩, fun y H3 hy => ?_⟩
            obtain ⟨T, y1, y2, rfl, nT, rfl, hy1, hy2⟩ := hy
            have e : y1 = w := Option.some.inj ((hy1 _ h3).symm.trans h5)
            subst e
            have e : y2 = w' := Option.some.inj ((hy2 _ g3).symm.trans g5)
            subst e
            have g := S2.grow (same_new (o := .tup [y1, y2]) nT)
            exact ⟨same_new nT, T, _, _, rfl, SqT.of upd_same, h6.ex g.2, g6.ex g.2⟩⟩
theorem itr_rng {K : PySem.W.Frag} {m1 : List Addr} {H1 : Hp} {lo : Int} {n : Nat} : ItR K C m1 H1 (Itr lo n) ⟨rngI lo n, fun _ => True⟩ := fun m2 H2 st2 x2 S2 _ => by
  refine ⟨fun i x hx => ?_, by unfold rngI; show n ≤ _; rw [List.length_map, List.length_range]; exact Nat.le_refl _⟩
  unfold rngI at hx
  simp only at hx
  rw [List.getElem?_map] at hx
  by_cases hi : i < n
  · rw [List.getElem?_range hi] at hx
    cases hx
    refine ⟨hi, fun y H3 hy => ?_⟩
    obtain ⟨rfl, rfl⟩ := hy
    exact ⟨Same.refl _, .int _⟩
  · rw [List.getElem?_eq_none (by rw [List.length_range]; omega)] at hx
    cases hx
theorem mi_range1 (hm : X.mg "range" = none) (ha : MA X C W [a] fs ts) (hg : Gl X "range" := by rfl) (hs : starEach [a] X.env = [(false, eval a X.env)] := by rfl) : MI X C W tg (.Call (.Name "range" p) [a] [] pos) (mIR1 fs) (iRng1 ts) := ⟨pi_range1 hg hm ha.pa hs, fun m env σ H st Q r st' R z p => by
  refine ok_mb (t := ts) ha.ok R z p fun us m1 H1 ss st1 x1 R1 q1 z1 p1 => ?_
  match ss, us, q1, z1 with
  | [s], _, .cons (a := v) q1 .nil, z1 =>
    simp only at z1
    cases e1 : intOf s with
    | none => rw [e1] at z1; cases z1
    | some j =>
      rw [e1] at z1
      simp only [Option.bind_some] at z1
      by_cases hb : -1000000 < j ∧ j < 1000000
      · rw [if_pos hb] at z1
        cases z1
        obtain rfl := intOf_ok q1 e1
        exact ⟨j, rfl, by omega, by omega, p1 _ m1 H1 Ex.refl R1 itr_rng⟩
      · rw [if_neg hb] at z1; cases z1⟩
theorem mi_range2 (hm : X.mg "range" = none) (ha : MA X C W [a, b] fs ts) (hg : Gl X "range" := by rfl) (hs : starEach [a, b] X.env = [(false, eval a X.env), (false, eval b X.env)] := by rfl) (hs2 : starEach [b] X.env = [(false, eval b X.env)] := by rfl) :
    MI X C W tg (.Call (.Name "range" p) [a, b] [] pos) (mIR2 fs) (iRng2 ts) := ⟨pi_range2 hg hm ha.pa hs hs2, fun m env σ H st Q r st' R z p => by
  refine ok_mb (t := ts) ha.ok R z p fun us m1 H1 ss st1 x1 R1 q1 z1 p1 => ?_
  match ss, us, q1, z1 with
  | [s, s'], _, .cons (a := v) q1 (.cons (a := v') q1' .nil), z1 =>
    simp only at z1
    cases e1 : intOf s with
    | none => rw [e1] at z1; cases z1
    | some i =>
      cases e2 : intOf s' with
      | none => rw [e1, e2] at z1; cases z1
      | some j =>
        rw [e1, e2] at z1
        simp only [Option.bind_some] at z1
        by_cases hb : (-1000000 < i ∧ i < 1000000) ∧ -1000000 < j ∧ j < 1000000
        · rw [if_pos hb] at z1
          cases z1
          obtain rfl := intOf_ok q1 e1
          obtain rfl := intOf_ok q1' e2
          exact ⟨i, j, rfl, by omega, p1 _ m1 H1 Ex.refl R1 itr_rng⟩
        · rw [if_neg hb] at z1; cases z1⟩
end
/-! ### loops -/
open Classical in
noncomputable def forZ (ok : Store → Prop) (set : GSem) (g : Zsem) (kl : List Nat) : List Itm → Zsem
  | [], e, st => if ok st then some (.nx e, st) else none
  | x :: xs, e, st => if ok st then (set x e st).bind fun r => (g r.1 r.2).bind fun q => match q with
    | (.nx e', st') => forZ ok set g kl xs (kilM kl e') st'
    | (.ct e', st') => forZ ok set g kl xs (kilM kl e') st'
    | (.bk e', st') => some (.nx (kilM kl e'), st')
    | (.rt v, st') => some (.rt v, st')
    | (.ex c e', st') => some (.ex c e', st')
  else none
noncomputable def zFor (set : GSem) (g : Zsem) (kl : List Nat) (f : SEnv → Mo Src) : Zsem := zB f fun s env st => forZ s.ok set g kl s.its (kilM kl env) st
def whZ (c : SEnv → Mo Bool) (g : Zsem) (kl : List Nat) : Nat → Zsem
  | 0, _, _ => none
  | n + 1, e, st => (c e st).bind fun b => match b with
    | (.ok false, st1) => some (.nx e, st1)
    | (.ok true, st1) => (g e st1).bind fun q => match q with
      | (.nx e', st') => whZ c g kl n (kilM kl e') st'
      | (.ct e', st') => whZ c g kl n (kilM kl e') st'
      | (.bk e', st') => some (.nx e', st')
      | (.rt v, st') => some (.rt v, st')
      | (.ex c e', st') => some (.ex c e', st')
    | (.ex k, st1) => some (.ex k e, st1)
open Classical in
noncomputable def zWhile (c : SEnv → Mo Bool) (g : Zsem) (kl : List Nat) : Zsem := fun e st => if h : ∃ n r, whZ c g kl n (kilM kl e) st = some r then some (choose (choose_spec h)) else none
section
variable {c : SEnv → Mo Bool} {g : Zsem} {kl : List Nat}
theorem whZ_succ : ∀ {n : Nat} {e : SEnv} {st : Store} {r : Rz × Store}, whZ c g kl n e st = some r → whZ c g kl (n + 1) e st = some r
  | 0, _, _, _, h => by cases h
  | n + 1, e, st, r, h => by
    unfold whZ at h ⊢
    cases e1 : c e st with
    | none => rw [e1] at h; cases h
    | some b =>
      rw [e1] at h
      obtain ⟨b, st1⟩ := b
      simp only [Option.bind_some] at h ⊢
      cases b with
      | ex k => exact h
      | ok b =>
        cases b with
        | false => exact h
        | true =>
          simp only at h ⊢
          cases e2 : g e st1 with
          | none => rw [e2] at h; cases h
          | some q =>
            rw [e2] at h
            obtain ⟨q, st2⟩ := q
            simp only [Option.bind_some] at h ⊢
            cases q with
            | nx e' => exact whZ_succ h
            | ct e' => exact whZ_succ h
            | bk e' => exact h
            | rt d => exact h
            | ex k e' => exact h
theorem whZ_add {n : Nat} {e : SEnv} {st : Store} {r : Rz × Store} (h : whZ c g kl n e st = some r) : ∀ m, whZ c g kl (n + m) e st = some r
  | 0 => h
  | m + 1 => whZ_succ (whZ_add h m)
theorem whZ_det {n m : Nat} {e : SEnv} {st : Store} {r q : Rz × Store} (h : whZ c g kl n e st = some r) (h' : whZ c g kl m e st = some q) : r = q := by
  have a := whZ_add h m
  have b := whZ_add h' n
  rw [Nat.add_comm m n, a] at b
  exact Option.some.inj b
theorem zWhile_of {n : Nat} {e : SEnv} {st : Store} {r : Rz × Store} (h : whZ c g kl n (kilM kl e) st = some r) : zWhile c g kl e st = some r := by
  unfold zWhile
  have hh : ∃ n r, whZ c g kl n (kilM kl e) st = some r := ⟨n, r, h⟩
  rw [dif_pos hh]
  exact congrArg some (whZ_det (Classical.choose_spec (Classical.choose_spec hh)) h)
theorem zWhile_ex {e : SEnv} {st : Store} {r : Rz × Store} (h : zWhile c g kl e st = some r) : ∃ n, whZ c g kl n (kilM kl e) st = some r := by
  unfold zWhile at h
  by_cases hh : ∃ n r, whZ c g kl n (kilM kl e) st = some r
  · rw [dif_pos hh] at h
    cases h
    exact ⟨_, Classical.choose_spec (Classical.choose_spec hh)⟩
  · rw [dif_neg hh] at h; cases h
end
section
variable {X : Cx} {C : CT} {W : WX} {tg iter cd : Expr} {is : List Nat} {set : GSem} {g : Zsem} {f : SEnv → Mo Src} {c : SEnv → Mo Bool} {wi : TI} {gt : TG} {tb : TS} {tc : TT} {body : List Stmt} {pos : Pos}
theorem ms_for (kl : List Nat) (hp : PassesOwn (model X.prog X.w) X.A X.env X.xe) (hc : X.calm = true) (hi : MI X C W tg iter f wi) (hg : MG X C tg is set gt) (hb : MSs X C W body g tb) (hs : ∀ x, foldedSetIterable iter X.env x = pure x := by intro _; rfl) :
    MS X C W (.For tg iter body [] pos) (zFor set g kl f) (tFor wi gt tb) := ⟨ps_for hp hc hi.pi hg.pg hb.ps hs, fun m env σ H st D res stf R z p => by
  refine ok_zB (tt := wi) hi.ok R z p fun J m1 H1 s st1 x1 R1 it z1 p1 => ?_
  refine ⟨fun i n σ' H' => ∃ mm env' st' rest, MR X.K C st' env' mm σ' H' ∧ Ex m1 H1 mm H' ∧ s.its.drop i = rest ∧ n = rest.length ∧ i + rest.length = s.its.length ∧ forZ s.ok set g kl rest env' st' = some (res, stf),
    ⟨s.its.length, m1, _, st1, s.its, MR.kil kl R1, Ex.refl, rfl, rfl, Nat.zero_add _, z1⟩, ?_⟩
  rintro i n σ' H' ⟨mm, env', st', rest, R', x', hd, rfl, hl, hf⟩
  cases rest with
  | nil =>
    unfold forZ at hf
    by_cases ok : s.ok st'
    · rw [if_pos ok] at hf
      cases hf
      simp only [List.length_nil, Nat.add_zero] at hl
      subst hl
      exact .inl ⟨(it mm H' _ x' R'.sr ok).2, p1 mm σ' H' x' R'⟩
    · rw [if_neg ok] at hf; cases hf
  | cons x xs =>
    unfold forZ at hf
    by_cases ok : s.ok st'
    · rw [if_pos ok] at hf
      have hx : s.its[i]? = some x := by
        have := congrArg (fun l => l[0]?) hd
        simpa using this
      have hd2 : s.its.drop (i + 1) = xs := by
        have := congrArg List.tail hd
        simpa [List.tail_drop] using this
      obtain ⟨hgo, hy⟩ := (it mm H' st' x' R'.sr ok).1 i x hx
      cases e2 : set x env' st' with
      | none => rw [e2] at hf; cases hf
      | some r =>
        rw [e2] at hf
        obtain ⟨e3, st3⟩ := r
        simp only [Option.bind_some] at hf
        cases e4 : g e3 st3 with
        | none => rw [e4] at hf; cases hf
        | some q =>
          rw [e4] at hf
          obtain ⟨q, st4⟩ := q
          simp only [Option.bind_some] at hf
          refine .inr ⟨hgo, fun σ2 H2 => ∃ mm env2 st2, MR X.K C st2 env2 mm σ2 H2 ∧ Ex m1 H1 mm H2 ∧ forZ s.ok set g kl xs env2 st2 = some (res, stf), fun σ2 H2 ⟨m2, env2, st2, h1, h2, h3⟩ => ⟨xs.length, by simp, m2, env2, st2, xs, h1, h2, hd2, rfl, by rw [List.length_cons] at hl; omega, h3⟩, fun y H2 yl => ?_⟩
          obtain ⟨s2, ir⟩ := hy y H2 yl
          obtain ⟨S2, x2⟩ := R'.sr.grow s2
          refine hg.ok mm env' σ' H2 st' y x _ e3 st3 (R'.ex S2 x2) ir e2 fun m3 σ3 H3 x3 R3 _ _ => ?_
          have x03 := (x'.trans x2).trans x3
          refine hb.ok m3 e3 σ3 H3 st3 _ q st4 R3 e4 ?_
          cases q with
          | nx e5 => exact fun m5 σ5 H5 x5 R5 => ⟨m5, _, st4, MR.kil kl R5, x03.trans x5, hf⟩
          | ct e5 => exact fun m5 σ5 H5 x5 R5 => ⟨m5, _, st4, MR.kil kl R5, x03.trans x5, hf⟩
          | bk e5 => cases hf; exact fun m5 σ5 H5 x5 R5 => p1 m5 σ5 H5 (x03.trans x5) (MR.kil kl R5)
          | rt d => cases hf; exact fun v m5 H5 x5 => p1 v m5 H5 (x03.trans x5)
          | ex k e5 => cases hf; exact fun m5 σ5 H5 x5 => p1 m5 σ5 H5 (x03.trans x5)
    · rw [if_neg ok] at hf; cases hf⟩
theorem ms_while (kl : List Nat) (hp : PassesOwn (model X.prog X.w) X.A X.env X.xe) (hc : MT X C W cd c tc) (hb : MSs X C W body g tb) : MS X C W (.While cd body [] pos) (zWhile c g kl) (tWhile tc tb) := ⟨ps_while hp hc.pt hb.ps, fun m env σ H st D res stf R z p => by
  obtain ⟨n, hn⟩ := zWhile_ex z
  refine ⟨fun n σ' H' => ∃ mm env' st', MR X.K C st' env' mm σ' H' ∧ Ex m H mm H' ∧ whZ c g kl n env' st' = some (res, stf), ⟨n, m, _, st, MR.kil kl R, Ex.refl, hn⟩, ?_⟩
  rintro n σ' H' ⟨mm, env', st', R', x', hw⟩
  cases n with
  | zero => cases hw
  | succ n =>
    unfold whZ at hw
    cases e1 : c env' st' with
    | none => rw [e1] at hw; cases hw
    | some b =>
      rw [e1] at hw
      obtain ⟨b, st1⟩ := b
      simp only [Option.bind_some] at hw
      refine hc.ok mm env' σ' H' st' _ b st1 R' e1 ?_
      cases b with
      | ex k => cases hw; exact fun m2 H2 x2 R2 => p m2 σ' H2 (x'.trans x2) R2
      | ok b =>
        intro b' m1 H1 x1 R1 eb
        cases eb
        cases b with
        | false => cases hw; exact iteF (p m1 σ' H1 (x'.trans x1) R1)
        | true =>
          refine iteT ?_
          simp only at hw
          cases e2 : g env' st1 with
          | none => rw [e2] at hw; cases hw
          | some q =>
            rw [e2] at hw
            obtain ⟨q, st2⟩ := q
            simp only [Option.bind_some] at hw
            have x01 := x'.trans x1
            refine ⟨fun σ2 H2 => ∃ mm env2 st2, MR X.K C st2 env2 mm σ2 H2 ∧ Ex m H mm H2 ∧ whZ c g kl n env2 st2 = some (res, stf), fun σ2 H2 h => ⟨n, Nat.lt_succ_self _, h⟩, ?_⟩
            refine hb.ok m1 env' σ' H1 st1 _ q st2 R1 e2 ?_
            cases q with
            | nx e5 => exact fun m5 σ5 H5 x5 R5 => ⟨m5, _, st2, MR.kil kl R5, x01.trans x5, hw⟩
            | ct e5 => exact fun m5 σ5 H5 x5 R5 => ⟨m5, _, st2, MR.kil kl R5, x01.trans x5, hw⟩
            | bk e5 => cases hw; exact fun m5 σ5 H5 x5 R5 => p m5 σ5 H5 (x01.trans x5) R5
            | rt d => cases hw; exact fun v m5 H5 x5 => p v m5 H5 (x01.trans x5)
            | ex k e5 => cases hw; exact fun m5 σ5 H5 x5 => p m5 σ5 H5 (x01.trans x5)⟩
end
/-! ### comprehensions: a cell that grows -/
abbrev W0 : WX := fun _ _ _ _ => False
open Classical in
noncomputable def compZ (ok : Store → Prop) (set : GSem) (c : SEnv → Mo Bool) (h : SEnv → Mo SV) (r : Nat) (e : SEnv) : List Itm → Store → Option Store
  | [], st => if ok st then some st else none
  | x :: xs, st => if ok st then (set x e st).bind fun q => (okv (c q.1 q.2)).bind fun b => match b with
    | (false, st1) => compZ ok set c h r e xs st1
    | (true, st1) => (okv (h q.1 st1)).bind fun v => match v.2[r]? with
      | some (.lst acc) => if acc.length < 1000000 then compZ ok set c h r e xs (v.2.set r (.lst (acc ++ [v.1]))) else none
      | _ => none
  else none
noncomputable def mComp (ws : List Nat) (set : GSem) (c : SEnv → Mo Bool) (h : SEnv → Mo SV) (f : SEnv → Mo Src) (env : SEnv) : Mo SV := mb (f env) fun s st => (compZ s.ok set c h st.length (kilM ws env) s.its (st ++ [.lst []])).map fun st' => (.ok (.ref st.length), st')
def mYes (_ : SEnv) : Mo Bool := mret true
structure MTs (X : Cx) (C : CT) (W : WX) (es : List Expr) (f : SEnv → Mo Bool) (t : TT) : Prop where
  pt : PTs X es t
  ok : OkG X.K C W relT f t
section
variable {X : Cx} {C : CT} {W : WX} {tg iter elt : Expr} {ifs : List Expr} {is : List Nat} {set : GSem} {f : SEnv → Mo Src} {c : SEnv → Mo Bool} {h : SEnv → Mo SV} {wi : TI} {gt : TG} {tt : TT} {te : TE} {scope : Scope} {own : List (Str × Nat)} {pos : Pos}
theorem mts_nil : MTs X C W [] mYes tYes := ⟨pts_nil, fun m env σ H st Q r st' R z p => by cases z; exact p true m H Ex.refl R rfl⟩
theorem mts_one {e : Expr} (h : MT X C W e c tt) : MTs X C W [e] c tt := ⟨pts_one h.pt, h.ok⟩
theorem ok_mComp {K : PySem.W.Frag} {ws : List Nat} (hi : OkG K C W (ItR K C) f wi) (hg : OkT1 K C (IR K) is set gt) (his : ∀ j ∈ is, j ∈ ws) (hc : OkG K C W0 relT c tt) (he : OkG K C W0 (VR K) h te) :
    OkG K C W (VR K) (mComp ws set c h f) (tLc wi gt tt te ws) := fun m env σ H st Q r stf R z p => by
  refine ok_mb (t := wi) hi R z p fun J m1 H1 s st1 x1 R1 it z1 p1 => ?_
  cases e0 : compZ s.ok set c h st1.length (kilM ws env) s.its (st1 ++ [.lst []]) with
  | none => rw [e0] at z1; cases z1
  | some st9 =>
    rw [e0] at z1
    cases z1
    intro Dn hD
    obtain ⟨R2, x2, y2⟩ := R1.new (same_new (o := .lst []) hD) hD (c := .lst []) ⟨[], upd_same, .nil⟩
    refine ⟨fun i n H' => ∃ mm st' rest, MR K C st' (kilM ws env) mm (wipe σ ws) H' ∧ MR K C st' env mm σ H' ∧ Ex (m1 ++ [Dn]) (upd H1 Dn (.lst [])) mm H' ∧ s.its.drop i = rest ∧ n = rest.length ∧ i + rest.length = s.its.length ∧ compZ s.ok set c h st1.length (kilM ws env) rest st' = some stf,
      ⟨s.its.length, _, _, s.its, MR.wipe ws R2, R2, Ex.refl, rfl, rfl, Nat.zero_add _, e0⟩, ?_⟩
    rintro i n H' ⟨mm, st', rest, R', Re, x', hd, rfl, hl, hf⟩
    have hr : ∃ a, mm[st1.length]? = some a ∧ V.ref Dn = .ref a := (y2.ex x')
    obtain ⟨a, hr, ea⟩ := hr
    cases ea
    cases rest with
    | nil =>
      unfold compZ at hf
      by_cases ok : s.ok st'
      · rw [if_pos ok] at hf
        cases hf
        simp only [List.length_nil, Nat.add_zero] at hl
        subst hl
        exact .inl ⟨(it mm H' _ (x2.trans x') R'.sr ok).2, p1 _ mm H' (x2.trans x') Re (y2.ex x')⟩
      · rw [if_neg ok] at hf; cases hf
    | cons x xs =>
      unfold compZ at hf
      by_cases ok : s.ok st'
      · rw [if_pos ok] at hf
        have hx : s.its[i]? = some x := by
          have := congrArg (fun l => l[0]?) hd
          simpa using this
        have hd2 : s.its.drop (i + 1) = xs := by
          have := congrArg List.tail hd
          simpa [List.tail_drop] using this
        obtain ⟨hgo, hy⟩ := (it mm H' st' (x2.trans x') R'.sr ok).1 i x hx
        cases e2 : set x (kilM ws env) st' with
        | none => rw [e2] at hf; cases hf
        | some r =>
          rw [e2] at hf
          obtain ⟨e3, st3⟩ := r
          simp only [Option.bind_some] at hf
          cases e4 : okv (c e3 st3) with
          | none => rw [e4] at hf; cases hf
          | some b =>
            rw [e4] at hf
            obtain ⟨b, st4⟩ := b
            simp only [Option.bind_some] at hf
            refine .inr ⟨hgo, fun H' => ∃ mm st', MR K C st' (kilM ws env) mm (wipe σ ws) H' ∧ MR K C st' env mm σ H' ∧ Ex (m1 ++ [Dn]) (upd H1 Dn (.lst [])) mm H' ∧ compZ s.ok set c h st1.length (kilM ws env) xs st' = some stf,
              fun H2 ⟨m2, st2, q1, q1', q2, q3⟩ => ⟨xs.length, by simp, m2, st2, xs, q1, q1', q2, hd2, rfl, by rw [List.length_cons] at hl; omega, q3⟩, fun y H2 yl => ?_⟩
            obtain ⟨s2, ir⟩ := hy y H2 yl
            obtain ⟨S2, xg⟩ := R'.sr.grow s2
            refine hg mm _ _ H2 st' y x _ e3 st3 (R'.ex S2 xg) ir e2 fun m3 σ3 H3 x3 R3 l3 k3 => ?_
            refine ⟨(wipe_same l3 fun j hj => k3 j fun w => hj (his j w)).trans wipe_wipe, ?_⟩
            have x03 := xg.trans x3
            refine hc m3 e3 σ3 H3 st3 _ (.ok b) st4 R3 (okv_ok e4) fun b' m4 H4 x4 R4 eb => ?_
            cases eb
            have x04 := x03.trans x4
            cases b with
            | false => exact iteF ⟨m4, st4, R'.ex R4.sr x04, Re.ex R4.sr x04, x'.trans x04, hf⟩
            | true =>
              refine iteT ?_
              simp only at hf
              cases e5 : okv (h e3 st4) with
              | none => rw [e5] at hf; cases hf
              | some w =>
                rw [e5] at hf
                obtain ⟨w, st5⟩ := w
                simp only [Option.bind_some] at hf
                cases e6 : st5[st1.length]? with
                | none => rw [e6] at hf; cases hf
                | some cl =>
                  rw [e6] at hf
                  cases cl with
                  | lst acc =>
                    simp only at hf
                    by_cases hz : acc.length < 1000000
                    · rw [if_pos hz] at hf
                      refine he m4 e3 σ3 H4 st4 _ (.ok w) st5 R4 (okv_ok e5) fun v m5 H5 x5 R5 q5 => ?_
                      have x05 := x04.trans x5
                      have hr5 : m5[st1.length]? = some Dn := x05.pre _ _ hr
                      obtain ⟨a2, g1, vs, g2, g3⟩ := R5.sr.cl _ _ e6
                      rw [hr5] at g1
                      cases g1
                      have Ra : MR K C st5 (kilM ws env) m5 (wipe σ ws) H5 := R'.ex R5.sr x05
                      obtain ⟨R6, x6⟩ := Ra.lst hr5 (pr_app g3 (.cons q5 .nil))
                      exact ⟨vs, g2, by rw [pr_len g3]; exact Nat.lt_of_lt_of_le hz (by decide), m5, _, R6, (Re.ex R5.sr x05).ex R6.sr x6, (x'.trans x05).trans x6, hf⟩
                    · rw [if_neg hz] at hf; cases hf
                  | _ => cases hf
      · rw [if_neg ok] at hf; cases hf
theorem fam_e {te : Fam TE} (he : ∀ s H Ca cl fp, ME (X.blk s H scope (compEnvC scope cl Ca X.env) fp) C W0 elt h (te s H Ca cl fp)) (s : Shared) (H : Hp) (Ca : Addr) (cl : List (Str × Addr)) (fp : List Addr) :
    ME (X.blk s H scope (compEnvC scope cl Ca X.env) fp) C W0 elt h (allE te) :=
  ⟨⟨fun pins s1 σ H1 Q I w => (he s H Ca cl fp).pe.run pins s1 σ H1 Q I (w s H Ca cl fp)⟩, fun m env σ H1 st Q r st' R q k s' H' C' cl' fp' => (he s' H' C' cl' fp').ok m env σ H1 st Q r st' R q k⟩
theorem fam_t {tt : Fam TT} (he : ∀ s H Ca cl fp, MTs (X.blk s H scope (compEnvC scope cl Ca X.env) fp) C W0 ifs c (tt s H Ca cl fp)) (s : Shared) (H : Hp) (Ca : Addr) (cl : List (Str × Addr)) (fp : List Addr) :
    MTs (X.blk s H scope (compEnvC scope cl Ca X.env) fp) C W0 ifs c (allT tt) :=
  ⟨⟨fun pins s1 σ H1 Q I w => (he s H Ca cl fp).pt.run pins s1 σ H1 Q I (w s H Ca cl fp)⟩, fun m env σ H1 st Q r st' R q k s' H' C' cl' fp' => (he s' H' C' cl' fp').ok m env σ H1 st Q r st' R q k⟩
theorem fam_g {g : Fam TG} (he : ∀ s H Ca cl fp, MG (X.blk s H scope (compEnvC scope cl Ca X.env) fp) C tg is set (g s H Ca cl fp)) (s : Shared) (H : Hp) (Ca : Addr) (cl : List (Str × Addr)) (fp : List Addr) :
    MG (X.blk s H scope (compEnvC scope cl Ca X.env) fp) C tg is set (allG g) :=
  ⟨⟨fun pins s1 σ H1 v u Q I rv w => (he s H Ca cl fp).pg.run pins s1 σ H1 v u Q I rv (w s H Ca cl fp)⟩, fun m env σ H1 st x a Q env' st' R q q' k s' H' C' cl' fp' => (he s' H' C' cl' fp').ok m env σ H1 st x a Q env' st' R q q' k⟩
theorem m_comp {ws : List Nat} {te : Fam TE} {tt : Fam TT} {g : Fam TG} (hcalm : X.calm = true) (hN : X.N.Nodup) (hi : MI X C W tg iter f wi) (ok : BlkOk X.N X.env.scope scope own)
    (hg : ∀ s H Ca cl fp, MG (X.blk s H scope (compEnvC scope cl Ca X.env) fp) C tg is set (g s H Ca cl fp))
    (ht : ∀ s H Ca cl fp, MTs (X.blk s H scope (compEnvC scope cl Ca X.env) fp) C W0 ifs c (tt s H Ca cl fp))
    (he : ∀ s H Ca cl fp, ME (X.blk s H scope (compEnvC scope cl Ca X.env) fp) C W0 elt h (te s H Ca cl fp)) (hws : own.map (·.2) = ws := by rfl) (his : ∀ j ∈ is, j ∈ ws := by decide)
    (hs : ∀ x, foldedSetIterable iter X.env x = pure x := by intro _; rfl) : ME X C W (.ListComp elt [⟨tg, iter, ifs, 0⟩] scope pos) (mComp ws set c h f) (tLc wi (allG g) (allT tt) (allE te) ws) := by
  subst hws
  exact ⟨pe_lc hcalm hN hi.pi ok (fun s H Ca cl fp => (fam_g hg s H Ca cl fp).pg) (fun s H Ca cl fp => (fam_t ht s H Ca cl fp).pt) (fun s H Ca cl fp => (fam_e he s H Ca cl fp).pe) hs,
    ok_mComp hi.ok (fam_g hg ({} : Shared) (fun _ => none) 0 [] []).ok his (fam_t ht ({} : Shared) (fun _ => none) 0 [] []).ok (fam_e he ({} : Shared) (fun _ => none) 0 [] []).ok⟩
/-- y = [e for ..], on one row -/
theorem ms_setC (i : Nat) {y : Str} {py spos : Pos} {ws : List Nat} {te : Fam TE} {tt : Fam TT} {g : Fam TG} (hcalm : X.calm = true) (hN : X.N.Nodup) (hsw : swapsWith (.ListComp elt [⟨tg, iter, ifs, 0⟩] scope pos) (some (.Name y py)) spos.line X.env = pure true) (hi : MI X C W tg iter f wi) (ok : BlkOk X.N X.env.scope scope own)
    (hg : ∀ s H Ca cl fp, MG (X.blk s H scope (compEnvC scope cl Ca X.env) fp) C tg is set (g s H Ca cl fp))
    (ht : ∀ s H Ca cl fp, MTs (X.blk s H scope (compEnvC scope cl Ca X.env) fp) C W0 ifs c (tt s H Ca cl fp))
    (he : ∀ s H Ca cl fp, ME (X.blk s H scope (compEnvC scope cl Ca X.env) fp) C W0 elt h (te s H Ca cl fp)) (hws : own.map (·.2) = ws := by rfl) (his : ∀ j ∈ is, j ∈ ws := by decide)
    (hyi : X.N[i]? = some y := by rfl) (hyl : X.env.scope.names.lookup y = some .local := by rfl)
    (hs : ∀ x, foldedSetIterable iter X.env x = pure x := by intro _; rfl) : MS X C W (.Assign [.Name y py] (.ListComp elt [⟨tg, iter, ifs, 0⟩] scope pos) spos) (zSet i (mComp ws set c h f)) (tAsg (tLc wi (allG g) (allT tt) (allE te) ws) (gName i)) := by
  subst hws
  refine ⟨ps_setLc hcalm hN hyi hyl hsw hi.pi ok (fun s H Ca cl fp => (fam_g hg s H Ca cl fp).pg) (fun s H Ca cl fp => (fam_t ht s H Ca cl fp).pt) (fun s H Ca cl fp => (fam_e he s H Ca cl fp).pe) hs, fun m env σ H st D res st' R z p => ?_⟩
  have ok := ok_mComp (K := X.K) (C := C) (W := W) hi.ok (fam_g hg ({} : Shared) (fun _ => none) 0 [] []).ok his (fam_t ht ({} : Shared) (fun _ => none) 0 [] []).ok (fam_e he ({} : Shared) (fun _ => none) 0 [] []).ok
  refine ok_zB (tt := tLc wi (allG g) (allT tt) (allE te) (own.map (·.2))) ok R z p fun v m1 H1 a st1 x1 R1 q1 z1 p1 => ?_
  cases z1
  exact p1 m1 _ H1 Ex.refl (R1.put i a v q1)
end
end MV

namespace MV
open PySem PySem.Spec PyProof.Rows L2 PV
/-! ### try: body, except X as e: suite; what is caught is a cell -/
/-- a caught error is tracked -/
theorem inv_exc {X : Cx} {pins : List (Addr × Obj)} {σ : L2.St} {H : Hp} {s : Shared} {a Ca : Addr} {oe : Obj} {vs : Array Value} (I : Inv X pins σ H s) (ha : s.heap.get? a = some oe) (hc : oe.cls = .ref Ca) (hdct : oe.dict = none) (hd : oe.data = .fields vs) (na : H a = none) (nL : a ≠ X.env.locals)
    (npin : ∀ p ∈ X.pn ++ pins, p.1 ≠ a) (n0 : X.s_0.heap.get? a = none) : Inv X pins σ (upd H a (.ext (ExcAt Ca a))) s := by
  have nc : ∀ x c, X.env.cells.lookup x = some c → c ≠ a := fun x c e z => by
    obtain ⟨v, o, ho, hv⟩ := I.cell x c e
    rw [z, ha] at ho
    cases ho
    rw [hd] at hv
    cases hv
  have ne : ∀ b o, H b = some o → b ≠ a := fun b o e => ne_of_none e na
  refine ⟨I.ok, I.os, I.bare, ⟨I.base.keep, I.base.slot, fun b o q n hx => ?_, I.base.there, fun b xs q => ?_, fun b o u q => ?_, fun b ps q => ?_⟩, I.loc, I.cell, ?_, fun x c e => ?_, fun p hp => ?_, fun b u e => ?_, I.len⟩
  · rw [upd_ne (fun z => (by rw [z, n0] at q; cases q))]
    exact I.base.free b o q n hx
  · have := I.base.tups b xs q
    rw [upd_ne (ne _ _ this)]; exact this
  · have := I.base.frzs b o u q
    rw [upd_ne (ne _ _ this)]; exact this
  · obtain ⟨more, this⟩ := I.base.tbls b ps q
    exact ⟨more, by rw [upd_ne (ne _ _ this)]; exact this⟩
  · rw [upd_ne (Ne.symm nL)]; exact I.free
  · rw [upd_ne (nc x c e)]; exact I.freeC x c e
  · obtain ⟨h1, h2, h3, h4, h5⟩ := I.pin p hp
    exact ⟨h1, by rw [upd_ne (npin p hp)]; exact h2, h3, h4, h5⟩
  · by_cases hb : b = a
    · subst hb
      rw [upd_same] at e
      cases e
      refine ⟨⟨oe, vs, ha, hc, hdct, hd⟩, ⟨oe, ha⟩, fun h1 h2 ⟨o, w, e1, e2, e3, e4⟩ k => ⟨o, w, k o e1, e2, e3, e4⟩⟩
    · rw [upd_ne hb] at e
      exact (I.hok b u e).stay (fun _ _ _ q => q) (fun c q => by rw [upd_ne (ne _ _ q)]; exact q) fun c xs q => by rw [upd_ne (ne _ _ q)]; exact q
abbrev suiteT (X : Cx) (a : Addr) (pn : List (Addr × Obj)) : Cx := { X with A := X.A.mark (some (.ref a)), calm := false, pn := pn, xe := fun _ _ => False }
theorem okT {X : Cx} (ok : X.Ok) (a : Addr) (pn : List (Addr × Obj)) : (suiteT X a pn).Ok :=
  ⟨ok.mod, ok.kind, ok.glob, ok.blt, ok.above, ok.inj, ok.has, ok.cab, (fun z => absurd (show false = true from z) Bool.false_ne_true), ok.frames, ok.stk, ok.exf, ok.bs, ok.bsz, ok.noex, ok.exfs, ok.funs, ok.frf⟩
theorem invT {X : Cx} {pins : List (Addr × Obj)} {σ : L2.St} {H : Hp} {s : Shared} (I : Inv X pins σ H s) (a : Addr) : Inv (suiteT X a (X.pn ++ pins)) [] σ H s :=
  ⟨okT I.ok _ _, I.os, I.bare, I.base, I.loc, I.cell, I.free, I.freeC, fun p hp => I.pin p (by rw [List.append_nil] at hp; exact hp), I.hok, I.len⟩
theorem invU {X : Cx} {pins : List (Addr × Obj)} {σ : L2.St} {H : Hp} {s : Shared} {a : Addr} (I : Inv (suiteT X a (X.pn ++ pins)) [] σ H s) (ok : X.Ok) : Inv X pins σ H s :=
  ⟨ok, I.os, I.bare, I.base, I.loc, I.cell, I.free, I.freeC, fun p hp => I.pin p (by rw [List.append_nil]; exact hp), I.hok, I.len⟩
/-- what the clause wishes of an exception of the body: it is tracked from then on -/
def wTr (K : PySem.W.Frag) (c : Value) (i : Nat) (ts : TS) (Wout : WX) (D : Ends) : WX := fun cls d σ H =>
  ∃ b, PySem.W.exmOne K cls c = some b ∧ (b = true → ∃ Ca, cls = .ref Ca ∧ d = none ∧ ∀ a, H a = none → ts { nx := fun σ' H' => D.nx (σ'.set i none) H', rt := D.rt, bk := fun σ' H' => D.bk (σ'.set i none) H', ct := fun σ' H' => D.ct (σ'.set i none) H' } (σ.set i (some (.ref a))) (upd H a (.ext (ExcAt Ca a)))) ∧
    (b = false → Wout cls d σ H)
section
variable {X : Cx} {x n : Str} {c : Value} {i : Nat} {body suite : List Stmt} {b₀ : Stmt} {np pos pos' : Pos} {tb : WX → TS} {ts : TS} {Wout : WX}
theorem ps_try_tr (hs : X.stack = X.env :: X.outer) (hf : X.env.frame = some X.env.locals) (hex : X.ex = []) (hN : X.N.Nodup) (hi : X.N[i]? = some n) (hln : X.env.kindOf n = some .local) (hc : Names X x c) (tk : Takes X Wout)
    (hb : ∀ (W : WX) (pn : List (Addr × Obj)) (xe : Value → Shared → Prop), Takes (X.tr pn xe) W → PassesOwn (model X.prog X.w) X.A X.env xe → PSs (X.tr pn xe) body (tb W))
    (hsu : ∀ (a : Addr) (pn : List (Addr × Obj)), PSs (suiteT X a pn) (b₀ :: suite) ts) :
    PS X (.Try body [.ExceptHandler (some (.Name x np)) (some n) (b₀ :: suite) pos'] [] [] pos) (fun D σ H => tb (wTr X.K c i ts Wout D) D σ H) := by
  refine ⟨fun pins s σ H D I h => ?_⟩
  have ok := I.ok
  have hfr : X.A.frames = some (X.env :: X.outer) := by rw [ok.frames, hs]
  have hloc : Loc X.env.scope n := .inl hln
  refine wpAny_Try_except ?_
  refine wpAny_mono ((hb (wTr X.K c i ts Wout D) (X.pn ++ pins) (fun e s₁ => wpAny (model X.prog X.w) X.A (noteFrame e X.env) (fun _ s₂ => wpAny (model X.prog X.w) X.A (setFlight e none) (fun _ s₃ =>
    wpAny (model X.prog X.w) X.A (handleBy e X.env [.ExceptHandler (some (.Name x np)) (some n) (b₀ :: suite) pos']) (SP X pins D) X.xe s₃) X.xe s₂) X.xe s₁) (fun u s' xx => ?_) PassesOwn.looking).run [] s σ H D (I.toTry _) h) (fun f s1 hsp => ?_) (fun e s1 he => he)
  · -- the catch
    obtain ⟨a, B, sI, pins', σ', H', cls, d, rfl, J', nb, up, sky, na, os, ag, b, hb1, hyes, hno⟩ := xx
    have J : Inv X pins σ' H' sI := J'.ofTry ok
    have sky' : Sky B (X.env :: X.outer) a (Zc cls d) X.env.locals s'.heap := by rw [← hs]; exact sky
    show wpAny (model X.prog X.w) X.A (noteFrame (.ref a) X.env) _ _ _
    refine Sky.land Zc.steady hfr hf sky' fun h3 fl3 up3 => ?_
    have J3 : Inv X pins σ' H' { s' with heap := h3 } := J.landed nb fl3.1 (up.trans up3) os ag
    obtain ⟨oe3, vs3, he3, hz3, hd3⟩ := fl3.there
    have notFr : ∀ {h : Heap} {o : Obj} {vs : Array Value}, h.FunFrames B (X.env :: X.outer) → h.get? a = some o → o.data = .fields vs → a ∉ frs (X.env :: X.outer) := fun {h o vs} ff e dd hm => by
      obtain ⟨_, o', e', hnf⟩ := ff.mem hm
      rw [e] at e'; cases e'
      exact hnf _ dd
    have nfr := notFr fl3.2.2.1 he3 hd3
    have nL : a ≠ X.env.locals := fun z => nfr (List.mem_filterMap.mpr ⟨X.env, List.mem_cons_self, by rw [hf, z]⟩)
    have nF : a ∉ X.fs := fun hm => by
      obtain ⟨e, he, q⟩ := List.mem_filterMap.mp hm
      exact nfr (List.mem_filterMap.mpr ⟨e, List.mem_cons_of_mem _ he, q⟩)
    have nI : sI.heap.get? a = none := by
      cases q : sI.heap.get? a with
      | none => rfl
      | some o =>
        have z := nb a o q (by rw [hs]; exact nfr)
        rw [fl3.2.1] at z
        cases z
    have n0 : X.s_0.heap.get? a = none := by
      cases q : X.s_0.heap.get? a with
      | none => rfl
      | some o =>
        obtain ⟨o', z⟩ := J.base.there a o q (by rw [hex]; intro w; cases w)
        rw [nI] at z
        cases z
    have npin : ∀ p ∈ X.pn ++ pins, p.1 ≠ a := fun p hp z => by
      have := (J.pin p hp).1
      rw [z, nI] at this
      cases this
    have S3 := J3.suite he3 hd3 na nL nF
    refine wpAny_handleBy_cons (codeAny_handlers_test ?_) (by intro q; cases q)
    have LT : PySem.W.Looks (model X.prog X.w) h3 (typeOf (.ref a)) cls := fun A Q E s k q => wpAny_typeOf_ref (k _ _ he3) (by rw [hz3.1]; exact q)
    have LM := PySem.W.exm_one (M := model X.prog X.w) (J3.kIn) LT hb1
    have test : ∀ {Q : Value → Shared → Prop} {E : Value → Shared → Prop}, Q c { s' with heap := h3 } → wpAny (model X.prog X.w) (X.A.mark (some (.ref a))) (eval (.Name x np) X.env) Q E { s' with heap := h3 } := fun {Q E} q => by
      obtain ⟨hg, hdbg, hm | ⟨hm, hv, hnn⟩⟩ := hc
      · exact ld_glob (X := X.suite a ((a, oe3) :: (X.pn ++ pins))) S3 hg hm q hdbg
      · exact ld_blt (X := X.suite a ((a, oe3) :: (X.pn ++ pins))) S3 hg hm hv q hnn hdbg
    refine test (LM.here ?_)
    cases b with
    | true =>
      refine codeAny_handlers_suite_as ?_
      refine HandSPX.lands_againZ fl3 fun h4 fl4 up4 => ?_
      have J4 : Inv X pins σ' H' { s' with heap := h4 } := J.landed nb fl4.1 ((up.trans up3).trans up4) os ag
      obtain ⟨oe4, vs4, he4, hz4, hd4⟩ := fl4.there
      obtain ⟨Ca, rfl, rfl, hy2⟩ := hyes rfl
      have J5 : Inv X pins σ' (upd H' a (.ext (ExcAt Ca a))) { s' with heap := h4 } := inv_exc J4 he4 hz4.1 hz4.2 hd4 na nL npin n0
      have S4 := invT J5 a
      refine store_ok (X := suiteT X a (X.pn ++ pins)) (v := .ref a) S4 hN hi hloc rfl (fun s5 S5 => ?_) (.inr hln)
      refine wpAny_mono ((hsu a (X.pn ++ pins)).run [] s5 _ _ _ S5 (hy2 a na)) (fun f s6 hsp => ?_) (fun _ _ z => False.elim z)
      have end_ : ∀ {σ6 : L2.St} {H6 : Hp} {Q : Shared → Prop}, Inv (suiteT X a (X.pn ++ pins)) [] σ6 H6 s6 → (∀ s7, Inv X pins (σ6.set i none) H6 s7 → Q s7) →
          wpAny (model X.prog X.w) X.A (do bindName X.env n .none; unbindBehindTheSuite X.env n pos') (fun _ s7 => Q s7) X.xe s6 := fun {σ6 H6 Q} S6 hq => gone_ok (invU S6 ok) hN hi hln hq
      cases f with
      | next =>
        obtain ⟨σ6, H6, S6, q6⟩ := hsp
        exact end_ S6 fun s7 J7 => ⟨_, _, J7, q6⟩
      | brk =>
        obtain ⟨σ6, H6, S6, q6⟩ := hsp
        exact end_ S6 fun s7 J7 => ⟨_, _, J7, q6⟩
      | cont =>
        obtain ⟨σ6, H6, S6, q6⟩ := hsp
        exact end_ S6 fun s7 J7 => ⟨_, _, J7, q6⟩
      | ret u =>
        obtain ⟨v6, σ6, H6, S6, r6, q6⟩ := hsp
        exact end_ S6 fun s7 J7 => ⟨_, _, _, J7, r6, q6⟩
    | false =>
      show wpAny _ X.A (handleBy (.ref a) X.env []) _ _ _
      refine wpAny_handleBy_nil ?_
      obtain ⟨k1, k2, k3, oe, vs, T, oT, ts', he, hz, hd, h1, hr⟩ := id fl3
      unfold PySem.passOn
      refine wpAny_bind (wpAny_field he hd h1 ?_)
      rw [if_neg (show ¬ ((Value.ref T == Value.none) = true) from by simp)]
      have fin : wpAny (model X.prog X.w) X.A (setFlight (.ref a) X.env.frame) (fun _ s4 => wpAny (model X.prog X.w) X.A (throw (.ref a) : Sem Flow) (SP X pins D) X.xe s4) X.xe { s' with heap := h3 } := by
        rw [hf]
        refine HandSPX.setFlight_upZ fl3 fun h4 hh4 up4 => wpAny_throw (tk _ _ ?_)
        exact ⟨a, B, sI, pins, σ', H', cls, d, rfl, J, nb, (up.trans up3).trans up4, .inr (.inr (by rw [hs]; exact hh4)), na, os, ag, hno rfl⟩
      first
        | exact wpAny_bind (wpAny_pure (wpAny_bind fin))
        | exact wpAny_bind fin
  · cases f with
    | next =>
      obtain ⟨σ', H', J', q⟩ := hsp
      exact wpAny_execs_nil ⟨σ', H', J'.ofTry ok, q⟩
    | brk =>
      obtain ⟨σ', H', J', q⟩ := hsp
      exact ⟨σ', H', J'.ofTry ok, q⟩
    | cont =>
      obtain ⟨σ', H', J', q⟩ := hsp
      exact ⟨σ', H', J'.ofTry ok, q⟩
    | ret u =>
      obtain ⟨v, σ', H', J', r, q⟩ := hsp
      exact ⟨v, σ', H', J'.ofTry ok, r, q⟩
end
/-- try: g, except .. as e (slot i): caught = e (slot j) -/
def zTry (p : Nat → Bool) (i j : Nat) (g : Zsem) : Zsem := fun env st => (g env st).bind fun r => match r with
  | (.ex c e, st1) => if p c = true ∧ i < e.length then some (.nx (((e.set i (some (.ref st1.length))).set j (some (.ref st1.length))).set i none), st1 ++ [.exc c]) else none
  | r => some r
section
variable {X : Cx} {C : CT} {W : WX} {x n y : Str} {c : Addr} {i j : Nat} {body : List Stmt} {np pos pos' p1 p2 p3 : Pos} {g : Zsem} {tb : WX → List (Addr × Obj) → (Value → Shared → Prop) → TS}
/-- what the classes say of the clause's class: each that may come is of it -/
def Catch (K : PySem.W.Frag) (C : CT) (c : Addr) (p : Nat → Bool) : Prop := ∀ k, p k = true → PySem.W.exmOne K (.ref (C.ca k)) (.ref c) = some true
/-- the body's reading, whatever errors are wished for around it -/
def tAll (X : Cx) (tb : WX → List (Addr × Obj) → (Value → Shared → Prop) → TS) (W : WX) : TS := fun D σ H => ∀ (pn : List (Addr × Obj)) (xe : Value → Shared → Prop), Takes (X.tr pn xe) W → PassesOwn (model X.prog X.w) X.A X.env xe → tb W pn xe D σ H
theorem mss_all {tb : WX → List (Addr × Obj) → (Value → Shared → Prop) → TS} (hb : ∀ (W : WX) (pn : List (Addr × Obj)) (xe : Value → Shared → Prop), Takes (X.tr pn xe) W → PassesOwn (model X.prog X.w) X.A X.env xe → MSs (X.tr pn xe) C W body g (tb W pn xe))
    (W : WX) (pn : List (Addr × Obj)) (xe : Value → Shared → Prop) (t : Takes (X.tr pn xe) W) (po : PassesOwn (model X.prog X.w) X.A X.env xe) : MSs (X.tr pn xe) C W body g (tAll X tb W) :=
  ⟨⟨fun pins s σ H D I h => (hb W pn xe t po).ps.run pins s σ H D I (h pn xe t po)⟩, fun m env σ H st D res st' R z p pn' xe' t' po' => (hb W pn' xe' t' po').ok m env σ H st D res st' R z p⟩
theorem okz_all {tb : WX → List (Addr × Obj) → (Value → Shared → Prop) → TS} (hb : ∀ (W : WX) (pn : List (Addr × Obj)) (xe : Value → Shared → Prop), Takes (X.tr pn xe) W → PassesOwn (model X.prog X.w) X.A X.env xe → MSs (X.tr pn xe) C W body g (tb W pn xe)) (W : WX) : OkZ X.K C W g (tAll X tb W) :=
  fun m env σ H st D res st' R z p pn' xe' t' po' => (hb W pn' xe' t' po').ok m env σ H st D res st' R z p
theorem ms_try (i j : Nat) (pr : Nat → Bool) (hs : X.stack = X.env :: X.outer) (hf : X.env.frame = some X.env.locals) (hex : X.ex = []) (hN : X.N.Nodup) (hc : Names X x (.ref c)) (tk : Takes X W) (hp : Catch X.K C c pr)
    (hb : ∀ (W : WX) (pn : List (Addr × Obj)) (xe : Value → Shared → Prop), Takes (X.tr pn xe) W → PassesOwn (model X.prog X.w) X.A X.env xe → MSs (X.tr pn xe) C W body g (tb W pn xe))
    (hi : X.N[i]? = some n := by rfl) (hj : X.N[j]? = some y := by rfl) (hln : X.env.kindOf n = some .local := by rfl) (hly : X.env.scope.names.lookup y = some .local := by rfl) (hij : i ≠ j := by decide)
    (hnd : (n == ("__debug__" : Str)) = false := by decide) (hncd : (n == ("__classdict__" : Str)) = false := by decide) (hvn : X.env.scope.names.lookup n = some .local := by rfl)
    (hsw : swapsWith (.Name n p1) (some (.Name y p2)) p3.line X.env = pure false := by rfl) :
    MS X C W (.Try body [.ExceptHandler (some (.Name x np)) (some n) [.Assign [.Name y p2] (.Name n p1) p3] pos'] [] [] pos) (zTry pr i j g) (fun D σ H => tAll X tb (wTr X.K (.ref c) i (tAsg (tVar i) (gName j)) W D) D σ H) :=
  ⟨ps_try_tr hs hf hex hN hi hln hc tk (tb := tAll X tb) (fun W pn xe t po => (mss_all hb W pn xe t po).ps) fun a pn => pss_one (ps_set hN hj (.inl hly) (pe_var hi (.inl hvn) hnd hncd) hsw (.inr hly)), fun m env σ H st D res st' R z p => by
  have ok := okz_all hb (wTr X.K (.ref c) i (tAsg (tVar i) (gName j)) W D)
  unfold zTry at z
  cases e1 : g env st with
  | none => rw [e1] at z; cases z
  | some r =>
    rw [e1] at z
    obtain ⟨r, st1⟩ := r
    simp only [Option.bind_some] at z
    refine ok m env σ H st D r st1 R e1 ?_
    cases r with
    | nx e => cases z; exact p
    | rt e => cases z; exact p
    | bk e => cases z; exact p
    | ct e => cases z; exact p
    | ex k e =>
      simp only at z
      by_cases hk : pr k = true ∧ i < e.length
      · rw [if_pos hk] at z
        cases z
        intro m' σ' H' x' R'
        refine ⟨true, hp k hk.1, fun _ => ⟨_, rfl, rfl, fun a na => ?_⟩, fun z => by cases z⟩
        have hl : i < σ'.length := by rw [← R'.le]; exact hk.2
        refine ⟨.ref a, List.getElem?_set_self hl, ?_⟩
        obtain ⟨R2, x2, y2⟩ := R'.new (same_new (o := .ext (ExcAt (C.ca k) a)) na) na (c := .exc k) upd_same
        exact p _ _ _ (x'.trans x2) (((R2.put i _ _ y2).put j _ _ y2).forget2 i)
      · rw [if_neg hk] at z; cases z⟩
end
/-! ### isinstance(caught, a class) -/
/-- sub: which of the classes that may come are of the class asked; fn: what None and others are -/
def mIsX (sub : Nat → Option Bool) (f : SEnv → Mo SV) (env : SEnv) : Mo SV := mb (f env) fun v st => match v with
  | .ref i => match st[i]? with
    | some (.exc k) => (sub k).map fun b => (.ok (.dat (.bool b)), st)
    | _ => none
  | .dat .none => some (.ok (.dat (.bool false)), st)
  | .dat _ => none
def rIsX (K : PySem.W.Frag) : List V → Hp → VK → Prop := fun xs H Q => ∃ (a D : Addr) (c : V) (cv : Value) (b : Bool), xs = [.ref a, c] ∧ H a = some (.ext (ExcAt D a)) ∧ ExcC K D ∧ (∀ u, RelV c u → u = cv) ∧ PySem.W.kitOne K (.ref D) cv = some b ∧ Q (.bl b) H
theorem call_isX {X : Cx} : CallR X (.builtin "isinstance") (rIsX X.K) := by
  intro pins s σ H xs us Q I r h
  obtain ⟨a, D, c, cv, b, rfl, ha, C, hcv, e, q⟩ := h
  cases r with
  | cons rx rr =>
    cases rr with
    | cons rt rr =>
      cases rr
      cases rx
      have ec := hcv _ rt
      subst ec
      obtain ⟨⟨oe, vs, hget, h1, h2, hv⟩, _⟩ := I.hok a _ ha
      have J : PySem.W.InstAt s.heap a oe D none := by
        obtain ⟨oc, od, oda, osl⟩ := oe
        dsimp only at h1 h2 hv
        subst h1 h2 hv
        exact ⟨hget, rfl, rfl, trivial⟩
      exact PySem.W.kia_one (PySem.W.handS_kitx_exc C.hg C.hk C.hs C.hd C.ha C.hn C.ht C.hm) I.kIn J e (fun z => nomatch z) fun tk => ⟨.bl b, H, I.kept (t' := tk) fun _ _ z => z, rfl, q⟩
/-- either of two rules -/
theorem callR_or {X : Cx} {f : Value} {r1 r2 : List V → Hp → VK → Prop} (h1 : CallR X f r1) (h2 : CallR X f r2) : CallR X f (fun xs H Q => r1 xs H Q ∨ r2 xs H Q) := fun pins s σ H xs us Q I r h => h.elim (h1 pins s σ H xs us Q I r) (h2 pins s σ H xs us Q I r)
section
variable {X : Cx} {C : CT} {W : WX} {a : Expr} {f : SEnv → Mo SV} {ta : TE} {y : Str} {p p2 pos : Pos}
theorem m_isX (sub : Nat → Option Bool) {cv : V} {u : Value} (hm : X.mg "isinstance" = none) (hy : PE X (.Name y p2) (tC cv)) (hu : ∀ w, RelV cv w → w = u) (hcls : ClsV cv u) (hn : PySem.W.kitOne X.K (.type "NoneType") u = some false)
    (hsub : ∀ k b, sub k = some b → ExcC X.K (C.ca k) ∧ PySem.W.kitOne X.K (.ref (C.ca k)) u = some b) (ha : ME X C W a f ta)
    (hg : Gl X "isinstance" := by rfl) (he : starEach [a, .Name y p2] X.env = (false, eval a X.env) :: starEach [.Name y p2] X.env := by rfl) (he2 : starEach [.Name y p2] X.env = (false, eval (.Name y p2) X.env) :: starEach [] X.env := by rfl) (hpl : (backTo pos (starEach [.Name y p2] X.env)).any (·.1) = false := by rfl) :
    ME X C W (.Call (.Name "isinstance" p) [a, .Name y p2] [] pos) (mIsX sub f) (tCB (fun xs H Q => rIsX X.K xs H Q ∨ rIsi X.K xs H Q) (tCons ta (tCons (tC cv) tNil))) :=
  ⟨pe_callB (callR_or call_isX call_isi) hg hm PyProof.Rows.boot_isinstance (pa_cons ha.pe (pa_cons hy pa_nil he2) he) (by decide) (by decide) he hpl, fun m env σ H st Q r st' R z p => by
  refine ok_mb (t := ta) ha.ok R z p fun v m1 H1 s st1 x1 R1 q1 z1 p1 => ?_
  cases s with
  | ref i =>
    simp only at z1
    cases hc : st1[i]? with
    | none => rw [hc] at z1; cases z1
    | some c =>
      rw [hc] at z1
      cases c with
      | exc k =>
        simp only at z1
        cases e1 : sub k with
        | none => rw [e1] at z1; cases z1
        | some b =>
          rw [e1] at z1
          cases z1
          obtain ⟨h1, h2⟩ := hsub k b e1
          obtain ⟨a, h3, rfl⟩ := q1
          obtain ⟨a', h4, h5⟩ := R1.sr.cl i _ hc
          rw [h3] at h4
          cases h4
          exact .inl ⟨a, C.ca k, cv, u, b, rfl, h5, h1, hu, h2, p1 _ m1 H1 Ex.refl R1 (.bl b)⟩
      | _ => cases z1
  | dat d =>
    cases d with
    | none =>
      cases z1
      cases q1
      exact .inr ⟨.non, cv, .type "NoneType", u, false, rfl, hcls, .base .non, hn, p1 _ m1 H1 Ex.refl R1 (.bl false)⟩
    | _ => cases z1⟩
end
theorem kit_own {K : PySem.W.Frag} {D : Addr} {t : Value} {b : Bool} (hd : PySem.W.hasDictIn K D = true) (ht : PySem.W.typeIn K (.ref D) = some (.type "type")) (h : PySem.W.subIn K t (.ref D) = some b) (hs : t = .ref D → b = true) : PySem.W.kitOne K t (.ref D) = some b := by
  obtain ⟨cd, hc, _⟩ := PySem.W.any_some hd
  have e2 : ((PySem.W.clsIn K D).isSome && PySem.W.typeIn K (.ref D) == some (.type "type")) = true := by rw [hc, ht] <;> rfl
  unfold PySem.W.kitOne
  by_cases c : (t == Value.ref D) = true
  · rw [if_pos c, hs (beq_iff_eq.mp c)]
  · rw [if_neg c]
    show (if ((PySem.W.clsIn K D).isSome && PySem.W.typeIn K (.ref D) == some (.type "type")) = true then PySem.W.subIn K t (.ref D) else none) = some b
    rw [if_pos e2]
    exact h
theorem kit_self {K : PySem.W.Frag} {C D : Addr} {b : Bool} (hs : PySem.W.subIn K (.ref D) (.ref D) = some true) (h : PySem.W.subIn K (.ref C) (.ref D) = some b) : (Value.ref C : Value) = .ref D → b = true := fun e => by
  rw [e, hs] at h
  exact (Option.some.inj h).symm
theorem kit_VE {K : PySem.W.Frag} {C : Addr} {b : Bool} (h : PySem.W.subIn K (.ref C) (.type "ValueError") = some b) : PySem.W.kitOne K (.ref C) (.type "ValueError") = some b := by
  unfold PySem.W.kitOne
  rw [if_neg (by intro z; exact absurd (beq_iff_eq.mp z) (by intro z; cases z))]
  show (if PySem.W.kitMeta "ValueError" = true then PySem.W.subIn K (.ref C) (.type "ValueError") else none) = some b
  rw [if_pos (by decide +kernel)]
  exact h
/-! ### a def's body -/
def runM (n np : Nat) (g : Zsem) (xs : List SV) : Mo SV := fun st => if xs.length = np then (g (xs.map some ++ List.replicate (n - xs.length) none) st).bind fun r => match r with
  | (.rt v, st') => some (.ok v, st')
  | (.nx _, st') => some (.ok (.dat .none), st')
  | (.ex c _, st') => some (.ex c, st')
  | _ => none
  else none
theorem mr_start {K : PySem.W.Frag} {C : CT} {st : Store} {m : List Addr} {H : Hp} {vs : List V} {xs : List SV} {N : List Str} (S : SR K C st m H) (q : VRs K m H vs xs) (hl : xs.length ≤ N.length) : MR K C st (xs.map some ++ List.replicate (N.length - xs.length) none) m (L2.start N vs) H := by
  have lv := pr_len q
  refine ⟨S, ?_, fun i s hi => ?_⟩
  · unfold L2.start
    simp only [List.length_append, List.length_map, List.length_replicate, lv]
  · have hl' : i < xs.length := by
      by_cases q : i < xs.length
      · exact q
      · rw [List.getElem?_append_right (by rw [List.length_map]; omega), List.getElem?_replicate] at hi
        split at hi <;> cases hi
    rw [List.getElem?_append_left (by rw [List.length_map]; exact hl'), List.getElem?_map] at hi
    cases e : xs[i]? with
    | none => rw [e] at hi; cases hi
    | some d' =>
      rw [e] at hi
      cases hi
      obtain ⟨v, h1, h2⟩ := pr_get q e
      refine ⟨v, ?_, h2⟩
      unfold L2.start
      rw [List.getElem?_append_left (by rw [List.length_map]; omega), List.getElem?_map, h1]
      rfl
section
variable {P : Program} {w : World} {K : PySem.W.Frag} {mg : Str → Option Value} {base : Heap}
abbrev cxM (P : Program) (w : World) (K : PySem.W.Frag) (mg : Str → Option Value) (base : Heap) (N : List Str) (qual : Str) (scope : Scope) (f : Addr) (cd : Value) (A : Around) (outer : List Env) (s : Shared) (H : Hp) (E : XK) : Cx := cxOf (L2.CX P w) P w K mg base N qual scope f cd A outer s H E
theorem tk_fn {N : List Str} {qual : Str} {scope : Scope} {f : Addr} {cd : Value} {A : Around} {outer : List Env} {s : Shared} {H : Hp} {E : XK} : Takes (cxM P w K mg base N qual scope f cd A outer s H E) (fun cls d _ H => E cls d H) := takes_of rfl rfl rfl rfl
theorem po_fn {N : List Str} {qual : Str} {scope : Scope} {f : Addr} {cd : Value} {A : Around} {outer : List Env} {s : Shared} {H : Hp} {E : XK} : PassesOwn (model P w) (cxM P w K mg base N qual scope f cd A outer s H E).A (cxM P w K mg base N qual scope f cd A outer s H E).env (cxM P w K mg base N qual scope f cd A outer s H E).xe := passes_of (X := cxM P w K mg base N qual scope f cd A outer s H E) rfl
theorem fn_m {x qual : Str} {st : Stmt} {f : Addr} {fd : FuncData} {N ps : List Str} {k : Nat} (C : CT) {g : Zsem} (Fu : Fun K x qual st f fd) (S : FnScope N ps (defScope st))
    (hb : ∀ (cdv : Value) (A : Around) (outer : List Env) (s : Shared) (H : Hp) (E : XK), Room k (A.deeper (envOfC qual (defScope st) s.heap.objs.size f cdv)) → ∃ t, MSs (cxM P w K mg base N qual (defScope st) f cdv A outer s H E) C (fun cls d _ H => E cls d H) (defBody st) g t)
    (hn : ps.length ≤ N.length := by decide) : FnOk P w K mg base (L2.CX P w) (k + 1) f fd ps (spM K C (runM N.length ps.length g)) := by
  refine Fu.okX S (fun vs H Q E h => ?_) (fun cdv A outer s H vs Q E hr h => ?_)
  · obtain ⟨m, st, xs, r, st', h1, h2, h3, _⟩ := h
    unfold runM at h3
    by_cases q : xs.length = ps.length
    · rw [pr_len h2, q]
    · rw [if_neg q] at h3; cases h3
  · obtain ⟨m, st, xs, r, st', h1, h2, h3, k⟩ := h
    unfold runM at h3
    by_cases q : xs.length = ps.length
    · rw [if_pos q] at h3
      obtain ⟨t, T⟩ := hb cdv A outer s H E hr
      cases e1 : g (xs.map some ++ List.replicate (N.length - xs.length) none) st with
      | none => rw [e1] at h3; cases h3
      | some res =>
        rw [e1] at h3
        obtain ⟨res, st1⟩ := res
        simp only [Option.bind_some] at h3
        refine ⟨t, T.ps, ?_⟩
        have R := mr_start (N := N) h1 h2 (by omega)
        refine T.ok m _ _ H st _ res st1 R e1 ?_
        cases res with
        | nx e => cases h3; exact fun m' σ' H' x R' => k _ m' H' x R'.sr .non
        | rt d => cases h3; exact fun v m' H' x S' h => k v m' H' x S' h
        | bk e => cases h3
        | ct e => cases h3
        | ex c e => cases h3; exact fun m' σ' H' x R' => k m' H' x R'.sr
    · rw [if_neg q] at h3; cases h3
theorem law_endM {F : List SV → Mo SV} {H : Hp} {a : Addr} {ns : List Int} {C : CT} {st' : Store} (hS : SqL K H a (ns.map V.int)) (h : F [.dat (.list (ns.map PyData.int))] [] = some (.ok (.dat (.bool true)), st')) : spM K C F [.ref a] H (fun v _ => v = .bl true) fun _ _ _ => False := by
  have e : oth [] H = H := by funext b; unfold oth; rw [if_neg (by simp)]
  refine ⟨[], [], _, _, st', ⟨fun i j a h => by simp at h, rfl, fun i c h => by simp at h⟩, .cons ?_ .nil, h, fun v m' H' x S q => ?_⟩
  · show Dp K (oth [] H) _ _
    rw [e]
    exact .lst hS ints_dps
  · cases q; rfl
/-- .. wherever the classes stand -/
def spAll (K : PySem.W.Frag) (fn : Nat → List Str) (F : List SV → Mo SV) : Sp := fun vs H Q E => ∀ ca, spM K ⟨ca, fn⟩ F vs H Q E
theorem cx_end {H : Hp} {s s' : Shared} {e : Value} (h : L2.CX P w [] H s (fun _ _ _ => False) e s') : False := by
  obtain ⟨_, _, _, _, _, _, _, _, _, _, _, _, z⟩ := h
  exact z
end
end MV

namespace MV
open PySem PySem.Spec PyProof.Rows L2 PV
/-! ### further expressions -/
def datOf : SV → Option D
  | .dat d => some d
  | .ref _ => none
def mMinD (f : SEnv → Mo (List SV)) (env : SEnv) : Mo SV := mb (f env) fun vs st => match vs with
  | [v] => (lstOf st v).bind fun xs => (omap datOf xs).bind fun ds => (hMinL [.list ds]).map fun d => (.ok (.dat d), st)
  | _ => none
def mCat (f g : SEnv → Mo SV) (env : SEnv) : Mo SV := mb (f env) fun x => mb (g env) fun y st => (lstOf st x).bind fun xs => (lstOf st y).bind fun ys => if xs.length + ys.length ≤ 1000000 then mnew (.lst (xs ++ ys)) st else none
def cutM (xs : List SV) (lo hi : Option Int) : List SV := (xs.drop (HT.sIx xs.length 0 lo)).take (HT.sIx xs.length xs.length hi - HT.sIx xs.length 0 lo)
def oNoneM (_ : SEnv) : Mo (Option Int) := mret none
def oSomeM (f : SEnv → Mo SV) (env : SEnv) : Mo (Option Int) := mb (f env) fun v st => (intOf v).map fun i => (.ok (some i), st)
def mCut (f : SEnv → Mo SV) (lo hi : SEnv → Mo (Option Int)) (env : SEnv) : Mo SV := mb (f env) fun x => mb (lo env) fun a => mb (hi env) fun b st => (lstOf st x).bind fun xs => mnew (.lst (cutM xs a b)) st
def mListL (f : SEnv → Mo SV) (env : SEnv) : Mo SV := mb (f env) fun x st => (lstOf st x).bind fun xs => mnew (.lst xs) st
def mLenL (f : SEnv → Mo SV) (env : SEnv) : Mo SV := mb (f env) fun x st => (lstOf st x).map fun xs => (.ok (.dat (.int xs.length)), st)
def mLenD (f : SEnv → Mo SV) (env : SEnv) : Mo SV := mb (f env) fun x st => (dicOf st x).map fun xs => (.ok (.dat (.int xs.length)), st)
def isNo : SV → Bool
  | .dat d => isNone d
  | .ref _ => false
/-- x is None, x is not None -/
def mIsNone (n : Bool) (f : SEnv → Mo SV) (env : SEnv) : Mo SV := mb (f env) fun v => mret (.dat (.bool (if n then !isNo v else isNo v)))
def mIsi (T : String) (f : SEnv → Mo SV) : SEnv → Mo SV := mUn (hIsi T) f
def mDPop (f g : SEnv → Mo SV) (env : SEnv) : Mo SV := mb (f env) fun d st1 => match d with
  | .ref i => (dicOf st1 (.ref i)).bind fun _ => mb (g env) (fun k st => (dicOf st (.ref i)).bind fun kvs => (keyOf k).bind fun kk => (valS kvs kk).map fun v => (.ok v, st.set i (.dic (dropS kvs kk)))) st1
  | .dat _ => none
def mDivmod (f : SEnv → Mo (List SV)) (env : SEnv) : Mo SV := mb (f env) fun vs st => match vs with
  | [.dat (.int i), .dat (.int j)] => if DivC i j then some (.ok (.dat (.tuple [.int (i / j), .int (i % j)])), st) else none
  | _ => none
def strI (x : Str) : List Itm := x.cps.toList.map fun c => .one (.dat (.str ⟨#[c]⟩))
def mIStr (f : SEnv → Mo SV) (env : SEnv) : Mo Src := mb (f env) fun v st => match v with
  | .dat (.str x) => some (.ok ⟨strI x, fun _ => True⟩, st)
  | _ => none
def mITup (f : SEnv → Mo SV) (env : SEnv) : Mo Src := mb (f env) fun v st => (tupOf st v).map fun xs => (.ok ⟨ones xs, fun st' => tupOf st' v = some xs⟩, st)
def zAug (i : Nat) (h : D → D → Option D) (fv : SEnv → Mo SV) : Zsem := fun env st => (env.getD i none).bind fun x => zB fv (fun v e st => (hopI h x v).map fun w => (.nx (e.set i (some w)), st)) env st
section
variable {K : PySem.W.Frag} {m : List Addr} {H : Hp} {v : V} {s : SV}
theorem pr_at2 : ∀ {vs : List V} {xs : List SV} {i : Nat} {v : V}, VRs K m H vs xs → vs[i]? = some v → ∃ s, xs[i]? = some s ∧ VR K m H v s
  | _, _, _, _, .nil, e => by simp at e
  | _, _, 0, _, .cons r _, e => by simp at e; subst e; exact ⟨_, rfl, r⟩
  | _, _, i + 1, s, .cons _ t, e => by
    obtain ⟨u, h1, h2⟩ := pr_at2 (i := i) t (by simpa using e)
    exact ⟨u, by simpa using h1, h2⟩
theorem datOf_at : ∀ {xs : List SV} {ds : List D} {i : Nat} {s : SV}, omap datOf xs = some ds → xs[i]? = some s → ∃ d, s = .dat d ∧ ds[i]? = some d
  | [], _, _, _, _, e => by simp at e
  | x :: xs, ds, i, s, h, e => by
    unfold omap at h
    cases e1 : datOf x with
    | none => rw [e1] at h; cases h
    | some y =>
      rw [e1] at h
      simp only [Option.bind_some] at h
      cases e2 : omap datOf xs with
      | none => rw [e2] at h; cases h
      | some ys =>
        rw [e2] at h
        cases h
        cases i with
        | zero =>
          simp at e
          subst e
          cases x with
          | ref j => cases e1
          | dat d => cases e1; exact ⟨_, rfl, rfl⟩
        | succ i =>
          obtain ⟨d, h1, h2⟩ := datOf_at (i := i) e2 (by simpa using e)
          exact ⟨d, h1, by simpa using h2⟩
theorem datOf_dps : ∀ {xs : List SV} {ds : List D} {vs : List V}, omap datOf xs = some ds → VRs K m H vs xs → DpAll K (oth m H) vs ds
  | [], _, _, h, .nil => by cases h; exact .nil
  | x :: xs, ds, _, h, .cons q t => by
    unfold omap at h
    cases e1 : datOf x with
    | none => rw [e1] at h; cases h
    | some y =>
      rw [e1] at h
      simp only [Option.bind_some] at h
      cases e2 : omap datOf xs with
      | none => rw [e2] at h; cases h
      | some ys =>
        rw [e2] at h
        cases h
        cases x with
        | ref j => cases e1
        | dat d => cases e1; exact .cons q (datOf_dps e2 t)
theorem isNo_ok (h : VR K m H v s) : decide (v = .non) = isNo s := by
  cases s with
  | dat d => exact dp_none h
  | ref i => obtain ⟨a, h1, rfl⟩ := h; rfl
end
section
variable {X : Cx} {C : CT} {W : WX} {a b e o tg : Expr} {es : List Expr} {x : Str} {p pos pos' apos cpos p2 : Pos} {f g fo : SEnv → Mo SV} {fs : SEnv → Mo (List SV)} {ta tb to te : TE} {ts : TA}
theorem m_minD (hc : X.calm = true) (hu : X.A.units + 64 < cLine) (hm : X.mg "min" = none) (ha : MA X C W [a] fs ts) (hg : Gl X "min" := by rfl)
    (he : starEach [a] X.env = (false, eval a X.env) :: starEach [] X.env := by rfl) (hpl : (backTo pos (starEach [] X.env)).any (·.1) = false := by rfl) : ME X C W (.Call (.Name "min" p) [a] [] pos) (mMinD fs) (tCB (rMinD X.K) ts) :=
  ⟨pe_callB (cr_minD hc hu) hg hm (by decide +kernel) ha.pa (by decide) (by decide) he hpl, fun m env σ H st Q r st' R z p => by
  refine ok_mb (t := ts) ha.ok R z p fun us m1 H1 ss st1 x1 R1 q1 z1 p1 => ?_
  match ss, us, q1, z1 with
  | [s], _, .cons (a := v) q1 .nil, z1 =>
    simp only at z1
    cases e1 : lstOf st1 s with
    | none => rw [e1] at z1; cases z1
    | some xs =>
      rw [e1] at z1
      simp only [Option.bind_some] at z1
      cases e2 : omap datOf xs with
      | none => rw [e2] at z1; cases z1
      | some ds =>
        rw [e2] at z1
        simp only [Option.bind_some] at z1
        cases e3 : hMinL [.list ds] with
        | none => rw [e3] at z1; cases z1
        | some d =>
          rw [e3] at z1
          cases z1
          obtain ⟨a, vs, rfl, h1, h2⟩ := lstOf_ok R1.sr q1 e1
          match ds, e2, e3 with
          | y :: ys, e2, e3 =>
            have e3 : (if alB (y :: ys) = true then some (PySem.W.minD y ys) else none) = some d := e3
            obtain ⟨hal, rfl⟩ := ite_some e3
            refine ⟨a, vs, y, ys, rfl, h1, dps_mono oth_sub _ _ (datOf_dps e2 h2), hal, fun i v hv hi => p1 v m1 H1 Ex.refl R1 ?_⟩
            obtain ⟨s2, h3, h4⟩ := pr_at2 h2 hv
            obtain ⟨d2, rfl, h5⟩ := datOf_at e2 h3
            rw [hi] at h5
            cases h5
            exact h4⟩
theorem m_cat (ha : ME X C W a f ta) (hb : ME X C W b g tb) : ME X C W (.BinOp a .Add b pos) (mCat f g) (tOp (fun x y H Q => ∃ l b xs zs, x = .ref l ∧ y = .ref b ∧ SqL X.K H l xs ∧ SqL X.K H b zs ∧ xs.length + zs.length ≤ sizeLine ∧ ∀ p, H p = none → Q (.ref p) (upd H p (.lst (xs ++ zs)))) ta tb) := ⟨pe_op op_catS ha.pe hb.pe, fun m env σ H st Q r st' R z p => by
  refine ok_mb (t := ta) ha.ok R z p fun v m1 H1 s st1 x1 R1 q1 z1 p1 => ?_
  refine ok_mb (t := tb) hb.ok R1 z1 p1 fun w m2 H2 u st2 x2 R2 q2 z2 p2 => ?_
  cases e1 : lstOf st2 s with
  | none => rw [e1] at z2; cases z2
  | some xs =>
    cases e2 : lstOf st2 u with
    | none => rw [e1, e2] at z2; cases z2
    | some ys =>
      rw [e1, e2] at z2
      simp only [Option.bind_some] at z2
      by_cases hl : xs.length + ys.length ≤ 1000000
      · rw [if_pos hl] at z2
        cases z2
        obtain ⟨a, vs, rfl, h1, h2⟩ := lstOf_ok R2.sr (q1.ex x2) e1
        obtain ⟨b, ws, rfl, h3, h4⟩ := lstOf_ok R2.sr q2 e2
        refine ⟨a, b, vs, ws, rfl, rfl, h1, h3, by rw [pr_len h2, pr_len h4]; exact Nat.le_trans hl (by decide), fun q n => ?_⟩
        obtain ⟨M, x, y⟩ := R2.new (same_new (o := .lst (vs ++ ws)) n) n (c := .lst (xs ++ ys)) ⟨_, upd_same, VRs.ex (ex_push (same_new n) n) (pr_app h2 h4)⟩
        exact p2 _ _ _ x M y
      · rw [if_neg hl] at z2; cases z2⟩
structure MO (X : Cx) (C : CT) (W : WX) (o : Option Expr) (f : SEnv → Mo (Option Int)) (t : TO) : Prop where
  po : PO X o t
  ok : OkG X.K C W (fun _ _ b a => b = a) f t
theorem mo_none : MO X C W none oNoneM tNoPart := ⟨po_none, fun m env σ H st Q r st' R z p => by cases z; exact p none m H Ex.refl R rfl⟩
theorem mo_some (h : ME X C W e f te) : MO X C W (some e) (oSomeM f) (tPart te) := ⟨po_some h.pe, fun m env σ H st Q r st' R z p => by
  refine ok_mb (t := te) h.ok R z p fun v m1 H1 s st1 x1 R1 q1 z1 p1 => ?_
  cases e1 : intOf s with
  | none => rw [e1] at z1; cases z1
  | some i =>
    rw [e1] at z1
    cases z1
    obtain rfl := intOf_ok q1 e1
    exact ⟨i, rfl, p1 (some i) m1 H1 Ex.refl R1 rfl⟩⟩
theorem m_cut {lo hi : Option Expr} {fl fh : SEnv → Mo (Option Int)} {tl th : TO} (ha : ME X C W a f ta) (h1 : MO X C W lo fl tl) (h2 : MO X C W hi fh th) : ME X C W (.Subscript a (.Slice lo hi none p2) pos) (mCut f fl fh) (tSl (rSlL X.K) ta tl th) := ⟨pe_slice sl_list ha.pe h1.po h2.po, fun m env σ H st Q r st' R z p => by
  refine ok_mb (t := ta) ha.ok R z p fun v m1 H1 s st1 x1 R1 q1 z1 p1 => ?_
  refine ok_mb (t := tl) h1.ok R1 z1 p1 fun l m2 H2 l' st2 x2 R2 q2 z2 p2 => ?_
  cases q2
  refine ok_mb (t := th) h2.ok R2 z2 p2 fun h m3 H3 h' st3 x3 R3 q3 z3 p3 => ?_
  cases q3
  cases e1 : lstOf st3 s with
  | none => rw [e1] at z3; cases z3
  | some xs =>
    rw [e1] at z3
    cases z3
    obtain ⟨a, vs, rfl, g1, g2⟩ := lstOf_ok R3.sr (q1.ex (x2.trans x3)) e1
    refine ⟨a, vs, rfl, g1, fun q n => ?_⟩
    have gc : VRs X.K m3 H3 (cutV vs l h) (cutM xs l h) := by
      unfold cutV cutM
      rw [pr_len g2]
      exact pr_take _ (pr_drop _ g2)
    obtain ⟨M, x, y⟩ := R3.new (same_new (o := .lst (cutV vs l h)) n) n (c := .lst (cutM xs l h)) ⟨_, upd_same, VRs.ex (ex_push (same_new n) n) gc⟩
    exact p3 _ _ _ x M y⟩
theorem m_listL (hm : X.mg "list" = none) (ha : ME X C W a f ta) (hg : Gl X "list" := by rfl) (he : starEach [a] X.env = (false, eval a X.env) :: starEach [] X.env := by rfl) (hpl : (backTo pos (starEach [] X.env)).any (·.1) = false := by rfl) :
    ME X C W (.Call (.Name "list" p) [a] [] pos) (mListL f) (tCB (fun xs H Q => ∃ p ys, xs = [.ref p] ∧ (SqL X.K H p ys ∨ SqT X.K H p ys) ∧ ∀ l, H l = none → Q (.ref l) (upd H l (.lst ys))) (tCons ta tNil)) :=
  ⟨pe_callTy call_list_of hg hm (by decide +kernel) (pa_cons ha.pe pa_nil he) (by decide) (by decide) he hpl, fun m env σ H st Q r st' R z p => by
  refine ok_mb (t := ta) ha.ok R z p fun v m1 H1 s st1 x1 R1 q1 z1 p1 => ?_
  cases e1 : lstOf st1 s with
  | none => rw [e1] at z1; cases z1
  | some xs =>
    rw [e1] at z1
    cases z1
    obtain ⟨a, vs, rfl, g1, g2⟩ := lstOf_ok R1.sr q1 e1
    refine ⟨a, vs, rfl, .inl g1, fun q n => ?_⟩
    obtain ⟨M, x, y⟩ := R1.new (same_new (o := .lst vs) n) n (c := .lst xs) ⟨_, upd_same, VRs.ex (ex_push (same_new n) n) g2⟩
    exact p1 _ _ _ x M y⟩
theorem m_lenL (hm : X.mg "len" = none) (ha : ME X C W a f ta) (hg : Gl X "len" := by rfl) (he : starEach [a] X.env = (false, eval a X.env) :: starEach [] X.env := by rfl) (hpl : (backTo pos (starEach [] X.env)).any (·.1) = false := by rfl) :
    ME X C W (.Call (.Name "len" p) [a] [] pos) (mLenL f) (tCB (fun xs H Q => ∃ x n, xs = [x] ∧ LenV X.K x H n ∧ Q (.int n) H) (tCons ta tNil)) :=
  ⟨pe_callB call_len hg hm (by decide +kernel) (pa_cons ha.pe pa_nil he) (by decide) (by decide) he hpl, fun m env σ H st Q r st' R z p => by
  refine ok_mb (t := ta) ha.ok R z p fun v m1 H1 s st1 x1 R1 q1 z1 p1 => ?_
  cases e1 : lstOf st1 s with
  | none => rw [e1] at z1; cases z1
  | some xs =>
    rw [e1] at z1
    cases z1
    obtain ⟨a, vs, rfl, g1, g2⟩ := lstOf_ok R1.sr q1 e1
    exact ⟨_, xs.length, rfl, .inl ⟨_, g1, (pr_len g2).symm⟩, p1 _ m1 H1 Ex.refl R1 (.int _)⟩⟩
theorem m_lenD (hm : X.mg "len" = none) (ha : ME X C W a f ta) (hg : Gl X "len" := by rfl) (he : starEach [a] X.env = (false, eval a X.env) :: starEach [] X.env := by rfl) (hpl : (backTo pos (starEach [] X.env)).any (·.1) = false := by rfl) :
    ME X C W (.Call (.Name "len" p) [a] [] pos) (mLenD f) (tCB (fun xs H Q => ∃ a kvs, xs = [V.ref a] ∧ H a = some (.dK kvs) ∧ Q (.int kvs.length) H) (tCons ta tNil)) :=
  ⟨pe_callB call_lenD hg hm (by decide +kernel) (pa_cons ha.pe pa_nil he) (by decide) (by decide) he hpl, fun m env σ H st Q r st' R z p => by
  refine ok_mb (t := ta) ha.ok R z p fun v m1 H1 s st1 x1 R1 q1 z1 p1 => ?_
  cases e1 : dicOf st1 s with
  | none => rw [e1] at z1; cases z1
  | some xs =>
    rw [e1] at z1
    cases z1
    obtain ⟨i, a, ps, rfl, rfl, g1, g2, g3, g4⟩ := dicOf_ok R1.sr q1 e1
    refine ⟨a, ps, rfl, g3, ?_⟩
    rw [pr_len g4]
    exact p1 _ m1 H1 Ex.refl R1 (.int _)⟩
theorem ok_isNone {K : PySem.W.Frag} (ha : OkG K C W (VR K) f ta) : OkG K C W (VR K) (mIsNone false f) (tOp (fun x y H Q => y = .non ∧ Q (.bl (decide (x = .non))) H) ta (tC .non)) := fun m env σ H st Q r st' R z p => by
  refine ok_mb (t := ta) ha R z p fun v m1 H1 s st1 x1 R1 q1 z1 p1 => ?_
  cases z1
  refine ⟨rfl, ?_⟩
  rw [isNo_ok q1]
  exact p1 _ m1 H1 Ex.refl R1 (.bl _)
theorem ok_notNone {K : PySem.W.Frag} (ha : OkG K C W (VR K) f ta) : OkG K C W (VR K) (mIsNone true f) (tOp (fun x y H Q => y = .non ∧ Q (.bl (!decide (x = .non))) H) ta (tC .non)) := fun m env σ H st Q r st' R z p => by
  refine ok_mb (t := ta) ha R z p fun v m1 H1 s st1 x1 R1 q1 z1 p1 => ?_
  cases z1
  refine ⟨rfl, ?_⟩
  rw [isNo_ok q1]
  exact p1 _ m1 H1 Ex.refl R1 (.bl _)
theorem m_isNone {j : Nat} {p3 : Pos} (ha : ME X C W a f ta) : ME X C W (.Compare a [.Is] [.Constant .none j p3] pos) (mIsNone false f) (tOp (fun x y H Q => y = .non ∧ Q (.bl (decide (x = .non))) H) ta (tC .non)) := ⟨pe_cmpR op_isN ha.pe pe_non (nomark _), ok_isNone ha.ok⟩
theorem m_notNone {j : Nat} {p3 : Pos} (ha : ME X C W a f ta) : ME X C W (.Compare a [.IsNot] [.Constant .none j p3] pos) (mIsNone true f) (tOp (fun x y H Q => y = .non ∧ Q (.bl (!decide (x = .non))) H) ta (tC .non)) := ⟨pe_cmpR op_notN ha.pe pe_non (nomark _), ok_notNone ha.ok⟩
theorem mt_isNone {j : Nat} {p3 : Pos} (ha : ME X C W a f ta) : MT X C W (.Compare a [.Is] [.Constant .none j p3] pos) (mB (mIsNone false f)) (tTest (tOp (fun x y H Q => y = .non ∧ Q (.bl (decide (x = .non))) H) ta (tC .non))) := ⟨pt_cmpR op_isN ha.pe pe_non (nomark _), ok_mB (ok_isNone ha.ok)⟩
theorem mt_notNone {j : Nat} {p3 : Pos} (ha : ME X C W a f ta) : MT X C W (.Compare a [.IsNot] [.Constant .none j p3] pos) (mB (mIsNone true f)) (tTest (tOp (fun x y H Q => y = .non ∧ Q (.bl (!decide (x = .non))) H) ta (tC .non))) := ⟨pt_cmpR op_notN ha.pe pe_non (nomark _), ok_mB (ok_notNone ha.ok)⟩
theorem m_isi {y : Str} {T : String} (hm : X.mg "isinstance" = none) (hm2 : X.mg y = none) (hv2 : bootBuiltins y = some (.type T)) (ha : ME X C W a f ta)
    (hg : Gl X "isinstance" := by rfl) (hg2 : Gl X y := by rfl) (hn2 : y ≠ "__name__" := by decide) (hd2 : (y == ("__debug__" : Str)) = false := by decide)
    (he : starEach (a :: [.Name y p2]) X.env = (false, eval a X.env) :: starEach [.Name y p2] X.env := by rfl) (he2 : starEach [.Name y p2] X.env = (false, eval (.Name y p2) X.env) :: starEach [] X.env := by rfl) (hpl : (backTo pos (starEach [.Name y p2] X.env)).any (·.1) = false := by rfl) :
    ME X C W (.Call (.Name "isinstance" p) [a, .Name y p2] [] pos) (mIsi T f) (tCB (rIsi X.K) (tCons ta (tCons (tC (.ty T)) tNil))) :=
  ⟨pe_callB call_isi hg hm PyProof.Rows.boot_isinstance (pa_cons ha.pe (pa_cons (pe_bltn (v := .ty T) hg2 hm2 hv2 rfl hn2 hd2) pa_nil he2) he) (by decide) (by decide) he hpl, fun m env σ H st Q r st' R z p => by
  refine ok_mb (t := ta) ha.ok R z p fun v m1 H1 s st1 x1 R1 q1 z1 p1 => ?_
  cases e1 : dr 6 st1 s with
  | none => rw [e1] at z1; cases z1
  | some y =>
    rw [e1] at z1
    simp only [Option.bind_some] at z1
    unfold hIsi at z1
    cases e2 : tyName y with
    | none => rw [e2] at z1; cases z1
    | some n =>
      rw [e2] at z1
      simp only [Option.bind_some] at z1
      cases e3 : kitB n T with
      | none => rw [e3] at z1; cases z1
      | some b =>
        rw [e3] at z1
        cases z1
        exact ⟨v, .ty T, _, _, b, rfl, .ty T, dp_ty (dr_dp R1.sr 6 _ _ _ q1 e1) e2, kit_ty e3, p1 _ m1 H1 Ex.refl R1 (.bl b)⟩⟩
theorem m_clr (ho : ME X C W o fo to) (hbase : attributeBase o "clear" X.env (eval o X.env) = eval o X.env := by rfl) (hline : (apos.endLine == cpos.line) = true := by rfl) :
    ME X C W (.Call (.Attribute o "clear" apos) [] [] cpos) (mLM hClrS fo mNil) (tBM0 X.K "list" rClear to) := m_lm0 PySem.F.plainAttrs_list PySem.F.slot_list_clear PySem.F.type_list_clear mt_clear mum_clr ho hbase hline
theorem m_lpop (ho : ME X C W o fo to) (ha : MA X C W [e] fs ts)
    (hbase : attributeBase o "pop" X.env (eval o X.env) = eval o X.env := by rfl)
    (hfew : ((backTo cpos (starEach [e] X.env)).all (fun x => !x.1) && (backToKw cpos (keywordEach [] X.env)).all (fun x => x.1.isSome)
      && decide ([e].length + ([] : List Keyword).length + (if ([] : List Keyword).isEmpty then 0 else 1) < 30)) = true := by rfl)
    (hline : (apos.endLine == cpos.line) = true := by rfl) (hs : starEach [e] X.env = (false, eval e X.env) :: starEach [] X.env := by rfl) (hplain : (backTo cpos (starEach [] X.env)).any (·.1) = false := by rfl) :
    ME X C W (.Call (.Attribute o "pop" apos) [e] [] cpos) (mLM hPopS fo fs) (tBM X.K "list" rPopAt to ts) := m_lm PySem.F.plainAttrs_list PySem.F.slot_list_pop PySem.F.type_list_pop mt_popAt mum_pop ho ha hbase hfew hline hs hplain
theorem m_dpop (ho : ME X C W o f to) (he : ME X C W e g te) (hm : M1 X o "pop" apos e cpos := by exact ⟨rfl, rfl, rfl, rfl⟩) : ME X C W (.Call (.Attribute o "pop" apos) [e] [] cpos) (mDPop f g) (tDPop1 to te) := ⟨pe_dpop1 ho.pe he.pe hm, fun m env σ H st Q r st' R z p => by
  refine ok_mb (t := to) ho.ok R z p fun v m1 H1 s st1 x1 R1 q1 z1 p1 => ?_
  cases s with
  | dat d => cases z1
  | ref i =>
    simp only at z1
    cases e1 : dicOf st1 (.ref i) with
    | none => rw [e1] at z1; cases z1
    | some kv1 =>
      rw [e1] at z1
      simp only [Option.bind_some] at z1
      obtain ⟨i', a, ps, hi, rfl, h1, h2, h3, h4⟩ := dicOf_ok R1.sr q1 e1
      cases hi
      refine ⟨a, rfl, .inl ⟨_, .inl h3⟩, ?_⟩
      refine ok_mb (t := te) he.ok R1 z1 p1 fun w m2 H2 u st2 x2 R2 q2 z2 p2 => ?_
      cases e2 : dicOf st2 (.ref i) with
      | none => rw [e2] at z2; cases z2
      | some kvs =>
        cases e3 : keyOf u with
        | none => rw [e2, e3] at z2; cases z2
        | some k =>
          rw [e2, e3] at z2
          simp only [Option.bind_some] at z2
          cases e4 : valS kvs k with
          | none => rw [e4] at z2; cases z2
          | some y =>
            rw [e4] at z2
            cases z2
            obtain ⟨i', a', qs, hi, ha, g1, g2, g3, g4⟩ := dicOf_ok R2.sr (q1.ex x2) e2
            cases hi
            cases ha
            obtain rfl := keyOf_ok q2 e3
            obtain ⟨w, h5, h6⟩ := valS_some g4 e4
            obtain ⟨R3, x3⟩ := R2.dic g1 (fr_drop (k := k) g4)
            exact ⟨qs, k, w, g3, rfl, h5, p2 w m2 _ x3 R3 (h6.ex x3)⟩⟩
theorem m_divmod {e2 : Expr} (hm : X.mg "divmod" = none) (ha : MA X C W [e, e2] fs ts) (hg : Gl X "divmod" := by rfl) (he : starEach [e, e2] X.env = (false, eval e X.env) :: starEach [e2] X.env := by rfl) (hpl : (backTo pos (starEach [e2] X.env)).any (·.1) = false := by rfl) :
    ME X C W (.Call (.Name "divmod" p) [e, e2] [] pos) (mDivmod fs) (tCB rDivmodW ts) :=
  ⟨pe_callB call_divmodD hg hm (by decide +kernel) ha.pa (by decide) (by decide) he hpl, fun m env σ H st Q r st' R z p => by
  refine ok_mb (t := ts) ha.ok R z p fun us m1 H1 ss st1 x1 R1 q1 z1 p1 => ?_
  unfold mDivmod at z
  match ss, us, q1, z1 with
  | [.dat (.int i), .dat (.int j)], _, .cons (a := v) q1 (.cons (a := w) q2 .nil), z1 =>
    simp only at z1
    by_cases hc : DivC i j
    · rw [if_pos hc] at z1
      cases z1
      cases q1
      cases q2
      refine ⟨i, j, rfl, hc, fun q n => ?_⟩
      obtain ⟨S, x⟩ := R1.sr.grow (same_new (o := .tup [.int (i / j), .int (i % j)]) n)
      refine p1 _ m1 _ x (R1.ex S x) (.tup (SqT.of (oth_iff.mpr ⟨R1.sr.out n, upd_same⟩)) (.cons (.int _) (.cons (.int _) .nil)))
    · rw [if_neg hc] at z1; cases z1⟩
theorem mi_str (ha : ME X C W a f ta) : MI X C W tg a (mIStr f) (iStr ta) := ⟨pi_str ha.pe, fun m env σ H st Q r st' R z p => by
  refine ok_mb (t := ta) ha.ok R z p fun v m1 H1 s st1 x1 R1 q1 z1 p1 => ?_
  match s, q1, z1 with
  | .dat (.str x), q1, z1 =>
    cases z1
    cases q1
    refine ⟨x, rfl, p1 _ m1 H1 Ex.refl R1 fun m2 H2 st2 x2 S2 _ => ⟨fun i y hy => ?_, by unfold strI; simp [Its]⟩⟩
    unfold strI at hy
    simp only at hy
    rw [List.getElem?_map] at hy
    cases e1 : x.cps.toList[i]? with
    | none => rw [e1] at hy; cases hy
    | some c =>
      rw [e1] at hy
      cases hy
      have hc : x.cps[i]? = some c := by simpa using e1
      refine ⟨(Array.getElem?_eq_some_iff.mp hc).1, fun y H3 h3 => ?_⟩
      obtain ⟨rfl, c', h4, rfl⟩ := h3
      rw [hc] at h4
      cases h4
      exact ⟨Same.refl _, .str _⟩⟩
theorem mi_tupl (ha : ME X C W a f ta) : MI X C W tg a (mITup f) (iTup X.K ta) := ⟨pi_tup ha.pe, fun m env σ H st Q r st' R z p => by
  refine ok_mb (t := ta) ha.ok R z p fun v m1 H1 s st1 x1 R1 q1 z1 p1 => ?_
  cases e1 : tupOf st1 s with
  | none => rw [e1] at z1; cases z1
  | some xs =>
    rw [e1] at z1
    cases z1
    obtain ⟨a, vs, rfl, h1, h2⟩ := tupOf_ok R1.sr q1 e1
    refine ⟨a, rfl, ⟨vs, h1⟩, p1 _ m1 H1 Ex.refl R1 fun m2 H2 st2 x2 S2 ok => ?_⟩
    obtain ⟨a', ws, ea, h3, h4⟩ := tupOf_ok S2 (q1.ex x2) ok
    cases ea
    refine ⟨fun i x hx => ?_, ⟨ws, h3, by unfold ones; rw [List.length_map, pr_len h4]; exact Nat.le_refl _⟩⟩
    unfold ones at hx
    rw [List.getElem?_map] at hx
    cases e2 : xs[i]? with
    | none => rw [e2] at hx; cases hx
    | some s2 =>
      rw [e2] at hx
      cases hx
      obtain ⟨w, h5, h6⟩ := pr_get h4 e2
      refine ⟨⟨ws, w, h3, h5⟩, fun y H3 hy => ?_⟩
      obtain ⟨rfl, hy⟩ := hy
      have e : y = w := Option.some.inj ((hy _ h3).symm.trans h5)
      rw [e]
      exact ⟨Same.refl _, h6⟩⟩
/-- x op= e, on numbers -/
def IpH (ti : TIp) (h : D → D → Option D) : Prop := ∀ (a b d : D) (v w : V) (K : PySem.W.Frag) (H : Hp) (Q : VK), Dp K H v a → Dp K H w b → h a b = some d → isSc d = true ∧ (Q (sv d) H → ti v w H Q)
theorem ipm_add : IpH (ipI fun i j => i + j) hAdd := fun a b d v w K H Q ha hb z => by
  cases a <;> cases b <;> cases z
  cases ha; cases hb
  exact ⟨rfl, fun k => ⟨_, _, rfl, rfl, k⟩⟩
theorem ipm_sub : IpH (ipI fun i j => i - j) hSub := fun a b d v w K H Q ha hb z => by
  cases a <;> cases b <;> cases z
  cases ha; cases hb
  exact ⟨rfl, fun k => ⟨_, _, rfl, rfl, k⟩⟩
theorem ms_aug (i : Nat) {op : Operator} {ti : TIp} {h : D → D → Option D} (hN : X.N.Nodup) (he : ME X C W e f te) (ho : PIp X op ti) (hh : IpH ti h) (hi : X.N[i]? = some x := by rfl) (hx : Loc X.env.scope x := by first | exact Or.inl rfl | exact Or.inr rfl)
    (hf : X.fn x = true ∨ X.env.scope.names.lookup x = some .local := by first | exact .inl rfl | exact .inr rfl) : MS X C W (.AugAssign (.Name x pos') op e pos) (zAug i h f) (tAug i te ti) := ⟨ps_aug hN hi hx he.pe ho hf, fun m env σ H st D res st' R z p => by
  unfold zAug at z
  rw [List.getD_eq_getElem?_getD] at z
  cases e1 : env[i]? with
  | none => rw [e1] at z; cases z
  | some x =>
    rw [e1] at z
    cases x with
    | none => cases z
    | some s =>
      simp only [Option.getD_some, Option.bind_some] at z
      obtain ⟨v, h1, h2⟩ := R.sl i s e1
      refine ⟨v, h1, ?_⟩
      refine ok_zB (tt := te) he.ok R z p fun w m1 H1 u st1 x1 R1 q1 z1 p1 => ?_
      cases e2 : hopI h s u with
      | none => rw [e2] at z1; cases z1
      | some y =>
        rw [e2] at z1
        cases z1
        have h2' := h2.ex x1
        cases s with
        | ref j => cases e2
        | dat a =>
          cases u with
          | ref j => cases e2
          | dat b =>
            unfold hopI at e2
            simp only at e2
            cases e3 : h a b with
            | none => rw [e3] at e2; cases e2
            | some d =>
              rw [e3] at e2
              cases e2
              obtain ⟨h3, h4⟩ := hh a b d v w X.K H1 _ (dp_mono oth_sub _ _ h2') (dp_mono oth_sub _ _ q1) e3
              exact h4 (p1 m1 _ H1 Ex.refl (R1.put i _ _ (sc_dp h3)))⟩
end
end MV

namespace MV
open PySem PySem.Spec PyProof.Rows L2 PV
/-! ### reckoning -/
section
variable {α β : Type} {st st1 st2 L : Store} {env e e1 : SEnv} {n i k c : Nat} {d : D} {ds : List D} {s v : SV} {xs ys : List SV} {kvs : List (Key × SV)} {f g : SEnv → Mo SV} {fs : SEnv → Mo (List SV)} {h : D → D → Option D} {z y : Zsem}
/-! stores -/
def drC (n : Nat) (st : Store) : Option Cell → Option D
  | some (.lst xs) => (omap (dr n st) xs).map .list
  | some (.tup xs) => (omap (dr n st) xs).map .tuple
  | _ => none
theorem u_dr_dat : dr (n + 1) st (.dat d) = some d := rfl
theorem u_dr_dat0 : dr 0 st (.dat d) = some d := rfl
theorem u_dr_ref : dr (n + 1) st (.ref i) = drC n st st[i]? := by
  show (match st[i]? with | some (.lst xs) => _ | some (.tup xs) => _ | _ => _) = _
  unfold drC
  rfl
theorem u_drC_lst : drC n st (some (.lst xs)) = (omap (dr n st) xs).map .list := rfl
theorem u_drC_tup : drC n st (some (.tup xs)) = (omap (dr n st) xs).map .tuple := rfl
theorem u_omap_app {f : α → Option β} : ∀ (a b : List α), omap f (a ++ b) = (omap f a).bind fun x => (omap f b).map fun y => x ++ y
  | [], b => by cases h : omap f b <;> simp [omap, h]
  | x :: a, b => by
    show (f x).bind _ = ((f x).bind _).bind _
    cases f x with
    | none => rfl
    | some y =>
      show (omap f (a ++ b)).bind _ = ((omap f a).bind _).bind _
      rw [u_omap_app a b]
      cases omap f a with
      | none => rfl
      | some z => cases h : omap f b <;> simp
theorem u_om_dat : omap (dr n st) (ds.map .dat) = some ds := by
  induction ds with
  | nil => rfl
  | cons d ds ih =>
    show (dr n st (.dat d)).bind _ = _
    rw [show dr n st (.dat d) = some d by cases n <;> rfl]
    show (omap (dr n st) (ds.map .dat)).bind _ = _
    rw [ih]
    rfl
theorem u_om_nil {f : α → Option β} : omap f [] = some [] := rfl
theorem u_om_cons {f : α → Option β} {x : α} {l : List α} : omap f (x :: l) = (f x).bind fun y => (omap f l).bind fun ys => some (y :: ys) := rfl
theorem u_om_datOf : omap datOf (ds.map .dat) = some ds := by
  induction ds with
  | nil => rfl
  | cons d ds ih =>
    show (omap datOf (ds.map .dat)).bind _ = _
    rw [ih]
    rfl
theorem u_datOf : datOf (.dat d) = some d := rfl
theorem u_vw_nil : view st [] = [] := rfl
theorem u_vw_none : view st (none :: e) = none :: view st e := rfl
theorem u_vw_dat : view st (some (.dat d) :: e) = some d :: view st e := rfl
theorem u_vw_ref : view st (some (.ref i) :: e) = drC 5 st st[i]? :: view st e := by
  show (some (SV.ref i)).bind (dr 6 st) :: view st e = _
  show dr 6 st (.ref i) :: view st e = _
  rw [u_dr_ref]
theorem u_vw_any {a : Option SV} : view st (a :: e) = a.bind (dr 6 st) :: view st e := rfl
def lstC : Option Cell → Option (List SV)
  | some (.lst xs) => some xs
  | _ => none
def tupC : Option Cell → Option (List SV)
  | some (.tup xs) => some xs
  | _ => none
def dicC : Option Cell → Option (List (Key × SV))
  | some (.dic kvs) => some kvs
  | _ => none
def insC (c : Nat) : Option Cell → Option (List SV)
  | some (.ins c' xs) => if c' = c then some xs else none
  | _ => none
theorem u_lst_ref : lstOf st (.ref i) = lstC st[i]? := by unfold lstOf lstC; rfl
theorem u_lst_dat : lstOf st (.dat (.list ds)) = some (ds.map .dat) := rfl
theorem u_tup_ref : tupOf st (.ref i) = tupC st[i]? := by unfold tupOf tupC; rfl
theorem u_tup_dat : tupOf st (.dat (.tuple ds)) = some (ds.map .dat) := rfl
theorem u_dic_ref : dicOf st (.ref i) = dicC st[i]? := by unfold dicOf dicC; rfl
theorem u_ins_ref : insAt c st (.ref i) = insC c st[i]? := by unfold insAt insC; rfl
theorem u_lstC : lstC (some (.lst xs)) = some xs := rfl
theorem u_tupC : tupC (some (.tup xs)) = some xs := rfl
theorem u_dicC : dicC (some (.dic kvs)) = some kvs := rfl
theorem u_insC : insC c (some (.ins c xs)) = some xs := if_pos rfl
theorem u_intOf {j : Int} : intOf (.dat (.int j)) = some j := rfl
theorem u_key_int {j : Int} : keyOf (.dat (.int j)) = some (.inl j) := rfl
theorem u_key_str {x : Str} : keyOf (.dat (.str x)) = some (.inr x) := rfl
theorem u_new {q : Cell} : mnew q st = some (.ok (.ref st.length), st ++ [q]) := rfl
theorem u_ret {a : α} : mret a st = some (.ok a, st) := rfl
theorem u_get0 {a : Cell} : (st ++ a :: L)[st.length]? = some a := by
  rw [List.getElem?_append_right (Nat.le_refl _), Nat.sub_self]; rfl
theorem u_get1 {a b : Cell} : (st ++ a :: b :: L)[st.length + 1]? = some b := by
  rw [List.getElem?_append_right (by omega), show st.length + 1 - st.length = 1 by omega]; rfl
theorem u_get2 {a b q : Cell} : (st ++ a :: b :: q :: L)[st.length + 2]? = some q := by
  rw [List.getElem?_append_right (by omega), show st.length + 2 - st.length = 2 by omega]; rfl
theorem u_get3 {a b q r : Cell} : (st ++ a :: b :: q :: r :: L)[st.length + 3]? = some r := by
  rw [List.getElem?_append_right (by omega), show st.length + 3 - st.length = 3 by omega]; rfl
theorem u_set0 {a b : Cell} : (st ++ a :: L).set st.length b = st ++ b :: L := by
  rw [List.set_append_right _ _ (Nat.le_refl _), Nat.sub_self]; rfl
theorem u_set1 {a a' b : Cell} : (st ++ a :: a' :: L).set (st.length + 1) b = st ++ a :: b :: L := by
  rw [List.set_append_right _ _ (by omega), show st.length + 1 - st.length = 1 by omega]; rfl
theorem u_get_sh {A B : Store} : (A ++ B)[A.length + k]? = B[k]? := by
  rw [List.getElem?_append_right (by omega), Nat.add_sub_cancel_left]
theorem u_set_sh {A B : Store} {b : Cell} : (A ++ B).set (A.length + k) b = A ++ B.set k b := by
  rw [List.set_append_right _ _ (by omega), Nat.add_sub_cancel_left]
theorem st_app {q : Cell} (h : st[i]? = some q) (L : Store) : (st ++ L)[i]? = some q := by
  rw [List.getElem?_append_left (List.getElem?_eq_some_iff.mp h).1]; exact h
theorem st_lt {q : Cell} (h : st[i]? = some q) : i < st.length := (List.getElem?_eq_some_iff.mp h).1
/-! expressions -/
def mbK (f : α → Mo β) : Option (Er α × Store) → Option (Er β × Store)
  | some (.ok a, st1) => f a st1
  | some (.ex c, st1) => some (.ex c, st1)
  | none => none
theorem u_mb {x : Mo α} {f : α → Mo β} : mb x f st = mbK f (x st) := by
  unfold mb
  cases x st with
  | none => rfl
  | some r => obtain ⟨r, s⟩ := r; cases r <;> rfl
theorem u_mbK {f : α → Mo β} {a : α} : mbK f (some (.ok a, st1)) = f a st1 := rfl
theorem u_mbX {f : α → Mo β} : mbK f (some (.ex c, st1)) = some (.ex c, st1) := rfl
def mpK (st : Store) : Option D → Option (Er SV × Store)
  | some d => some (.ok (.dat d), st)
  | none => none
def mptK (st : Store) : Option Bool → Option (Er Bool × Store)
  | some d => some (.ok d, st)
  | none => none
def malK (st : Store) : Option (List D) → Option (Er SV × Store)
  | some ds => some (.ok (.ref st.length), st ++ [.lst (ds.map .dat)])
  | none => none
theorem u_mP {p : SE → Option D} : mP p env st = mpK st (p (view st env)) := by
  unfold mP; cases p (view st env) <;> rfl
theorem u_mpK : mpK st (some d) = some (.ok (.dat d), st) := rfl
theorem u_mPT {p : SE → Option Bool} : mPT p env st = mptK st (p (view st env)) := by
  unfold mPT; cases p (view st env) <;> rfl
theorem u_mptK {b : Bool} : mptK st (some b) = some (.ok b, st) := rfl
theorem u_mAl {p : SE → Option (List D)} : mAl p env st = malK st (p (view st env)) := by
  unfold mAl; cases p (view st env) <;> rfl
theorem u_malK : malK st (some ds) = some (.ok (.ref st.length), st ++ [.lst (ds.map .dat)]) := rfl
theorem u_mV : mV i env st = (env.getD i none).map fun v => (.ok v, st) := rfl
theorem u_mNil : mNil env st = some (.ok [], st) := rfl
theorem u_mCons {gs : SEnv → Mo (List SV)} : mCons f gs env st = mb (f env) (fun x => mb (gs env) fun xs => mret (x :: xs)) st := rfl
theorem u_mLst : mLst fs env st = mb (fs env) (fun xs => mnew (.lst xs)) st := rfl
theorem u_mTup : mTup fs env st = mb (fs env) (fun xs => mnew (.tup xs)) st := rfl
theorem u_mDic0 : mDic0 env st = some (.ok (.ref st.length), st ++ [.dic []]) := rfl
def mopK (h : D → D → Option D) (x y : SV) : Mo SV := fun st => (dr 6 st x).bind fun u => (dr 6 st y).bind fun w => (h u w).map fun d => (.ok (.dat d), st)
theorem u_mOp : mOp h f g env st = mb (f env) (fun x => mb (g env) fun y => mopK h x y) st := rfl
theorem u_mopK {x y : SV} : mopK h x y st = (dr 6 st x).bind fun u => (dr 6 st y).bind fun w => (h u w).map fun d => (.ok (.dat d), st) := rfl
def mcbK (h : List D → Option D) (xs : List SV) : Mo SV := fun st => (omap (dr 6 st) xs).bind fun ds => (h ds).map fun d => (.ok (.dat d), st)
theorem u_mCB {h : List D → Option D} : mCB h fs env st = mb (fs env) (fun xs => mcbK h xs) st := rfl
theorem u_mCallV {h : List D → Option D} : mCallV h fs env st = mb (fs env) (fun xs => mcbK h xs) st := rfl
theorem u_mcbK {h : List D → Option D} : mcbK h xs st = (omap (dr 6 st) xs).bind fun ds => (h ds).map fun d => (.ok (.dat d), st) := rfl
def mclK (h : List D → Option D) (xs : List SV) : Mo SV := fun st => (omap (dr 6 st) xs).bind fun ds => (h ds).bind fun d => match d with
  | .list es => mnew (.lst (es.map .dat)) st
  | _ => none
theorem u_mCL {h : List D → Option D} : mCL h fs env st = mb (fs env) (fun xs => mclK h xs) st := rfl
theorem u_mclK {h : List D → Option D} : mclK h xs st = (omap (dr 6 st) xs).bind fun ds => (h ds).bind fun d => match d with
  | .list es => mnew (.lst (es.map .dat)) st
  | _ => none := rfl
def mbB (v : SV) : Mo Bool := match v with
  | .dat (.bool b) => mret b
  | _ => fun _ => none
theorem u_mB : mB f env st = mb (f env) mbB st := rfl
theorem u_mbB {b : Bool} : mbB (.dat (.bool b)) st = some (.ok b, st) := rfl
def andK (g : SEnv → Mo Bool) (env : SEnv) : Bool → Mo Bool
  | true => g env
  | false => mret false
def orK (g : SEnv → Mo Bool) (env : SEnv) : Bool → Mo Bool
  | true => mret true
  | false => g env
theorem u_andT {f g : SEnv → Mo Bool} : mAndT f g env st = mb (f env) (andK g env) st := by
  unfold mAndT
  rfl
theorem u_and1 {g : SEnv → Mo Bool} : andK g env true st = g env st := rfl
theorem u_and0 {g : SEnv → Mo Bool} : andK g env false st = some (.ok false, st) := rfl
theorem u_orT {f g : SEnv → Mo Bool} : mOrT f g env st = mb (f env) (orK g env) st := by
  unfold mOrT
  rfl
theorem u_or1 {g : SEnv → Mo Bool} : orK g env true st = some (.ok true, st) := rfl
theorem u_or0 {g : SEnv → Mo Bool} : orK g env false st = g env st := rfl
theorem u_notT {f : SEnv → Mo Bool} : mNotT f env st = mb (f env) (fun b => mret (!b)) st := rfl
def andV (g : SEnv → Mo SV) (env : SEnv) : Bool → Mo SV
  | true => g env
  | false => mret (.dat (.bool false))
def orV (g : SEnv → Mo SV) (env : SEnv) : Bool → Mo SV
  | true => mret (.dat (.bool true))
  | false => g env
theorem u_andV : mAndV f g env st = mb (mB f env) (andV g env) st := by
  unfold mAndV
  rfl
theorem u_andV1 : andV g env true st = g env st := rfl
theorem u_andV0 : andV g env false st = some (.ok (.dat (.bool false)), st) := rfl
theorem u_orV : mOrV f g env st = mb (mB f env) (orV g env) st := by
  unfold mOrV
  rfl
theorem u_orV1 : orV g env true st = some (.ok (.dat (.bool true)), st) := rfl
theorem u_orV0 : orV g env false st = g env st := rfl
theorem u_mT {f : SEnv → Mo Bool} : mT f env st = mb (f env) (fun b => mret (.dat (.bool b))) st := rfl
def fldK (c k : Nat) (o : SV) : Mo SV := fun st => (insAt c st o).bind fun xs => (xs[k]?).map fun v => (.ok v, st)
theorem u_mFld : mFld c k f env st = mb (f env) (fldK c k) st := rfl
theorem u_fldK {o : SV} : fldK c k o st = (insAt c st o).bind fun xs => (xs[k]?).map fun v => (.ok v, st) := rfl
def ixK (o : Store → SV → Option (List SV)) (x y : SV) : Mo SV := fun st => (o st x).bind fun xs => (intOf y).bind fun i => (atI xs i).map fun v => (.ok v, st)
theorem u_mIx {o : Store → SV → Option (List SV)} : mIx o f g env st = mb (f env) (fun x => mb (g env) fun y => ixK o x y) st := rfl
theorem u_ixK {o : Store → SV → Option (List SV)} {x y : SV} : ixK o x y st = (o st x).bind fun xs => (intOf y).bind fun i => (atI xs i).map fun v => (.ok v, st) := rfl
def ixdK (x y : SV) : Mo SV := fun st => (dicOf st x).bind fun kvs => (keyOf y).bind fun k => (valS kvs k).map fun v => (.ok v, st)
theorem u_mIxD : mIxD f g env st = mb (f env) (fun x => mb (g env) fun y => ixdK x y) st := rfl
theorem u_ixdK {x y : SV} : ixdK x y st = (dicOf st x).bind fun kvs => (keyOf y).bind fun k => (valS kvs k).map fun v => (.ok v, st) := rfl
def indK (n : Bool) (y x : SV) : Mo SV := fun st => (dicOf st x).bind fun kvs => (keyOf y).map fun k => (.ok (.dat (.bool (if n then !(valS kvs k).isSome else (valS kvs k).isSome))), st)
theorem u_mInD {n : Bool} : mInD n f g env st = mb (f env) (fun y => mb (g env) fun x => indK n y x) st := rfl
theorem u_indK {n : Bool} {x y : SV} : indK n y x st = (dicOf st x).bind fun kvs => (keyOf y).map fun k => (.ok (.dat (.bool (if n then !(valS kvs k).isSome else (valS kvs k).isSome))), st) := rfl
theorem u_mCall {F : List SV → Mo SV} : mCall F fs env st = mb (fs env) F st := rfl
def methK (c : Nat) (F : List SV → Mo SV) (fs : SEnv → Mo (List SV)) (env : SEnv) (o : SV) : Mo SV := fun st => (insAt c st o).bind fun _ => mb (fs env) (fun xs => F (o :: xs)) st
theorem u_mMeth {F : List SV → Mo SV} : mMeth c F f fs env st = mb (f env) (methK c F fs env) st := rfl
theorem u_methK {F : List SV → Mo SV} {o : SV} : methK c F fs env o st = (insAt c st o).bind fun _ => mb (fs env) (fun xs => F (o :: xs)) st := rfl
def makeK (n : Nat) : Option (Er SV × Store) → Option (Er SV × Store)
  | some (.ok (.dat .none), st') => some (.ok (.ref n), st')
  | some (.ex k, st') => some (.ex k, st')
  | _ => none
theorem u_mMake {F : List SV → Mo SV} : mMake c F fs env st = mb (fs env) (fun xs st => makeK st.length (F (.ref st.length :: xs) (st ++ [.ins c []]))) st := by
  unfold mMake
  congr 1
  funext xs s
  cases F (SV.ref s.length :: xs) (s ++ [.ins c []]) with
  | none => rfl
  | some r =>
    obtain ⟨r, s'⟩ := r
    cases r with
    | ex k => rfl
    | ok v =>
      cases v with
      | ref i => rfl
      | dat d => cases d <;> rfl
theorem u_makeK : makeK n (some (.ok (.dat .none), st)) = some (.ok (.ref n), st) := rfl
theorem u_makeX : makeK n (some (.ex c, st)) = some (.ex c, st) := rfl
def mlmK (h : List SV → List SV → Option (SV × List SV)) (fs : SEnv → Mo (List SV)) (env : SEnv) (o : SV) : Mo SV := fun st1 => match o with
  | .ref i => match st1[i]? with
    | some (.lst _) => mb (fs env) (fun as st => match st[i]? with
      | some (.lst xs) => (h xs as).map fun r => (.ok r.1, st.set i (.lst r.2))
      | _ => none) st1
    | _ => none
  | .dat _ => none
def mlmK2 (h : List SV → List SV → Option (SV × List SV)) (i : Nat) (st : Store) (as : List SV) : Option Cell → Option (Er SV × Store)
  | some (.lst xs) => (h xs as).map fun r => (.ok r.1, st.set i (.lst r.2))
  | _ => none
def mlmK1 (h : List SV → List SV → Option (SV × List SV)) (fs : SEnv → Mo (List SV)) (env : SEnv) (i : Nat) (st : Store) : Option Cell → Option (Er SV × Store)
  | some (.lst _) => mb (fs env) (fun as st => mlmK2 h i st as st[i]?) st
  | _ => none
theorem u_mLM {h : List SV → List SV → Option (SV × List SV)} : mLM h f fs env st = mb (f env) (mlmK h fs env) st := rfl
theorem u_mlmK {h : List SV → List SV → Option (SV × List SV)} : mlmK h fs env (.ref i) st = mlmK1 h fs env i st st[i]? := by
  unfold mlmK mlmK1
  show (match st[i]? with | some (.lst _) => _ | _ => _) = _
  rfl
theorem u_mlmK1 {h : List SV → List SV → Option (SV × List SV)} : mlmK1 h fs env i st (some (.lst xs)) = mb (fs env) (fun as st => mlmK2 h i st as st[i]?) st := rfl
theorem u_mlmK2 {h : List SV → List SV → Option (SV × List SV)} {as : List SV} : mlmK2 h i st as (some (.lst xs)) = (h xs as).map fun r => (.ok r.1, st.set i (.lst r.2)) := rfl
theorem u_appS {x : SV} (hl : xs.length < 1000000) : hAppS xs [x] = some (.dat .none, xs ++ [x]) := if_pos hl
theorem u_clrS : hClrS xs [] = some (.dat .none, []) := rfl
def minK (vs : List SV) : Mo SV := fun st => match vs with
  | [v] => (lstOf st v).bind fun xs => (omap datOf xs).bind fun ds => (hMinL [.list ds]).map fun d => (.ok (.dat d), st)
  | _ => none
theorem u_mMinD : mMinD fs env st = mb (fs env) minK st := rfl
theorem u_minK : minK [v] st = (lstOf st v).bind fun xs => (omap datOf xs).bind fun ds => (hMinL [.list ds]).map fun d => (.ok (.dat d), st) := rfl
def catK (x y : SV) : Mo SV := fun st => (lstOf st x).bind fun xs => (lstOf st y).bind fun ys => if xs.length + ys.length ≤ 1000000 then mnew (.lst (xs ++ ys)) st else none
theorem u_mCat : mCat f g env st = mb (f env) (fun x => mb (g env) fun y => catK x y) st := rfl
theorem u_catK {x y : SV} : catK x y st = (lstOf st x).bind fun xs => (lstOf st y).bind fun ys => if xs.length + ys.length ≤ 1000000 then mnew (.lst (xs ++ ys)) st else none := rfl
def cutK (x : SV) (a b : Option Int) : Mo SV := fun st => (lstOf st x).bind fun xs => mnew (.lst (cutM xs a b)) st
theorem u_mCut {lo hi : SEnv → Mo (Option Int)} : mCut f lo hi env st = mb (f env) (fun x => mb (lo env) fun a => mb (hi env) fun b => cutK x a b) st := rfl
theorem u_cutK {x : SV} {a b : Option Int} : cutK x a b st = (lstOf st x).bind fun xs => mnew (.lst (cutM xs a b)) st := rfl
theorem u_oNone : oNoneM env st = some (.ok none, st) := rfl
theorem u_oSome : oSomeM f env st = mb (f env) (fun v st => (intOf v).map fun i => (.ok (some i), st)) st := rfl
theorem u_mListL : mListL f env st = mb (f env) (fun x st => (lstOf st x).bind fun xs => mnew (.lst xs) st) st := rfl
theorem u_mLenL : mLenL f env st = mb (f env) (fun x st => (lstOf st x).map fun xs => (.ok (.dat (.int xs.length)), st)) st := rfl
theorem u_mLenD : mLenD f env st = mb (f env) (fun x st => (dicOf st x).map fun xs => (.ok (.dat (.int xs.length)), st)) st := rfl
theorem u_mIsNone {n : Bool} : mIsNone n f env st = mb (f env) (fun v => mret (.dat (.bool (if n then !isNo v else isNo v)))) st := rfl
theorem u_isNo_ref : isNo (.ref i) = false := rfl
theorem u_isNo_none : isNo (.dat .none) = true := rfl
theorem u_isNo_int {j : Int} : isNo (.dat (.int j)) = false := rfl
theorem u_isNo_list : isNo (.dat (.list ds)) = false := rfl
def isxK (sub : Nat → Option Bool) (v : SV) : Mo SV := fun st => match v with
  | .ref i => match st[i]? with
    | some (.exc k) => (sub k).map fun b => (.ok (.dat (.bool b)), st)
    | _ => none
  | .dat .none => some (.ok (.dat (.bool false)), st)
  | .dat _ => none
def isxC (sub : Nat → Option Bool) (st : Store) : Option Cell → Option (Er SV × Store)
  | some (.exc k) => (sub k).map fun b => (.ok (.dat (.bool b)), st)
  | _ => none
theorem u_mIsX {sub : Nat → Option Bool} : mIsX sub f env st = mb (f env) (isxK sub) st := rfl
theorem u_isxK {sub : Nat → Option Bool} : isxK sub (.ref i) st = isxC sub st st[i]? := by unfold isxK isxC; rfl
theorem u_isxN {sub : Nat → Option Bool} : isxK sub (.dat .none) st = some (.ok (.dat (.bool false)), st) := rfl
theorem u_isxC {sub : Nat → Option Bool} : isxC sub st (some (.exc k)) = (sub k).map fun b => (.ok (.dat (.bool b)), st) := rfl
theorem u_mYes : mYes env st = some (.ok true, st) := rfl
/-! statements -/
def zqK (y : Zsem) : Option (Rz × Store) → Option (Rz × Store)
  | some (.nx e', st') => y e' st'
  | r => r
theorem u_seq : zSeq z y e st = zqK y (z e st) := by
  unfold zSeq
  cases z e st with
  | none => rfl
  | some r => obtain ⟨r, s⟩ := r; cases r <;> rfl
theorem u_zq : zqK y (some (.nx e, st)) = y e st := rfl
theorem u_zqr : zqK y (some (.rt v, st)) = some (.rt v, st) := rfl
theorem u_zqx : zqK y (some (.ex c e, st)) = some (.ex c e, st) := rfl
theorem u_zqb : zqK y (some (.bk e, st)) = some (.bk e, st) := rfl
theorem u_zqc : zqK y (some (.ct e, st)) = some (.ct e, st) := rfl
def zbK (k : α → Zsem) (env : SEnv) : Option (Er α × Store) → Option (Rz × Store)
  | some (.ok a, st1) => k a env st1
  | some (.ex c, st1) => some (.ex c env, st1)
  | none => none
theorem u_zB {f : SEnv → Mo α} {k : α → Zsem} : zB f k env st = zbK k env (f env st) := by
  unfold zB
  cases f env st with
  | none => rfl
  | some r => obtain ⟨r, s⟩ := r; cases r <;> rfl
theorem u_zb {k : α → Zsem} {a : α} : zbK k env (some (.ok a, st1)) = k a env st1 := rfl
theorem u_zbx {k : α → Zsem} : zbK k env (some (.ex c, st1)) = some (.ex c env, st1) := rfl
def ifK (z y : Zsem) : Bool → Zsem
  | true => z
  | false => y
theorem u_if {q : SEnv → Mo Bool} : zIf q z y e st = zbK (ifK z y) e (q e st) := by
  unfold zIf
  rw [u_zB]
  rfl
theorem u_if1 : ifK z y true e st = z e st := rfl
theorem u_if0 : ifK z y false e st = y e st := rfl
theorem u_expr : zExpr f e st = zbK (fun _ => zNx) e (f e st) := u_zB
theorem u_ret1 : zRet f e st = zbK (fun v _ st => some (.rt v, st)) e (f e st) := u_zB
theorem u_retN : zRetN e st = some (.rt (.dat .none), st) := rfl
theorem u_raise : zRaise c e st = some (.ex c e, st) := rfl
theorem u_nx : zNx e st = some (.nx e, st) := rfl
theorem u_bk : zBk e st = some (.bk e, st) := rfl
theorem u_ct : zCt e st = some (.ct e, st) := rfl
theorem u_set : zSet i f e st = zbK (fun v e st => some (.nx (e.set i (some v)), st)) e (f e st) := u_zB
theorem u_tgt {s : GSem} : zTgt s f e st = zbK (fun v e st => (s (.one v) e st).map fun r => (.nx r.1, r.2)) e (f e st) := u_zB
theorem u_gN : gN i (.one v) e st = some (e.set i (some v), st) := rfl
theorem u_gsN : gsN [] e st = some (e, st) := rfl
theorem u_gsC {s : GSem} {ss : GsSem} : gsC s ss (v :: xs) e st = (s (.one v) e st).bind fun r => ss xs r.1 r.2 := rfl
theorem u_gT1 {ss : GsSem} : gT ss (.one v) e st = (tupOf st v).bind fun xs => ss xs e st := rfl
theorem u_gT2 {ss : GsSem} {w : SV} : gT ss (.pair v w) e st = ss [v, w] e st := rfl
theorem u_gL1 {ss : GsSem} : gL ss (.one v) e st = (lstOf st v).bind fun xs => ss xs e st := rfl
def fldP (c k : Nat) (v : SV) (e : SEnv) (i : Nat) (st : Store) : Option (Rz × Store) := (insC c st[i]?).bind fun xs => (putI xs k v).map fun ys => (.nx e, st.set i (.ins c ys))
def zfldK (c k : Nat) (v o : SV) : Zsem := fun e st => match o with
  | .ref i => (insAt c st (.ref i)).bind fun xs => (putI xs k v).map fun ys => (.nx e, st.set i (.ins c ys))
  | .dat _ => none
theorem u_fld {fo fv : SEnv → Mo SV} : zFld c k fo fv e st = zbK (fun v => zB fo fun o => zfldK c k v o) e (fv e st) := u_zB
theorem u_zfldK : zfldK c k v (.ref i) e st = (insC c st[i]?).bind fun xs => (putI xs k v).map fun ys => (.nx e, st.set i (.ins c ys)) := by
  rw [← u_ins_ref]; rfl
theorem u_putI1 (hk : k < xs.length) : putI xs k v = some (xs.set k v) := if_pos hk
theorem u_putI2 : putI xs xs.length v = some (xs ++ [v]) := by unfold putI; rw [if_neg (Nat.lt_irrefl _), if_pos rfl]
theorem u_putI0 : putI [] 0 v = some [v] := rfl
theorem u_hopI {a b : D} : hopI h (.dat a) (.dat b) = (h a b).map .dat := rfl
theorem u_zAug {fv : SEnv → Mo SV} : zAug i h fv e st = (e.getD i none).bind fun x => zbK (fun v e st => (hopI h x v).map fun w => (.nx (e.set i (some w)), st)) e (fv e st) := by
  unfold zAug
  congr 1
  funext x
  exact u_zB
def runK : Option (Rz × Store) → Option (Er SV × Store)
  | some (.rt v, st') => some (.ok v, st')
  | some (.nx _, st') => some (.ok (.dat .none), st')
  | some (.ex c _, st') => some (.ex c, st')
  | _ => none
theorem u_run {np : Nat} (hl : xs.length = np) : runM n np z xs st = runK (z (xs.map some ++ List.replicate (n - xs.length) none) st) := by
  unfold runM
  rw [if_pos hl]
  cases z (xs.map some ++ List.replicate (n - xs.length) none) st with
  | none => rfl
  | some r => obtain ⟨r, s⟩ := r; cases r <;> rfl
theorem u_runR : runK (some (.rt v, st)) = some (.ok v, st) := rfl
theorem u_runN : runK (some (.nx e, st)) = some (.ok (.dat .none), st) := rfl
theorem u_runX : runK (some (.ex c e, st)) = some (.ex c, st) := rfl
def tryK (p : Nat → Bool) (i j : Nat) (env : SEnv) : Option (Rz × Store) → Option (Rz × Store)
  | some (.ex c e, st1) => if p c = true ∧ i < e.length then some (.nx (((e.set i (some (.ref st1.length))).set j (some (.ref st1.length))).set i none), st1 ++ [.exc c]) else none
  | r => r
theorem u_try {p : Nat → Bool} {i j : Nat} : zTry p i j z e st = tryK p i j e (z e st) := by
  unfold zTry
  cases z e st with
  | none => rfl
  | some r => obtain ⟨r, s⟩ := r; cases r <;> rfl
theorem u_tryN {p : Nat → Bool} {i j : Nat} : tryK p i j env (some (.nx e, st)) = some (.nx e, st) := rfl
theorem u_tryR {p : Nat → Bool} {i j : Nat} : tryK p i j env (some (.rt v, st)) = some (.rt v, st) := rfl
theorem u_tryX {p : Nat → Bool} {i j : Nat} (h1 : p c = true) (h2 : i < e.length) : tryK p i j env (some (.ex c e, st)) = some (.nx (((e.set i (some (.ref st.length))).set j (some (.ref st.length))).set i none), st ++ [.exc c]) := if_pos ⟨h1, h2⟩
/-! loops -/
theorem while_inv {q : SEnv → Mo Bool} {kl : List Nat} (P : Nat → SEnv → Store → Prop) (Q : Rz × Store → Prop)
    (hs : ∀ n e s, P n e s → (∃ s1, q e s = some (.ok false, s1) ∧ Q (.nx e, s1)) ∨ ∃ s1, q e s = some (.ok true, s1) ∧ ∃ r, z e s1 = some r ∧ match r with
      | (.nx e', s') => ∃ m, m < n ∧ P m (kilM kl e') s'
      | (.ct e', s') => ∃ m, m < n ∧ P m (kilM kl e') s'
      | (.bk e', s') => Q (.nx e', s')
      | (.rt v, s') => Q (.rt v, s')
      | (.ex c e', s') => Q (.ex c e', s')) (n : Nat) (h0 : P n (kilM kl e) st) : ∃ r, zWhile q z kl e st = some r ∧ Q r := by
  have key : ∀ (N n : Nat) (e : SEnv) (s : Store), n < N → P n e s → ∃ r, whZ q z kl N e s = some r ∧ Q r := by
    intro N
    induction N with
    | zero => intro n e s hn _; omega
    | succ N ih =>
      intro n e s hn hp
      rcases hs n e s hp with ⟨s1, h1, h2⟩ | ⟨s1, h1, r, h2, h3⟩
      · exact ⟨_, by unfold whZ; rw [h1]; rfl, h2⟩
      · obtain ⟨r, s'⟩ := r
        cases r with
        | nx e' =>
          obtain ⟨m, hm, hp'⟩ := h3
          obtain ⟨r, hr, hq⟩ := ih m _ _ (by omega) hp'
          exact ⟨r, by unfold whZ; rw [h1]; show (z e s1).bind _ = _; rw [h2]; exact hr, hq⟩
        | ct e' =>
          obtain ⟨m, hm, hp'⟩ := h3
          obtain ⟨r, hr, hq⟩ := ih m _ _ (by omega) hp'
          exact ⟨r, by unfold whZ; rw [h1]; show (z e s1).bind _ = _; rw [h2]; exact hr, hq⟩
        | bk e' => exact ⟨_, by unfold whZ; rw [h1]; show (z e s1).bind _ = _; rw [h2]; rfl, h3⟩
        | rt v => exact ⟨_, by unfold whZ; rw [h1]; show (z e s1).bind _ = _; rw [h2]; rfl, h3⟩
        | ex c e' => exact ⟨_, by unfold whZ; rw [h1]; show (z e s1).bind _ = _; rw [h2]; rfl, h3⟩
  obtain ⟨r, hr, hq⟩ := key (n + 1) n _ _ (Nat.lt_succ_self _) h0
  exact ⟨r, zWhile_of hr, hq⟩
theorem forZ_cons {ok : Store → Prop} {set : GSem} {kl : List Nat} {x : Itm} {l : List Itm} (h : ok st) : forZ ok set z kl (x :: l) e st = (set x e st).bind fun r => (z r.1 r.2).bind fun q => match q with
    | (.nx e', st') => forZ ok set z kl l (kilM kl e') st'
    | (.ct e', st') => forZ ok set z kl l (kilM kl e') st'
    | (.bk e', st') => some (.nx (kilM kl e'), st')
    | (.rt v, st') => some (.rt v, st')
    | (.ex c e', st') => some (.ex c e', st') := if_pos h
theorem for_inv {ok : Store → Prop} {set : GSem} {kl : List Nat} (it : α → Itm) (l : List α) (P : List α → SEnv → Store → Prop) (Q : Rz × Store → Prop)
    (hs : ∀ p x r e s, l = p ++ x :: r → P p e s → ok s ∧ ∃ e1 s1, set (it x) e s = some (e1, s1) ∧ ∃ r, z e1 s1 = some r ∧ match r with
      | (.nx e', s') => P (p ++ [x]) (kilM kl e') s'
      | (.ct e', s') => P (p ++ [x]) (kilM kl e') s'
      | (.bk e', s') => Q (.nx (kilM kl e'), s')
      | (.rt v, s') => Q (.rt v, s')
      | (.ex c e', s') => Q (.ex c e', s'))
    (he : ∀ e s, P l e s → ok s ∧ Q (.nx e, s)) (h0 : P [] e st) : ∃ r, forZ ok set z kl (l.map it) e st = some r ∧ Q r := by
  have key : ∀ (r p : List α) (e : SEnv) (s : Store), l = p ++ r → P p e s → ∃ q, forZ ok set z kl (r.map it) e s = some q ∧ Q q := by
    intro r
    induction r with
    | nil =>
      intro p e s hp h
      rw [List.append_nil] at hp
      subst hp
      obtain ⟨h1, h2⟩ := he e s h
      exact ⟨_, by unfold forZ; exact if_pos h1, h2⟩
    | cons x r ih =>
      intro p e s hp h
      obtain ⟨h1, e1, s1, h2, q, h3, h4⟩ := hs p x r e s hp h
      obtain ⟨q, s'⟩ := q
      have hp' : l = p ++ [x] ++ r := by rw [hp, List.append_assoc]; rfl
      have u : forZ ok set z kl ((x :: r).map it) e s = (z e1 s1).bind fun q => match q with
          | (.nx e', st') => forZ ok set z kl (r.map it) (kilM kl e') st'
          | (.ct e', st') => forZ ok set z kl (r.map it) (kilM kl e') st'
          | (.bk e', st') => some (.nx (kilM kl e'), st')
          | (.rt v, st') => some (.rt v, st')
          | (.ex c e', st') => some (.ex c e', st') := by
        rw [List.map_cons, forZ_cons h1, h2]
        rfl
      cases q with
      | nx e' =>
        obtain ⟨q, hq, hQ⟩ := ih _ _ _ hp' h4
        exact ⟨q, by rw [u, h3]; exact hq, hQ⟩
      | ct e' =>
        obtain ⟨q, hq, hQ⟩ := ih _ _ _ hp' h4
        exact ⟨q, by rw [u, h3]; exact hq, hQ⟩
      | bk e' => exact ⟨_, by rw [u, h3]; rfl, h4⟩
      | rt v => exact ⟨_, by rw [u, h3]; rfl, h4⟩
      | ex c e' => exact ⟨_, by rw [u, h3]; rfl, h4⟩
  exact key l [] e st rfl h0
theorem u_for {set : GSem} {kl : List Nat} {f : SEnv → Mo Src} : zFor set z kl f e st = zbK (fun s env st => forZ s.ok set z kl s.its (kilM kl env) st) e (f e st) := u_zB
theorem compZ_cons {ok : Store → Prop} {set : GSem} {q : SEnv → Mo Bool} {r : Nat} {x : Itm} {l : List Itm} (h : ok st) : compZ ok set q f r e (x :: l) st = (set x e st).bind fun p => (okv (q p.1 p.2)).bind fun b => match b with
    | (false, st1) => compZ ok set q f r e l st1
    | (true, st1) => (okv (f p.1 st1)).bind fun v => match v.2[r]? with
      | some (.lst acc) => if acc.length < 1000000 then compZ ok set q f r e l (v.2.set r (.lst (acc ++ [v.1]))) else none
      | _ => none := if_pos h
theorem comp_inv {ok : Store → Prop} {set : GSem} {q : SEnv → Mo Bool} {r : Nat} (it : α → Itm) (l : List α) (P : List α → Store → Prop) (Q : Store → Prop)
    (hs : ∀ p x w s, l = p ++ x :: w → P p s → ok s ∧ ∃ e1 s1, set (it x) e s = some (e1, s1) ∧ ((∃ s2, q e1 s1 = some (.ok false, s2) ∧ P (p ++ [x]) s2) ∨
      ∃ s2 v s3 acc, q e1 s1 = some (.ok true, s2) ∧ f e1 s2 = some (.ok v, s3) ∧ s3[r]? = some (.lst acc) ∧ acc.length < 1000000 ∧ P (p ++ [x]) (s3.set r (.lst (acc ++ [v])))))
    (he : ∀ s, P l s → ok s ∧ Q s) (h0 : P [] st) : ∃ s', compZ ok set q f r e (l.map it) st = some s' ∧ Q s' := by
  have key : ∀ (w p : List α) (s : Store), l = p ++ w → P p s → ∃ s', compZ ok set q f r e (w.map it) s = some s' ∧ Q s' := by
    intro w
    induction w with
    | nil =>
      intro p s hp h
      rw [List.append_nil] at hp
      subst hp
      obtain ⟨h1, h2⟩ := he s h
      exact ⟨_, by unfold compZ; exact if_pos h1, h2⟩
    | cons x w ih =>
      intro p s hp h
      obtain ⟨h1, e1, s1, h2, h3⟩ := hs p x w s hp h
      have hp' : l = p ++ [x] ++ w := by rw [hp, List.append_assoc]; rfl
      rcases h3 with ⟨s2, h3, h4⟩ | ⟨s2, v, s3, acc, h3, h4, h5, h6, h7⟩
      · obtain ⟨s', i1, i2⟩ := ih _ _ hp' h4
        refine ⟨s', ?_, i2⟩
        rw [List.map_cons, compZ_cons h1, h2]
        show (okv (q e1 s1)).bind _ = _
        rw [h3]
        exact i1
      · obtain ⟨s', i1, i2⟩ := ih _ _ hp' h7
        refine ⟨s', ?_, i2⟩
        rw [List.map_cons, compZ_cons h1, h2]
        show (okv (q e1 s1)).bind _ = _
        rw [h3]
        show (okv (f e1 s2)).bind _ = _
        rw [h4]
        show (match s3[r]? with | some (.lst acc) => _ | _ => _) = _
        rw [h5]
        show (if acc.length < 1000000 then _ else _) = _
        rw [if_pos h6]
        exact i1
  exact key l [] st rfl h0
theorem u_comp {ws : List Nat} {set : GSem} {q : SEnv → Mo Bool} {fi : SEnv → Mo Src} : mComp ws set q f fi e st = mb (fi e) (fun s st => (compZ s.ok set q f st.length (kilM ws e) s.its (st ++ [.lst []])).map fun st' => (.ok (.ref st.length), st')) st := rfl
def ilK (v : SV) : Mo Src := fun st => (lstOf st v).map fun xs => (.ok ⟨ones xs, fun st' => lstOf st' v = some xs⟩, st)
theorem u_mIL : mIL f e st = mb (f e) ilK st := rfl
theorem u_ilK : ilK v st = (lstOf st v).map fun xs => (.ok ⟨ones xs, fun st' => lstOf st' v = some xs⟩, st) := rfl
def ir1K (vs : List SV) : Mo Src := fun st => match vs with
  | [v] => (intOf v).bind fun j => if -1000000 < j ∧ j < 1000000 then some (.ok ⟨rngI 0 j.toNat, fun _ => True⟩, st) else none
  | _ => none
theorem u_mIR1 : mIR1 fs e st = mb (fs e) ir1K st := rfl
theorem u_ir1 {j : Int} (h1 : -1000000 < j) (h2 : j < 1000000) : ir1K [.dat (.int j)] st = some (.ok ⟨rngI 0 j.toNat, fun _ => True⟩, st) := if_pos ⟨h1, h2⟩
def ir2K (vs : List SV) : Mo Src := fun st => match vs with
  | [v, w] => (intOf v).bind fun i => (intOf w).bind fun j => if (-1000000 < i ∧ i < 1000000) ∧ -1000000 < j ∧ j < 1000000 then some (.ok ⟨rngI i (j - i).toNat, fun _ => True⟩, st) else none
  | _ => none
theorem u_mIR2 : mIR2 fs e st = mb (fs e) ir2K st := rfl
theorem u_ir2 {i j : Int} (h1 : -1000000 < i) (h2 : i < 1000000) (h3 : -1000000 < j) (h4 : j < 1000000) : ir2K [.dat (.int i), .dat (.int j)] st = some (.ok ⟨rngI i (j - i).toNat, fun _ => True⟩, st) := if_pos ⟨⟨h1, h2⟩, h3, h4⟩
def ienK (vs : List SV) : Mo Src := fun st => match vs with
  | [v] => (lstOf st v).map fun xs => (.ok ⟨enumI xs, fun st' => lstOf st' v = some xs⟩, st)
  | _ => none
theorem u_mIEn : mIEn fs e st = mb (fs e) ienK st := rfl
theorem u_ien : ienK [v] st = (lstOf st v).map fun xs => (.ok ⟨enumI xs, fun st' => lstOf st' v = some xs⟩, st) := rfl
def izpK (vs : List SV) : Mo Src := fun st => match vs with
  | [v, w] => (lstOf st v).bind fun xs => (lstOf st w).map fun ys => (.ok ⟨zipI xs ys, fun st' => lstOf st' v = some xs ∧ lstOf st' w = some ys⟩, st)
  | _ => none
theorem u_mIZp : mIZp fs e st = mb (fs e) izpK st := rfl
theorem u_izp {w : SV} : izpK [v, w] st = (lstOf st v).bind fun xs => (lstOf st w).map fun ys => (.ok ⟨zipI xs ys, fun st' => lstOf st' v = some xs ∧ lstOf st' w = some ys⟩, st) := rfl
theorem u_at0 {a : α} {l : List α} : atI (a :: l) 0 = some a := by
  rw [atI_in (Int.le_refl _) (by rw [List.length_cons]; omega)]; rfl
theorem u_at1 {a b : α} {l : List α} : atI (a :: b :: l) 1 = some b := by
  rw [atI_in (by omega) (by rw [List.length_cons, List.length_cons]; omega)]; rfl
theorem u_at2 {a b d : α} {l : List α} : atI (a :: b :: d :: l) 2 = some d := by
  rw [atI_in (by omega) (by rw [List.length_cons, List.length_cons, List.length_cons]; omega)]; rfl
theorem u_at3 {a b d d' : α} {l : List α} : atI (a :: b :: d :: d' :: l) 3 = some d' := by
  rw [atI_in (by omega) (by rw [List.length_cons, List.length_cons, List.length_cons, List.length_cons]; omega)]; rfl
theorem seqP {p : SE → Option D} {d : D} {r : Option (Rz × Store)} (h : p (view st e) = some d) (k : y (e.set i (some (.dat d))) st = r) : zSeq (zSet i (mP p)) y e st = r := by
  rw [u_seq, u_set, u_mP, h]
  exact k
theorem seqAl {p : SE → Option (List D)} {r : Option (Rz × Store)} (h : p (view st e) = some ds) (k : y (e.set i (some (.ref st.length))) (st ++ [.lst (ds.map .dat)]) = r) : zSeq (zSet i (mAl p)) y e st = r := by
  rw [u_seq, u_set, u_mAl, h]
  exact k
theorem seqZ {e' : SEnv} {r : Option (Rz × Store)} (h : z e st = some (.nx e', st1)) (k : y e' st1 = r) : zSeq z y e st = r := by
  rw [u_seq, h]
  exact k
theorem seqPX {p : SE → Option D} {d : D} {R : Rz} (h : p (view st e) = some d) (k : ∃ s, y (e.set i (some (.dat d))) st = some (R, s)) : ∃ s, zSeq (zSet i (mP p)) y e st = some (R, s) := by
  obtain ⟨s, k⟩ := k
  exact ⟨s, seqP h k⟩
theorem seqAlX {p : SE → Option (List D)} {R : Rz} (h : p (view st e) = some ds) (k : ∃ s, y (e.set i (some (.ref st.length))) (st ++ [.lst (ds.map .dat)]) = some (R, s)) : ∃ s, zSeq (zSet i (mAl p)) y e st = some (R, s) := by
  obtain ⟨s, k⟩ := k
  exact ⟨s, seqAl h k⟩
theorem seqZX {e' : SEnv} {R : Rz} (h : z e st = some (.nx e', st1)) (k : ∃ s, y e' st1 = some (R, s)) : ∃ s, zSeq z y e st = some (R, s) := by
  obtain ⟨s, k⟩ := k
  exact ⟨s, seqZ h k⟩
theorem run_ex {np : Nat} (hl : xs.length = np) (h : ∃ s, z (xs.map some ++ List.replicate (n - xs.length) none) st = some (.rt v, s)) : ∃ s, runM n np z xs st = some (.ok v, s) := by
  obtain ⟨s, h⟩ := h
  exact ⟨s, by rw [u_run hl, h]; rfl⟩
theorem u_kil0 : kilM [] e = e := rfl
theorem u_kilC {is : List Nat} : kilM (i :: is) e = (kilM is e).set i none := rfl
theorem rngI_map {n : Nat} : rngI 0 n = (List.range n).map fun k : Nat => Itm.one (.dat (.int (k : Int))) := by
  unfold rngI
  exact List.map_congr_left fun k _ => by rw [Int.zero_add]
theorem ones_map : ones (ds.map .dat) = ds.map fun d => Itm.one (.dat d) := by unfold ones; rw [List.map_map]; rfl
end
end MV

namespace MV
open PySem PySem.Spec PyProof.Rows L2 PV
/-! ### isinstance(caught, (a class, ..)) -/
def tCs : List V → TA
  | [] => tNil
  | c :: cs => tCons (tC c) (tCs cs)
theorem tCs_run : ∀ {cs : List V} {σ : L2.St} {H : Hp} {Q : List V → Hp → Prop}, Q cs H → tCs cs σ H Q
  | [], _, _, _, h => h
  | _ :: cs, _, _, _, h => tCs_run (cs := cs) h
def rIsXT (K : PySem.W.Frag) : List V → Hp → VK → Prop := fun xs H Q => ∃ (a D tp : Addr) (cs : List V) (us : List Value) (b : Bool), xs = [.ref a, .ref tp] ∧ H a = some (.ext (ExcAt D a)) ∧ ExcC K D ∧ H tp = some (.tup cs) ∧ Paired ClsV cs us ∧ PySem.W.kitAny K (.ref D) us = some b ∧ Q (.bl b) H
theorem call_isXT {X : Cx} : CallR X (.builtin "isinstance") (rIsXT X.K) := by
  intro pins s σ H xs us Q I r h
  obtain ⟨a, D, tp, cs, ws, b, rfl, ha, C, hT, k, e, q⟩ := h
  obtain ⟨u1, u2, rfl, r1, r2⟩ := vals2 r
  cases (show u1 = Value.ref a from r1)
  cases (show u2 = Value.ref tp from r2)
  obtain ⟨⟨oe, vs, hget, h1, h2, hv⟩, _⟩ := I.hok a _ ha
  have J : PySem.W.InstAt s.heap a oe D none := by
    obtain ⟨oc, od, oda, osl⟩ := oe
    dsimp only at h1 h2 hv
    subst h1 h2 hv
    exact ⟨hget, rfl, rfl, trivial⟩
  obtain ⟨_, its, rv, o, g1, g2, n, g3⟩ := (show ObjOk X.prog X.w H s.heap tp (.tup cs) from I.hok tp _ hT)
  have e3 := ClsV.all k rv
  subst e3
  obtain ⟨oc, od, dt, sl⟩ := o
  simp only at g2 g3
  subst g2 g3
  exact PySem.W.kia_tup (PySem.W.handS_kitx_exc C.hg C.hk C.hs C.hd C.ha C.hn C.ht C.hm) I.kIn J g1 e (fun z => nomatch z) fun tk => ⟨.bl b, H, I.kept (t' := tk) fun _ _ z => z, rfl, q⟩
section
variable {X : Cx} {C : CT} {W : WX} {a : Expr} {es : List Expr} {f : SEnv → Mo SV} {ta : TE} {p p3 pos : Pos} {p2 : Nat}
theorem m_isXT (sub : Nat → Option Bool) {cs : List V} {us : List Value} (hm : X.mg "isinstance" = none) (hes : PA X es (tCs cs)) (hcls : Paired ClsV cs us) (hn : PySem.W.kitAny X.K (.type "NoneType") us = some false)
    (hsub : ∀ k b, sub k = some b → ExcC X.K (C.ca k) ∧ PySem.W.kitAny X.K (.ref (C.ca k)) us = some b) (ha : ME X C W a f ta) (hz : cs.length ≤ sizeLine)
    (hg : Gl X "isinstance" := by rfl) (he : starEach [a, .Tuple es p2 p3] X.env = (false, eval a X.env) :: starEach [.Tuple es p2 p3] X.env := by rfl) (he2 : starEach [.Tuple es p2 p3] X.env = (false, eval (.Tuple es p2 p3) X.env) :: starEach [] X.env := by rfl) (hpl : (backTo pos (starEach [.Tuple es p2 p3] X.env)).any (·.1) = false := by rfl) :
    ME X C W (.Call (.Name "isinstance" p) [a, .Tuple es p2 p3] [] pos) (mIsX sub f) (tCB (fun xs H Q => rIsXT X.K xs H Q ∨ rIsiT X.K xs H Q) (tCons ta (tCons (tTup (tCs cs)) tNil))) :=
  ⟨pe_callB (callR_or call_isXT call_isiT) hg hm PyProof.Rows.boot_isinstance (pa_cons ha.pe (pa_cons (pe_tup hes) pa_nil he2) he) (by decide) (by decide) he hpl, fun m env σ H st Q r st' R z p => by
  refine ok_mb (t := ta) ha.ok R z p fun v m1 H1 s st1 x1 R1 q1 z1 p1 => ?_
  refine tCs_run ⟨hz, fun q hq => ?_⟩
  obtain ⟨S2, x2⟩ := R1.sr.grow (same_new (o := .tup cs) hq)
  have hT : upd H1 q (.tup cs) q = some (.tup cs) := upd_same
  cases s with
  | ref i =>
    simp only at z1
    cases hc : st1[i]? with
    | none => rw [hc] at z1; cases z1
    | some c =>
      rw [hc] at z1
      cases c with
      | exc k =>
        simp only at z1
        cases e1 : sub k with
        | none => rw [e1] at z1; cases z1
        | some b =>
          rw [e1] at z1
          cases z1
          obtain ⟨h1, h2⟩ := hsub k b e1
          obtain ⟨a, h3, rfl⟩ := q1
          obtain ⟨a', h4, h5⟩ := R1.sr.cl i _ hc
          rw [h3] at h4
          cases h4
          exact .inl ⟨a, C.ca k, q, cs, us, b, rfl, same_new (o := .tup cs) hq _ _ h5, h1, hT, hcls, h2, p1 _ m1 _ x2 (R1.ex S2 x2) (.bl b)⟩
      | _ => cases z1
  | dat d =>
    cases d with
    | none =>
      cases z1
      cases q1
      exact .inr ⟨.non, q, cs, .type "NoneType", us, false, rfl, hT, hcls, .base .non, hn, p1 _ m1 _ x2 (R1.ex S2 x2) (.bl false)⟩
    | _ => cases z1⟩
end
end MV

namespace MV
open PySem PySem.Spec PyProof.Rows L2 PV
/-! ### reckoning loops and lists within a row of steps -/
section
variable {α β : Type} {st st1 : Store} {env e : SEnv} {i : Nat} {f : SEnv → Mo SV} {z y : Zsem} {set : GSem} {q : SEnv → Mo Bool} {fi : SEnv → Mo Src} {ws kl : List Nat} {src : Src}
theorem comp_flt {ok : Store → Prop} (it : α → Itm) (l : List α) (b : α → Bool) (g : α → SV) (hok : ∀ acc, ok (st ++ [.lst acc])) (hl : l.length ≤ 1000000)
    (hs : ∀ x ∈ l, ∃ e1, (∀ acc, set (it x) e (st ++ [.lst acc]) = some (e1, st ++ [.lst acc])) ∧ (∀ acc, q e1 (st ++ [.lst acc]) = some (.ok (b x), st ++ [.lst acc])) ∧ (b x = true → ∀ acc, f e1 (st ++ [.lst acc]) = some (.ok (g x), st ++ [.lst acc]))) :
    compZ ok set q f st.length e (l.map it) (st ++ [.lst []]) = some (st ++ [.lst ((l.filter b).map g)]) := by
  obtain ⟨s', h1, h2⟩ := comp_inv (ok := ok) (set := set) (q := q) (f := f) (r := st.length) (e := e) (st := st ++ [.lst []]) it l (fun p s => s = st ++ [.lst ((p.filter b).map g)]) (fun s => s = st ++ [.lst ((l.filter b).map g)])
    (fun p x w s hx hp => by
      subst hp
      obtain ⟨e1, g1, g2, g3⟩ := hs x (by rw [hx]; simp)
      refine ⟨hok _, e1, _, g1 _, ?_⟩
      cases hb : b x with
      | false => exact .inl ⟨_, by rw [g2, hb], by rw [List.filter_append, List.filter_cons, hb]; simp⟩
      | true =>
        refine .inr ⟨_, g x, _, (p.filter b).map g, by rw [g2, hb], g3 hb _, u_get0, ?_, ?_⟩
        · have h1 := congrArg List.length hx
          have h2 := List.length_filter_le b p
          rw [List.length_append, List.length_cons] at h1
          rw [List.length_map]
          omega
        · rw [u_set0, List.filter_append, List.filter_cons, hb]
          simp)
    (fun s hs => ⟨by rw [hs]; exact hok _, hs⟩) rfl
  rw [h1, h2]
theorem seqComp {r : Option (Rz × Store)} (it : α → Itm) (l : List α) (b : α → Bool) (g : α → SV) (hi : fi e st = some (.ok src, st1)) (hits : src.its = l.map it) (hok : ∀ acc, src.ok (st1 ++ [.lst acc])) (hl : l.length ≤ 1000000)
    (hs : ∀ x ∈ l, ∃ e1, (∀ acc, set (it x) (kilM ws e) (st1 ++ [.lst acc]) = some (e1, st1 ++ [.lst acc])) ∧ (∀ acc, q e1 (st1 ++ [.lst acc]) = some (.ok (b x), st1 ++ [.lst acc])) ∧ (b x = true → ∀ acc, f e1 (st1 ++ [.lst acc]) = some (.ok (g x), st1 ++ [.lst acc])))
    (k : y (e.set i (some (.ref st1.length))) (st1 ++ [.lst ((l.filter b).map g)]) = r) : zSeq (zSet i (mComp ws set q f fi)) y e st = r := by
  rw [u_seq, u_set, u_comp, u_mb, hi, u_mbK, hits, comp_flt it l b g hok hl hs]
  exact k
theorem seqCompX {R : Rz} (it : α → Itm) (l : List α) (b : α → Bool) (g : α → SV) (hi : fi e st = some (.ok src, st1)) (hits : src.its = l.map it) (hok : ∀ acc, src.ok (st1 ++ [.lst acc])) (hl : l.length ≤ 1000000)
    (hs : ∀ x ∈ l, ∃ e1, (∀ acc, set (it x) (kilM ws e) (st1 ++ [.lst acc]) = some (e1, st1 ++ [.lst acc])) ∧ (∀ acc, q e1 (st1 ++ [.lst acc]) = some (.ok (b x), st1 ++ [.lst acc])) ∧ (b x = true → ∀ acc, f e1 (st1 ++ [.lst acc]) = some (.ok (g x), st1 ++ [.lst acc])))
    (k : ∃ s, y (e.set i (some (.ref st1.length))) (st1 ++ [.lst ((l.filter b).map g)]) = some (R, s)) : ∃ s, zSeq (zSet i (mComp ws set q f fi)) y e st = some (R, s) := by
  obtain ⟨s, k⟩ := k
  exact ⟨s, seqComp it l b g hi hits hok hl hs k⟩
theorem seqForX {R : Rz} (it : α → Itm) (l : List α) (P : List α → SEnv → Store → Prop) (hi : fi e st = some (.ok src, st1)) (hits : src.its = l.map it) (h0 : P [] (kilM kl e) st1)
    (hs : ∀ p x r e s, l = p ++ x :: r → P p e s → src.ok s ∧ ∃ e1 s1, set (it x) e s = some (e1, s1) ∧ ∃ e' s', z e1 s1 = some (.nx e', s') ∧ P (p ++ [x]) (kilM kl e') s')
    (he : ∀ e s, P l e s → src.ok s ∧ ∃ s', y e s = some (R, s')) : ∃ s', zSeq (zFor set z kl fi) y e st = some (R, s') := by
  obtain ⟨r, h1, e', s', h2, h3⟩ := for_inv (ok := src.ok) (set := set) (kl := kl) (z := z) (e := kilM kl e) (st := st1) it l P (fun r => ∃ e s, r = (.nx e, s) ∧ P l e s)
    (fun p x r e s hx hp => by
      obtain ⟨g1, e1, s1, g2, e', s', g3, g4⟩ := hs p x r e s hx hp
      exact ⟨g1, e1, s1, g2, _, g3, g4⟩)
    (fun e s hp => ⟨(he e s hp).1, e, s, rfl, hp⟩) h0
  obtain ⟨s2, h4⟩ := (he e' s' h3).2
  refine ⟨s2, ?_⟩
  rw [u_seq, u_for, hi, u_zb, hits, h1, h2]
  exact h4
end
end MV

namespace MV
open PySem PySem.Spec PyProof.Rows L2 PV
/-! ### xs[::-1] -/
theorem range_rev (n : Nat) : (List.range n).map (fun k : Nat => n - 1 - k) = (List.range n).reverse := by
  refine List.ext_getElem (by simp) fun i h1 h2 => ?_
  simp
theorem pick_rev (items : List Value) : slicePick items.toArray none none (some (-1)) = items.reverse.toArray := by
  have e : sliceBounds none none (some (-1)) items.toArray.size = ((items.length : Int) - 1, -1, -1) := by
    simp [sliceBounds]
  have e2 : sliceRange ((items.length : Int) - 1) (-1) (-1) = (List.range items.length).reverse := by
    rw [← range_rev]
    unfold sliceRange
    have h : (if (-1 : Int) > 0 then (if (items.length : Int) - 1 < -1 then (-1 - ((items.length : Int) - 1) + -1 - 1) / -1 else 0) else (if (items.length : Int) - 1 > -1 then ((items.length : Int) - 1 - -1 - -1 - 1) / (- -1) else 0)) = (items.length : Int) := by
      rw [if_neg (by omega)]
      split
      · rw [show (- -1 : Int) = 1 by omega, Int.ediv_one]; omega
      · omega
    simp only [h, Int.toNat_natCast]
    refine List.map_congr_left fun k hk => ?_
    have := List.mem_range.mp hk
    omega
  unfold slicePick
  rw [e]
  simp only [e2, List.filterMap_reverse]
  have := PySem.pick_run items.toArray 0 items.length
  simp only [Nat.zero_add, List.map_id', List.drop_zero] at this
  rw [this, List.take_of_length_le (by simp)]
def tRev (K : PySem.W.Frag) (te ts : TE) : TE := fun σ H Q => te σ H fun x H1 => ts σ H1 fun o H2 => ∃ a xs, x = .ref a ∧ o = .int (-1) ∧ SqL K H2 a xs ∧ ∀ p, H2 p = none → Q (.ref p) (upd H2 p (.lst xs.reverse))
theorem vals_rev : ∀ {xs : List V} {us : List Value}, Vals xs us → Vals xs.reverse us.reverse
  | _, _, .nil => .nil
  | x :: xs, u :: us, .cons r t => by
    rw [List.reverse_cons, List.reverse_cons]
    exact (vals_rev t).append (.cons r .nil)
section
variable {X : Cx} {C : CT} {W : WX} {e se : Expr} {te ts : TE} {f fs : SEnv → Mo SV} {pos p2 : Pos}
theorem pe_rev (he : PE X e te) (hs : PE X se ts) : PE X (.Subscript e (.Slice none none (some se) p2) pos) (tRev X.K te ts) := by
  refine ⟨fun pins s σ H Q I h => ?_⟩
  refine Subscript_ (thn (he.run pins s σ H _ I h) fun v s1 ⟨x, H1, I1, r1, q1⟩ => ?_)
  refine wpAny_Slice ?_
  rw [evalPart_none]
  refine wpAny_pure ?_
  refine wpAny_pure ?_
  rw [evalPart_some]
  refine thn (hs.run pins s1 σ H1 _ I1 q1) fun vs s3 ⟨o, H3, I3, r3, q3⟩ => ?_
  obtain ⟨a, xs, rfl, rfl, hx, q⟩ := q3
  obtain ⟨t, rfl⟩ := r3
  cases (show v = Value.ref a from r1)
  have I4 : Inv X pins σ H3 { s3 with heap := s3.heap.push { cls := .type "slice", data := .fields #[.none, .none, .int (-1) t] } } := I3.kept (t' := s3.toks) fun b ob q => Heap.get?_push_of_some _ q
  obtain ⟨its, r, ht, hz⟩ := I4.list hx
  have hlen := r.length
  refine tail_any (ops := [.ref a, .ref s3.heap.objs.size]) ht.isList.typeIs slot_list_getitem.lookup ?_ (by with_unfolding_all rfl)
  refine wpAny_getItem_list_slice ht.isList (Heap.IsSliceOf.new ..) .none .none (.int (-1) t) (by simp) ?_ (by rw [List.size_toArray] <;> omega)
  rw [pick_rev]
  refine ⟨.ref _, _, I4.laid (t' := s3.toks) (o := .lst xs.reverse) (fun b ob q => Heap.get?_push_of_some _ q) (Nat.le_refl _) ?_, rfl, q _ (I4.hok.fresh (Nat.le_refl _))⟩
  exact ⟨by rw [List.length_reverse]; exact hz, _, 0, vals_rev r, Heap.get?_push_size _ rfl⟩
def mRev (f fs : SEnv → Mo SV) (env : SEnv) : Mo SV := mb (f env) fun x => mb (fs env) fun o st => (lstOf st x).bind fun xs => (intOf o).bind fun i => if i = -1 then mnew (.lst xs.reverse) st else none
theorem pr_rev {α β : Type} {R : α → β → Prop} : ∀ {xs : List α} {ys : List β}, Paired R xs ys → Paired R xs.reverse ys.reverse
  | _, _, .nil => .nil
  | x :: xs, y :: ys, .cons r t => by
    rw [List.reverse_cons, List.reverse_cons]
    exact pr_app (pr_rev t) (.cons r .nil)
theorem m_rev (ha : ME X C W e f te) (hs : ME X C W se fs ts) : ME X C W (.Subscript e (.Slice none none (some se) p2) pos) (mRev f fs) (tRev X.K te ts) := ⟨pe_rev ha.pe hs.pe, fun m env σ H st Q r st' R z p => by
  refine ok_mb (t := te) ha.ok R z p fun v m1 H1 s st1 x1 R1 q1 z1 p1 => ?_
  refine ok_mb (t := ts) hs.ok R1 z1 p1 fun o m2 H2 o' st2 x2 R2 q2 z2 p2 => ?_
  cases e1 : lstOf st2 s with
  | none => rw [e1] at z2; cases z2
  | some xs =>
    rw [e1] at z2
    simp only [Option.bind_some] at z2
    cases e2 : intOf o' with
    | none => rw [e2] at z2; cases z2
    | some i =>
      rw [e2] at z2
      simp only [Option.bind_some] at z2
      split at z2
      next hi =>
        subst hi
        cases z2
        obtain rfl := intOf_ok q2 e2
        obtain ⟨a, vs, rfl, g1, g2⟩ := lstOf_ok R2.sr (q1.ex x2) e1
        refine ⟨a, vs, rfl, rfl, g1, fun q n => ?_⟩
        obtain ⟨M, x, y⟩ := R2.new (same_new (o := .lst vs.reverse) n) n (c := .lst xs.reverse) ⟨_, upd_same, VRs.ex (ex_push (same_new n) n) (pr_rev g2)⟩
        exact p2 _ _ _ x M y
      next => cases z2⟩
theorem u_mRev {env : SEnv} {st : Store} : mRev f fs env st = mb (f env) (fun x => mb (fs env) fun o st => (lstOf st x).bind fun xs => (intOf o).bind fun i => if i = -1 then mnew (.lst xs.reverse) st else none) st := rfl
end
end MV

namespace MV
open PySem PySem.Spec PyProof.Rows L2 PV
/-! ### list.remove, of texts -/
def eqs (k : Str) (v : Value) : Bool := match v with
  | .str n _ => n.cps.toList == k.cps.toList
  | _ => false
theorem cps_beq (a b : Str) : (a.cps.toList == b.cps.toList) = decide (a = b) := by
  by_cases h : a = b
  · rw [h, decide_eq_true rfl, beq_self_eq_true]
  · rw [decide_eq_false h]
    refine beq_eq_false_iff_ne.mpr fun z => h ?_
    obtain ⟨x⟩ := a
    obtain ⟨y⟩ := b
    exact congrArg Str.mk (Array.toList_inj.mp z)
theorem vals_get : ∀ {vs : List V} {us : List Value} {j : Nat} {x : V}, Vals vs us → vs[j]? = some x → ∃ u, us[j]? = some u ∧ RelV x u
  | _, _, _, _, .nil, h => by simp at h
  | _, _, 0, _, .cons r _, h => by simp at h; subst h; exact ⟨_, rfl, r⟩
  | _, _, j + 1, _, .cons _ t, h => by
    simp at h
    obtain ⟨u, h1, h2⟩ := vals_get t h
    exact ⟨u, by simpa using h1, h2⟩
theorem vals_str : ∀ {vs : List V} {us : List Value}, Vals vs us → (∀ y ∈ vs, ∃ a, y = .str a) → ∀ u ∈ us, ∃ a t, u = .str a t
  | _, _, .nil, _ => fun u h => by cases h
  | _, _, .cons r t, h => fun u hu => by
    rcases List.mem_cons.mp hu with rfl | hu
    · obtain ⟨a, rfl⟩ := h _ List.mem_cons_self
      obtain ⟨t, rfl⟩ := r
      exact ⟨a, t, rfl⟩
    · exact vals_str t (fun y hy => h y (List.mem_cons_of_mem _ hy)) u hu
def rRemS : V → List V → Hp → VK → Prop := fun x xs H Q => ∃ (l : Addr) (vs : List V) (k : Str) (j : Nat), x = .ref l ∧ xs = [.str k] ∧ H l = some (.lst vs) ∧ (∀ y ∈ vs, ∃ a, y = .str a) ∧ vs[j]? = some (.str k) ∧ (∀ m : Nat, m < j → vs[m]? ≠ some (.str k)) ∧ Q .non (upd H l (.lst (vs.eraseIdx j)))
theorem mt_remS {X : Cx} : MtM X "list.remove" rRemS := by
  intro pins s σ H x xs v us Q I rx rxs h
  obtain ⟨l, vs, k, j, rfl, rfl, hH, hs, hj, hno, q⟩ := h
  cases rx
  obtain ⟨u, rfl, ru⟩ := rxs.one
  obtain ⟨t, rfl⟩ := ru
  obtain ⟨z, its, n, r, hl, e⟩ := I.lstM hH
  have hi := vals_str r hs
  have hjn : j < vs.length := (List.getElem?_eq_some_iff.mp hj).1
  have hjl : j < its.toArray.size := by rw [List.size_toArray]; omega
  refine call_meets PySem.F.slot_list_remove ⟨_, e, rfl⟩ PySem.F.entry_list_remove (PySem.F.args_list_remove_2 _ _)
    (MeetsSeq.list_remove l its.toArray n (.str k t) (eqs k) (fun y hy => ?_) j hjl ?_ ?_ (by rw [List.size_toArray]; omega)) ⟨e, ?_⟩
  · obtain ⟨a, ta, rfl⟩ := hi y (by simpa using hy)
    exact SeqRoads2.EqGives.str a k ta t
  · obtain ⟨w, hw, rw'⟩ := vals_get r hj
    obtain ⟨tj, rfl⟩ := rw'
    obtain ⟨h1, h2⟩ := List.getElem?_eq_some_iff.mp hw
    have e1 : its.toArray[j] = .str k tj := by simpa using h2
    rw [e1]
    exact beq_self_eq_true _
  · intro m hm hmj
    have hmn : m < vs.length := by omega
    obtain ⟨a, ha⟩ := hs _ (List.getElem_mem hmn)
    obtain ⟨w, hw, rw'⟩ := vals_get r (List.getElem?_eq_getElem hmn)
    rw [ha] at rw'
    obtain ⟨tm, rfl⟩ := rw'
    obtain ⟨h1, h2⟩ := List.getElem?_eq_some_iff.mp hw
    have e1 : its.toArray[m] = .str a tm := by simpa using h2
    rw [e1]
    show (a.cps.toList == k.cps.toList) = false
    rw [cps_beq]
    refine decide_eq_false fun e2 => hno m hmj ?_
    rw [List.getElem?_eq_getElem hmn, ha, e2]
  · have rr := r.eraseIdx j
    refine ⟨.non, _, I.lset (its' := its.eraseIdx j) (t' := s.toks) hH e ?_ rr ?_, rfl, q⟩
    · show its.toArray.eraseIdxIfInBounds j = (its.eraseIdx j).toArray
      rw [List.eraseIdxIfInBounds_toArray]
    · rw [List.length_eraseIdx]
      split <;> omega
def isTx : SV → Bool
  | .dat (.str _) => true
  | _ => false
def isK (k : Str) : SV → Bool
  | .dat (.str a) => decide (a = k)
  | _ => false
def hRemS (xs as : List SV) : Option (SV × List SV) := match as with
  | [.dat (.str k)] => if xs.all isTx = true then (xs.findIdx? (isK k)).map fun j => (.dat .none, xs.eraseIdx j) else none
  | _ => none
theorem vr_tx {K : PySem.W.Frag} {m : List Addr} {H : Hp} {v : V} {s : SV} (h : VR K m H v s) (t : isTx s = true) : ∃ a, v = .str a ∧ s = .dat (.str a) := by
  cases s with
  | ref i => cases t
  | dat d =>
    cases d <;> first | (cases t; done) | skip
    cases h
    exact ⟨_, rfl, rfl⟩
theorem mum_rem : MuM rRemS hRemS := fun K C m H st Q a vs us xs as r R hH hv hu z => by
  unfold hRemS at z
  split at z
  next k =>
    cases hu with
    | cons h1 h2 =>
      cases h2
      cases h1
      by_cases q : xs.all isTx = true
      · rw [if_pos q] at z
        rw [List.all_eq_true] at q
        cases e1 : xs.findIdx? (isK k) with
        | none => rw [e1] at z; cases z
        | some j =>
          rw [e1] at z
          cases z
          obtain ⟨hj, hk, hn⟩ := List.findIdx?_eq_some_iff_getElem.mp e1
          have hs : ∀ y ∈ vs, ∃ a, y = .str a := fun y hy => by
            obtain ⟨i, hi, rfl⟩ := List.mem_iff_getElem.mp hy
            obtain ⟨s, h3, h4⟩ := pr_at2 hv (List.getElem?_eq_getElem hi)
            obtain ⟨a, h5, _⟩ := vr_tx h4 (q s (List.mem_of_getElem? h3))
            exact ⟨a, h5⟩
          obtain ⟨w, h3, h4⟩ := pr_get hv (List.getElem?_eq_getElem hj)
          obtain ⟨b, rfl, h6⟩ := vr_tx h4 (q _ (List.getElem_mem hj))
          rw [h6] at hk
          have hbk : b = k := of_decide_eq_true hk
          subst hbk
          refine ⟨vs.eraseIdx j, .non, pr_erase j hv, .non, fun kk => ⟨a, vs, b, j, rfl, rfl, hH, hs, h3, fun i hij hi => ?_, kk⟩⟩
          obtain ⟨s, h7, h8⟩ := pr_at2 hv hi
          obtain ⟨b', h9, rfl⟩ := vr_tx h8 (q s (List.mem_of_getElem? h7))
          cases h9
          have := hn i hij
          obtain ⟨_, h10⟩ := List.getElem?_eq_some_iff.mp h7
          rw [h10] at this
          exact this (decide_eq_true rfl)
      · rw [if_neg q] at z; cases z
  next => cases z
section
variable {X : Cx} {C : CT} {W : WX} {e o : Expr} {fo : SEnv → Mo SV} {fs : SEnv → Mo (List SV)} {to : TE} {ts : TA} {apos cpos : Pos}
theorem m_rem (ho : ME X C W o fo to) (ha : MA X C W [e] fs ts)
    (hbase : attributeBase o "remove" X.env (eval o X.env) = eval o X.env := by rfl)
    (hfew : ((backTo cpos (starEach [e] X.env)).all (fun x => !x.1) && (backToKw cpos (keywordEach [] X.env)).all (fun x => x.1.isSome)
      && decide ([e].length + ([] : List Keyword).length + (if ([] : List Keyword).isEmpty then 0 else 1) < 30)) = true := by rfl)
    (hline : (apos.endLine == cpos.line) = true := by rfl) (hs : starEach [e] X.env = (false, eval e X.env) :: starEach [] X.env := by rfl) (hplain : (backTo cpos (starEach [] X.env)).any (·.1) = false := by rfl) :
    ME X C W (.Call (.Attribute o "remove" apos) [e] [] cpos) (mLM hRemS fo fs) (tBM X.K "list" rRemS to ts) := m_lm PySem.F.plainAttrs_list PySem.F.slot_list_remove PySem.F.type_list_remove mt_remS mum_rem ho ha hbase hfew hline hs hplain
end
/-! ### {'a': x, ..} -/
def mpsN (_ : SEnv) : Mo (List (Key × SV)) := mret []
def mpsC (k : Str) (f : SEnv → Mo SV) (g : SEnv → Mo (List (Key × SV))) (env : SEnv) : Mo (List (Key × SV)) := mb (f env) fun v => mb (g env) fun r => mret ((.inr k, v) :: r)
def mergeS (kvs : List (Key × SV)) : List (Key × SV) := kvs.foldl (fun acc kv => putS acc kv.1 kv.2) []
def dispK (n : Nat) : Option (Er (List (Key × SV)) × Store) → Option (Er SV × Store)
  | some (.ok kvs, st1) => if kvs.length ≤ 15 then match st1[n]? with
    | some (.dic []) => some (.ok (.ref n), st1.set n (.dic (mergeS kvs)))
    | _ => none
    else none
  | some (.ex c, st1) => some (.ex c, st1)
  | none => none
def mDisp (g : SEnv → Mo (List (Key × SV))) (env : SEnv) : Mo SV := fun st => dispK st.length (g env (st ++ [.dic []]))
def relPs (K : PySem.W.Frag) (m : List Addr) (H : Hp) (ps : List (V × V)) (kvs : List (Key × SV)) : Prop := ∃ vs : List (Key × V), ps = vs.map (fun kv => (kV kv.1, kv.2)) ∧ FR K m H vs kvs
structure MPs (X : Cx) (C : CT) (W : WX) (pos : Pos) (keys : List (Option Expr)) (values : List Expr) (g : SEnv → Mo (List (Key × SV))) (trs : List (TE × TE)) : Prop where
  pp : PPs X pos keys values trs
  ok : OkG X.K C W (relPs X.K) g (tPairs trs)
theorem fr_merge {K : PySem.W.Frag} {m : List Addr} {H : Hp} : ∀ {vs : List (Key × V)} {kvs : List (Key × SV)} {a : List (Key × V)} {b : List (Key × SV)}, FR K m H a b → FR K m H vs kvs →
    FR K m H (mergeK a vs) (kvs.foldl (fun acc kv => putS acc kv.1 kv.2) b)
  | _, _, _, _, h, .nil => h
  | _, _, _, _, h, .cons (a := p) (b := q) r t => by
    have := fr_put (k := q.1) r.2 h
    rw [← r.1] at this
    show FR K m H (mergeK (putK _ p.1 p.2) _) (List.foldl _ (putS _ q.1 q.2) _)
    rw [← r.1]
    exact fr_merge this t
section
variable {X : Cx} {C : CT} {W : WX} {pos p1 : Pos} {j : Nat} {v : Expr} {ks : List (Option Expr)} {vs : List Expr} {f : SEnv → Mo SV} {g : SEnv → Mo (List (Key × SV))} {tv : TE} {trs : List (TE × TE)}
theorem mps_nil : MPs X C W pos [] [] mpsN [] := ⟨pps_nil, fun m env σ H st Q r st' R z p => by cases z; exact p [] m H Ex.refl R ⟨[], rfl, .nil⟩⟩
theorem mps_cons (k : Str) (hv : ME X C W v f tv) (hr : MPs X C W pos ks vs g trs) : MPs X C W pos (some (.Constant (.str k) j p1) :: ks) (v :: vs) (mpsC k f g) ((tC (.str k), tv) :: trs) := ⟨pps_cons pe_str hv.pe hr.pp, fun m env σ H st Q r st' R z p => by
  show tv σ H fun y H2 => tPairs trs σ H2 fun ps H3 => Q ((.str k, y) :: ps) H3
  refine ok_mb (t := tv) hv.ok R z p fun y m1 H1 s st1 x1 R1 q1 z1 p1 => ?_
  refine ok_mb (t := tPairs trs) hr.ok R1 z1 p1 fun ps m2 H2 kvs st2 x2 R2 q2 z2 p2 => ?_
  cases z2
  obtain ⟨ws, rfl, g2⟩ := q2
  exact p2 _ m2 H2 Ex.refl R2 ⟨(.inr k, y) :: ws, rfl, .cons ⟨rfl, q1.ex x2⟩ g2⟩⟩
theorem m_disp (h : MPs X C W pos ks vs g trs) (hall : ks.all (·.isSome) = true := by rfl) (hl : ks.length = vs.length := by rfl) (h0 : ks ≠ [] := by exact fun z => nomatch z) (h15 : ks.length ≤ 15 := by decide) : ME X C W (.Dict ks vs pos) (mDisp g) (tDisp trs) := ⟨pe_disp h.pp hall hl h0 h15, fun m env σ H st Q r st' R z p => by
  intro a n
  obtain ⟨M, x, y⟩ := R.new (same_new (o := .dK []) n) n (c := .dic []) ⟨[], upd_same, .nil⟩
  unfold mDisp at z
  cases e : g env (st ++ [.dic []]) with
  | none => rw [e] at z; cases z
  | some w =>
    rw [e] at z
    obtain ⟨w, st1⟩ := w
    refine h.ok (m ++ [a]) env σ _ (st ++ [.dic []]) _ w st1 M e ?_
    cases w with
    | ex c =>
      cases z
      exact fun m' H' x' R' => p m' H' (x.trans x') R'
    | ok kvs =>
      refine fun ps m' H' x' R' rel => ?_
      obtain ⟨ws, rfl, g2⟩ := rel
      show H' a = some (.dK []) ∧ _
      unfold dispK at z
      simp only at z
      split at z
      next h15' =>
        split at z
        next hc =>
          cases z
          obtain ⟨b, h1, h2⟩ := y
          cases h2
          have hi := x'.pre _ _ h1
          obtain ⟨b', h3, ps', h4, h5⟩ := R'.sr.cl _ _ hc
          rw [hi] at h3
          cases h3
          cases h5
          obtain ⟨R3, x3⟩ := R'.dic hi (fr_merge .nil g2)
          exact ⟨h4, ws, rfl, by rw [pr_len g2]; exact h15', p _ m' _ ((x.trans x').trans x3) R3 ⟨_, hi, rfl⟩⟩
        next => cases z
      next => cases z⟩
end
section
variable {st : Store} {e : SEnv} {f : SEnv → Mo SV} {g : SEnv → Mo (List (Key × SV))} {k : Str} {kvs : List (Key × SV)} {n c : Nat}
theorem u_mpsN : mpsN e st = some (.ok [], st) := rfl
theorem u_mpsC : mpsC k f g e st = mb (f e) (fun v => mb (g e) fun r => mret ((.inr k, v) :: r)) st := rfl
theorem u_mDisp : mDisp g e st = dispK st.length (g e (st ++ [.dic []])) := rfl
theorem u_dispX : dispK n (some (.ex c, st)) = some (.ex c, st) := rfl
theorem u_dispK (h : kvs.length ≤ 15) (h2 : st[n]? = some (.dic [])) : dispK n (some (.ok kvs, st)) = some (.ok (.ref n), st.set n (.dic (mergeS kvs))) := by
  unfold dispK
  simp only [if_pos h, h2]
end
end MV

namespace MV
open PySem PySem.Spec PyProof.Rows L2 PV
/-! ### reckoning: stores into dicts and fields, divmod, pop, texts -/
section
variable {α : Type} {st st1 : Store} {e env : SEnv} {i k c n : Nat} {v s : SV} {f g fd fk fv fo : SEnv → Mo SV} {fs : SEnv → Mo (List SV)} {h : D → D → Option D} {kvs : List (Key × SV)} {kk : Key} {xs : List SV} {k' : SV}
def putC (st : Store) (i : Nat) (k v : SV) : Option Cell → Option Store
  | some (.dic kvs) => (keyOf k).bind fun kk => if kvs.length < 1000000 then some (st.set i (.dic (putS kvs kk v))) else none
  | _ => none
theorem u_putD : putD st (.ref i) k' v = putC st i k' v st[i]? := by
  show (dicOf st (.ref i)).bind _ = _
  rw [u_dic_ref]
  unfold putC dicC
  cases st[i]? with
  | none => rfl
  | some c => cases c <;> rfl
theorem u_putC (hl : kvs.length < 1000000) : putC st i k' v (some (.dic kvs)) = (keyOf k').map fun kk => st.set i (.dic (putS kvs kk v)) := by
  unfold putC
  simp only [if_pos hl]
  cases keyOf k' <;> rfl
theorem u_zDPut : zDPut fd fk fv e st = zbK (fun v => zB fd fun d => zB fk fun k e st => (putD st d k v).map fun st' => (.nx e, st')) e (fv e st) := u_zB
theorem u_zDAug : zDAug h fd fk fv e st = zbK (fun d => zB fk fun k env st => (dicOf st d).bind fun kvs => (keyOf k).bind fun kk => (valS kvs kk).bind fun x => zbK (fun v e st => (hopI h x v).bind fun w => (putD st d k w).map fun st' => (.nx e, st')) env (fv env st)) e (fd e st) := by
  unfold zDAug
  rw [u_zB]
  congr 1
  funext d
  congr 1
  funext k env st
  congr 1
  funext kvs
  congr 1
  funext kk
  congr 1
  funext x
  exact u_zB
def fldaugK (c k : Nat) (h : D → D → Option D) (x o : SV) (v : SV) : Zsem := fun e st => match o with
  | .ref i => (hopI h x v).bind fun w => (insAt c st (.ref i)).bind fun xs => (putI xs k w).map fun ys => (.nx e, st.set i (.ins c ys))
  | .dat _ => none
theorem u_zFldAug : zFldAug c k h fo fv e st = zbK (fun o env st => (insAt c st o).bind fun xs => (xs[k]?).bind fun x => zbK (fldaugK c k h x o) env (fv env st)) e (fo e st) := by
  unfold zFldAug
  rw [u_zB]
  congr 1
  funext o env st
  congr 1
  funext xs
  congr 1
  funext x
  exact u_zB (k := fldaugK c k h x o)
theorem u_fldaugK {x : SV} : fldaugK c k h x (.ref i) v e st = (hopI h x v).bind fun w => (insC c st[i]?).bind fun xs => (putI xs k w).map fun ys => (.nx e, st.set i (.ins c ys)) := by
  rw [← u_ins_ref]; rfl
theorem u_okv {a : α} : okv (some (.ok a, st)) = some (a, st) := rfl
theorem u_gSubD : gSubD fo fd (.one v) e st = (okv (fo e st)).bind fun r => (okv (fd e r.2)).bind fun q => (putD q.2 r.1 q.1 v).map fun st' => (e, st') := rfl
theorem u_gFld : gFld c k fo (.one v) e st = (okv (fo e st)).bind fun r => (putF1 c k r.2 r.1 v).map fun st' => (e, st') := rfl
theorem u_putF1 : putF1 c k st (.ref i) v = (insC c st[i]?).bind fun xs => (putI xs k v).map fun ys => st.set i (.ins c ys) := by
  rw [← u_ins_ref]; rfl
def dpopK (g : SEnv → Mo SV) (env : SEnv) (d : SV) : Mo SV := fun st1 => match d with
  | .ref i => (dicOf st1 (.ref i)).bind fun _ => mb (g env) (fun k st => (dicOf st (.ref i)).bind fun kvs => (keyOf k).bind fun kk => (valS kvs kk).map fun v => (.ok v, st.set i (.dic (dropS kvs kk)))) st1
  | .dat _ => none
theorem u_mDPop : mDPop f g e st = mb (f e) (dpopK g e) st := rfl
theorem u_dpopK : dpopK g e (.ref i) st = (dicOf st (.ref i)).bind fun _ => mb (g e) (fun k st => (dicOf st (.ref i)).bind fun kvs => (keyOf k).bind fun kk => (valS kvs kk).map fun v => (.ok v, st.set i (.dic (dropS kvs kk)))) st := rfl
def divmK (vs : List SV) : Mo SV := fun st => match vs with
  | [.dat (.int i), .dat (.int j)] => if DivC i j then some (.ok (.dat (.tuple [.int (i / j), .int (i % j)])), st) else none
  | _ => none
theorem u_mDivmod : mDivmod fs e st = mb (fs e) divmK st := rfl
theorem u_divmK {i j : Int} (h : DivC i j) : divmK [.dat (.int i), .dat (.int j)] st = some (.ok (.dat (.tuple [.int (i / j), .int (i % j)])), st) := if_pos h
def istrK (v : SV) : Mo Src := fun st => match v with
  | .dat (.str x) => some (.ok ⟨strI x, fun _ => True⟩, st)
  | _ => none
theorem u_mIStr : mIStr f e st = mb (f e) istrK st := rfl
theorem u_istrK {x : Str} : istrK (.dat (.str x)) st = some (.ok ⟨strI x, fun _ => True⟩, st) := rfl
def itupK (v : SV) : Mo Src := fun st => (tupOf st v).map fun xs => (.ok ⟨ones xs, fun st' => tupOf st' v = some xs⟩, st)
theorem u_mITup : mITup f e st = mb (f e) itupK st := rfl
theorem u_itupK : itupK v st = (tupOf st v).map fun xs => (.ok ⟨ones xs, fun st' => tupOf st' v = some xs⟩, st) := rfl
theorem u_hopI2 {a b : D} : hopI h (.dat a) (.dat b) = (h a b).map .dat := rfl
end
end MV

namespace MV
open PySem PySem.Spec PyProof.Rows L2 PV
/-! ### list.remove and list.index of data, tuple(list), str(text) -/
theorem hu65 {k : Nat} {A : Around} (r : L2.Room k A) : A.units + 65 < cLine := by have := r.un; omega
def placeD (ds : List D) (d : D) : Option Nat := if SeqAt.shaped (.list ds) = true ∧ SeqAt.shaped d = true then ds.findIdx? fun z => PyData.eqv z d else none
theorem placeD_ok {ds : List D} {d : D} {j : Nat} (h : placeD ds d = some j) : SeqAt.shaped (.list ds) = true ∧ SeqAt.shaped d = true ∧ (∃ z, ds[j]? = some z ∧ PyData.eqv z d = true) ∧ ∀ (m : Nat) (z : D), m < j → ds[m]? = some z → PyData.eqv z d = false := by
  unfold placeD at h
  by_cases q : SeqAt.shaped (.list ds) = true ∧ SeqAt.shaped d = true
  · rw [if_pos q] at h
    obtain ⟨hj, hk, hn⟩ := List.findIdx?_eq_some_iff_getElem.mp h
    refine ⟨q.1, q.2, ⟨ds[j], List.getElem?_eq_getElem hj, hk⟩, fun m z hm hz => ?_⟩
    obtain ⟨h1, rfl⟩ := List.getElem?_eq_some_iff.mp hz
    have := hn m hm
    simpa using this
  · rw [if_neg q] at h; cases h
def rRemD (K : PySem.W.Frag) : V → List V → Hp → VK → Prop := fun x xs H Q => ∃ (a : Addr) (vs : List V) (y : V) (d : D) (ds : List D) (j : Nat), x = .ref a ∧ xs = [y] ∧ H a = some (.lst vs) ∧ DpAll K H vs ds ∧ Dp K H y d ∧ placeD ds d = some j ∧ Q .non (upd H a (.lst (vs.eraseIdx j)))
theorem mt_remD {X : Cx} (hu : X.A.units + 65 < cLine) : MtM X "list.remove" (rRemD X.K) := by
  intro pins s σ H x xs v us Q I rx rxs h
  obtain ⟨a, vs, y, d, ds, j, rfl, rfl, hH, hds, hy, hj, q⟩ := h
  obtain ⟨sl, sd, ⟨z0, hz, hzj⟩, hno⟩ := placeD_ok hj
  cases rx
  cases rxs with
  | cons ry rt =>
    rename_i uy ut
    cases rt
    obtain ⟨bs, r1⟩ := Dp.reads I d y uy hy ry
    have hxs : PyData.canLayAll0 ds = true := SeqAt.canLay_of_shaped sl
    have hroom : X.A.units + 1 + min (PyData.depthAll ds) d.depth < cLine := room_in_shaped sd hu
    obtain ⟨z, its, n, r, hl, e⟩ := I.lstM hH
    obtain ⟨as, h4⟩ := Dp.readsAll I ds _ its hds r
    have hn : its.length = ds.length := SeqAt.ReadsAll.length ds its as h4
    have hmap : its.map (SeqAt.readOf s.heap) = ds := SeqAt.readsAll_map ds its as hxs h4
    have hvl := r.length
    have hsl := sizeLine_eq
    obtain ⟨hjd, _⟩ := List.getElem?_eq_some_iff.mp hz
    have hjl : j < its.length := by omega
    have hj : j < its.toArray.size := by simpa using hjl
    have at_ : ∀ (m : Nat) (hm : m < its.toArray.size) (z' : PyData), ds[m]? = some z' → SeqAt.readOf s.heap its.toArray[m] = z' := by
      intro m hm z' hz'
      have hml : m < its.length := by simpa using hm
      rw [← hmap, List.getElem?_map, List.getElem?_eq_getElem hml] at hz'
      have e1 : SeqAt.readOf s.heap its[m] = z' := Option.some.inj (show some (SeqAt.readOf s.heap its[m]) = some z' from hz')
      simpa using e1
    refine call_meets PySem.F.slot_list_remove ⟨_, e, rfl⟩ PySem.F.entry_list_remove (PySem.F.args_list_remove_2 _ _)
      (SeqAt.list_removeAt a its.toArray n none #[] uy (fun u => PyData.eqv (SeqAt.readOf s.heap u) d) j hj ?_ ?_ (by rw [List.size_toArray]; omega)) ⟨e, SeqAt.items_eqAt (vs := its.toArray) (show ReadsAll s.heap its.toArray.toList ds as from h4) r1 hxs (SeqAt.canLay_of_shaped sd) hroom, ?_⟩
    · show PyData.eqv (SeqAt.readOf s.heap its.toArray[j]) d = true
      rw [at_ j hj z0 hz]
      exact hzj
    · intro m hm hmj
      have hmd : m < ds.length := by omega
      have hz' : ds[m]? = some ds[m] := List.getElem?_eq_getElem hmd
      show PyData.eqv (SeqAt.readOf s.heap its.toArray[m]) d = false
      rw [at_ m hm _ hz']
      exact hno m _ hmj hz'
    · have rr := r.eraseIdx j
      refine ⟨.non, _, I.lset (its' := its.eraseIdx j) (t' := s.toks) hH e ?_ rr ?_, rfl, q⟩
      · show its.toArray.eraseIdxIfInBounds j = (its.eraseIdx j).toArray
        rw [List.eraseIdxIfInBounds_toArray]
      · rw [List.length_eraseIdx]
        split <;> omega
def remD (st : Store) (i : Nat) (xs as : List SV) : Option (Er SV × Store) := match as with
  | [s] => (omap (dr 5 st) xs).bind fun ds => (dr 6 st s).bind fun d => (placeD ds d).map fun j => (.ok (.dat .none), st.set i (.lst (xs.eraseIdx j)))
  | _ => none
def remDC (st : Store) (i : Nat) (as : List SV) : Option Cell → Option (Er SV × Store)
  | some (.lst xs) => remD st i xs as
  | _ => none
def mRemD (fo : SEnv → Mo SV) (fs : SEnv → Mo (List SV)) (env : SEnv) : Mo SV := mb (fo env) fun o st1 => match o with
  | .ref i => match st1[i]? with
    | some (.lst _) => mb (fs env) (fun as st => remDC st i as st[i]?) st1
    | _ => none
  | .dat _ => none
def indexK (o : SV) (as : List SV) : Mo SV := fun st => match as with
  | [s] => (lstOf st o).bind fun xs => (omap (dr 5 st) xs).bind fun ds => (dr 6 st s).bind fun d => (placeD ds d).map fun j => (.ok (.dat (.int (j : Nat))), st)
  | _ => none
def mIndex (fo : SEnv → Mo SV) (fs : SEnv → Mo (List SV)) (env : SEnv) : Mo SV := mb (fo env) fun o st1 => (lstOf st1 o).bind fun _ => mb (fs env) (indexK o) st1
def mTupL (f : SEnv → Mo SV) (env : SEnv) : Mo SV := mb (f env) fun x st => (lstOf st x).bind fun xs => mnew (.tup xs) st
def hStrA : List D → Option D
  | [.str a] => some (.str a)
  | [.int i] => if i.natAbs.log2 < 1920 then some (.str (toString i)) else none
  | _ => none
def rStrA : List V → Hp → VK → Prop := fun xs H Q => (∃ a, xs = [.str a] ∧ Q (.str a) H) ∨ ∃ i, xs = [.int i] ∧ i.natAbs.log2 < 1920 ∧ Q (.str (toString i)) H
theorem call_str_any {X : Cx} : CallR X (.type "str") rStrA := fun pins s σ H xs us Q I r h => by
  rcases h with h | h
  · exact SkE.call_str_str pins s σ H xs us Q I r h
  · exact call_str_int pins s σ H xs us Q I r h
theorem c_strA {K : PySem.W.Frag} : CaS K rStrA hStrA := fun vs ds d H Q p z => by
  match ds, p, z with
  | [.int i], .cons h .nil, z =>
    cases h
    obtain ⟨h, rfl⟩ := ite_some (show (if i.natAbs.log2 < 1920 then some (.str (toString i)) else none) = some d from z)
    exact ⟨rfl, fun k => .inr ⟨_, rfl, h, k⟩⟩
  | [.str a], .cons h .nil, z =>
    cases h
    cases z
    exact ⟨rfl, fun k => .inl ⟨_, rfl, k⟩⟩
section
variable {X : Cx} {C : CT} {W : WX} {a e o : Expr} {f fo : SEnv → Mo SV} {fs : SEnv → Mo (List SV)} {ta to : TE} {ts : TA} {p pos apos cpos : Pos}
theorem ok_mRemD {K : PySem.W.Frag} (ho : OkG K C W (VR K) fo to) (ha : OkG K C W (fun m H => VRs K m H) fs ts) : OkG K C W (VR K) (mRemD fo fs) (tBM K "list" (rRemD K) to ts) := fun m env σ H st Q r st' R z p => by
  refine ok_mb (t := to) ho R z p fun v m1 H1 s st1 x1 R1 q1 z1 p1 => ?_
  cases s with
  | dat d => cases z1
  | ref i =>
    simp only at z1
    obtain ⟨a, h1, rfl⟩ := q1
    cases hc : st1[i]? with
    | none => rw [hc] at z1; cases z1
    | some c =>
      rw [hc] at z1
      cases c with
      | lst ys =>
        simp only at z1
        obtain ⟨b, h2, ws, h3, h4⟩ := R1.sr.cl i _ hc
        rw [h1] at h2
        cases h2
        refine ⟨.inl ⟨rfl, ws, SqL.of h3⟩, ?_⟩
        refine ok_mb (t := ts) ha R1 z1 p1 fun us m2 H2 as st2 x2 R2 q2 z2 p2 => ?_
        have h1' := x2.pre i a h1
        cases hc2 : st2[i]? with
        | none => rw [hc2] at z2; cases z2
        | some c =>
          rw [hc2] at z2
          cases c with
          | lst xs =>
            obtain ⟨b, g2, vs, g3, g4⟩ := R2.sr.cl i _ hc2
            rw [h1'] at g2
            cases g2
            match as, q2, z2 with
            | [s], .cons (a := u) k1 .nil, z2 =>
              have z3 : ((omap (dr 5 st2) xs).bind fun ds => (dr 6 st2 s).bind fun d => (placeD ds d).map fun j => (Er.ok (SV.dat .none), st2.set i (.lst (xs.eraseIdx j)))) = some (r, st') := z2
              cases e1 : omap (dr 5 st2) xs with
              | none => rw [e1] at z3; cases z3
              | some ds =>
                cases e2 : dr 6 st2 s with
                | none => rw [e1, e2] at z3; cases z3
                | some d =>
                  rw [e1, e2] at z3
                  simp only [Option.bind_some] at z3
                  cases e3 : placeD ds d with
                  | none => rw [e3] at z3; cases z3
                  | some j =>
                    rw [e3] at z3
                    cases z3
                    obtain ⟨R3, x3⟩ := R2.lst h1' (pr_erase j g4)
                    exact ⟨a, vs, u, d, ds, j, rfl, rfl, g3, omap_dps (dr_dp R2.sr 5) g4 e1, dr_dp R2.sr 6 _ _ _ k1 e2, e3, p2 .non m2 _ x3 R3 .non⟩
          | _ => cases z2
      | _ => cases z1
theorem m_remD (hu : X.A.units + 65 < cLine) (ho : ME X C W o fo to) (ha : MA X C W [e] fs ts)
    (hbase : attributeBase o "remove" X.env (eval o X.env) = eval o X.env := by rfl)
    (hfew : ((backTo cpos (starEach [e] X.env)).all (fun x => !x.1) && (backToKw cpos (keywordEach [] X.env)).all (fun x => x.1.isSome)
      && decide ([e].length + ([] : List Keyword).length + (if ([] : List Keyword).isEmpty then 0 else 1) < 30)) = true := by rfl)
    (hline : (apos.endLine == cpos.line) = true := by rfl) (hs : starEach [e] X.env = (false, eval e X.env) :: starEach [] X.env := by rfl) (hplain : (backTo cpos (starEach [] X.env)).any (·.1) = false := by rfl) :
    ME X C W (.Call (.Attribute o "remove" apos) [e] [] cpos) (mRemD fo fs) (tBM X.K "list" (rRemD X.K) to ts) := ⟨pe_bm PySem.F.plainAttrs_list PySem.F.slot_list_remove PySem.F.type_list_remove (mt_remD hu) ho.pe ha.pa hbase hfew hline hs hplain, ok_mRemD ho.ok ha.ok⟩
theorem ok_mIndex {K : PySem.W.Frag} (ho : OkG K C W (VR K) fo to) (ha : OkG K C W (fun m H => VRs K m H) fs ts) : OkG K C W (VR K) (mIndex fo fs) (tBM K "list" (rIndexD K) to ts) := fun m env σ H st Q r st' R z p => by
  refine ok_mb (t := to) ho R z p fun v m1 H1 s st1 x1 R1 q1 z1 p1 => ?_
  cases e0 : lstOf st1 s with
  | none => rw [e0] at z1; cases z1
  | some xs0 =>
    rw [e0] at z1
    obtain ⟨a0, vs0, rfl, g0, _⟩ := lstOf_ok R1.sr q1 e0
    refine ⟨.inl ⟨rfl, vs0, g0⟩, ?_⟩
    refine ok_mb (t := ts) ha R1 z1 p1 fun us m2 H2 as st2 x2 R2 q2 z2 p2 => ?_
    match as, q2, z2 with
    | [t], .cons (a := u) k1 .nil, z2 =>
      have z3 : ((lstOf st2 s).bind fun xs => (omap (dr 5 st2) xs).bind fun ds => (dr 6 st2 t).bind fun d => (placeD ds d).map fun j => (Er.ok (SV.dat (.int (j : Nat))), st2)) = some (r, st') := z2
      cases e1 : lstOf st2 s with
      | none => rw [e1] at z3; cases z3
      | some xs =>
        obtain ⟨a, vs, ea, g1, g2⟩ := lstOf_ok R2.sr (q1.ex x2) e1
        cases ea
        cases e2 : omap (dr 5 st2) xs with
        | none => rw [e1] at z3; simp only [Option.bind_some] at z3; rw [e2] at z3; cases z3
        | some ds =>
          cases e3 : dr 6 st2 t with
          | none => rw [e1] at z3; simp only [Option.bind_some] at z3; rw [e2, e3] at z3; cases z3
          | some d =>
            rw [e1] at z3
            simp only [Option.bind_some] at z3
            rw [e2, e3] at z3
            simp only [Option.bind_some] at z3
            cases e4 : placeD ds d with
            | none => rw [e4] at z3; cases z3
            | some j =>
              rw [e4] at z3
              cases z3
              obtain ⟨sl, sd, ⟨z0, hz, hzj⟩, hno⟩ := placeD_ok e4
              exact ⟨_, u, d, ds, j, z0, rfl, rfl, .lst g1 (omap_dps (dr_dp R2.sr 5) g2 e2), dr_dp R2.sr 6 _ _ _ k1 e3, sl, sd, hz, hzj, hno, p2 (.int (j : Nat)) m2 H2 Ex.refl R2 (.int _)⟩
theorem m_index (hu : X.A.units + 65 < cLine) (ho : ME X C W o fo to) (ha : MA X C W [e] fs ts)
    (hbase : attributeBase o "index" X.env (eval o X.env) = eval o X.env := by rfl)
    (hfew : ((backTo cpos (starEach [e] X.env)).all (fun x => !x.1) && (backToKw cpos (keywordEach [] X.env)).all (fun x => x.1.isSome)
      && decide ([e].length + ([] : List Keyword).length + (if ([] : List Keyword).isEmpty then 0 else 1) < 30)) = true := by rfl)
    (hline : (apos.endLine == cpos.line) = true := by rfl) (hs : starEach [e] X.env = (false, eval e X.env) :: starEach [] X.env := by rfl) (hplain : (backTo cpos (starEach [] X.env)).any (·.1) = false := by rfl) :
    ME X C W (.Call (.Attribute o "index" apos) [e] [] cpos) (mIndex fo fs) (tBM X.K "list" (rIndexD X.K) to ts) := ⟨pe_bm PySem.F.plainAttrs_list PySem.F.slot_list_index PySem.F.type_list_index (mt_indexD hu) ho.pe ha.pa hbase hfew hline hs hplain, ok_mIndex ho.ok ha.ok⟩
def extC (st : Store) (i : Nat) (ys : List SV) : Option Cell → Option (Er SV × Store)
  | some (.lst xs) => if xs.length + ys.length ≤ 1000000 then some (.ok (.dat .none), st.set i (.lst (xs ++ ys))) else none
  | _ => none
def extK (g : SEnv → Mo SV) (env : SEnv) (o : SV) : Mo SV := fun st1 => match o with
  | .ref i => (lstOf st1 (.ref i)).bind fun _ => mb (g env) (fun y st => (lstOf st y).bind fun ys => extC st i ys st[i]?) st1
  | .dat _ => none
def mExt (fo g : SEnv → Mo SV) (env : SEnv) : Mo SV := mb (fo env) (extK g env)
theorem m_ext {g : SEnv → Mo SV} {te : TE} (ho : ME X C W o fo to) (ha : ME X C W e g te)
    (hbase : attributeBase o "extend" X.env (eval o X.env) = eval o X.env := by rfl)
    (hfew : ((backTo cpos (starEach [e] X.env)).all (fun x => !x.1) && (backToKw cpos (keywordEach [] X.env)).all (fun x => x.1.isSome)
      && decide ([e].length + ([] : List Keyword).length + (if ([] : List Keyword).isEmpty then 0 else 1) < 30)) = true := by rfl)
    (hline : (apos.endLine == cpos.line) = true := by rfl) (hs : starEach [e] X.env = (false, eval e X.env) :: starEach [] X.env := by rfl) (hplain : (backTo cpos (starEach [] X.env)).any (·.1) = false := by rfl) :
    ME X C W (.Call (.Attribute o "extend" apos) [e] [] cpos) (mExt fo g) (tBM X.K "list" (rExtW X.K) to (tCons te tNil)) := ⟨pe_bm PySem.F.plainAttrs_list PySem.F.slot_list_extend PySem.F.type_list_extend mt_extW ho.pe (pa_cons ha.pe pa_nil hs) hbase hfew hline hs hplain, fun m env σ H st Q r st' R z p => by
  refine ok_mb (t := to) ho.ok R z p fun v m1 H1 s st1 x1 R1 q1 z1 p1 => ?_
  cases s with
  | dat d => cases z1
  | ref i =>
    have z1' : ((lstOf st1 (.ref i)).bind fun _ => mb (g env) (fun y st => (lstOf st y).bind fun ys => extC st i ys st[i]?) st1) = some (r, st') := z1
    cases e0 : lstOf st1 (.ref i) with
    | none => rw [e0] at z1'; cases z1'
    | some xs0 =>
      rw [e0] at z1'
      obtain ⟨a0, vs0, rfl, g0, _⟩ := lstOf_ok R1.sr q1 e0
      refine ⟨.inl ⟨rfl, vs0, g0⟩, ?_⟩
      refine ok_mb (t := te) ha.ok R1 z1' p1 fun u m2 H2 y st2 x2 R2 q2 z2 p2 => ?_
      cases e1 : lstOf st2 y with
      | none => rw [e1] at z2; cases z2
      | some ys =>
        rw [e1] at z2
        have z3 : extC st2 i ys st2[i]? = some (r, st') := z2
        obtain ⟨b, ws, rfl, g1, g2⟩ := lstOf_ok R2.sr q2 e1
        obtain ⟨a, h1, ha1⟩ := q1
        cases ha1
        have h1' := x2.pre i a0 h1
        cases hc : st2[i]? with
        | none => rw [hc] at z3; cases z3
        | some c =>
          rw [hc] at z3
          cases c with
          | lst xs =>
            obtain ⟨b', k2, vs, k3, k4⟩ := R2.sr.cl i _ hc
            rw [h1'] at k2
            cases k2
            have z4 : (if xs.length + ys.length ≤ 1000000 then some (Er.ok (SV.dat .none), st2.set i (.lst (xs ++ ys))) else none) = some (r, st') := z3
            by_cases q : xs.length + ys.length ≤ 1000000
            · rw [if_pos q] at z4
              cases z4
              obtain ⟨R3, x3⟩ := R2.lst h1' (pr_app k4 g2)
              exact ⟨a0, b, vs, ws, rfl, rfl, k3, g1, by rw [pr_len k4, pr_len g2]; exact Nat.le_trans q (by decide), p2 .non m2 _ x3 R3 .non⟩
            · rw [if_neg q] at z4; cases z4
          | _ => cases z3⟩
theorem m_tupL (hm : X.mg "tuple" = none) (ha : ME X C W a f ta) (hg : Gl X "tuple" := by rfl) (na : starEach [a] X.env = (false, eval a X.env) :: starEach [] X.env := by rfl) :
    ME X C W (.Call (.Name "tuple" p) [a] [] pos) (mTupL f) (tThen ta (kTup X.K)) :=
  ⟨pe_tupleOf hg hm ha.pe na, fun m env σ H st Q r st' R z p => by
  refine ok_mb (t := ta) ha.ok R z p fun v m1 H1 s st1 x1 R1 q1 z1 p1 => ?_
  cases e1 : lstOf st1 s with
  | none => rw [e1] at z1; cases z1
  | some xs =>
    rw [e1] at z1
    cases z1
    obtain ⟨a, vs, rfl, g1, g2⟩ := lstOf_ok R1.sr q1 e1
    refine .inl ⟨a, vs, rfl, g1, fun q n => ?_⟩
    obtain ⟨M, x, y⟩ := R1.new (same_new (o := .tup vs) n) n (c := .tup xs) ⟨_, upd_same, VRs.ex (ex_push (same_new n) n) g2⟩
    exact p1 _ _ _ x M y⟩
end
section
variable {st : Store} {e : SEnv} {i : Nat} {fo f : SEnv → Mo SV} {fs : SEnv → Mo (List SV)} {xs : List SV} {s : SV} {as : List SV}
def remK (fs : SEnv → Mo (List SV)) (env : SEnv) (o : SV) : Mo SV := fun st1 => match o with
  | .ref i => remC fs env i st1 st1[i]?
  | .dat _ => none
where remC (fs : SEnv → Mo (List SV)) (env : SEnv) (i : Nat) (st1 : Store) : Option Cell → Option (Er SV × Store)
  | some (.lst _) => mb (fs env) (fun as st => remDC st i as st[i]?) st1
  | _ => none
theorem u_mRemD : mRemD fo fs e st = mb (fo e) (remK fs e) st := by
  unfold mRemD
  congr 1
theorem u_remK : remK fs e (.ref i) st = remK.remC fs e i st st[i]? := rfl
theorem u_remC : remK.remC fs e i st (some (.lst xs)) = mb (fs e) (fun as st => remDC st i as st[i]?) st := rfl
theorem u_remDC : remDC st i [s] (some (.lst xs)) = (omap (dr 5 st) xs).bind fun ds => (dr 6 st s).bind fun d => (placeD ds d).map fun j => (.ok (.dat .none), st.set i (.lst (xs.eraseIdx j))) := rfl
theorem u_mIndex : mIndex fo fs e st = mb (fo e) (fun o st1 => (lstOf st1 o).bind fun _ => mb (fs e) (indexK o) st1) st := rfl
theorem u_indexK {o : SV} : indexK o [s] st = (lstOf st o).bind fun xs => (omap (dr 5 st) xs).bind fun ds => (dr 6 st s).bind fun d => (placeD ds d).map fun j => (.ok (.dat (.int (j : Nat))), st) := rfl
theorem u_mExt {g : SEnv → Mo SV} : mExt fo g e st = mb (fo e) (extK g e) st := rfl
theorem u_extK {g : SEnv → Mo SV} : extK g e (.ref i) st = (lstOf st (.ref i)).bind fun _ => mb (g e) (fun y st => (lstOf st y).bind fun ys => extC st i ys st[i]?) st := rfl
theorem u_extC {ys : List SV} : extC st i ys (some (.lst xs)) = if xs.length + ys.length ≤ 1000000 then some (.ok (.dat .none), st.set i (.lst (xs ++ ys))) else none := rfl
theorem u_mTupL : mTupL f e st = mb (f e) (fun x st => (lstOf st x).bind fun xs => mnew (.tup xs) st) st := rfl
end
end MV

set_option autoImplicit true
namespace Lw
open PySem L2 PV MV
def FN : Nat → List Str
  | 0 => ["people", "held", "plans", "prices", "wished", "well", "gifts", "outlay"]
  | _ => []
theorem nd_0 : (FN 0).Nodup := by decide +kernel
theorem ln_0 : (FN 0).length < 1000 := by decide +kernel
theorem nx_Chest_wanting : ("wanting" : Str) ∉ FN 0 := by decide +kernel
theorem nx_Chest_works : ("works" : Str) ∉ FN 0 := by decide +kernel
theorem nx_Chest_voters : ("voters" : Str) ∉ FN 0 := by decide +kernel
theorem nx_Chest_enrol : ("enrol" : Str) ∉ FN 0 := by decide +kernel
theorem nx_Chest_look_voter : ("look_voter" : Str) ∉ FN 0 := by decide +kernel
theorem nx_Chest_look_work : ("look_work" : Str) ∉ FN 0 := by decide +kernel
theorem nx_Chest_unwant : ("unwant" : Str) ∉ FN 0 := by decide +kernel
theorem nx_Chest_want : ("want" : Str) ∉ FN 0 := by decide +kernel
theorem nx_Chest_leave : ("leave" : Str) ∉ FN 0 := by decide +kernel
theorem nx_Chest_propose : ("propose" : Str) ∉ FN 0 := by decide +kernel
theorem nx_Chest_withdraw : ("withdraw" : Str) ∉ FN 0 := by decide +kernel

def pr_exc : Nat → Bool
  | 3 => true
  | 4 => true
  | 7 => true
  | 5 => true
  | 6 => true
  | 2 => true
  | _ => false

/-- _law_nth -/
noncomputable def sem_law_nth : List D → Option D := runF false 3 2
  (sSeq (sFor (gSet 2)
  (sRet (dV 2)) [2] (iL (dLst (dScs (lCut (dV 0) (oSome (dV 1)) (oSome (d2 hAdd (dV 1) (dC (.int 1)))))))))
  (sRet (dC (.int 0))))

/-- Chest.__init__ -/
noncomputable def sem_Chest_init : List SV → Mo SV := runM 1 1
  (zSeq (zFld 0 0 (mV 0) (mAl dNil))
  (zSeq (zFld 0 1 (mV 0) mDic0)
  (zSeq (zFld 0 2 (mV 0) (mAl dNil))
  (zSeq (zFld 0 3 (mV 0) mDic0)
  (zSeq (zFld 0 4 (mV 0) mDic0)
  (zSeq (zFld 0 5 (mV 0) (mP (dC (.int 0))))
  (zSeq (zFld 0 6 (mV 0) (mP (dC (.int 0))))
  (zFld 0 7 (mV 0) (mP (dC (.int 0)))))))))))

/-- _law_due -/
noncomputable def sem_law_due : List D → Option D := runF true 4 2
  (sRetL (lComp [3] (gSet 3) cYes (dTup (dCons (dSc (d2 hIxL (dV 3) (dC (.int 0)))) (dCons (dSc (d2 hIxL (dV 3) (dC (.int 1)))) (dCons (dLst (lComp [2] (gSet 2) (dB (d2 hIn (dV 2) (d2 hIxL (dV 3) (dC (.int 2))))) (dSc (dV 2)) (iL (dV 0)))) dNil)))) (iL (dV 1))))

/-- Chest.wanting -/
noncomputable def sem_Chest_wanting : List SV → Mo SV := runM 3 2
  (zRet (mComp [2] (gN 2) (mB (mInD false (mV 2) (mIxD (mFld 0 4 (mV 0)) (mV 1)))) (mV 2) (mIL (mFld 0 0 (mV 0)))))

/-- Chest.works -/
noncomputable def sem_Chest_works : List SV → Mo SV := runM 2 1
  (zRet (mComp [1] (gN 1) mYes (mTup (mCons (mV 1) (mCons (mIxD (mFld 0 3 (mV 0)) (mV 1)) (mCons (mMeth 0 sem_Chest_wanting (mV 0) (mCons (mV 1) mNil)) mNil)))) (mIL (mFld 0 2 (mV 0)))))

/-- _law_counts -/
noncomputable def sem_law_counts : List D → Option D := runF false 1 1
  (sRet (dT (tAndD (dB (dT (tNotD (dB (d1 (hIsi "bool") (dV 0)))))) (dB (d1 (hIsi "int") (dV 0))))))

/-- Chest.voters -/
noncomputable def sem_Chest_voters : List SV → Mo SV := runM 2 1
  (zRet (mComp [1] (gN 1) mYes (mTup (mCons (mV 1) (mCons (mIxD (mFld 0 1 (mV 0)) (mV 1)) mNil))) (mIL (mFld 0 0 (mV 0)))))

noncomputable def sem_law_right_b5 : Zsem :=
  (zIf (mPT (tOrD (tNotD (dB (d1 (hIsi "tuple") (dV 6)))) (tOrD (tNotD (dB (dA sem_law_counts (dCons (dSc (d2 hIxT (dV 6) (dC (.int 1)))) dNil)))) (tNotD (dB (d1 (hIsi "list") (d2 hIxT (dV 6) (dC (.int 2)))))))))
  (zRet (mP (dC (.bool false)))) zNx)

noncomputable def sem_law_right_t4 : Zsem :=
  (zSeq (zExpr (mLM hAppS (mV 3) (mCons (mTup (mCons (mV 5) (mCons (mV 4) mNil))) mNil)))
  (zRet (mOp hEq (mComp [7, 8] (gT (gsC (gN 7) (gsC (gN 8) gsN))) mYes (mV 7) (mIL (mMeth 0 sem_Chest_voters (mV 0) mNil))) (mV 1))))

noncomputable def sem_law_right_t3 : Zsem :=
  (zSeq (zFor (gN 6)
  sem_law_right_b5 [6] (mIL (mV 5)))
  sem_law_right_t4)

/-- _law_right -/
noncomputable def sem_law_right : List SV → Mo SV := runM 9 4
  (zSeq (zSet 4 (mAl (dAL sem_law_due (dCons (dV 1) (dCons (dV 2) dNil)))))
  (zSeq (zSet 5 (mMeth 0 sem_Chest_works (mV 0) mNil))
  (zSeq (zIf (mPT (tOrD (tNotD (dB (d1 (hIsi "list") (dV 5)))) (dB (d2 hNe (dV 5) (dV 4)))))
  (zRet (mP (dC (.bool false)))) zNx)
  sem_law_right_t3)))

noncomputable def sem_is_chest_name_b3 : Zsem :=
  (zIf (mPT (dB (d2 hNotInT (dV 1) (dC (.str "abcdefghijklmnopqrstuvwxyz")))))
  (zRet (mP (dC (.bool false)))) zNx)

/-- is_chest_name -/
noncomputable def sem_is_chest_name : List SV → Mo SV := runM 2 1
  (zSeq (zIf (mPT (tOrD (dB (d2 hEq (dV 0) (dC (.str "")))) (dB (d2 hGt (dA hLenS (dCons (dSc (dV 0)) dNil)) (dC (.int 8))))))
  (zRet (mP (dC (.bool false)))) zNx)
  (zSeq (zFor (gN 1)
  sem_is_chest_name_b3 [1] (mIStr (mV 0)))
  (zRet (mP (dC (.bool true))))))

/-- look_new_name -/
noncomputable def sem_look_new_name : List SV → Mo SV := runM 2 2
  (zSeq (zIf (mNotT (mB (mCall sem_is_chest_name (mCons (mV 0) mNil))))
  (zRaise 3) zNx)
  (zIf (mPT (dB (d2 hIn (dV 0) (dV 1))))
  (zRaise 4) zNx))

noncomputable def sem_Chest_enrol_t2 : Zsem :=
  (zSeq (zExpr (mLM hAppS (mFld 0 0 (mV 0)) (mCons (mV 1) mNil)))
  (zDPut (mFld 0 1 (mV 0)) (mV 1) (mP (dC (.int 0)))))

/-- Chest.enrol -/
noncomputable def sem_Chest_enrol : List SV → Mo SV := runM 2 2
  (zSeq (zExpr (mCall sem_look_new_name (mCons (mV 1) (mCons (mFld 0 0 (mV 0)) mNil))))
  (zSeq (zIf (mB (mOp hGe (mLenL (mFld 0 0 (mV 0))) (mP (dC (.int 20)))))
  (zRaise 7) zNx)
  sem_Chest_enrol_t2))

/-- _law_spins -/
noncomputable def sem_law_spins : List D → Option D := runF true 5 2
  (sSeq (sSetL 2 fun e => if 2 < e.length then dNil e else none)
  (sSeq (sFor (gSet 3)
  (sSeq (sSet 4 (d2 hAdd (d2 hAdd (d2 hMod (dV 0) (dC (.int 900900929))) (d2 hMul (dC (.int 2503)) (dV 3))) (dC (.int 77))))
  (sMut 2 hApp (dCons (d2 hMod (d2 hDiv (d2 hMul (d2 hMul (dV 4) (dV 4)) (d2 hAdd (dV 4) (d2 hMul (dC (.int 31)) (dV 3)))) (dC (.int 13))) (dC (.int 700700003))) dNil))) [3, 4] (iR1 (dCons (dSc (dV 1)) dNil)))
  (sRet (dV 2))))

noncomputable def sem_law_name_t5 : SE → Option Rs :=
  (sSeq (sSet 4 (dCutS (dV 4) oNone (oSome (d2 hMod (d2 hDiv (d2 hIxL (dV 3) (dC (.int 8))) (dC (.int 4))) (dC (.int 8))))))
  (sSeq (sSet 5 (d2 hMod (d2 hDiv (d2 hIxL (dV 3) (dC (.int 8))) (dC (.int 32))) (d2 hAdd (dA hLenS (dCons (dV 4) dNil)) (dC (.int 1)))))
  (sRet (d2 hAddT (d2 hAddT (dCutS (dV 4) oNone (oSome (dV 5))) (d2 hIxS (dV 2) (d2 hMod (d2 hAdd (d2 hIxL (dV 3) (dC (.int 7))) (dV 1)) (dC (.int 26))))) (dCutS (dV 4) (oSome (dV 5)) oNone)))))

noncomputable def sem_law_name_t4 : SE → Option Rs :=
  (sSeq (sIf (dB (d2 hEq (d2 hMod (d2 hIxL (dV 3) (dC (.int 8))) (dC (.int 4))) (dC (.int 1))))
  (sRet (d2 hAddT (dCutS (dV 4) (oSome (d2 hSub (dC (.int 7)) (d2 hMod (dV 1) (dC (.int 8))))) oNone) (d2 hIxS (dV 2) (d2 hMod (d2 hAdd (d2 hIxL (dV 3) (dC (.int 7))) (d2 hDiv (dV 1) (dC (.int 8)))) (dC (.int 26)))))) sNx)
  sem_law_name_t5)

/-- _law_name -/
noncomputable def sem_law_name : List D → Option D := runF false 7 2
  (sSeq (sSet 2 (dC (.str "abcdefghijklmnopqrstuvwxyz")))
  (sSeq (sSet 3 (dLst (dAL sem_law_spins (dCons (dSc (dV 0)) (dCons (dC (.int 9)) dNil)))))
  (sSeq (sSet 4 (d2 hJoin (dC (.str "")) (dLst (lComp [6] (gSet 6) cYes (d2 hIxS (dV 2) (d2 hMod (dV 6) (dC (.int 26)))) (iL (dLst (lCut (dV 3) oNone (oSome (dC (.int 7))))))))))
  (sSeq (sIf (dB (d2 hEq (d2 hMod (d2 hIxL (dV 3) (dC (.int 8))) (dC (.int 4))) (dC (.int 0))))
  (sRet (d2 hAddT (d2 hIxS (dV 2) (d2 hMod (d2 hAdd (d2 hIxL (dV 3) (dC (.int 7))) (d2 hDiv (dV 1) (dC (.int 8)))) (dC (.int 26)))) (dCutS (dV 4) oNone (oSome (d2 hMod (dV 1) (dC (.int 8))))))) sNx)
  sem_law_name_t4))))

/-- Chest.look_voter -/
noncomputable def sem_Chest_look_voter : List SV → Mo SV := runM 2 2
  (zIf (mB (mOp hNotIn (mV 1) (mFld 0 0 (mV 0))))
  (zRaise 5) zNx)

/-- Chest.look_work -/
noncomputable def sem_Chest_look_work : List SV → Mo SV := runM 2 2
  (zIf (mB (mOp hNotIn (mV 1) (mFld 0 2 (mV 0))))
  (zRaise 6) zNx)

/-- Chest.unwant -/
noncomputable def sem_Chest_unwant : List SV → Mo SV := runM 3 3
  (zSeq (zExpr (mMeth 0 sem_Chest_look_voter (mV 0) (mCons (mV 1) mNil)))
  (zSeq (zExpr (mMeth 0 sem_Chest_look_work (mV 0) (mCons (mV 2) mNil)))
  (zIf (mB (mInD false (mV 1) (mIxD (mFld 0 4 (mV 0)) (mV 2))))
  (zExpr (mDPop (mIxD (mFld 0 4 (mV 0)) (mV 2)) (mV 1))) zNx)))

/-- Chest.want -/
noncomputable def sem_Chest_want : List SV → Mo SV := runM 3 3
  (zSeq (zExpr (mMeth 0 sem_Chest_look_voter (mV 0) (mCons (mV 1) mNil)))
  (zSeq (zExpr (mMeth 0 sem_Chest_look_work (mV 0) (mCons (mV 2) mNil)))
  (zDPut (mIxD (mFld 0 4 (mV 0)) (mV 2)) (mV 1) (mP (dC (.bool true))))))

noncomputable def sem_law_of_wishes_t7 : Zsem :=
  (zRet (mMeth 0 sem_Chest_unwant (mV 0) (mCons (mV 5) (mCons (mP (dSc (d2 hIxL (dV 4) (dC (.int 0))))) mNil))))

noncomputable def sem_law_of_wishes_t6 : Zsem :=
  (zSeq (zIf (mPT (dB (d2 hIn (dV 5) (d2 hIxL (dV 4) (dC (.int 2))))))
  (zExpr (mLM hRemS (mIx lstOf (mV 4) (mP (dC (.int 2)))) (mCons (mV 5) mNil))) zNx)
  sem_law_of_wishes_t7)

noncomputable def sem_law_of_wishes_t5 : Zsem :=
  (zSeq (zIf (mPT (dB (d2 hLt (d2 hMod (d2 hIxL (dV 3) (dC (.int 0))) (dC (.int 7))) (dC (.int 6)))))
  (zSeq (zIf (mPT (dB (d2 hNotIn (dV 5) (d2 hIxL (dV 4) (dC (.int 2))))))
  (zExpr (mLM hAppS (mIx lstOf (mV 4) (mP (dC (.int 2)))) (mCons (mV 5) mNil))) zNx)
  (zRet (mMeth 0 sem_Chest_want (mV 0) (mCons (mV 5) (mCons (mP (dSc (d2 hIxL (dV 4) (dC (.int 0))))) mNil))))) zNx)
  sem_law_of_wishes_t6)

noncomputable def sem_law_of_wishes_t3 : Zsem :=
  (zSeq (zSet 6 (mComp [7] (gN 7) (mPT (dB (d2 hNotIn (dV 7) (d2 hIxL (dV 4) (dC (.int 2)))))) (mV 7) (mIL (mV 1))))
  (zSeq (zIf (mPT (tAndD (dB (d2 hEq (d2 hMod (d2 hIxL (dV 3) (dC (.int 3))) (dC (.int 3))) (dC (.int 1)))) (dB (d2 hNe (dV 6) (dLst dNil)))))
  (zSet 5 (mP (dSc (d2 hIxL (dV 6) (d2 hMod (d2 hIxL (dV 3) (dC (.int 2))) (dA hLen (dCons (dV 6) dNil))))))) zNx)
  sem_law_of_wishes_t5))

/-- _law_of_wishes -/
noncomputable def sem_law_of_wishes : List SV → Mo SV := runM 8 4
  (zSeq (zSet 4 (mIx lstOf (mV 2) (mP (d2 hMod (d2 hIxL (dV 3) (dC (.int 1))) (dA hLen (dCons (dV 2) dNil))))))
  (zSeq (zSet 5 (mP (dSc (d2 hIxL (dV 1) (d2 hMod (d2 hIxL (dV 3) (dC (.int 2))) (dA hLen (dCons (dV 1) dNil)))))))
  (zSeq (zIf (mPT (tAndD (dB (d2 hEq (d2 hMod (d2 hIxL (dV 3) (dC (.int 3))) (dC (.int 3))) (dC (.int 0)))) (dB (d2 hNe (d2 hIxL (dV 4) (dC (.int 2))) (dLst dNil)))))
  (zSet 5 (mP (dSc (d2 hIxL (d2 hIxL (dV 4) (dC (.int 2))) (d2 hMod (d2 hIxL (dV 3) (dC (.int 2))) (dA hLen (dCons (d2 hIxL (dV 4) (dC (.int 2))) dNil))))))) zNx)
  sem_law_of_wishes_t3)))

/-- _law_fresh -/
noncomputable def sem_law_fresh : List D → Option D := runF false 6 3
  (sSeq (sSet 3 (dLst (lComp [5] (gSet 5) (dB (d2 hNotIn (dV 5) (dV 1))) (dV 5) (iL (dLst (lComp [4] (gSet 4) cYes (dA sem_law_name (dCons (dSc (dV 0)) (dCons (dV 4) dNil))) (iR1 (dCons (dC (.int 21)) dNil))))))))
  (sRet (d2 hIxL (dV 3) (d2 hMod (dV 2) (dA hLen (dCons (dV 3) dNil))))))

noncomputable def sem_Chest_leave_b4 : Zsem :=
  (zIf (mB (mInD false (mV 1) (mIxD (mFld 0 4 (mV 0)) (mV 2))))
  (zExpr (mDPop (mIxD (mFld 0 4 (mV 0)) (mV 2)) (mV 1))) zNx)

/-- Chest.leave -/
noncomputable def sem_Chest_leave : List SV → Mo SV := runM 3 2
  (zSeq (zExpr (mMeth 0 sem_Chest_look_voter (mV 0) (mCons (mV 1) mNil)))
  (zSeq (zFldAug 0 5 hAdd (mV 0) (mDPop (mFld 0 1 (mV 0)) (mV 1)))
  (zSeq (zExpr (mLM hRemS (mFld 0 0 (mV 0)) (mCons (mV 1) mNil)))
  (zFor (gN 2)
  sem_Chest_leave_b4 [2] (mIL (mFld 0 2 (mV 0)))))))

noncomputable def sem_law_of_voters_b8 : Zsem :=
  (zIf (mPT (dB (d2 hIn (dV 5) (d2 hIxL (dV 6) (dC (.int 2))))))
  (zExpr (mLM hRemS (mIx lstOf (mV 6) (mP (dC (.int 2)))) (mCons (mV 5) mNil))) zNx)

noncomputable def sem_law_of_voters_l11 : Zsem :=
  (zRet (mMeth 0 sem_Chest_leave (mV 0) (mCons (mV 5) mNil)))

/-- _law_of_voters -/
noncomputable def sem_law_of_voters : List SV → Mo SV := runM 7 5
  (zSeq (zIf (mPT (tAndD (dB (d2 hEq (d2 hMod (d2 hIxL (dV 3) (dC (.int 0))) (dC (.int 2))) (dC (.int 0)))) (dB (d2 hLt (dA hLen (dCons (dV 1) dNil)) (dC (.int 20))))))
  (zSeq (zSet 5 (mP (dA sem_law_fresh (dCons (dV 4) (dCons (dV 1) (dCons (d2 hIxL (dV 3) (dC (.int 1))) dNil))))))
  (zSeq (zExpr (mLM hAppS (mV 1) (mCons (mV 5) mNil)))
  (zRet (mMeth 0 sem_Chest_enrol (mV 0) (mCons (mV 5) mNil))))) zNx)
  (zSeq (zIf (mPT (dB (d2 hNe (dV 1) (dLst dNil))))
  (zSeq (zSet 5 (mP (dSc (d2 hIxL (dV 1) (d2 hMod (d2 hIxL (dV 3) (dC (.int 1))) (dA hLen (dCons (dV 1) dNil)))))))
  (zSeq (zExpr (mLM hRemS (mV 1) (mCons (mV 5) mNil)))
  (zSeq (zFor (gN 6)
  sem_law_of_voters_b8 [6] (mIL (mV 2)))
  sem_law_of_voters_l11))) zNx)
  (zRet (mP (dC .none)))))

noncomputable def sem_Chest_propose_t3 : Zsem :=
  (zSeq (zExpr (mLM hAppS (mFld 0 2 (mV 0)) (mCons (mV 1) mNil)))
  (zSeq (zDPut (mFld 0 3 (mV 0)) (mV 1) (mV 2))
  (zDPut (mFld 0 4 (mV 0)) (mV 1) mDic0)))

noncomputable def sem_Chest_propose_t2 : Zsem :=
  (zSeq (zIf (mB (mOp hGe (mLenL (mFld 0 2 (mV 0))) (mP (dC (.int 12)))))
  (zRaise 7) zNx)
  sem_Chest_propose_t3)

/-- Chest.propose -/
noncomputable def sem_Chest_propose : List SV → Mo SV := runM 3 3
  (zSeq (zExpr (mCall sem_look_new_name (mCons (mV 1) (mCons (mFld 0 2 (mV 0)) mNil))))
  (zSeq (zIf (mPT (tOrD (dB (d2 hLt (dV 2) (dC (.int 1)))) (dB (d2 hGt (dV 2) (dC (.int 1000000000))))))
  (zRaise 2) zNx)
  sem_Chest_propose_t2))

/-- Chest.withdraw -/
noncomputable def sem_Chest_withdraw : List SV → Mo SV := runM 2 2
  (zSeq (zExpr (mMeth 0 sem_Chest_look_work (mV 0) (mCons (mV 1) mNil)))
  (zSeq (zExpr (mLM hRemS (mFld 0 2 (mV 0)) (mCons (mV 1) mNil)))
  (zSeq (zExpr (mDPop (mFld 0 3 (mV 0)) (mV 1)))
  (zExpr (mDPop (mFld 0 4 (mV 0)) (mV 1))))))

/-- _law_cost -/
noncomputable def sem_law_cost : List D → Option D := runF false 1 1
  (sSeq (sIf (dB (d2 hEq (d2 hMod (dV 0) (dC (.int 4))) (dC (.int 0))))
  (sRet (d2 hIxL (dLst (dCons (dC (.int 1)) (dCons (dC (.int 2)) (dCons (d2 hPow (dC (.int 10)) (dC (.int 9))) (dCons (d2 hSub (d2 hPow (dC (.int 10)) (dC (.int 9))) (dC (.int 1))) dNil))))) (d2 hMod (d2 hDiv (dV 0) (dC (.int 4))) (dC (.int 4))))) sNx)
  (sSeq (sIf (dB (d2 hEq (d2 hMod (dV 0) (dC (.int 4))) (dC (.int 1))))
  (sRet (d2 hAdd (dC (.int 1)) (d2 hMod (d2 hDiv (dV 0) (dC (.int 4))) (dC (.int 30))))) sNx)
  (sRet (d2 hAdd (dC (.int 1)) (d2 hMod (d2 hMul (dV 0) (dC (.int 41))) (d2 hPow (dC (.int 10)) (dC (.int 9))))))))

/-- _law_of_works -/
noncomputable def sem_law_of_works : List SV → Mo SV := runM 6 4
  (zSeq (zIf (mPT (tAndD (dB (d2 hGt (d2 hMod (d2 hDiv (d2 hIxL (dV 2) (dC (.int 0))) (dC (.int 7))) (dC (.int 3))) (dC (.int 0)))) (dB (d2 hLt (dA hLen (dCons (dV 1) dNil)) (dC (.int 12))))))
  (zSeq (zSet 5 (mP (dA sem_law_fresh (dCons (dSc (dV 3)) (dCons (dLst (lComp [4] (gSet 4) cYes (dSc (d2 hIxL (dV 4) (dC (.int 0)))) (iL (dV 1)))) (dCons (dSc (d2 hIxL (dV 2) (dC (.int 1)))) dNil))))))
  (zSeq (zExpr (mLM hAppS (mV 1) (mCons (mLst (mCons (mV 5) (mCons (mP (dA sem_law_cost (dCons (dSc (d2 hIxL (dV 2) (dC (.int 2)))) dNil))) (mCons (mAl dNil) mNil)))) mNil)))
  (zRet (mMeth 0 sem_Chest_propose (mV 0) (mCons (mV 5) (mCons (mP (dSc (d2 hIxL (d2 hIxL (dV 1) (d1 hNeg (dC (.int 1)))) (dC (.int 1))))) mNil)))))) zNx)
  (zSeq (zIf (mPT (dB (d2 hNe (dV 1) (dLst dNil))))
  (zSeq (zSet 4 (mIx lstOf (mV 1) (mP (d2 hMod (d2 hIxL (dV 2) (dC (.int 1))) (dA hLen (dCons (dV 1) dNil))))))
  (zSeq (zExpr (mRemD (mV 1) (mCons (mV 4) mNil)))
  (zRet (mMeth 0 sem_Chest_withdraw (mV 0) (mCons (mP (dSc (d2 hIxL (dV 4) (dC (.int 0))))) mNil))))) zNx)
  (zRet (mP (dC .none)))))

/-- _law_deed -/
noncomputable def sem_law_deed : List SV → Mo SV := runM 5 5
  (zSeq (zIf (mPT (dB (d2 hEq (d2 hMod (d2 hIxL (dV 3) (dC (.int 0))) (dC (.int 7))) (dC (.int 0)))))
  (zRet (mCall sem_law_of_voters (mCons (mV 0) (mCons (mV 1) (mCons (mV 2) (mCons (mAl (lCat (dLst (dCons (d2 hDiv (d2 hIxL (dV 3) (dC (.int 0))) (dC (.int 7))) dNil)) (dLst (dScs (lCut (dV 3) (oSome (dC (.int 1))) oNone))))) (mCons (mV 4) mNil))))))) zNx)
  (zSeq (zIf (mPT (tOrD (dB (d2 hLt (d2 hMod (d2 hIxL (dV 3) (dC (.int 0))) (dC (.int 7))) (dC (.int 3)))) (tOrD (dB (d2 hEq (dV 1) (dLst dNil))) (dB (d2 hEq (dV 2) (dLst dNil))))))
  (zRet (mCall sem_law_of_works (mCons (mV 0) (mCons (mV 2) (mCons (mV 3) (mCons (mV 4) mNil)))))) zNx)
  (zRet (mCall sem_law_of_wishes (mCons (mV 0) (mCons (mV 1) (mCons (mV 2) (mCons (mV 3) mNil))))))))

noncomputable def sem_law_b6 : Zsem :=
  (zSeq (zExpr (mLM hAppS (mV 3) (mCons (mP (dA sem_law_name (dCons (dSc (dV 1)) (dCons (dSc (dV 6)) dNil)))) mNil)))
  (zExpr (mMeth 0 sem_Chest_enrol (mV 2) (mCons (mP (dSc (d2 hIxL (dV 3) (d1 hNeg (dC (.int 1)))))) mNil))))

noncomputable def sem_law_l13 : Zsem :=
  (zIf (mNotT (mB (mCall sem_law_right (mCons (mV 2) (mCons (mV 3) (mCons (mV 4) (mCons (mV 5) mNil)))))))
  (zRet (mP (dC (.bool false)))) zNx)

noncomputable def sem_law_b9 : Zsem :=
  (zSeq (zSet 8 (mAl (dAL sem_law_spins (dCons (dSc (dV 7)) (dCons (dC (.int 4)) dNil)))))
  (zSeq (zIf (mB (mOp hNotN (mCall sem_law_deed (mCons (mV 2) (mCons (mV 3) (mCons (mV 4) (mCons (mV 8) (mCons (mV 1) mNil)))))) (mP (dC .none))))
  (zRet (mP (dC (.bool false)))) zNx)
  sem_law_l13))

noncomputable def sem_law_b15 : Zsem :=
  (zIf (mPT (dB (d2 hNe (dV 9) (dV 10))))
  (zRet (mP (dC (.bool false)))) zNx)

noncomputable def sem_law_b19 : Zsem :=
  (zExpr (mExt (mIx tupOf (mV 11) (mP (dC (.int 2)))) (mV 3)))

noncomputable def sem_law_b18 : Zsem :=
  (zSeq (zFor (gN 11)
  sem_law_b19 [11] (mIL (mV 9)))
  (zExpr (mLM hClrS (mV 9) mNil)))

noncomputable def sem_law_t9 : Zsem :=
  (zRet (mCall sem_law_right (mCons (mV 2) (mCons (mV 3) (mCons (mV 4) (mCons (mAl dNil) mNil))))))

noncomputable def sem_law_t8 : Zsem :=
  (zSeq (zFor (gT (gsC (gN 9) (gsC (gN 10) gsN)))
  sem_law_b18 [9, 10, 11] (mIL (mV 5)))
  sem_law_t9)

noncomputable def sem_law_t7 : Zsem :=
  (zSeq (zFor (gT (gsC (gN 9) (gsC (gN 10) gsN)))
  sem_law_b15 [9, 10] (mIL (mV 5)))
  sem_law_t8)

noncomputable def sem_law_t6 : Zsem :=
  (zSeq (zFor (gN 7)
  sem_law_b9 [7, 8] (mIL (mAl (dScs (lCut (dV 0) (oSome (dC (.int 2))) (oSome (dC (.int 62))))))))
  sem_law_t7)

/-- law -/
noncomputable def sem_law : List SV → Mo SV := runM 12 1
  (zSeq (zSet 1 (mP (dA sem_law_nth (dCons (dV 0) (dCons (dC (.int 1)) dNil)))))
  (zSeq (zSet 2 (mMake 0 sem_Chest_init mNil))
  (zSeq (zSet 3 (mAl dNil))
  (zSeq (zSet 4 (mAl dNil))
  (zSeq (zSet 5 (mAl dNil))
  (zSeq (zFor (gN 6)
  sem_law_b6 [6] (mIR1 (mCons (mP (d2 hMod (dA sem_law_nth (dCons (dV 0) (dCons (dC (.int 0)) dNil))) (dC (.int 21)))) mNil)))
  sem_law_t6))))))
end Lw

namespace Lw
open PySem PySem.Spec PyProof.Rows L2 PV MV
def topS (i : Nat) : Stmt := PySem.Challenge.pw_purse_k42_wishes_and_proposals.main.body.getD i (.Pass ⟨0, 0, 0, 0⟩)
structure Bt (mg : Str → Option Value) : Prop where
  nil : True
  bool_ : mg "bool" = none
  int_ : mg "int" = none
  isinstance_ : mg "isinstance" = none
  len_ : mg "len" = none
  list_ : mg "list" = none
  range_ : mg "range" = none
  tuple_ : mg "tuple" = none
  MOST_PEOPLE_ : ∃ t, mg "MOST_PEOPLE" = some (.int 20 t)
  MOST_PLANS_ : ∃ t, mg "MOST_PLANS" = some (.int 12 t)
  MOST_COINS_ : ∃ t, mg "MOST_COINS" = some (.int 1000000000 t)
  LETTERS_KNOWN_ : ∃ t, mg "LETTERS_KNOWN" = some (.str "abcdefghijklmnopqrstuvwxyz" t)
abbrev CC (ca : Nat → Addr) : CT := ⟨ca, FN⟩
structure TxT (K : PySem.W.Frag) (mg : Str → Option Value) (ca : Nat → Addr) : Prop where
  nil : True
  m_Chest : mg "Chest" = some (.ref (ca 0))
  cls_Chest : Cls K (ca 0)
  na_Chest_people : NoAttr K (ca 0) "people"
  na_Chest_held : NoAttr K (ca 0) "held"
  na_Chest_plans : NoAttr K (ca 0) "plans"
  na_Chest_prices : NoAttr K (ca 0) "prices"
  na_Chest_wished : NoAttr K (ca 0) "wished"
  na_Chest_well : NoAttr K (ca 0) "well"
  na_Chest_gifts : NoAttr K (ca 0) "gifts"
  na_Chest_outlay : NoAttr K (ca 0) "outlay"
  g_TooMuch : mg "TooMuch" = some (.ref (ca 2))
  g_NoName : mg "NoName" = some (.ref (ca 3))
  g_Twice : mg "Twice" = some (.ref (ca 4))
  g_NoVoter : mg "NoVoter" = some (.ref (ca 5))
  g_NoWork : mg "NoWork" = some (.ref (ca 6))
  g_Full : mg "Full" = some (.ref (ca 7))
  x_NoName : PySem.W.excIn K (ca 3) [.type "ValueError", .type "Exception", .type "BaseException", .type "object"] "ValueError.__new__" = true
  k_NoName : PySem.W.keepIn K (.ref (ca 3)) = true
  b_NoName : PySem.W.subIn K (.ref (ca 3)) (.type "BaseException") = some true
  t_NoName : PySem.W.typeIn K (.ref (ca 3)) = some (.type "type")
  x_Twice : PySem.W.excIn K (ca 4) [.type "ValueError", .type "Exception", .type "BaseException", .type "object"] "ValueError.__new__" = true
  k_Twice : PySem.W.keepIn K (.ref (ca 4)) = true
  b_Twice : PySem.W.subIn K (.ref (ca 4)) (.type "BaseException") = some true
  t_Twice : PySem.W.typeIn K (.ref (ca 4)) = some (.type "type")
  x_Full : PySem.W.excIn K (ca 7) [.type "ValueError", .type "Exception", .type "BaseException", .type "object"] "ValueError.__new__" = true
  k_Full : PySem.W.keepIn K (.ref (ca 7)) = true
  b_Full : PySem.W.subIn K (.ref (ca 7)) (.type "BaseException") = some true
  t_Full : PySem.W.typeIn K (.ref (ca 7)) = some (.type "type")
  x_NoVoter : PySem.W.excIn K (ca 5) [.type "ValueError", .type "Exception", .type "BaseException", .type "object"] "ValueError.__new__" = true
  k_NoVoter : PySem.W.keepIn K (.ref (ca 5)) = true
  b_NoVoter : PySem.W.subIn K (.ref (ca 5)) (.type "BaseException") = some true
  t_NoVoter : PySem.W.typeIn K (.ref (ca 5)) = some (.type "type")
  x_NoWork : PySem.W.excIn K (ca 6) [.type "ValueError", .type "Exception", .type "BaseException", .type "object"] "ValueError.__new__" = true
  k_NoWork : PySem.W.keepIn K (.ref (ca 6)) = true
  b_NoWork : PySem.W.subIn K (.ref (ca 6)) (.type "BaseException") = some true
  t_NoWork : PySem.W.typeIn K (.ref (ca 6)) = some (.type "type")
  x_TooMuch : PySem.W.excIn K (ca 2) [.type "ValueError", .type "Exception", .type "BaseException", .type "object"] "ValueError.__new__" = true
  k_TooMuch : PySem.W.keepIn K (.ref (ca 2)) = true
  b_TooMuch : PySem.W.subIn K (.ref (ca 2)) (.type "BaseException") = some true
  t_TooMuch : PySem.W.typeIn K (.ref (ca 2)) = some (.type "type")
section
variable {P : Program} {w : World} {K : PySem.W.Frag} {mg : Str → Option Value} {base : Heap} {ca : Nat → Addr}
abbrev st_law_nth : Stmt := topS 36
abbrev N_law_nth : List Str := ["script", "k", "cell"]
theorem sc_law_nth : FnScope ["script", "k", "cell"] ["script", "k"] (defScope st_law_nth) := ⟨rfl, rfl, rfl, by decide +kernel, rfl, by decide +kernel, by decide +kernel⟩
theorem cal_law_nth {f : Addr} {fd : FuncData} (F : Fun K "_law_nth" "_law_nth" st_law_nth f fd) (m : mg "_law_nth" = some (.ref f)) (B : Bt mg)  : Cal P w K mg base "_law_nth" 1 ["script", "k"] false .nw sem_law_nth :=
  ⟨f, fd, fn_v false .nw [.od, .od, .nw] F sc_law_nth (fun _ _ _ _ _ _ hr => have hu := hr.units; ⟨_, (vss_cons (vs_for [2] PassesOwn.never rfl (vi_list (v_of_l (vl_sc (vl_cut (v_name 0) (vo_some (v_name 1)) (vo_some (v_op op_add r_add (v_name 1) v_int)))))) (vg_name 2 sc_law_nth.nd)
  (vss_one (vs_ret (v_name 2))))
  (vss_one (vs_ret v_int)))⟩), m, F.kp, F.binds (ps := ["script", "k"]) fun _ _ _ _ _ _ us hl => match us, hl with | [_, _], _ => rfl⟩

abbrev st_Chest_init : Stmt := inClass (topS 34) 0
abbrev N_Chest_init : List Str := ["self"]
theorem sc_Chest_init : FnScope ["self"] ["self"] (defScope st_Chest_init) := ⟨rfl, rfl, rfl, by decide +kernel, rfl, by decide +kernel, by decide +kernel⟩
theorem cal_Chest_init {f : Addr} {fd : FuncData} (F : Fun K "__init__" "Chest.__init__" st_Chest_init f fd) (m : Mk K (ca 0) f) (B : Bt mg) (T : TxT K mg ca)  : CaMk P w K mg base (CC ca) 0 "Chest" 1 ["self"] sem_Chest_init :=
  ⟨f, fd, fn_m (CC ca) F sc_Chest_init (fun _ _ _ _ _ _ hr => have hu := hr.units; have hw := hu_of hr; ⟨_, (mss_cons (ms_fld 0 0 (m_name 0) (m_newL (vl_lst va_nil)) T.cls_Chest T.na_Chest_people (hd := nd_0) (hl := ln_0))
  (mss_cons (ms_fld 0 1 (m_name 0) m_dic0 T.cls_Chest T.na_Chest_held (hd := nd_0) (hl := ln_0))
  (mss_cons (ms_fld 0 2 (m_name 0) (m_newL (vl_lst va_nil)) T.cls_Chest T.na_Chest_plans (hd := nd_0) (hl := ln_0))
  (mss_cons (ms_fld 0 3 (m_name 0) m_dic0 T.cls_Chest T.na_Chest_prices (hd := nd_0) (hl := ln_0))
  (mss_cons (ms_fld 0 4 (m_name 0) m_dic0 T.cls_Chest T.na_Chest_wished (hd := nd_0) (hl := ln_0))
  (mss_cons (ms_fld 0 5 (m_name 0) (m_pure v_int) T.cls_Chest T.na_Chest_well (hd := nd_0) (hl := ln_0))
  (mss_cons (ms_fld 0 6 (m_name 0) (m_pure v_int) T.cls_Chest T.na_Chest_gifts (hd := nd_0) (hl := ln_0))
  (mss_one (ms_fld 0 7 (m_name 0) (m_pure v_int) T.cls_Chest T.na_Chest_outlay (hd := nd_0) (hl := ln_0))))))))))⟩), m, T.m_Chest, F.binds (ps := ["self"]) fun _ _ _ _ _ _ us hl => match us, hl with | [_], _ => rfl⟩

abbrev st_law_due : Stmt := topS 46
abbrev N_law_due : List Str := ["people", "works", "name", "work"]
theorem sc_law_due : FnScope ["people", "works", "name", "work"] ["people", "works"] (defScope st_law_due) := ⟨rfl, rfl, rfl, by decide +kernel, rfl, by decide +kernel, by decide +kernel⟩
theorem cal_law_due {f : Addr} {fd : FuncData} (F : Fun K "_law_due" "_law_due" st_law_due f fd) (m : mg "_law_due" = some (.ref f)) (B : Bt mg)  : Cal P w K mg base "_law_due" 1 ["people", "works"] true .nw sem_law_due :=
  ⟨f, fd, fn_v true .nw [.od, .od, .od, .od] F sc_law_due (fun _ _ _ _ _ _ hr => have hu := hr.units; ⟨_, (vss_one (vs_retL (vl_compF rfl sc_law_due.nd (re := .nw) (is := [3]) (vi_list (v_name 1)) (blkOk_by (own := [("work", 3)]) (N := N_law_due) (sc := (defScope st_law_due)) (by decide +kernel)) (fun _ _ _ _ _ => (vg_name 3 sc_law_due.nd)) (fun _ _ _ _ _ => vts_nil) (fun _ _ _ _ _ => (v_tup (va_cons (v_sc (v_ixL (v_name 3) v_int)) (va_cons (v_sc (v_ixL (v_name 3) v_int)) (va_cons (v_of_l (vl_compF rfl sc_law_due.nd (re := .nw) (is := [2]) (vi_list (v_name 0)) (blkOk_by (own := [("name", 2)]) (N := N_law_due) (sc := (relS ({ kind := PySem.ScopeKind.function, names := [ (PySem.Str.ofString ".0", PySem.NameKind.local), (PySem.Str.ofString "work", PySem.NameKind.cell), (PySem.Str.ofString "people", PySem.NameKind.free)], isGenerator := false, isCoroutine := false, more := [] : PySem.Scope }) (defScope st_law_due))) (by decide +kernel)) (fun _ _ _ _ _ => (vg_name 2 sc_law_due.nd)) (fun _ _ _ _ _ => (vts_one (vt_cmp op_in_seq r_in (v_name 2) (v_ixL (v_name 3) v_int)))) (fun _ _ _ _ _ => (v_sc (v_name 2))))) va_nil))))))))⟩), m, F.kp, F.binds (ps := ["people", "works"]) fun _ _ _ _ _ _ us hl => match us, hl with | [_, _], _ => rfl⟩

abbrev st_Chest_wanting : Stmt := inClass (topS 34) 2
abbrev N_Chest_wanting : List Str := ["self", "work", "name"]
theorem sc_Chest_wanting : FnScope ["self", "work", "name"] ["self", "work"] (defScope st_Chest_wanting) := ⟨rfl, rfl, rfl, by decide +kernel, rfl, by decide +kernel, by decide +kernel⟩
theorem cal_Chest_wanting {f : Addr} {fd : FuncData} (F : Fun K "wanting" "Chest.wanting" st_Chest_wanting f fd) (m : Meth K (ca 0) "wanting" f) (B : Bt mg) (T : TxT K mg ca)  : CaMt P w K mg base (CC ca) 0 "wanting" 1 ["self", "work"] sem_Chest_wanting :=
  ⟨f, fd, fn_m (CC ca) F sc_Chest_wanting (fun _ _ _ _ _ _ hr => have hu := hr.units; have hw := hu_of hr; ⟨_, (mss_one (ms_ret (m_comp rfl sc_Chest_wanting.nd (is := [2]) (mi_list (m_fld 0 0 (m_name 0) T.cls_Chest T.na_Chest_people (hd := nd_0))) (blkOk_by (own := [("name", 2)]) (N := N_Chest_wanting) (sc := (defScope st_Chest_wanting)) (by decide +kernel)) (fun _ _ _ _ _ => (mg_name 2 sc_Chest_wanting.nd)) (fun _ _ _ _ _ => (mts_one (mt_inD hw (m_name 2) (m_ixD hw (m_fld 0 4 (m_name 0) T.cls_Chest T.na_Chest_wished (hd := nd_0)) (m_name 1))))) (fun _ _ _ _ _ => (m_name 2)))))⟩), m, F.binds (ps := ["self", "work"]) fun _ _ _ _ _ _ us hl => match us, hl with | [_, _], _ => rfl⟩

abbrev st_Chest_works : Stmt := inClass (topS 34) 3
abbrev N_Chest_works : List Str := ["self", "work"]
theorem sc_Chest_works : FnScope ["self", "work"] ["self"] (defScope st_Chest_works) := ⟨rfl, rfl, rfl, by decide +kernel, rfl, by decide +kernel, by decide +kernel⟩
theorem cal_Chest_works {f : Addr} {fd : FuncData} (F : Fun K "works" "Chest.works" st_Chest_works f fd) (m : Meth K (ca 0) "works" f) (B : Bt mg) (T : TxT K mg ca) (C_Chest_wanting : CaMt P w K mg base (CC ca) 0 "wanting" 1 ["self", "work"] sem_Chest_wanting) : CaMt P w K mg base (CC ca) 0 "works" 2 ["self"] sem_Chest_works :=
  ⟨f, fd, fn_m (CC ca) F sc_Chest_works (fun _ _ _ _ _ _ hr => have hu := hr.units; have hw := hu_of hr; ⟨_, (mss_one (ms_ret (m_comp rfl sc_Chest_works.nd (is := [1]) (mi_list (m_fld 0 2 (m_name 0) T.cls_Chest T.na_Chest_plans (hd := nd_0))) (blkOk_by (own := [("work", 1)]) (N := N_Chest_works) (sc := (defScope st_Chest_works)) (by decide +kernel)) (fun _ _ _ _ _ => (mg_name 1 sc_Chest_works.nd)) (fun _ _ _ _ _ => mts_nil) (fun _ _ _ _ _ => (m_tup (ma_cons (m_name 1) (ma_cons (m_ixD hw (m_fld 0 3 (m_name 0) T.cls_Chest T.na_Chest_prices (hd := nd_0)) (m_name 1)) (ma_cons (m_meth 0 takes0 C_Chest_wanting T.cls_Chest hr (m_name 0) (ma_cons (m_name 1) ma_nil) (hx := nx_Chest_wanting)) ma_nil))))))))⟩), m, F.binds (ps := ["self"]) fun _ _ _ _ _ _ us hl => match us, hl with | [_], _ => rfl⟩

abbrev st_law_counts : Stmt := topS 38
abbrev N_law_counts : List Str := ["thing"]
theorem sc_law_counts : FnScope ["thing"] ["thing"] (defScope st_law_counts) := ⟨rfl, rfl, rfl, by decide +kernel, rfl, by decide +kernel, by decide +kernel⟩
theorem cal_law_counts {f : Addr} {fd : FuncData} (F : Fun K "_law_counts" "_law_counts" st_law_counts f fd) (m : mg "_law_counts" = some (.ref f)) (B : Bt mg)  : Cal P w K mg base "_law_counts" 1 ["thing"] false .nw sem_law_counts :=
  ⟨f, fd, fn_v false .nw [.od] F sc_law_counts (fun _ _ _ _ _ _ hr => have hu := hr.units; ⟨_, (vss_one (vs_ret (v_and (v_not (v_isi B.isinstance_ B.bool_ (by decide +kernel) (v_name 0))) (v_one (v_isi B.isinstance_ B.int_ (by decide +kernel) (v_name 0))))))⟩), m, F.kp, F.binds (ps := ["thing"]) fun _ _ _ _ _ _ us hl => match us, hl with | [_], _ => rfl⟩

abbrev st_Chest_voters : Stmt := inClass (topS 34) 1
abbrev N_Chest_voters : List Str := ["self", "name"]
theorem sc_Chest_voters : FnScope ["self", "name"] ["self"] (defScope st_Chest_voters) := ⟨rfl, rfl, rfl, by decide +kernel, rfl, by decide +kernel, by decide +kernel⟩
theorem cal_Chest_voters {f : Addr} {fd : FuncData} (F : Fun K "voters" "Chest.voters" st_Chest_voters f fd) (m : Meth K (ca 0) "voters" f) (B : Bt mg) (T : TxT K mg ca)  : CaMt P w K mg base (CC ca) 0 "voters" 1 ["self"] sem_Chest_voters :=
  ⟨f, fd, fn_m (CC ca) F sc_Chest_voters (fun _ _ _ _ _ _ hr => have hu := hr.units; have hw := hu_of hr; ⟨_, (mss_one (ms_ret (m_comp rfl sc_Chest_voters.nd (is := [1]) (mi_list (m_fld 0 0 (m_name 0) T.cls_Chest T.na_Chest_people (hd := nd_0))) (blkOk_by (own := [("name", 1)]) (N := N_Chest_voters) (sc := (defScope st_Chest_voters)) (by decide +kernel)) (fun _ _ _ _ _ => (mg_name 1 sc_Chest_voters.nd)) (fun _ _ _ _ _ => mts_nil) (fun _ _ _ _ _ => (m_tup (ma_cons (m_name 1) (ma_cons (m_ixD hw (m_fld 0 1 (m_name 0) T.cls_Chest T.na_Chest_held (hd := nd_0)) (m_name 1)) ma_nil)))))))⟩), m, F.binds (ps := ["self"]) fun _ _ _ _ _ _ us hl => match us, hl with | [_], _ => rfl⟩

abbrev st_law_right : Stmt := topS 47
abbrev N_law_right : List Str := ["chest", "people", "works", "held", "due", "found", "row", "name", "coffer"]
theorem sc_law_right : FnScope ["chest", "people", "works", "held", "due", "found", "row", "name", "coffer"] ["chest", "people", "works", "held"] (defScope st_law_right) := ⟨rfl, rfl, rfl, by decide +kernel, rfl, by decide +kernel, by decide +kernel⟩
theorem cal_law_right {f : Addr} {fd : FuncData} (F : Fun K "_law_right" "_law_right" st_law_right f fd) (m : mg "_law_right" = some (.ref f)) (B : Bt mg) (T : TxT K mg ca) (C_law_due : Cal P w K mg base "_law_due" 1 ["people", "works"] true .nw sem_law_due) (C_Chest_works : CaMt P w K mg base (CC ca) 0 "works" 2 ["self"] sem_Chest_works) (C_law_counts : Cal P w K mg base "_law_counts" 1 ["thing"] false .nw sem_law_counts) (C_Chest_voters : CaMt P w K mg base (CC ca) 0 "voters" 1 ["self"] sem_Chest_voters) : CaM P w K mg base (CC ca) "_law_right" 3 ["chest", "people", "works", "held"] sem_law_right :=
  ⟨f, fd, fn_m (CC ca) F sc_law_right (fun _ _ _ _ _ _ hr => have hu := hr.units; have hw := hu_of hr; ⟨_, (mss_cons (ms_set 4 sc_law_right.nd (m_newL (vl_is (vl_callC C_law_due (hr.mono (show 1 ≤ 2 by decide)) (va_cons (v_name 1) (va_cons (v_name 2) (va_le .no va_nil)))))))
  (mss_cons (ms_set 5 sc_law_right.nd (m_meth0 0 tk_fn C_Chest_works T.cls_Chest hr (m_name 0) (hx := nx_Chest_works)))
  (mss_cons (ms_if (mt_pure (vw_pt (vw_or (vt_not (vt_val (v_isi B.isinstance_ B.list_ (by decide +kernel) (v_name 5)))) (vw_or1 (vt_cmp (op_neD hu) r_ne (v_name 5) (v_name 4))))))
  (mss_one (ms_ret (m_pure v_bl))) mss_nil)
  (mss_cons (ms_for [6] po_fn rfl (mi_list (m_name 5)) (mg_name 6 sc_law_right.nd)
  (mss_one (ms_if (mt_pure (vw_pt (vw_or (vt_not (vt_val (v_isi B.isinstance_ B.tuple_ (by decide +kernel) (v_name 6)))) (vw_or (vt_not (vt_val (v_is (v_callC C_law_counts (hr.mono (show 1 ≤ 2 by decide)) (va_cons (v_sc (v_ixT (v_name 6) v_int)) va_nil))))) (vw_or1 (vt_not (vt_val (v_isi B.isinstance_ B.list_ (by decide +kernel) (v_ixT (v_name 6) v_int)))))))))
  (mss_one (ms_ret (m_pure v_bl))) mss_nil)))
  (mss_cons (ms_expr (m_app (m_name 3) (ma_cons (m_tup (ma_cons (m_name 5) (ma_cons (m_name 4) ma_nil))) ma_nil)))
  (mss_one (ms_ret (m_cmp (op_eqD hu) r_eq (m_comp rfl sc_law_right.nd (is := [7, 8]) (mi_list (m_meth0 0 tk_fn C_Chest_voters T.cls_Chest (hr.mono (show 1 ≤ 2 by decide)) (m_name 0) (hx := nx_Chest_voters))) (blkOk_by (own := [("name", 7), ("coffer", 8)]) (N := N_law_right) (sc := (defScope st_law_right)) (by decide +kernel)) (fun _ _ _ _ _ => (mg_tup rfl (mgs_cons (mg_name 7 sc_law_right.nd) (mgs_cons (mg_name 8 sc_law_right.nd) mgs_nil)))) (fun _ _ _ _ _ => mts_nil) (fun _ _ _ _ _ => (m_name 7))) (m_name 1)))))))))⟩), m, F.kp, F.binds (ps := ["chest", "people", "works", "held"]) fun _ _ _ _ _ _ us hl => match us, hl with | [_, _, _, _], _ => rfl⟩

abbrev st_is_chest_name : Stmt := topS 32
abbrev N_is_chest_name : List Str := ["name", "sign"]
theorem sc_is_chest_name : FnScope ["name", "sign"] ["name"] (defScope st_is_chest_name) := ⟨rfl, rfl, rfl, by decide +kernel, rfl, by decide +kernel, by decide +kernel⟩
theorem cal_is_chest_name {f : Addr} {fd : FuncData} (F : Fun K "is_chest_name" "is_chest_name" st_is_chest_name f fd) (m : mg "is_chest_name" = some (.ref f)) (B : Bt mg) (T : TxT K mg ca)  : CaM P w K mg base (CC ca) "is_chest_name" 1 ["name"] sem_is_chest_name :=
  ⟨f, fd, fn_m (CC ca) F sc_is_chest_name (fun _ _ _ _ _ _ hr => have hu := hr.units; have hw := hu_of hr; ⟨_, (mss_cons (ms_if (mt_pure (vw_pt (vw_or (vt_cmp (op_eqD hu) r_eq (v_name 0) v_str) (vw_or1 (vt_cmp op_gt r_gt (v_callB call_len_str c_lenS B.len_ (by decide +kernel) (va_cons (v_sc (v_name 0)) va_nil)) v_int)))))
  (mss_one (ms_ret (m_pure v_bl))) mss_nil)
  (mss_cons (ms_for [1] po_fn rfl (mi_str (m_name 0)) (mg_name 1 sc_is_chest_name.nd)
  (mss_one (ms_if (mt_pure (vt_cmp op_notin_str r_notInT (v_name 1) (v_globS B.LETTERS_KNOWN_)))
  (mss_one (ms_ret (m_pure v_bl))) mss_nil)))
  (mss_one (ms_ret (m_pure v_bl)))))⟩), m, F.kp, F.binds (ps := ["name"]) fun _ _ _ _ _ _ us hl => match us, hl with | [_], _ => rfl⟩

abbrev st_look_new_name : Stmt := topS 33
abbrev N_look_new_name : List Str := ["name", "known"]
theorem sc_look_new_name : FnScope ["name", "known"] ["name", "known"] (defScope st_look_new_name) := ⟨rfl, rfl, rfl, by decide +kernel, rfl, by decide +kernel, by decide +kernel⟩
theorem cal_look_new_name {f : Addr} {fd : FuncData} (F : Fun K "look_new_name" "look_new_name" st_look_new_name f fd) (m : mg "look_new_name" = some (.ref f)) (B : Bt mg) (T : TxT K mg ca) (C_is_chest_name : CaM P w K mg base (CC ca) "is_chest_name" 1 ["name"] sem_is_chest_name) : CaM P w K mg base (CC ca) "look_new_name" 2 ["name", "known"] sem_look_new_name :=
  ⟨f, fd, fn_m (CC ca) F sc_look_new_name (fun _ _ _ _ _ _ hr => have hu := hr.units; have hw := hu_of hr; ⟨_, (mss_cons (ms_if (mt_not (mt_val (m_call tk_fn C_is_chest_name hr (ma_cons (m_name 0) ma_nil))))
  (mss_one (ms_raise (x := "NoName") (ty := fun _ _ _ => True) 3 tk_fn rfl (pmk_own PySem.F.excBase_ValueError T.x_NoName T.g_NoName T.k_NoName (raises_own T.b_NoName T.t_NoName) rfl))) mss_nil)
  (mss_one (ms_if (mt_pure (vt_cmp op_in_seq r_in (v_name 0) (v_name 1)))
  (mss_one (ms_raise (x := "Twice") (ty := fun _ _ _ => True) 4 tk_fn rfl (pmk_own PySem.F.excBase_ValueError T.x_Twice T.g_Twice T.k_Twice (raises_own T.b_Twice T.t_Twice) rfl))) mss_nil)))⟩), m, F.kp, F.binds (ps := ["name", "known"]) fun _ _ _ _ _ _ us hl => match us, hl with | [_, _], _ => rfl⟩

abbrev st_Chest_enrol : Stmt := inClass (topS 34) 9
abbrev N_Chest_enrol : List Str := ["self", "name"]
theorem sc_Chest_enrol : FnScope ["self", "name"] ["self", "name"] (defScope st_Chest_enrol) := ⟨rfl, rfl, rfl, by decide +kernel, rfl, by decide +kernel, by decide +kernel⟩
theorem cal_Chest_enrol {f : Addr} {fd : FuncData} (F : Fun K "enrol" "Chest.enrol" st_Chest_enrol f fd) (m : Meth K (ca 0) "enrol" f) (B : Bt mg) (T : TxT K mg ca) (C_look_new_name : CaM P w K mg base (CC ca) "look_new_name" 2 ["name", "known"] sem_look_new_name) : CaMt P w K mg base (CC ca) 0 "enrol" 3 ["self", "name"] sem_Chest_enrol :=
  ⟨f, fd, fn_m (CC ca) F sc_Chest_enrol (fun _ _ _ _ _ _ hr => have hu := hr.units; have hw := hu_of hr; ⟨_, (mss_cons (ms_expr (m_call tk_fn C_look_new_name hr (ma_cons (m_name 1) (ma_cons (m_fld 0 0 (m_name 0) T.cls_Chest T.na_Chest_people (hd := nd_0)) ma_nil))))
  (mss_cons (ms_if (mt_cmp op_ge r_ge (m_lenL B.len_ (m_fld 0 0 (m_name 0) T.cls_Chest T.na_Chest_people (hd := nd_0))) (m_pure (v_globE B.MOST_PEOPLE_)))
  (mss_one (ms_raise (x := "Full") (ty := fun _ _ _ => True) 7 tk_fn rfl (pmk_own PySem.F.excBase_ValueError T.x_Full T.g_Full T.k_Full (raises_own T.b_Full T.t_Full) rfl))) mss_nil)
  (mss_cons (ms_expr (m_app (m_fld 0 0 (m_name 0) T.cls_Chest T.na_Chest_people (hd := nd_0)) (ma_cons (m_name 1) ma_nil)))
  (mss_one (ms_dput hw (m_fld 0 1 (m_name 0) T.cls_Chest T.na_Chest_held (hd := nd_0)) (m_name 1) (m_pure v_int))))))⟩), m, F.binds (ps := ["self", "name"]) fun _ _ _ _ _ _ us hl => match us, hl with | [_, _], _ => rfl⟩

abbrev st_law_spins : Stmt := topS 37
abbrev N_law_spins : List Str := ["cell", "many", "spins", "k", "turn"]
theorem sc_law_spins : FnScope ["cell", "many", "spins", "k", "turn"] ["cell", "many"] (defScope st_law_spins) := ⟨rfl, rfl, rfl, by decide +kernel, rfl, by decide +kernel, by decide +kernel⟩
theorem cal_law_spins {f : Addr} {fd : FuncData} (F : Fun K "_law_spins" "_law_spins" st_law_spins f fd) (m : mg "_law_spins" = some (.ref f)) (B : Bt mg)  : Cal P w K mg base "_law_spins" 1 ["cell", "many"] true .nw sem_law_spins :=
  ⟨f, fd, fn_v true .nw [.od, .od, .mn, .nw, .nw] F sc_law_spins (fun _ _ _ _ _ _ hr => have hu := hr.units; ⟨_, (vss_cons (vs_setL 2 sc_law_spins.nd (vl_lst va_nil))
  (vss_cons (vs_for [3, 4] PassesOwn.never rfl (vi_range1 B.range_ (va_cons (v_sc (v_name 1)) va_nil)) (vg_name 3 sc_law_spins.nd)
  (vss_cons (vs_set 4 sc_law_spins.nd (v_op op_add r_add (v_op op_add r_add (v_op op_mod r_mod (v_name 0) v_int) (v_op op_mulP r_mul v_int (v_name 3))) v_int))
  (vss_one (vs_app 2 (va_cons (v_op op_mod r_mod (v_op op_divP r_div (v_op op_mulP r_mul (v_op op_mulP r_mul (v_name 4) (v_name 4)) (v_op op_add r_add (v_name 4) (v_op op_mulP r_mul v_int (v_name 3)))) v_int) v_int) va_nil)))))
  (vss_one (vs_retM 2))))⟩), m, F.kp, F.binds (ps := ["cell", "many"]) fun _ _ _ _ _ _ us hl => match us, hl with | [_, _], _ => rfl⟩

abbrev st_law_name : Stmt := topS 39
abbrev N_law_name : List Str := ["cell", "k", "letters", "xs", "word", "at", "x"]
theorem sc_law_name : FnScope ["cell", "k", "letters", "xs", "word", "at", "x"] ["cell", "k"] (defScope st_law_name) := ⟨rfl, rfl, rfl, by decide +kernel, rfl, by decide +kernel, by decide +kernel⟩
theorem cal_law_name {f : Addr} {fd : FuncData} (F : Fun K "_law_name" "_law_name" st_law_name f fd) (m : mg "_law_name" = some (.ref f)) (B : Bt mg) (C_law_spins : Cal P w K mg base "_law_spins" 1 ["cell", "many"] true .nw sem_law_spins) : Cal P w K mg base "_law_name" 2 ["cell", "k"] false .nw sem_law_name :=
  ⟨f, fd, fn_v false .nw [.od, .od, .nw, .nw, .nw, .nw, .nw] F sc_law_name (fun _ _ _ _ _ _ hr => have hu := hr.units; ⟨_, (vss_cons (vs_set 2 sc_law_name.nd v_str)
  (vss_cons (vs_set 3 sc_law_name.nd (v_of_l (vl_is (vl_callC C_law_spins hr (va_cons (v_sc (v_name 0)) (va_cons v_int va_nil))))))
  (vss_cons (vs_set 4 sc_law_name.nd (v_join v_str (v_of_l (vl_compF rfl sc_law_name.nd (re := .nw) (is := [6]) (vi_list (v_of_l (vl_cut (v_name 3) vo_none (vo_some v_int)))) (blkOk_by (own := [("x", 6)]) (N := N_law_name) (sc := (defScope st_law_name)) (by decide +kernel)) (fun _ _ _ _ _ => (vg_name 6 sc_law_name.nd)) (fun _ _ _ _ _ => vts_nil) (fun _ _ _ _ _ => (v_ixS (v_name 2) (v_op op_mod r_mod (v_name 6) v_int)))))))
  (vss_cons (vs_if (vt_cmp (op_eqD hu) r_eq (v_op op_mod r_mod (v_ixL (v_name 3) v_int) v_int) v_int)
  (vss_one (vs_ret (v_op op_addT r_addT (v_ixS (v_name 2) (v_op op_mod r_mod (v_op op_add r_add (v_ixL (v_name 3) v_int) (v_op op_divP r_div (v_name 1) v_int)) v_int)) (v_cutS (v_name 4) vo_none (vo_some (v_op op_mod r_mod (v_name 1) v_int)))))) vss_nil)
  (vss_cons (vs_if (vt_cmp (op_eqD hu) r_eq (v_op op_mod r_mod (v_ixL (v_name 3) v_int) v_int) v_int)
  (vss_one (vs_ret (v_op op_addT r_addT (v_cutS (v_name 4) (vo_some (v_op op_sub r_sub v_int (v_op op_mod r_mod (v_name 1) v_int))) vo_none) (v_ixS (v_name 2) (v_op op_mod r_mod (v_op op_add r_add (v_ixL (v_name 3) v_int) (v_op op_divP r_div (v_name 1) v_int)) v_int))))) vss_nil)
  (vss_cons (vs_set 4 sc_law_name.nd (v_cutS (v_name 4) vo_none (vo_some (v_op op_mod r_mod (v_op op_divP r_div (v_ixL (v_name 3) v_int) v_int) v_int))))
  (vss_cons (vs_set 5 sc_law_name.nd (v_op op_mod r_mod (v_op op_divP r_div (v_ixL (v_name 3) v_int) v_int) (v_op op_add r_add (v_callB call_len_str c_lenS B.len_ (by decide +kernel) (va_cons (v_name 4) va_nil)) v_int)))
  (vss_one (vs_ret (v_op op_addT r_addT (v_op op_addT r_addT (v_cutS (v_name 4) vo_none (vo_some (v_name 5))) (v_ixS (v_name 2) (v_op op_mod r_mod (v_op op_add r_add (v_ixL (v_name 3) v_int) (v_name 1)) v_int))) (v_cutS (v_name 4) (vo_some (v_name 5)) vo_none)))))))))))⟩), m, F.kp, F.binds (ps := ["cell", "k"]) fun _ _ _ _ _ _ us hl => match us, hl with | [_, _], _ => rfl⟩

abbrev st_Chest_look_voter : Stmt := inClass (topS 34) 7
abbrev N_Chest_look_voter : List Str := ["self", "voter"]
theorem sc_Chest_look_voter : FnScope ["self", "voter"] ["self", "voter"] (defScope st_Chest_look_voter) := ⟨rfl, rfl, rfl, by decide +kernel, rfl, by decide +kernel, by decide +kernel⟩
theorem cal_Chest_look_voter {f : Addr} {fd : FuncData} (F : Fun K "look_voter" "Chest.look_voter" st_Chest_look_voter f fd) (m : Meth K (ca 0) "look_voter" f) (B : Bt mg) (T : TxT K mg ca)  : CaMt P w K mg base (CC ca) 0 "look_voter" 1 ["self", "voter"] sem_Chest_look_voter :=
  ⟨f, fd, fn_m (CC ca) F sc_Chest_look_voter (fun _ _ _ _ _ _ hr => have hu := hr.units; have hw := hu_of hr; ⟨_, (mss_one (ms_if (mt_cmp op_notIn_seq r_notIn (m_name 1) (m_fld 0 0 (m_name 0) T.cls_Chest T.na_Chest_people (hd := nd_0)))
  (mss_one (ms_raise (x := "NoVoter") (ty := fun _ _ _ => True) 5 tk_fn rfl (pmk_own PySem.F.excBase_ValueError T.x_NoVoter T.g_NoVoter T.k_NoVoter (raises_own T.b_NoVoter T.t_NoVoter) rfl))) mss_nil))⟩), m, F.binds (ps := ["self", "voter"]) fun _ _ _ _ _ _ us hl => match us, hl with | [_, _], _ => rfl⟩

abbrev st_Chest_look_work : Stmt := inClass (topS 34) 8
abbrev N_Chest_look_work : List Str := ["self", "work"]
theorem sc_Chest_look_work : FnScope ["self", "work"] ["self", "work"] (defScope st_Chest_look_work) := ⟨rfl, rfl, rfl, by decide +kernel, rfl, by decide +kernel, by decide +kernel⟩
theorem cal_Chest_look_work {f : Addr} {fd : FuncData} (F : Fun K "look_work" "Chest.look_work" st_Chest_look_work f fd) (m : Meth K (ca 0) "look_work" f) (B : Bt mg) (T : TxT K mg ca)  : CaMt P w K mg base (CC ca) 0 "look_work" 1 ["self", "work"] sem_Chest_look_work :=
  ⟨f, fd, fn_m (CC ca) F sc_Chest_look_work (fun _ _ _ _ _ _ hr => have hu := hr.units; have hw := hu_of hr; ⟨_, (mss_one (ms_if (mt_cmp op_notIn_seq r_notIn (m_name 1) (m_fld 0 2 (m_name 0) T.cls_Chest T.na_Chest_plans (hd := nd_0)))
  (mss_one (ms_raise (x := "NoWork") (ty := fun _ _ _ => True) 6 tk_fn rfl (pmk_own PySem.F.excBase_ValueError T.x_NoWork T.g_NoWork T.k_NoWork (raises_own T.b_NoWork T.t_NoWork) rfl))) mss_nil))⟩), m, F.binds (ps := ["self", "work"]) fun _ _ _ _ _ _ us hl => match us, hl with | [_, _], _ => rfl⟩

abbrev st_Chest_unwant : Stmt := inClass (topS 34) 15
abbrev N_Chest_unwant : List Str := ["self", "voter", "work"]
theorem sc_Chest_unwant : FnScope ["self", "voter", "work"] ["self", "voter", "work"] (defScope st_Chest_unwant) := ⟨rfl, rfl, rfl, by decide +kernel, rfl, by decide +kernel, by decide +kernel⟩
theorem cal_Chest_unwant {f : Addr} {fd : FuncData} (F : Fun K "unwant" "Chest.unwant" st_Chest_unwant f fd) (m : Meth K (ca 0) "unwant" f) (B : Bt mg) (T : TxT K mg ca) (C_Chest_look_voter : CaMt P w K mg base (CC ca) 0 "look_voter" 1 ["self", "voter"] sem_Chest_look_voter) (C_Chest_look_work : CaMt P w K mg base (CC ca) 0 "look_work" 1 ["self", "work"] sem_Chest_look_work) : CaMt P w K mg base (CC ca) 0 "unwant" 2 ["self", "voter", "work"] sem_Chest_unwant :=
  ⟨f, fd, fn_m (CC ca) F sc_Chest_unwant (fun _ _ _ _ _ _ hr => have hu := hr.units; have hw := hu_of hr; ⟨_, (mss_cons (ms_expr (m_meth 0 tk_fn C_Chest_look_voter T.cls_Chest hr (m_name 0) (ma_cons (m_name 1) ma_nil) (hx := nx_Chest_look_voter)))
  (mss_cons (ms_expr (m_meth 0 tk_fn C_Chest_look_work T.cls_Chest hr (m_name 0) (ma_cons (m_name 2) ma_nil) (hx := nx_Chest_look_work)))
  (mss_one (ms_if (mt_inD hw (m_name 1) (m_ixD hw (m_fld 0 4 (m_name 0) T.cls_Chest T.na_Chest_wished (hd := nd_0)) (m_name 2)))
  (mss_one (ms_expr (m_dpop (m_ixD hw (m_fld 0 4 (m_name 0) T.cls_Chest T.na_Chest_wished (hd := nd_0)) (m_name 2)) (m_name 1)))) mss_nil))))⟩), m, F.binds (ps := ["self", "voter", "work"]) fun _ _ _ _ _ _ us hl => match us, hl with | [_, _, _], _ => rfl⟩

abbrev st_Chest_want : Stmt := inClass (topS 34) 14
abbrev N_Chest_want : List Str := ["self", "voter", "work"]
theorem sc_Chest_want : FnScope ["self", "voter", "work"] ["self", "voter", "work"] (defScope st_Chest_want) := ⟨rfl, rfl, rfl, by decide +kernel, rfl, by decide +kernel, by decide +kernel⟩
theorem cal_Chest_want {f : Addr} {fd : FuncData} (F : Fun K "want" "Chest.want" st_Chest_want f fd) (m : Meth K (ca 0) "want" f) (B : Bt mg) (T : TxT K mg ca) (C_Chest_look_voter : CaMt P w K mg base (CC ca) 0 "look_voter" 1 ["self", "voter"] sem_Chest_look_voter) (C_Chest_look_work : CaMt P w K mg base (CC ca) 0 "look_work" 1 ["self", "work"] sem_Chest_look_work) : CaMt P w K mg base (CC ca) 0 "want" 2 ["self", "voter", "work"] sem_Chest_want :=
  ⟨f, fd, fn_m (CC ca) F sc_Chest_want (fun _ _ _ _ _ _ hr => have hu := hr.units; have hw := hu_of hr; ⟨_, (mss_cons (ms_expr (m_meth 0 tk_fn C_Chest_look_voter T.cls_Chest hr (m_name 0) (ma_cons (m_name 1) ma_nil) (hx := nx_Chest_look_voter)))
  (mss_cons (ms_expr (m_meth 0 tk_fn C_Chest_look_work T.cls_Chest hr (m_name 0) (ma_cons (m_name 2) ma_nil) (hx := nx_Chest_look_work)))
  (mss_one (ms_dput hw (m_ixD hw (m_fld 0 4 (m_name 0) T.cls_Chest T.na_Chest_wished (hd := nd_0)) (m_name 2)) (m_name 1) (m_pure v_bl)))))⟩), m, F.binds (ps := ["self", "voter", "work"]) fun _ _ _ _ _ _ us hl => match us, hl with | [_, _, _], _ => rfl⟩

abbrev st_law_of_wishes : Stmt := topS 44
abbrev N_law_of_wishes : List Str := ["chest", "people", "works", "xs", "work", "name", "others", "one"]
theorem sc_law_of_wishes : FnScope ["chest", "people", "works", "xs", "work", "name", "others", "one"] ["chest", "people", "works", "xs"] (defScope st_law_of_wishes) := ⟨rfl, rfl, rfl, by decide +kernel, rfl, by decide +kernel, by decide +kernel⟩
theorem cal_law_of_wishes {f : Addr} {fd : FuncData} (F : Fun K "_law_of_wishes" "_law_of_wishes" st_law_of_wishes f fd) (m : mg "_law_of_wishes" = some (.ref f)) (B : Bt mg) (T : TxT K mg ca) (C_Chest_unwant : CaMt P w K mg base (CC ca) 0 "unwant" 2 ["self", "voter", "work"] sem_Chest_unwant) (C_Chest_want : CaMt P w K mg base (CC ca) 0 "want" 2 ["self", "voter", "work"] sem_Chest_want) : CaM P w K mg base (CC ca) "_law_of_wishes" 3 ["chest", "people", "works", "xs"] sem_law_of_wishes :=
  ⟨f, fd, fn_m (CC ca) F sc_law_of_wishes (fun _ _ _ _ _ _ hr => have hu := hr.units; have hw := hu_of hr; ⟨_, (mss_cons (ms_set 4 sc_law_of_wishes.nd (m_ixL (m_name 2) (m_pure (v_op op_mod r_mod (v_ixL (v_name 3) v_int) (v_callB call_len c_len B.len_ (by decide +kernel) (va_cons (v_name 2) (va_le .no va_nil)))))))
  (mss_cons (ms_set 5 sc_law_of_wishes.nd (m_pure (v_sc (v_ixL (v_name 1) (v_op op_mod r_mod (v_ixL (v_name 3) v_int) (v_callB call_len c_len B.len_ (by decide +kernel) (va_cons (v_name 1) (va_le .no va_nil))))))))
  (mss_cons (ms_if (mt_pure (vw_pt (vw_and (vt_cmp (op_eqD hu) r_eq (v_op op_mod r_mod (v_ixL (v_name 3) v_int) v_int) v_int) (vw_and1 (vt_cmp (op_neD hu) r_ne (v_ixL (v_name 4) v_int) (v_of_l (vl_lst va_nil)))))))
  (mss_one (ms_set 5 sc_law_of_wishes.nd (m_pure (v_sc (v_ixL (v_ixL (v_name 4) v_int) (v_op op_mod r_mod (v_ixL (v_name 3) v_int) (v_callB call_len c_len B.len_ (by decide +kernel) (va_cons (v_ixL (v_name 4) v_int) (va_le .no va_nil))))))))) mss_nil)
  (mss_cons (ms_setC 6 rfl sc_law_of_wishes.nd (sw_true rfl rfl rfl (by decide +kernel)) (is := [7]) (mi_list (m_name 1)) (blkOk_by (own := [("one", 7)]) (N := N_law_of_wishes) (sc := (defScope st_law_of_wishes)) (by decide +kernel)) (fun _ _ _ _ _ => (mg_name 7 sc_law_of_wishes.nd)) (fun _ _ _ _ _ => (mts_one (mt_pure (vt_cmp op_notIn_seq r_notIn (v_name 7) (v_ixL (v_name 4) v_int))))) (fun _ _ _ _ _ => (m_name 7)))
  (mss_cons (ms_if (mt_pure (vw_pt (vw_and (vt_cmp (op_eqD hu) r_eq (v_op op_mod r_mod (v_ixL (v_name 3) v_int) v_int) v_int) (vw_and1 (vt_cmp (op_neD hu) r_ne (v_name 6) (v_of_l (vl_lst va_nil)))))))
  (mss_one (ms_set 5 sc_law_of_wishes.nd (m_pure (v_sc (v_ixL (v_name 6) (v_op op_mod r_mod (v_ixL (v_name 3) v_int) (v_callB call_len c_len B.len_ (by decide +kernel) (va_cons (v_name 6) (va_le .no va_nil))))))))) mss_nil)
  (mss_cons (ms_if (mt_pure (vt_cmp op_lt r_lt (v_op op_mod r_mod (v_ixL (v_name 3) v_int) v_int) v_int))
  (mss_cons (ms_if (mt_pure (vt_cmp op_notIn_seq r_notIn (v_name 5) (v_ixL (v_name 4) v_int)))
  (mss_one (ms_expr (m_app (m_ixL (m_name 4) (m_pure v_int)) (ma_cons (m_name 5) ma_nil)))) mss_nil)
  (mss_one (ms_ret (m_meth 0 tk_fn C_Chest_want T.cls_Chest hr (m_name 0) (ma_cons (m_name 5) (ma_cons (m_pure (v_sc (v_ixL (v_name 4) v_int))) ma_nil)) (hx := nx_Chest_want))))) mss_nil)
  (mss_cons (ms_if (mt_pure (vt_cmp op_in_seq r_in (v_name 5) (v_ixL (v_name 4) v_int)))
  (mss_one (ms_expr (m_rem (m_ixL (m_name 4) (m_pure v_int)) (ma_cons (m_name 5) ma_nil)))) mss_nil)
  (mss_one (ms_ret (m_meth 0 tk_fn C_Chest_unwant T.cls_Chest hr (m_name 0) (ma_cons (m_name 5) (ma_cons (m_pure (v_sc (v_ixL (v_name 4) v_int))) ma_nil)) (hx := nx_Chest_unwant)))))))))))⟩), m, F.kp, F.binds (ps := ["chest", "people", "works", "xs"]) fun _ _ _ _ _ _ us hl => match us, hl with | [_, _, _, _], _ => rfl⟩

abbrev st_law_fresh : Stmt := topS 41
abbrev N_law_fresh : List Str := ["cell", "known", "x", "names", "k", "name"]
theorem sc_law_fresh : FnScope ["cell", "known", "x", "names", "k", "name"] ["cell", "known", "x"] (defScope st_law_fresh) := ⟨rfl, rfl, rfl, by decide +kernel, rfl, by decide +kernel, by decide +kernel⟩
theorem cal_law_fresh {f : Addr} {fd : FuncData} (F : Fun K "_law_fresh" "_law_fresh" st_law_fresh f fd) (m : mg "_law_fresh" = some (.ref f)) (B : Bt mg) (C_law_name : Cal P w K mg base "_law_name" 2 ["cell", "k"] false .nw sem_law_name) : Cal P w K mg base "_law_fresh" 3 ["cell", "known", "x"] false .nw sem_law_fresh :=
  ⟨f, fd, fn_v false .nw [.od, .od, .od, .nw, .nw, .nw] F sc_law_fresh (fun _ _ _ _ _ _ hr => have hu := hr.units; ⟨_, (vss_cons (vs_setCF 3 rfl sc_law_fresh.nd (sw_true rfl rfl rfl (by decide +kernel)) (re := .nw) (is := [5]) (vi_list (v_of_l (vl_compF rfl sc_law_fresh.nd (re := .nw) (is := [4]) (vi_range1 B.range_ (va_cons v_int va_nil)) (blkOk_by (own := [("k", 4)]) (N := N_law_fresh) (sc := (defScope st_law_fresh)) (by decide +kernel)) (fun _ _ _ _ _ => (vg_name 4 sc_law_fresh.nd)) (fun _ _ _ _ _ => vts_nil) (fun _ _ _ _ _ => (v_is (v_callC C_law_name hr (va_cons (v_sc (v_name 0)) (va_cons (v_name 4) va_nil)))))))) (blkOk_by (own := [("name", 5)]) (N := N_law_fresh) (sc := (defScope st_law_fresh)) (by decide +kernel)) (fun _ _ _ _ _ => (vg_name 5 sc_law_fresh.nd)) (fun _ _ _ _ _ => (vts_one (vt_cmp op_notIn_seq r_notIn (v_name 5) (v_name 1)))) (fun _ _ _ _ _ => (v_name 5)))
  (vss_one (vs_ret (v_ixL (v_name 3) (v_op op_mod r_mod (v_name 2) (v_callB call_len c_len B.len_ (by decide +kernel) (va_cons (v_name 3) va_nil)))))))⟩), m, F.kp, F.binds (ps := ["cell", "known", "x"]) fun _ _ _ _ _ _ us hl => match us, hl with | [_, _, _], _ => rfl⟩

abbrev st_Chest_leave : Stmt := inClass (topS 34) 10
abbrev N_Chest_leave : List Str := ["self", "name", "work"]
theorem sc_Chest_leave : FnScope ["self", "name", "work"] ["self", "name"] (defScope st_Chest_leave) := ⟨rfl, rfl, rfl, by decide +kernel, rfl, by decide +kernel, by decide +kernel⟩
theorem cal_Chest_leave {f : Addr} {fd : FuncData} (F : Fun K "leave" "Chest.leave" st_Chest_leave f fd) (m : Meth K (ca 0) "leave" f) (B : Bt mg) (T : TxT K mg ca) (C_Chest_look_voter : CaMt P w K mg base (CC ca) 0 "look_voter" 1 ["self", "voter"] sem_Chest_look_voter) : CaMt P w K mg base (CC ca) 0 "leave" 2 ["self", "name"] sem_Chest_leave :=
  ⟨f, fd, fn_m (CC ca) F sc_Chest_leave (fun _ _ _ _ _ _ hr => have hu := hr.units; have hw := hu_of hr; ⟨_, (mss_cons (ms_expr (m_meth 0 tk_fn C_Chest_look_voter T.cls_Chest hr (m_name 0) (ma_cons (m_name 1) ma_nil) (hx := nx_Chest_look_voter)))
  (mss_cons (ms_fldaug 0 5 (m_name 0) (m_dpop (m_fld 0 1 (m_name 0) T.cls_Chest T.na_Chest_held (hd := nd_0)) (m_name 1)) in_add inh_add T.cls_Chest T.na_Chest_well (hd := nd_0) (hl := ln_0))
  (mss_cons (ms_expr (m_rem (m_fld 0 0 (m_name 0) T.cls_Chest T.na_Chest_people (hd := nd_0)) (ma_cons (m_name 1) ma_nil)))
  (mss_one (ms_for [2] po_fn rfl (mi_list (m_fld 0 2 (m_name 0) T.cls_Chest T.na_Chest_plans (hd := nd_0))) (mg_name 2 sc_Chest_leave.nd)
  (mss_one (ms_if (mt_inD hw (m_name 1) (m_ixD hw (m_fld 0 4 (m_name 0) T.cls_Chest T.na_Chest_wished (hd := nd_0)) (m_name 2)))
  (mss_one (ms_expr (m_dpop (m_ixD hw (m_fld 0 4 (m_name 0) T.cls_Chest T.na_Chest_wished (hd := nd_0)) (m_name 2)) (m_name 1)))) mss_nil)))))))⟩), m, F.binds (ps := ["self", "name"]) fun _ _ _ _ _ _ us hl => match us, hl with | [_, _], _ => rfl⟩

abbrev st_law_of_voters : Stmt := topS 42
abbrev N_law_of_voters : List Str := ["chest", "people", "works", "xs", "cell", "name", "work"]
theorem sc_law_of_voters : FnScope ["chest", "people", "works", "xs", "cell", "name", "work"] ["chest", "people", "works", "xs", "cell"] (defScope st_law_of_voters) := ⟨rfl, rfl, rfl, by decide +kernel, rfl, by decide +kernel, by decide +kernel⟩
theorem cal_law_of_voters {f : Addr} {fd : FuncData} (F : Fun K "_law_of_voters" "_law_of_voters" st_law_of_voters f fd) (m : mg "_law_of_voters" = some (.ref f)) (B : Bt mg) (T : TxT K mg ca) (C_law_fresh : Cal P w K mg base "_law_fresh" 3 ["cell", "known", "x"] false .nw sem_law_fresh) (C_Chest_enrol : CaMt P w K mg base (CC ca) 0 "enrol" 3 ["self", "name"] sem_Chest_enrol) (C_Chest_leave : CaMt P w K mg base (CC ca) 0 "leave" 2 ["self", "name"] sem_Chest_leave) : CaM P w K mg base (CC ca) "_law_of_voters" 4 ["chest", "people", "works", "xs", "cell"] sem_law_of_voters :=
  ⟨f, fd, fn_m (CC ca) F sc_law_of_voters (fun _ _ _ _ _ _ hr => have hu := hr.units; have hw := hu_of hr; ⟨_, (mss_cons (ms_if (mt_pure (vw_pt (vw_and (vt_cmp (op_eqD hu) r_eq (v_op op_mod r_mod (v_ixL (v_name 3) v_int) v_int) v_int) (vw_and1 (vt_cmp op_lt r_lt (v_callB call_len c_len B.len_ (by decide +kernel) (va_cons (v_name 1) (va_le .no va_nil))) v_int)))))
  (mss_cons (ms_set 5 sc_law_of_voters.nd (m_pure (v_is (v_callC C_law_fresh hr (va_cons (v_name 4) (va_cons (v_name 1) (va_cons (v_ixL (v_name 3) v_int) (va_le .no va_nil))))))))
  (mss_cons (ms_expr (m_app (m_name 1) (ma_cons (m_name 5) ma_nil)))
  (mss_one (ms_ret (m_meth 0 tk_fn C_Chest_enrol T.cls_Chest hr (m_name 0) (ma_cons (m_name 5) ma_nil) (hx := nx_Chest_enrol)))))) mss_nil)
  (mss_cons (ms_if (mt_pure (vt_cmp (op_neD hu) r_ne (v_name 1) (v_of_l (vl_lst va_nil))))
  (mss_cons (ms_set 5 sc_law_of_voters.nd (m_pure (v_sc (v_ixL (v_name 1) (v_op op_mod r_mod (v_ixL (v_name 3) v_int) (v_callB call_len c_len B.len_ (by decide +kernel) (va_cons (v_name 1) (va_le .no va_nil))))))))
  (mss_cons (ms_expr (m_rem (m_name 1) (ma_cons (m_name 5) ma_nil)))
  (mss_cons (ms_for [6] po_fn rfl (mi_list (m_name 2)) (mg_name 6 sc_law_of_voters.nd)
  (mss_one (ms_if (mt_pure (vt_cmp op_in_seq r_in (v_name 5) (v_ixL (v_name 6) v_int)))
  (mss_one (ms_expr (m_rem (m_ixL (m_name 6) (m_pure v_int)) (ma_cons (m_name 5) ma_nil)))) mss_nil)))
  (mss_one (ms_ret (m_meth 0 tk_fn C_Chest_leave T.cls_Chest (hr.mono (show 2 ≤ 3 by decide)) (m_name 0) (ma_cons (m_name 5) ma_nil) (hx := nx_Chest_leave))))))) mss_nil)
  (mss_one (ms_ret (m_pure v_non)))))⟩), m, F.kp, F.binds (ps := ["chest", "people", "works", "xs", "cell"]) fun _ _ _ _ _ _ us hl => match us, hl with | [_, _, _, _, _], _ => rfl⟩

abbrev st_Chest_propose : Stmt := inClass (topS 34) 12
abbrev N_Chest_propose : List Str := ["self", "work", "cost"]
theorem sc_Chest_propose : FnScope ["self", "work", "cost"] ["self", "work", "cost"] (defScope st_Chest_propose) := ⟨rfl, rfl, rfl, by decide +kernel, rfl, by decide +kernel, by decide +kernel⟩
theorem cal_Chest_propose {f : Addr} {fd : FuncData} (F : Fun K "propose" "Chest.propose" st_Chest_propose f fd) (m : Meth K (ca 0) "propose" f) (B : Bt mg) (T : TxT K mg ca) (C_look_new_name : CaM P w K mg base (CC ca) "look_new_name" 2 ["name", "known"] sem_look_new_name) : CaMt P w K mg base (CC ca) 0 "propose" 3 ["self", "work", "cost"] sem_Chest_propose :=
  ⟨f, fd, fn_m (CC ca) F sc_Chest_propose (fun _ _ _ _ _ _ hr => have hu := hr.units; have hw := hu_of hr; ⟨_, (mss_cons (ms_expr (m_call tk_fn C_look_new_name hr (ma_cons (m_name 1) (ma_cons (m_fld 0 2 (m_name 0) T.cls_Chest T.na_Chest_plans (hd := nd_0)) ma_nil))))
  (mss_cons (ms_if (mt_pure (vw_pt (vw_or (vt_cmp op_lt r_lt (v_name 2) v_int) (vw_or1 (vt_cmp op_gt r_gt (v_name 2) (v_globE B.MOST_COINS_))))))
  (mss_one (ms_raise (x := "TooMuch") (ty := fun _ _ _ => True) 2 tk_fn rfl (pmk_own PySem.F.excBase_ValueError T.x_TooMuch T.g_TooMuch T.k_TooMuch (raises_own T.b_TooMuch T.t_TooMuch) rfl))) mss_nil)
  (mss_cons (ms_if (mt_cmp op_ge r_ge (m_lenL B.len_ (m_fld 0 2 (m_name 0) T.cls_Chest T.na_Chest_plans (hd := nd_0))) (m_pure (v_globE B.MOST_PLANS_)))
  (mss_one (ms_raise (x := "Full") (ty := fun _ _ _ => True) 7 tk_fn rfl (pmk_own PySem.F.excBase_ValueError T.x_Full T.g_Full T.k_Full (raises_own T.b_Full T.t_Full) rfl))) mss_nil)
  (mss_cons (ms_expr (m_app (m_fld 0 2 (m_name 0) T.cls_Chest T.na_Chest_plans (hd := nd_0)) (ma_cons (m_name 1) ma_nil)))
  (mss_cons (ms_dput hw (m_fld 0 3 (m_name 0) T.cls_Chest T.na_Chest_prices (hd := nd_0)) (m_name 1) (m_name 2))
  (mss_one (ms_dput hw (m_fld 0 4 (m_name 0) T.cls_Chest T.na_Chest_wished (hd := nd_0)) (m_name 1) m_dic0)))))))⟩), m, F.binds (ps := ["self", "work", "cost"]) fun _ _ _ _ _ _ us hl => match us, hl with | [_, _, _], _ => rfl⟩

abbrev st_Chest_withdraw : Stmt := inClass (topS 34) 13
abbrev N_Chest_withdraw : List Str := ["self", "work"]
theorem sc_Chest_withdraw : FnScope ["self", "work"] ["self", "work"] (defScope st_Chest_withdraw) := ⟨rfl, rfl, rfl, by decide +kernel, rfl, by decide +kernel, by decide +kernel⟩
theorem cal_Chest_withdraw {f : Addr} {fd : FuncData} (F : Fun K "withdraw" "Chest.withdraw" st_Chest_withdraw f fd) (m : Meth K (ca 0) "withdraw" f) (B : Bt mg) (T : TxT K mg ca) (C_Chest_look_work : CaMt P w K mg base (CC ca) 0 "look_work" 1 ["self", "work"] sem_Chest_look_work) : CaMt P w K mg base (CC ca) 0 "withdraw" 2 ["self", "work"] sem_Chest_withdraw :=
  ⟨f, fd, fn_m (CC ca) F sc_Chest_withdraw (fun _ _ _ _ _ _ hr => have hu := hr.units; have hw := hu_of hr; ⟨_, (mss_cons (ms_expr (m_meth 0 tk_fn C_Chest_look_work T.cls_Chest hr (m_name 0) (ma_cons (m_name 1) ma_nil) (hx := nx_Chest_look_work)))
  (mss_cons (ms_expr (m_rem (m_fld 0 2 (m_name 0) T.cls_Chest T.na_Chest_plans (hd := nd_0)) (ma_cons (m_name 1) ma_nil)))
  (mss_cons (ms_expr (m_dpop (m_fld 0 3 (m_name 0) T.cls_Chest T.na_Chest_prices (hd := nd_0)) (m_name 1)))
  (mss_one (ms_expr (m_dpop (m_fld 0 4 (m_name 0) T.cls_Chest T.na_Chest_wished (hd := nd_0)) (m_name 1)))))))⟩), m, F.binds (ps := ["self", "work"]) fun _ _ _ _ _ _ us hl => match us, hl with | [_, _], _ => rfl⟩

abbrev st_law_cost : Stmt := topS 40
abbrev N_law_cost : List Str := ["x"]
theorem sc_law_cost : FnScope ["x"] ["x"] (defScope st_law_cost) := ⟨rfl, rfl, rfl, by decide +kernel, rfl, by decide +kernel, by decide +kernel⟩
theorem cal_law_cost {f : Addr} {fd : FuncData} (F : Fun K "_law_cost" "_law_cost" st_law_cost f fd) (m : mg "_law_cost" = some (.ref f)) (B : Bt mg)  : Cal P w K mg base "_law_cost" 1 ["x"] false .nw sem_law_cost :=
  ⟨f, fd, fn_v false .nw [.od] F sc_law_cost (fun _ _ _ _ _ _ hr => have hu := hr.units; ⟨_, (vss_cons (vs_if (vt_cmp (op_eqD hu) r_eq (v_op op_mod r_mod (v_name 0) v_int) v_int)
  (vss_one (vs_ret (v_ixL (v_of_l (vl_lst (va_cons v_int (va_cons v_int (va_cons (v_op op_powP r_pow v_int v_int) (va_cons (v_op op_sub r_sub (v_op op_powP r_pow v_int v_int) v_int) va_nil)))))) (v_op op_mod r_mod (v_op op_divP r_div (v_name 0) v_int) v_int)))) vss_nil)
  (vss_cons (vs_if (vt_cmp (op_eqD hu) r_eq (v_op op_mod r_mod (v_name 0) v_int) v_int)
  (vss_one (vs_ret (v_op op_add r_add v_int (v_op op_mod r_mod (v_op op_divP r_div (v_name 0) v_int) v_int)))) vss_nil)
  (vss_one (vs_ret (v_op op_add r_add v_int (v_op op_mod r_mod (v_op op_mulP r_mul (v_name 0) v_int) (v_op op_powP r_pow v_int v_int)))))))⟩), m, F.kp, F.binds (ps := ["x"]) fun _ _ _ _ _ _ us hl => match us, hl with | [_], _ => rfl⟩

abbrev st_law_of_works : Stmt := topS 43
abbrev N_law_of_works : List Str := ["chest", "works", "xs", "cell", "work", "name"]
theorem sc_law_of_works : FnScope ["chest", "works", "xs", "cell", "work", "name"] ["chest", "works", "xs", "cell"] (defScope st_law_of_works) := ⟨rfl, rfl, rfl, by decide +kernel, rfl, by decide +kernel, by decide +kernel⟩
theorem cal_law_of_works {f : Addr} {fd : FuncData} (F : Fun K "_law_of_works" "_law_of_works" st_law_of_works f fd) (m : mg "_law_of_works" = some (.ref f)) (B : Bt mg) (T : TxT K mg ca) (C_law_fresh : Cal P w K mg base "_law_fresh" 3 ["cell", "known", "x"] false .nw sem_law_fresh) (C_Chest_propose : CaMt P w K mg base (CC ca) 0 "propose" 3 ["self", "work", "cost"] sem_Chest_propose) (C_Chest_withdraw : CaMt P w K mg base (CC ca) 0 "withdraw" 2 ["self", "work"] sem_Chest_withdraw) (C_law_cost : Cal P w K mg base "_law_cost" 1 ["x"] false .nw sem_law_cost) : CaM P w K mg base (CC ca) "_law_of_works" 4 ["chest", "works", "xs", "cell"] sem_law_of_works :=
  ⟨f, fd, fn_m (CC ca) F sc_law_of_works (fun _ _ _ _ _ _ hr => have hu := hr.units; have hw := hu_of hr; ⟨_, (mss_cons (ms_if (mt_pure (vw_pt (vw_and (vt_cmp op_gt r_gt (v_op op_mod r_mod (v_op op_divP r_div (v_ixL (v_name 2) v_int) v_int) v_int) v_int) (vw_and1 (vt_cmp op_lt r_lt (v_callB call_len c_len B.len_ (by decide +kernel) (va_cons (v_name 1) (va_le .no va_nil))) v_int)))))
  (mss_cons (ms_set 5 sc_law_of_works.nd (m_pure (v_is (v_callC C_law_fresh hr (va_cons (v_sc (v_name 3)) (va_cons (v_of_l (vl_compF rfl sc_law_of_works.nd (re := .nw) (is := [4]) (vi_list (v_name 1)) (blkOk_by (own := [("work", 4)]) (N := N_law_of_works) (sc := (defScope st_law_of_works)) (by decide +kernel)) (fun _ _ _ _ _ => (vg_name 4 sc_law_of_works.nd)) (fun _ _ _ _ _ => vts_nil) (fun _ _ _ _ _ => (v_sc (v_ixL (v_name 4) v_int))))) (va_cons (v_sc (v_ixL (v_name 2) v_int)) va_nil)))))))
  (mss_cons (ms_expr (m_app (m_name 1) (ma_cons (m_lst (ma_cons (m_name 5) (ma_cons (m_pure (v_is (v_callC C_law_cost (hr.mono (show 1 ≤ 3 by decide)) (va_cons (v_sc (v_ixL (v_name 2) v_int)) va_nil)))) (ma_cons (m_newL (vl_lst va_nil)) ma_nil)))) ma_nil)))
  (mss_one (ms_ret (m_meth 0 tk_fn C_Chest_propose T.cls_Chest hr (m_name 0) (ma_cons (m_name 5) (ma_cons (m_pure (v_sc (v_ixL (v_ixL (v_name 1) (v_neg v_int)) v_int))) ma_nil)) (hx := nx_Chest_propose)))))) mss_nil)
  (mss_cons (ms_if (mt_pure (vt_cmp (op_neD hu) r_ne (v_name 1) (v_of_l (vl_lst va_nil))))
  (mss_cons (ms_set 4 sc_law_of_works.nd (m_ixL (m_name 1) (m_pure (v_op op_mod r_mod (v_ixL (v_name 2) v_int) (v_callB call_len c_len B.len_ (by decide +kernel) (va_cons (v_name 1) (va_le .no va_nil)))))))
  (mss_cons (ms_expr (m_remD (hu65 hr) (m_name 1) (ma_cons (m_name 4) ma_nil)))
  (mss_one (ms_ret (m_meth 0 tk_fn C_Chest_withdraw T.cls_Chest (hr.mono (show 2 ≤ 3 by decide)) (m_name 0) (ma_cons (m_pure (v_sc (v_ixL (v_name 4) v_int))) ma_nil) (hx := nx_Chest_withdraw)))))) mss_nil)
  (mss_one (ms_ret (m_pure v_non)))))⟩), m, F.kp, F.binds (ps := ["chest", "works", "xs", "cell"]) fun _ _ _ _ _ _ us hl => match us, hl with | [_, _, _, _], _ => rfl⟩

abbrev st_law_deed : Stmt := topS 45
abbrev N_law_deed : List Str := ["chest", "people", "works", "xs", "cell"]
theorem sc_law_deed : FnScope ["chest", "people", "works", "xs", "cell"] ["chest", "people", "works", "xs", "cell"] (defScope st_law_deed) := ⟨rfl, rfl, rfl, by decide +kernel, rfl, by decide +kernel, by decide +kernel⟩
theorem cal_law_deed {f : Addr} {fd : FuncData} (F : Fun K "_law_deed" "_law_deed" st_law_deed f fd) (m : mg "_law_deed" = some (.ref f)) (B : Bt mg) (T : TxT K mg ca) (C_law_of_wishes : CaM P w K mg base (CC ca) "_law_of_wishes" 3 ["chest", "people", "works", "xs"] sem_law_of_wishes) (C_law_of_voters : CaM P w K mg base (CC ca) "_law_of_voters" 4 ["chest", "people", "works", "xs", "cell"] sem_law_of_voters) (C_law_of_works : CaM P w K mg base (CC ca) "_law_of_works" 4 ["chest", "works", "xs", "cell"] sem_law_of_works) : CaM P w K mg base (CC ca) "_law_deed" 5 ["chest", "people", "works", "xs", "cell"] sem_law_deed :=
  ⟨f, fd, fn_m (CC ca) F sc_law_deed (fun _ _ _ _ _ _ hr => have hu := hr.units; have hw := hu_of hr; ⟨_, (mss_cons (ms_if (mt_pure (vt_cmp (op_eqD hu) r_eq (v_op op_mod r_mod (v_ixL (v_name 3) v_int) v_int) v_int))
  (mss_one (ms_ret (m_call tk_fn C_law_of_voters hr (ma_cons (m_name 0) (ma_cons (m_name 1) (ma_cons (m_name 2) (ma_cons (m_newL (vl_cat (v_of_l (vl_lst (va_cons (v_op op_divP r_div (v_ixL (v_name 3) v_int) v_int) va_nil))) (v_of_l (vl_sc (vl_cut (v_name 3) (vo_some v_int) vo_none))))) (ma_cons (m_name 4) ma_nil)))))))) mss_nil)
  (mss_cons (ms_if (mt_pure (vw_pt (vw_or (vt_cmp op_lt r_lt (v_op op_mod r_mod (v_ixL (v_name 3) v_int) v_int) v_int) (vw_or (vt_cmp (op_eqD hu) r_eq (v_name 1) (v_of_l (vl_lst va_nil))) (vw_or1 (vt_cmp (op_eqD hu) r_eq (v_name 2) (v_of_l (vl_lst va_nil))))))))
  (mss_one (ms_ret (m_call tk_fn C_law_of_works hr (ma_cons (m_name 0) (ma_cons (m_name 2) (ma_cons (m_name 3) (ma_cons (m_name 4) ma_nil))))))) mss_nil)
  (mss_one (ms_ret (m_call tk_fn C_law_of_wishes (hr.mono (show 3 ≤ 4 by decide)) (ma_cons (m_name 0) (ma_cons (m_name 1) (ma_cons (m_name 2) (ma_cons (m_name 3) ma_nil)))))))))⟩), m, F.kp, F.binds (ps := ["chest", "people", "works", "xs", "cell"]) fun _ _ _ _ _ _ us hl => match us, hl with | [_, _, _, _, _], _ => rfl⟩

abbrev st_law : Stmt := topS 48
abbrev N_law : List Str := ["script", "cell", "chest", "people", "works", "held", "k", "one", "xs", "found", "due", "row"]
theorem sc_law : FnScope ["script", "cell", "chest", "people", "works", "held", "k", "one", "xs", "found", "due", "row"] ["script"] (defScope st_law) := ⟨rfl, rfl, rfl, by decide +kernel, rfl, by decide +kernel, by decide +kernel⟩
theorem law_fn {f : Addr} {fd : FuncData} (F : Fun K "law" "law" st_law f fd) (B : Bt mg) (T : TxT K mg ca) (C_law_nth : Cal P w K mg base "_law_nth" 1 ["script", "k"] false .nw sem_law_nth) (C_Chest_init : CaMk P w K mg base (CC ca) 0 "Chest" 1 ["self"] sem_Chest_init) (C_law_right : CaM P w K mg base (CC ca) "_law_right" 3 ["chest", "people", "works", "held"] sem_law_right) (C_Chest_enrol : CaMt P w K mg base (CC ca) 0 "enrol" 3 ["self", "name"] sem_Chest_enrol) (C_law_spins : Cal P w K mg base "_law_spins" 1 ["cell", "many"] true .nw sem_law_spins) (C_law_name : Cal P w K mg base "_law_name" 2 ["cell", "k"] false .nw sem_law_name) (C_law_deed : CaM P w K mg base (CC ca) "_law_deed" 5 ["chest", "people", "works", "xs", "cell"] sem_law_deed) : FnOk P w K mg base (L2.CX P w) 6 f fd ["script"] (spM K (CC ca) sem_law) :=
  fn_m (CC ca) F sc_law (fun _ _ _ _ _ _ hr => have hu := hr.units; have hw := hu_of hr; ⟨_, (mss_cons (ms_set 1 sc_law.nd (m_pure (v_is (v_callC C_law_nth (hr.mono (show 1 ≤ 5 by decide)) (va_cons (v_name 0) (va_cons (v_le .no v_int) (va_le .no va_nil)))))))
  (mss_cons (ms_set 2 sc_law.nd (m_make0 0 tk_fn C_Chest_init (hr.mono (show 1 + 1 ≤ 5 by decide))))
  (mss_cons (ms_set 3 sc_law.nd (m_newL (vl_lst va_nil)))
  (mss_cons (ms_set 4 sc_law.nd (m_newL (vl_lst va_nil)))
  (mss_cons (ms_set 5 sc_law.nd (m_newL (vl_lst va_nil)))
  (mss_cons (ms_for [6] po_fn rfl (mi_range1 B.range_ (ma_cons (m_pure (v_op op_mod r_mod (v_is (v_callC C_law_nth (hr.mono (show 1 ≤ 5 by decide)) (va_cons (v_name 0) (va_cons (v_le .no v_int) (va_le .no va_nil))))) v_int)) ma_nil)) (mg_name 6 sc_law.nd)
  (mss_cons (ms_expr (m_app (m_name 3) (ma_cons (m_pure (v_is (v_callC C_law_name (hr.mono (show 2 ≤ 5 by decide)) (va_cons (v_sc (v_name 1)) (va_cons (v_sc (v_name 6)) va_nil))))) ma_nil)))
  (mss_one (ms_expr (m_meth 0 tk_fn C_Chest_enrol T.cls_Chest (hr.mono (show 3 ≤ 5 by decide)) (m_name 2) (ma_cons (m_pure (v_sc (v_ixL (v_name 3) (v_neg v_int)))) ma_nil) (hx := nx_Chest_enrol))))))
  (mss_cons (ms_for [7, 8] po_fn rfl (mi_list (m_newL (vl_sc (vl_cut (v_name 0) (vo_some v_int) (vo_some v_int))))) (mg_name 7 sc_law.nd)
  (mss_cons (ms_set 8 sc_law.nd (m_newL (vl_is (vl_callC C_law_spins (hr.mono (show 1 ≤ 5 by decide)) (va_cons (v_sc (v_name 7)) (va_cons v_int va_nil))))))
  (mss_cons (ms_if (mt_cmp op_notN r_notN (m_call tk_fn C_law_deed hr (ma_cons (m_name 2) (ma_cons (m_name 3) (ma_cons (m_name 4) (ma_cons (m_name 8) (ma_cons (m_name 1) ma_nil)))))) (m_pure v_non))
  (mss_one (ms_ret (m_pure v_bl))) mss_nil)
  (mss_one (ms_if (mt_not (mt_val (m_call tk_fn C_law_right (hr.mono (show 3 ≤ 5 by decide)) (ma_cons (m_name 2) (ma_cons (m_name 3) (ma_cons (m_name 4) (ma_cons (m_name 5) ma_nil)))))))
  (mss_one (ms_ret (m_pure v_bl))) mss_nil)))))
  (mss_cons (ms_for [9, 10] po_fn rfl (mi_list (m_name 5)) (mg_tup rfl (mgs_cons (mg_name 9 sc_law.nd) (mgs_cons (mg_name 10 sc_law.nd) mgs_nil)))
  (mss_one (ms_if (mt_pure (vt_cmp (op_neD hu) r_ne (v_name 9) (v_name 10)))
  (mss_one (ms_ret (m_pure v_bl))) mss_nil)))
  (mss_cons (ms_for [9, 10, 11] po_fn rfl (mi_list (m_name 5)) (mg_tup rfl (mgs_cons (mg_name 9 sc_law.nd) (mgs_cons (mg_name 10 sc_law.nd) mgs_nil)))
  (mss_cons (ms_for [11] po_fn rfl (mi_list (m_name 9)) (mg_name 11 sc_law.nd)
  (mss_one (ms_expr (m_ext (m_ixT (m_name 11) (m_pure v_int)) (m_name 3)))))
  (mss_one (ms_expr (m_clr (m_name 9))))))
  (mss_one (ms_ret (m_call tk_fn C_law_right (hr.mono (show 3 ≤ 5 by decide)) (ma_cons (m_name 2) (ma_cons (m_name 3) (ma_cons (m_name 4) (ma_cons (m_newL (vl_lst va_nil)) ma_nil))))))))))))))))⟩)
end
end Lw

set_option pp.maxSteps 1500
namespace Lw
open PySem L2 PV MV
local macro_rules
  | `(tactic| simp! [$a,*] $[$l:location]?) => `(tactic| simp -implicitDefEqProofs (disch := first | omega | (simp only [List.length_map, List.length_append, List.length_cons, List.length_nil, List.length_range, List.length_take, List.length_drop, List.length_replicate, List.length_set, List.length_reverse] <;> omega) | (refine mulC_small ?_; omega) | (refine mulC_smallR ?_; omega) | (refine divC_small ?_ ?_ <;> omega) | (refine powC_small ?_ ?_ ?_ <;> omega)) only [v_run, v_iTp, tup?_tuple, v_sIfM2, k_ifM2_0, k_ifM2_1, v_srtSet, k_srtSet, v_sZ, k_sZ, v_sReb, v_sClr, k_sClr, v_pinF, k_pin, v_iZp3, k_zp3, v_setP, setPK_of, v_appP, k_appP, k_appP1, k_appP2, k_appP3, k_appP4, List.getElem?_cons_zero, List.getElem?_cons_succ, v_lSortP, k_srtP0, v_lRng, k_rng, hRg1_of, v_seq, v_set', v_setL', v_ret', v_retL', v_if', v_for', v_par', v_aug', v_augK, v_tgt', v_sub', v_mut', v_d1, v_d2, v_d3, v_dB, v_dSc, v_dScs, v_cons, v_tup', v_lst', v_dA, v_dAL, v_and', v_or', v_not', v_dT, v_iL, v_iR1, v_iR2, v_iR3, v_iEn, v_iZp, v_lCut, v_lOf, v_lCat, v_lRep, v_lRepE, k_rep0, v_rt', k_rt, v_idx, k_idx, v_lRev, k_rev, v_lSortI, v_lComp, v_oS, b_assoc, k_cmp, k_seq1, k_seq2, k_seq3, k_seq4, k_set, k_setL, k_ret, k_retL, k_if1, k_if2, k_for, k_par, k_aug2, k_tgt, k_tgt2, k_sub, k_sub1, k_sub2, k_sub3, k_mut, k_mut1, k_mut2, k_d2, k_d3, k_d31, k_d321, k_d322, k_bool, k_cons, k_cons2, k_tup, k_lst, k_al, k_and1, k_and2, k_or1, k_or2, k_not, k_dt, k_en, k_zp, k_cut, k_cut1, k_cut2, k_os, k_cat, k_rep, k_srt0, k_srt, k_comp, k_run1, k_run2, k_go1, k_go2, w_turn, w_turnR, w_turnW, w_nx, w_bk, w_ct, w_rN, w_V, w_C, w_nil, w_oN, w_yes, w_gSet, w_gTup, w_gsCons, w_gsNil, w_add, w_subI, w_lt, w_le, w_gt, w_ge, w_neg, w_isN, w_notN, w_n0, w_n1, w_n2, w_n3, w_n4, w_len1, w_len2, w_min2, w_max2, w_int1, w_int2, w_clr, w_ixL, w_ixT, w_sum, w_any, w_kil0, w_kil1, k_sc_int, k_sc_bool, k_sc_none, k_sc_str, k_scs_of, items?_list, items?_tuple, list?_list, cutD_map, all_int, all_int', List.length_map, hApp_of, hExt_of, hIns_of, hCat_of, hRep_of, hR1_of, hR2_of, hR3_of, hMul_of, hDiv_of, hMod_of, p10_3, p10_4, p10_5, p10_6, p10_7, p10_8, p10_9, p10_12, p10_50, p50_3, p50_4, atI_map, k_scs_int, List.getD_cons_zero, List.getD_cons_succ, List.set_cons_zero, List.set_cons_succ, List.map_cons, List.map_nil, List.cons_append, List.nil_append, List.append_nil, List.length_cons, List.length_nil, Option.bind_some, Option.bind_none, Option.map_some, Option.map_none, ↓reduceIte, Nat.reduceAdd, Nat.reduceSub, Int.reduceAdd, Int.reduceSub, Int.reduceMul, Int.reduceNeg, Nat.reduceLeDiff, Nat.reduceLT, Nat.reduceEqDiff, Nat.zero_add, List.reduceReplicate, List.replicate_zero, List.replicate_one, List.replicate_succ, Bool.and_true, Bool.true_and, Bool.not_true, Bool.not_false, decide_true, decide_false, Bool.false_eq_true, reduceCtorEq, and_self, if_false, if_true, hIsi_int_int, hIsi_int_bool, hIsi_int_list, hIsi_int_tuple, hIsi_int_str, hIsi_bool_int, hIsi_bool_bool, hIsi_bool_list, hIsi_bool_tuple, hIsi_bool_str, hIsi_none_int, hIsi_none_bool, hIsi_none_list, hIsi_none_tuple, hIsi_none_str, hIsi_list_int, hIsi_list_bool, hIsi_list_list, hIsi_list_tuple, hIsi_list_str, hIsi_tuple_int, hIsi_tuple_bool, hIsi_tuple_list, hIsi_tuple_tuple, hIsi_tuple_str, hIsi_str_int, hIsi_str_bool, hIsi_str_list, hIsi_str_tuple, hIsi_str_str, $a,*] $[$l]?)
local macro_rules
  | `(tactic| simp! only [$a,*] $[$l:location]?) => `(tactic| simp -implicitDefEqProofs (disch := first | omega | (simp only [List.length_map, List.length_append, List.length_cons, List.length_nil, List.length_range, List.length_take, List.length_drop, List.length_replicate, List.length_set, List.length_reverse] <;> omega) | (refine mulC_small ?_; omega) | (refine mulC_smallR ?_; omega) | (refine divC_small ?_ ?_ <;> omega) | (refine powC_small ?_ ?_ ?_ <;> omega)) only [u_dr_dat, u_dr_dat0, u_dr_ref, u_drC_lst, u_drC_tup, u_omap_app, u_om_dat, u_om_nil, u_om_cons, u_om_datOf, u_datOf, u_vw_nil, u_vw_none, u_vw_dat, u_vw_ref, u_vw_any, u_lst_ref, u_lst_dat, u_tup_ref, u_tup_dat, u_dic_ref, u_ins_ref, u_lstC, u_tupC, u_dicC, u_insC, u_intOf, u_key_int, u_key_str, u_new, u_ret, u_get0, u_get1, u_get2, u_get3, u_set0, u_set1, u_get_sh, u_set_sh, u_mb, u_mbK, u_mbX, u_mP, u_mpK, u_mPT, u_mptK, u_mAl, u_malK, u_mV, u_mNil, u_mCons, u_mLst, u_mTup, u_mDic0, u_mOp, u_mopK, u_mCB, u_mCallV, u_mcbK, u_mCL, u_mclK, u_mB, u_mbB, u_andT, u_and1, u_and0, u_orT, u_or1, u_or0, u_notT, u_andV, u_andV1, u_andV0, u_orV, u_orV1, u_orV0, u_mT, u_mFld, u_fldK, u_mIx, u_ixK, u_mIxD, u_ixdK, u_mInD, u_indK, u_mCall, u_mMeth, u_methK, u_mMake, u_makeK, u_makeX, u_mLM, u_mlmK, u_mlmK1, u_mlmK2, u_appS, u_clrS, u_mMinD, u_minK, u_mCat, u_catK, u_mCut, u_cutK, u_oNone, u_oSome, u_mListL, u_mLenL, u_mLenD, u_mIsNone, u_isNo_ref, u_isNo_none, u_isNo_int, u_isNo_list, u_mIsX, u_isxK, u_isxN, u_isxC, u_mYes, u_seq, u_zq, u_zqr, u_zqx, u_zqb, u_zqc, u_zB, u_zb, u_zbx, u_if, u_if1, u_if0, u_expr, u_ret1, u_retN, u_raise, u_nx, u_bk, u_ct, u_set, u_tgt, u_gN, u_gsN, u_gsC, u_gT1, u_gT2, u_gL1, u_fld, u_zfldK, u_putI1, u_putI2, u_putI0, u_hopI, u_zAug, u_run, u_runR, u_runN, u_runX, u_try, u_tryN, u_tryR, u_tryX, u_for, u_comp, u_mIL, u_ilK, u_mIR1, u_ir1, u_mIR2, u_ir2, u_mIEn, u_ien, u_mIZp, u_izp, u_at0, u_at1, u_at2, u_at3, u_kil0, u_kilC, u_mpsN, u_mpsC, u_mDisp, u_dispX, u_dispK, u_putD, u_putC, u_zDPut, u_zDAug, u_zFldAug, u_fldaugK, u_okv, u_gSubD, u_gFld, u_putF1, u_mDPop, u_dpopK, u_mDivmod, u_divmK, u_mIStr, u_istrK, u_mITup, u_itupK, u_hopI2, List.length_append, List.append_assoc, List.length_map, v_run, v_iTp, tup?_tuple, v_sIfM2, k_ifM2_0, k_ifM2_1, v_srtSet, k_srtSet, v_sZ, k_sZ, v_sReb, v_sClr, k_sClr, v_pinF, k_pin, v_iZp3, k_zp3, v_setP, setPK_of, v_appP, k_appP, k_appP1, k_appP2, k_appP3, k_appP4, List.getElem?_cons_zero, List.getElem?_cons_succ, v_lSortP, k_srtP0, v_lRng, k_rng, hRg1_of, v_seq, v_set', v_setL', v_ret', v_retL', v_if', v_for', v_par', v_aug', v_augK, v_tgt', v_sub', v_mut', v_d1, v_d2, v_d3, v_dB, v_dSc, v_dScs, v_cons, v_tup', v_lst', v_dA, v_dAL, v_and', v_or', v_not', v_dT, v_iL, v_iR1, v_iR2, v_iR3, v_iEn, v_iZp, v_lCut, v_lOf, v_lCat, v_lRep, v_lRepE, k_rep0, v_rt', k_rt, v_idx, k_idx, v_lRev, k_rev, v_lSortI, v_lComp, v_oS, b_assoc, k_cmp, k_seq1, k_seq2, k_seq3, k_seq4, k_set, k_setL, k_ret, k_retL, k_if1, k_if2, k_for, k_par, k_aug2, k_tgt, k_tgt2, k_sub, k_sub1, k_sub2, k_sub3, k_mut, k_mut1, k_mut2, k_d2, k_d3, k_d31, k_d321, k_d322, k_bool, k_cons, k_cons2, k_tup, k_lst, k_al, k_and1, k_and2, k_or1, k_or2, k_not, k_dt, k_en, k_zp, k_cut, k_cut1, k_cut2, k_os, k_cat, k_rep, k_srt0, k_srt, k_comp, k_run1, k_run2, k_go1, k_go2, w_turn, w_turnR, w_turnW, w_nx, w_bk, w_ct, w_rN, w_V, w_C, w_nil, w_oN, w_yes, w_gSet, w_gTup, w_gsCons, w_gsNil, w_add, w_subI, w_lt, w_le, w_gt, w_ge, w_neg, w_isN, w_notN, w_n0, w_n1, w_n2, w_n3, w_n4, w_len1, w_len2, w_min2, w_max2, w_int1, w_int2, w_clr, w_ixL, w_ixT, w_sum, w_any, w_kil0, w_kil1, k_sc_int, k_sc_bool, k_sc_none, k_sc_str, k_scs_of, items?_list, items?_tuple, list?_list, cutD_map, all_int, all_int', List.length_map, hApp_of, hExt_of, hIns_of, hCat_of, hRep_of, hR1_of, hR2_of, hR3_of, hMul_of, hDiv_of, hMod_of, p10_3, p10_4, p10_5, p10_6, p10_7, p10_8, p10_9, p10_12, p10_50, p50_3, p50_4, atI_map, k_scs_int, List.getD_cons_zero, List.getD_cons_succ, List.set_cons_zero, List.set_cons_succ, List.map_cons, List.map_nil, List.cons_append, List.nil_append, List.append_nil, List.length_cons, List.length_nil, Option.bind_some, Option.bind_none, Option.map_some, Option.map_none, ↓reduceIte, Nat.reduceAdd, Nat.reduceSub, Int.reduceAdd, Int.reduceSub, Int.reduceMul, Int.reduceNeg, Nat.reduceLeDiff, Nat.reduceLT, Nat.reduceEqDiff, Nat.zero_add, List.reduceReplicate, List.replicate_zero, List.replicate_one, List.replicate_succ, Bool.and_true, Bool.true_and, Bool.not_true, Bool.not_false, decide_true, decide_false, Bool.false_eq_true, reduceCtorEq, and_self, if_false, if_true, hIsi_int_int, hIsi_int_bool, hIsi_int_list, hIsi_int_tuple, hIsi_int_str, hIsi_bool_int, hIsi_bool_bool, hIsi_bool_list, hIsi_bool_tuple, hIsi_bool_str, hIsi_none_int, hIsi_none_bool, hIsi_none_list, hIsi_none_tuple, hIsi_none_str, hIsi_list_int, hIsi_list_bool, hIsi_list_list, hIsi_list_tuple, hIsi_list_str, hIsi_tuple_int, hIsi_tuple_bool, hIsi_tuple_list, hIsi_tuple_tuple, hIsi_tuple_str, hIsi_str_int, hIsi_str_bool, hIsi_str_list, hIsi_str_tuple, hIsi_str_str, $a,*] $[$l]?)
-- store
def ni (i : Nat) : D := .int (i : Int)
theorem ni_map (is : List Nat) : is.map ni = (is.map fun i : Nat => (i : Int)).map PyData.int := by rw [List.map_map]; rfl
theorem range_ni (n : Nat) : rangeD 0 n = (List.range n).map ni := by
  rw [rangeD_map]
  refine List.map_congr_left fun k _ => ?_
  show PyData.int (0 + (k : Int)) = PyData.int (k : Int)
  rw [Int.zero_add]
theorem isSc_ni (i : Nat) : isSc (ni i) = true := rfl
theorem all_ni (is : List Nat) : (is.map ni).all isSc = true := by rw [ni_map]; exact all_int' _
theorem k_scs_ni (is : List Nat) : scsK (is.map ni) = some (is.map ni) := k_scs_of (all_ni is)
theorem inD_ni (w : Nat) : ∀ is : List Nat, inD (.int (w : Int)) (is.map ni) = is.contains w
  | [] => rfl
  | i :: is => by
    have h := inD_ni w is
    unfold inD at h ⊢
    rw [List.map_cons, List.any_cons, h, List.contains_cons]
    congr 1
    show PyData.eqv (.int (i : Int)) (.int (w : Int)) = _
    rw [eqv_int, Bool.eq_iff_iff, beq_iff_eq, beq_iff_eq]
    omega
theorem hIn_ni (w : Nat) (is : List Nat) : hIn (.int (w : Int)) (.list (is.map ni)) = some (.bool (is.contains w)) := by
  unfold hIn
  rw [items?_list, Option.bind_some, if_pos ⟨rfl, all_ni is⟩, inD_ni]
theorem hEq_ni (xs ys : List Nat) : hEq (.list (xs.map ni)) (.list (ys.map ni)) = some (.bool (xs == ys)) := by
  rw [ni_map, ni_map, hEq_ints]
  congr 2
  rw [Bool.eq_iff_iff, beq_iff_eq, beq_iff_eq]
  exact ⟨fun h => (List.map_inj_right (fun a b h => Int.ofNat.inj h)).mp h, fun h => h ▸ rfl⟩
theorem hNe_ni (xs ys : List Nat) : hNe (.list (xs.map ni)) (.list (ys.map ni)) = some (.bool (!(xs == ys))) := by
  rw [ni_map, ni_map, hNe_ints]
  congr 3
  rw [Bool.eq_iff_iff, beq_iff_eq, beq_iff_eq]
  exact ⟨fun h => (List.map_inj_right (fun a b h => Int.ofNat.inj h)).mp h, fun h => h ▸ rfl⟩
theorem atI_nat {α : Type} (xs : List α) (i : Nat) (h : i < xs.length) : atI xs (i : Int) = xs[i]? := by
  rw [atI_in (by omega) (by omega), Int.toNat_natCast]
theorem enumD_map {α : Type} (f : α → D) (d : α) (xs : List α) : enumD (xs.map f) = (List.range xs.length).map fun i => PyData.tuple [.int (i : Nat), f (xs.getD i d)] := by
  unfold enumD
  refine List.ext_getElem (by simp) fun i h1 h2 => ?_
  have hi : i < xs.length := by simpa using h1
  rw [List.getElem_map, List.getElem_map, List.getElem_zipIdx, List.getElem_range, List.getElem_map, List.getD_eq_getElem?_getD, List.getElem?_eq_getElem hi]
  simp
theorem hEq_nil (xs : List Int) : hEq (.list (xs.map PyData.int)) (.list []) = some (.bool (xs == [])) := hEq_ints xs []
theorem hEq_nil_ni (xs : List Nat) : hEq (.list (xs.map ni)) (.list []) = some (.bool (xs == [])) := hEq_ni xs []
theorem hEq_self {n : Nat} {d : D} (h : okD n d) (hn : n ≤ 64) : hEq d d = some (.bool true) := by
  unfold hEq
  rw [if_pos ⟨h.shaped hn, h.shaped hn⟩, eqv_self h.1]
theorem hNe_self {n : Nat} {d : D} (h : okD n d) (hn : n ≤ 64) : hNe d d = some (.bool false) := by
  unfold hNe
  rw [if_pos ⟨h.shaped hn, h.shaped hn⟩, eqv_self h.1]
  rfl
theorem ok_map {α : Type} {n : Nat} (f : α → D) (xs : List α) (h : ∀ x, okD n (f x)) : okD (n + 1) (.list (xs.map f)) := okD_list fun d hd => by
  obtain ⟨x, _, rfl⟩ := List.mem_map.mp hd
  exact h x
theorem atI_getD {α β : Type} (f : α → β) (d : α) (xs : List α) (i : Nat) (h : i < xs.length) : atI (xs.map f) (i : Int) = some (f (xs.getD i d)) := by
  rw [atI_nat _ _ (by rw [List.length_map]; exact h), List.getElem?_map, List.getD_eq_getElem?_getD, List.getElem?_eq_getElem h]
  rfl
theorem hNe_nil (xs : List Int) : hNe (.list (xs.map PyData.int)) (.list []) = some (.bool (!(xs == []))) := hNe_ints xs []
theorem hNe_nil2 : hNe (.list []) (.list []) = some (.bool false) := hNe_ints [] []
theorem atI_get0 {α : Type} (d : α) (xs : List α) (i : Nat) (h : i < xs.length) : atI xs (i : Int) = some (xs.getD i d) := by
  rw [atI_nat _ _ h, List.getD_eq_getElem?_getD, List.getElem?_eq_getElem h]
  rfl
theorem range_getD {α β : Type} (f : α → β) (d : α) (xs : List α) : ((List.range xs.length).map fun i => f (xs.getD i d)) = xs.map f := by
  refine List.ext_getElem (by simp) fun i h1 h2 => ?_
  have hi : i < xs.length := by simpa using h2
  rw [List.getElem_map, List.getElem_map, List.getElem_range, List.getD_eq_getElem?_getD, List.getElem?_eq_getElem hi]
  rfl
theorem forL_rt {set : D → SE → Option SE} {g : SE → Option Rs} {kl : List Nat} {e : SE} {x : D} {xs : List D} {d : D} (h : (set x e).bind g = some (.rt d)) : forL set g kl (x :: xs) e = some (.rt d) := by
  rw [forL]
  cases q1 : set x e with
  | none => rw [q1] at h; cases h
  | some e1 =>
    rw [q1, Option.bind_some] at h
    rw [Option.bind_some, h]
    rfl
theorem b_mapI {α β : Type} {set : D → SE → Option SE} {c : SE → Option Bool} {h : SE → Option D} {kk : List D → Option β} {r : Option β} {cv : α → D} {e : SE} (f : α → Int) (xs : List α) (hl : xs.length ≤ 1000000) (hh : ∀ x, x ∈ xs → ∃ e1, set (cv x) e = some e1 ∧ c e1 = some true ∧ h e1 = some (.int (f x))) (hk : kk ((xs.map f).map PyData.int) = r) : (dCompG set c h e (xs.map cv)).bind kk = r :=
  b_map (fun x => .int (f x)) xs hl hh (by rw [List.map_map] at hk; exact hk)
theorem zipD_map {α : Type} (f g : α → D) : ∀ xs : List α, zipD (xs.map f) (xs.map g) = xs.map fun x => PyData.tuple [f x, g x]
  | [] => rfl
  | x :: xs => by
    have ih := zipD_map f g xs
    unfold zipD at ih ⊢
    rw [List.map_cons, List.map_cons, List.zipWith_cons_cons, ih, List.map_cons]
theorem b_wordE {α σ : Type} {set : D → SE → Option SE} {g : SE → Option Rs} {kl : List Nat} {k : Rs → Option D} {P : D → Prop} {enc : σ → SE} {cv : α → D} (W : List α → σ → Prop) (xs : List α) (s : σ) (h0 : W [] s) (h : ∀ p x q s, p ++ x :: q = xs → W p s → ∃ s', turn set g kl (cv x) (enc s) (enc s') ∧ W (p ++ [x]) s')
    (hk : ∀ s, W xs s → ∃ r, k (.nx (enc s)) = some r ∧ P r) : ∃ r, (forL set g kl (xs.map cv) (enc s)).bind k = some r ∧ P r := by
  obtain ⟨s', h1, h2⟩ := forL_word W xs s h0 h
  rw [h1]
  exact hk s' h2
theorem zipD_range {α β : Type} (f : α → D) (g : β → D) (a : α) (b : β) : ∀ (xs : List α) (ys : List β), xs.length = ys.length → zipD (xs.map f) (ys.map g) = (List.range ys.length).map fun i => PyData.tuple [f (xs.getD i a), g (ys.getD i b)] := fun xs ys h => by
  unfold zipD
  refine List.ext_getElem (by simp [h]) fun i h1 h2 => ?_
  have hy : i < ys.length := by simpa using h2
  have hx : i < xs.length := by omega
  rw [List.getElem_zipWith, List.getElem_map, List.getElem_map, List.getElem_map, List.getElem_range, List.getD_eq_getElem?_getD, List.getD_eq_getElem?_getD, List.getElem?_eq_getElem hx, List.getElem?_eq_getElem hy]
  rfl
theorem b_filterI {α β : Type} {set : D → SE → Option SE} {c : SE → Option Bool} {h : SE → Option D} {kk : List D → Option β} {r : Option β} {cv : α → D} {e : SE} (f : α → Int) (p : α → Bool) (xs : List α) (hl : xs.length ≤ 1000000) (hh : ∀ x, x ∈ xs → ∃ e1, set (cv x) e = some e1 ∧ c e1 = some (p x) ∧ (p x = true → h e1 = some (.int (f x)))) (hk : kk (((xs.filter p).map f).map PyData.int) = r) : (dCompG set c h e (xs.map cv)).bind kk = r :=
  b_filter (fun x => .int (f x)) p xs hl hh (by rw [List.map_map] at hk; exact hk)
theorem b_whileE {σ : Type} {c : SE → Option Bool} {g : SE → Option Rs} {kl : List Nat} {k : Rs → Option D} {P : D → Prop} {enc : σ → SE} {cond : σ → Bool} (I : σ → Prop) (μ : σ → Nat) (s : σ) (hk : kil kl (enc s) = enc s) (hi : I s) (hc : ∀ s, I s → c (enc s) = some (cond s))
    (hs : ∀ s, I s → cond s = true → ∃ s', turnW g kl (enc s) = some (enc s') ∧ I s' ∧ μ s' < μ s) (hk2 : ∀ s', I s' → cond s' = false → ∃ r, k (.nx (enc s')) = some r ∧ P r) : ∃ r, (sWhile c g kl (enc s)).bind k = some r ∧ P r := by
  obtain ⟨s', h1, h2, h3⟩ := sWhile_word I μ s hk hi hc hs
  rw [h1]
  exact hk2 s' h2 h3
theorem hEq_cons_nil {n : Nat} {d : D} {ds : List D} (h : okD n (.list (d :: ds))) (hn : n ≤ 64) : hEq (.list (d :: ds)) (.list []) = some (.bool false) := by
  unfold hEq
  rw [if_pos ⟨h.shaped hn, (okD_list (n := 0) (ds := []) fun d hd => by cases hd).shaped (by decide)⟩]
  simp [PyData.eqv, PyData.eqvAll]
theorem hNe_cons_nil {n : Nat} {d : D} {ds : List D} (h : okD n (.list (d :: ds))) (hn : n ≤ 64) : hNe (.list (d :: ds)) (.list []) = some (.bool true) := by
  unfold hNe
  rw [if_pos ⟨h.shaped hn, (okD_list (n := 0) (ds := []) fun d hd => by cases hd).shaped (by decide)⟩]
  simp [PyData.eqv, PyData.eqvAll]
theorem at1_0 (a : D) : atI [a] 0 = some a := rfl

def TX (l : List Nat) : Str := ⟨l.toArray⟩
theorem TX_inj {a b : List Nat} : TX a = TX b ↔ a = b := ⟨fun h => by injection h with h; simpa using h, fun h => by rw [h]⟩
theorem TX_len (l : List Nat) : (TX l).length = l.length := by show l.toArray.size = _; simp
theorem TX_add (a b : List Nat) : TX a ++ TX b = TX (a ++ b) := by
  show Str.append _ _ = _
  unfold Str.append TX
  simp
theorem TX_cps (l : List Nat) : (TX l).cps.toList = l := by unfold TX; simp
theorem add_tx (a b : List Nat) (h : a.length + b.length ≤ 1000000) : hAddT (.str (TX a)) (.str (TX b)) = some (.str (TX (a ++ b))) := by
  show (if (TX a).length + (TX b).length ≤ 1000000 then some (PyData.str (TX a ++ TX b)) else none) = _
  rw [TX_len, TX_len, if_pos h, TX_add]
theorem cut_tx (l : List Nat) (a b : Option Int) (h : l.length ≤ 1000000) : hCutS (.str (TX l)) a b = some (.str (TX (cutL l a b))) := by
  show (if (TX l).length ≤ 1000000 then some (PyData.str (cutS (TX l) a b)) else none) = _
  rw [TX_len, if_pos h]
  unfold cutS
  rw [TX_len, TX_cps]
  rfl
theorem len_tx (l : List Nat) (h : l.length ≤ 1000000) : hLenS [.str (TX l)] = some (.int l.length) := by
  show (if (TX l).length ≤ 1000000 then some (PyData.int (TX l).length) else none) = _
  rw [TX_len, if_pos h]
theorem ix_tx (l : List Nat) (i : Int) (h : l.length ≤ 1000000) : hIxS (.str (TX l)) (.int i) = (atI l i).map fun c => .str (TX [c]) := by
  show (if (TX l).length ≤ 1000000 then (atI (TX l).cps.toList i).map fun c => PyData.str ⟨#[c]⟩ else none) = _
  rw [TX_len, if_pos h, TX_cps]
  rfl
theorem join_nil : ∀ ls : List (List Nat), Str.join (TX []) (ls.map TX) = TX ls.flatten
  | [] => rfl
  | [l] => by simp [Str.join]
  | l :: m :: ls => by
    have ih := join_nil (m :: ls)
    show TX l ++ TX [] ++ Str.join (TX []) (TX m :: ls.map TX) = _
    rw [List.map_cons] at ih
    rw [ih, TX_add, TX_add, List.append_nil, List.flatten_cons, List.flatten_cons, List.flatten_cons]
theorem join_tx (ls : List (List Nat)) (h : (ls.map List.length).sum ≤ 1000000) : hJoin (.str (TX [])) (.list (ls.map fun l => .str (TX l))) = some (.str (TX ls.flatten)) := by
  show ((strs? (ls.map fun l => PyData.str (TX l))).bind fun ys => if (ys.map (·.length)).sum + ys.length * (TX []).length ≤ 1000000 then some (PyData.str (Txt.join (TX []) ys)) else none) = _
  have e : (ls.map fun l => PyData.str (TX l)) = (ls.map TX).map PyData.str := by rw [List.map_map]; rfl
  rw [e, strs_map, Option.bind_some, List.map_map]
  have e2 : ((fun x : Str => x.length) ∘ TX) = List.length := funext TX_len
  rw [e2, TX_len, List.length_nil, Nat.mul_zero, Nat.add_zero, if_pos h]
  show some (PyData.str (PySem.Builtin.Str.glued (TX []) (ls.map TX))) = _
  rw [StrLaws.glued_eq_join, join_nil]
theorem eqv_tx (a b : List Nat) : PyData.eqv (.str (TX a)) (.str (TX b)) = (a == b) := by
  have : PyData.eqv (.str (TX a)) (.str (TX b)) = (TX a == TX b) := by simp [PyData.eqv]
  rw [this, Bool.eq_iff_iff, beq_iff_eq, beq_iff_eq, TX_inj]
def okT (l : List Nat) : Prop := ∀ c ∈ l, c < 0x110000
theorem ok_tx {l : List Nat} (h : okT l) : okD 0 (.str (TX l)) := by
  refine ⟨?_, by simp [PyData.depth]⟩
  simp only [PyData.canLay0]
  show (TX l).cps.all (fun c => decide (c < 0x110000)) = true
  unfold TX
  simp only [List.all_toArray, List.all_eq_true, decide_eq_true_eq]
  exact h
theorem eq_tx {a b : List Nat} (ha : okT a) (hb : okT b) : hEq (.str (TX a)) (.str (TX b)) = some (.bool (a == b)) := by
  unfold hEq
  rw [if_pos ⟨(ok_tx ha).shaped (by decide), (ok_tx hb).shaped (by decide)⟩, eqv_tx]
theorem ne_tx {a b : List Nat} (ha : okT a) (hb : okT b) : hNe (.str (TX a)) (.str (TX b)) = some (.bool (!(a == b))) := by
  unfold hNe
  rw [if_pos ⟨(ok_tx ha).shaped (by decide), (ok_tx hb).shaped (by decide)⟩, eqv_tx]
def tD (l : List Nat) : D := .str (TX l)
theorem sc_tx (ls : List (List Nat)) : (ls.map tD).all isSc = true := by
  rw [List.all_map, List.all_eq_true]
  intro _ _
  rfl
theorem inD_tx (a : List Nat) : ∀ ls : List (List Nat), inD (.str (TX a)) (ls.map tD) = ls.contains a
  | [] => rfl
  | l :: ls => by
    have ih := inD_tx a ls
    unfold inD at ih ⊢
    rw [List.map_cons, List.any_cons, ih, List.contains_cons]
    congr 1
    show PyData.eqv (.str (TX l)) (.str (TX a)) = _
    rw [eqv_tx, Bool.eq_iff_iff, beq_iff_eq, beq_iff_eq]
    exact ⟨Eq.symm, Eq.symm⟩
theorem in_tx (a : List Nat) (ls : List (List Nat)) : hIn (.str (TX a)) (.list (ls.map tD)) = some (.bool (ls.contains a)) := by
  unfold hIn
  rw [items?_list, Option.bind_some, if_pos ⟨rfl, sc_tx ls⟩, inD_tx]
theorem notIn_tx (a : List Nat) (ls : List (List Nat)) : hNotIn (.str (TX a)) (.list (ls.map tD)) = some (.bool (!ls.contains a)) := by
  unfold hNotIn
  rw [items?_list, Option.bind_some, if_pos ⟨rfl, sc_tx ls⟩, inD_tx]
def abc : List Nat := (List.range 26).map (97 + ·)
theorem lit_abc : Str.ofString "abcdefghijklmnopqrstuvwxyz" = TX abc := by decide +kernel
theorem lit_nil : Str.ofString "" = TX [] := by decide +kernel
theorem abc_sub : ∀ i : Fin 26, subT (TX [97 + i.val]) (TX abc) = true := by decide +kernel
theorem abc_at (i : Int) (h0 : 0 ≤ i) (h1 : i < 26) : atI abc i = some (97 + i.toNat) := by
  rw [atI_in h0 (by unfold abc; rw [List.length_map, List.length_range]; omega)]
  unfold abc
  rw [List.getElem?_map, List.getElem?_range (by omega)]
  rfl
theorem abc_notIn (c : Nat) (h0 : 97 ≤ c) (h1 : c < 123) : hNotInT (.str (TX [c])) (.str (TX abc)) = some (.bool false) := by
  have := abc_sub ⟨c - 97, by omega⟩
  rw [show 97 + (⟨c - 97, by omega⟩ : Fin 26).val = c by show 97 + (c - 97) = c; omega] at this
  show some (PyData.bool (!subT (TX [c]) (TX abc))) = _
  rw [this]
  rfl
theorem v_cutS' {f : SE → Option D} {lo hi : SE → Option (Option Int)} {e : SE} : dCutS f lo hi e = (f e).bind fun x => (lo e).bind fun a => (hi e).bind fun b => hCutS x a b := rfl

theorem for_skip {α : Type} {ok : Store → Prop} {set : GSem} {kl : List Nat} {z : Zsem} {e : SEnv} {st : Store} (it : α → Itm) (hok : ok st) : ∀ l : List α, (∀ x ∈ l, ∃ e1 e2, set (it x) e st = some (e1, st) ∧ z e1 st = some (.nx e2, st) ∧ kilM kl e2 = e) → forZ ok set z kl (l.map it) e st = some (.nx e, st)
  | [], _ => if_pos hok
  | x :: l, h => by
    obtain ⟨e1, e2, h1, h2, h3⟩ := h x List.mem_cons_self
    rw [List.map_cons, forZ_cons hok, h1, Option.bind_some, h2, Option.bind_some]
    show forZ ok set z kl (l.map it) (kilM kl e2) st = _
    rw [h3]
    exact for_skip it hok l fun y hy => h y (List.mem_cons_of_mem _ hy)
theorem seqSkip {α : Type} {set : GSem} {kl : List Nat} {z y : Zsem} {e : SEnv} {st : Store} {fi : SEnv → Mo Src} {src : Src} {r : Option (Rz × Store)} (it : α → Itm) (l : List α) (hi : fi e st = some (.ok src, st)) (hits : src.its = l.map it) (hok : src.ok st) (hk : kilM kl e = e)
    (hs : ∀ x ∈ l, ∃ e1 e2, set (it x) e st = some (e1, st) ∧ z e1 st = some (.nx e2, st) ∧ kilM kl e2 = e) (k : y e st = r) : zSeq (zFor set z kl fi) y e st = r := by
  rw [u_seq, u_for, hi, u_zb, hits, hk, for_skip it hok l hs]
  exact k
theorem put1 {a v : SV} : putI [a] 1 v = some [a, v] := rfl
theorem put2 {a b v : SV} : putI [a, b] 2 v = some [a, b, v] := rfl
theorem put3 {a b c v : SV} : putI [a, b, c] 3 v = some [a, b, c, v] := rfl
theorem put4 {a b c d v : SV} : putI [a, b, c, d] 4 v = some [a, b, c, d, v] := rfl
theorem put5 {a b c d e v : SV} : putI [a, b, c, d, e] 5 v = some [a, b, c, d, e, v] := rfl
theorem put6 {a b c d e f v : SV} : putI [a, b, c, d, e, f] 6 v = some [a, b, c, d, e, f, v] := rfl
theorem put7 {a b c d e f g v : SV} : putI [a, b, c, d, e, f, g] 7 v = some [a, b, c, d, e, f, g, v] := rfl
theorem seqZP {st st1 : Store} {e e' : SEnv} {z y : Zsem} {R : Rz} {P : Store → Prop} (h : z e st = some (.nx e', st1)) (k : ∃ s, y e' st1 = some (R, s) ∧ P s) : ∃ s, zSeq z y e st = some (R, s) ∧ P s := by
  obtain ⟨s, k, p⟩ := k
  exact ⟨s, seqZ h k, p⟩
theorem seqPP {st : Store} {e : SEnv} {i : Nat} {y : Zsem} {R : Rz} {P : Store → Prop} {p : SE → Option D} {d : D} (h : p (view st e) = some d) (k : ∃ s, y (e.set i (some (.dat d))) st = some (R, s) ∧ P s) : ∃ s, zSeq (zSet i (mP p)) y e st = some (R, s) ∧ P s := by
  obtain ⟨s, k, q⟩ := k
  exact ⟨s, seqP h k, q⟩
theorem run_exP {n np : Nat} {z : Zsem} {xs : List SV} {st : Store} {v : SV} {P : Store → Prop} (hl : xs.length = np) (h : ∃ s, z (xs.map some ++ List.replicate (n - xs.length) none) st = some (.rt v, s) ∧ P s) : ∃ s, runM n np z xs st = some (.ok v, s) ∧ P s := by
  obtain ⟨s, h, q⟩ := h
  exact ⟨s, by rw [u_run hl, h]; rfl, q⟩

/-! a chest in a store: five cells of its own behind it, the wishes of each work in a cell anywhere -/
structure Wk where
  nm : List Nat
  co : Int
  ad : Nat
  wi : List (List Nat)
structure Cs where
  vs : List (List Nat × Int)
  ws : List Wk
  well : Int
  gifts : Int
  out : Int
def isNm (n : List Nat) : Prop := 1 ≤ n.length ∧ n.length ≤ 8 ∧ ∀ c ∈ n, 97 ≤ c ∧ c < 123
theorem nm_ok {n : List Nat} (h : isNm n) : okT n := fun c hc => by have := h.2.2 c hc; omega
def nmS (l : List (List Nat)) : List SV := (l.map tD).map .dat
def heldK (vs : List (List Nat × Int)) : List (Key × SV) := vs.map fun v => (.inr (TX v.1), .dat (.int v.2))
def priceK (ws : List Wk) : List (Key × SV) := ws.map fun w => (.inr (TX w.nm), .dat (.int w.co))
def wishK (ws : List Wk) : List (Key × SV) := ws.map fun w => (.inr (TX w.nm), .ref w.ad)
def wiK (l : List (List Nat)) : List (Key × SV) := l.map fun n => (.inr (TX n), .dat (.bool true))
def insS (c : Nat) (well gifts out : Int) : List SV := [.ref (c + 1), .ref (c + 2), .ref (c + 3), .ref (c + 4), .ref (c + 5), .dat (.int well), .dat (.int gifts), .dat (.int out)]
structure Ch (T : Store) (c : Nat) (C : Cs) : Prop where
  c0 : T[c]? = some (.ins 0 (insS c C.well C.gifts C.out))
  c1 : T[c + 1]? = some (.lst (nmS (C.vs.map (·.1))))
  c2 : T[c + 2]? = some (.dic (heldK C.vs))
  c3 : T[c + 3]? = some (.lst (nmS (C.ws.map Wk.nm)))
  c4 : T[c + 4]? = some (.dic (priceK C.ws))
  c5 : T[c + 5]? = some (.dic (wishK C.ws))
  cw : ∀ w ∈ C.ws, T[w.ad]? = some (.dic (wiK w.wi))
  ca : ∀ w ∈ C.ws, ¬ (c ≤ w.ad ∧ w.ad < c + 6)
structure Ok (C : Cs) : Prop where
  nv : (C.vs.map (·.1)).Nodup
  nw : (C.ws.map Wk.nm).Nodup
  na : (C.ws.map Wk.ad).Nodup
  lv : C.vs.length ≤ 20
  lw : C.ws.length ≤ 12
  iv : ∀ v ∈ C.vs, isNm v.1
  iw : ∀ w ∈ C.ws, isNm w.nm
  pv : ∀ v ∈ C.vs, 0 ≤ v.2
  pw : ∀ w ∈ C.ws, 1 ≤ w.co ∧ w.co ≤ 1000000000
  wn : ∀ w ∈ C.ws, w.wi.Nodup
  wv : ∀ w ∈ C.ws, ∀ n ∈ w.wi, n ∈ C.vs.map (·.1)
  wl : 0 ≤ C.well
def own (c : Nat) (C : Cs) (i : Nat) : Prop := (c ≤ i ∧ i < c + 6) ∨ ∃ w ∈ C.ws, w.ad = i
/-- a cell that the chest has nothing to do with -/
structure Kp (c : Nat) (C : Cs) (T : Store) (i : Nat) (x : Cell) : Prop where
  at_ : T[i]? = some x
  no : ¬ own c C i
structure Go (c : Nat) (C : Cs) (T : Store) (C' : Cs) (T' : Store) : Prop where
  ch : Ch T' c C'
  ok : Ok C'
  le : T.length ≤ T'.length
  fr : ∀ i x, T[i]? = some x → ¬ own c C i → T'[i]? = some x
  ow : ∀ i, own c C' i → own c C i ∨ T.length ≤ i
theorem Go.keep {c : Nat} {C C' : Cs} {T T' : Store} {i : Nat} {x : Cell} (g : Go c C T C' T') (k : Kp c C T i x) : Kp c C' T' i x := ⟨g.fr i x k.at_ k.no, fun h => by
  rcases g.ow i h with h | h
  · exact k.no h
  · have := st_lt k.at_; omega⟩
theorem Go.trans {c : Nat} {C C1 C2 : Cs} {T T1 T2 : Store} (g : Go c C T C1 T1) (h : Go c C1 T1 C2 T2) : Go c C T C2 T2 := by
  refine ⟨h.ch, h.ok, Nat.le_trans g.le h.le, fun i x hx hn => ?_, fun i hi => ?_⟩
  · have k := g.keep (i := i) (x := x) ⟨hx, hn⟩
    exact h.fr i x k.at_ k.no
  · rcases h.ow i hi with h | h
    · exact g.ow i h
    · exact .inr (Nat.le_trans g.le h)
theorem Ch.lt {T : Store} {c : Nat} {C : Cs} (h : Ch T c C) : c + 6 ≤ T.length := by have := st_lt h.c5; omega
theorem Ch.own_lt {T : Store} {c : Nat} {C : Cs} (h : Ch T c C) {i : Nat} (hi : own c C i) : i < T.length := by
  rcases hi with hi | ⟨w, hw, rfl⟩
  · have := h.lt; omega
  · exact st_lt (h.cw w hw)
theorem Ch.app {T : Store} {c : Nat} {C : Cs} (h : Ch T c C) (L : Store) : Ch (T ++ L) c C := ⟨st_app h.c0 L, st_app h.c1 L, st_app h.c2 L, st_app h.c3 L, st_app h.c4 L, st_app h.c5 L, fun w hw => st_app (h.cw w hw) L, h.ca⟩
theorem Ch.mono {T T' : Store} {c : Nat} {C : Cs} (h : Ch T c C) (hf : ∀ i x, T[i]? = some x → own c C i → T'[i]? = some x) : Ch T' c C := by
  have k := fun j (hj : j < 6) => fun x hx => hf (c + j) x hx (.inl (by omega))
  exact ⟨k 0 (by decide) _ h.c0, k 1 (by decide) _ h.c1, k 2 (by decide) _ h.c2, k 3 (by decide) _ h.c3, k 4 (by decide) _ h.c4, k 5 (by decide) _ h.c5, fun w hw => hf w.ad _ (h.cw w hw) (.inr ⟨w, hw, rfl⟩), h.ca⟩
theorem Ch.set {T : Store} {c : Nat} {C : Cs} (h : Ch T c C) {i : Nat} {X : Cell} (hi : ¬ own c C i) : Ch (T.set i X) c C := h.mono fun j x hx ho => by
  rw [List.getElem?_set_ne (by rintro rfl; exact hi ho)]; exact hx
theorem Go.app {T : Store} {c : Nat} {C : Cs} (h : Ch T c C) (k : Ok C) (L : Store) : Go c C T C (T ++ L) := ⟨h.app L, k, by rw [List.length_append]; omega, fun _ _ hx _ => st_app hx L, fun _ hi => .inl hi⟩
theorem Go.set {c : Nat} {C C' : Cs} {T T' : Store} {i : Nat} {X : Cell} (g : Go c C T C' T') (hi : T.length ≤ i) (hn : ¬ own c C' i) : Go c C T C' (T'.set i X) := ⟨g.ch.set hn, g.ok, by rw [List.length_set]; exact g.le, fun j x hx ho => by
  have := st_lt hx
  rw [List.getElem?_set_ne (by omega)]; exact g.fr j x hx ho, g.ow⟩
theorem Kp.app {c : Nat} {C : Cs} {T : Store} {i : Nat} {x : Cell} (k : Kp c C T i x) (L : Store) : Kp c C (T ++ L) i x := ⟨st_app k.at_ L, k.no⟩
theorem Kp.set {c : Nat} {C : Cs} {T : Store} {i j : Nat} {x X : Cell} (k : Kp c C T i x) (hj : j ≠ i) : Kp c C (T.set j X) i x := ⟨by rw [List.getElem?_set_ne hj]; exact k.at_, k.no⟩
theorem Kp.set_self {c : Nat} {C : Cs} {T : Store} {i : Nat} {x X : Cell} (k : Kp c C T i x) : Kp c C (T.set i X) i X := ⟨List.getElem?_set_self (st_lt k.at_), k.no⟩
theorem Kp.new {c : Nat} {C : Cs} {T : Store} (h : Ch T c C) (x : Cell) (L : Store) : Kp c C (T ++ x :: L) T.length x := ⟨u_get0, fun ho => by have := h.own_lt ho; omega⟩
theorem Kp.fresh {c : Nat} {C : Cs} {T : Store} (h : Ch T c C) {T' : Store} {i : Nat} {x : Cell} (hi : T.length ≤ i) (hx : T'[i]? = some x) : Kp c C T' i x := ⟨hx, fun ho => by have := h.own_lt ho; omega⟩
theorem u_gets {T : Store} {i j : Nat} {X : Cell} (h : i ≠ j) : (T.set i X)[j]? = T[j]? := List.getElem?_set_ne h
theorem u_gets0 {T : Store} {i : Nat} {X : Cell} (h : i < T.length) : (T.set i X)[i]? = some X := List.getElem?_set_self h
/-! dicts by names -/
theorem key_ne {a b : List Nat} (h : a ≠ b) : ((.inr (TX a) : Key) = .inr (TX b)) = False := by
  simp only [Sum.inr.injEq, TX_inj, eq_iff_iff, iff_false]
  exact h
theorem val_at {α : Type} (key : α → List Nat) (val : α → SV) (x : α) (q : List α) : ∀ p : List α, key x ∉ p.map key → valS ((p ++ x :: q).map fun a => ((.inr (TX (key a)) : Key), val a)) (.inr (TX (key x))) = some (val x)
  | [], _ => by
    unfold valS
    rw [List.nil_append, List.map_cons, List.find?_cons]
    simp
  | y :: p, h => by
    rw [List.map_cons, List.mem_cons, not_or] at h
    have ih := val_at key val x q p h.2
    unfold valS at ih ⊢
    rw [List.cons_append, List.map_cons, List.find?_cons]
    have e : decide ((.inr (TX (key y)) : Key) = .inr (TX (key x))) = false := decide_eq_false (by rw [key_ne (fun z => h.1 z.symm)]; exact not_false)
    simp only [e]
    exact ih
theorem map_skip {α : Type} (key : α → List Nat) (val : α → SV) (k : List Nat) (v : SV) : ∀ p : List α, k ∉ p.map key → (p.map fun a => ((.inr (TX (key a)) : Key), val a)).map (fun kv => if kv.1 = .inr (TX k) then (kv.1, v) else kv) = p.map fun a => ((.inr (TX (key a)) : Key), val a)
  | [], _ => rfl
  | y :: p, h => by
    rw [List.map_cons, List.mem_cons, not_or] at h
    rw [List.map_cons, List.map_cons, map_skip key val k v p h.2, if_neg (by rw [key_ne (fun z => h.1 z.symm)]; exact not_false)]
theorem put_at {α : Type} (key : α → List Nat) (val : α → SV) (x : α) (p q : List α) (v : SV) (hp : key x ∉ p.map key) (hq : key x ∉ q.map key) : putS ((p ++ x :: q).map fun a => ((.inr (TX (key a)) : Key), val a)) (.inr (TX (key x))) v = (p.map fun a => ((.inr (TX (key a)) : Key), val a)) ++ (.inr (TX (key x)), v) :: q.map fun a => ((.inr (TX (key a)) : Key), val a) := by
  unfold putS
  rw [if_pos (by rw [List.any_eq_true]; exact ⟨(.inr (TX (key x)), val x), List.mem_map.mpr ⟨x, by simp, rfl⟩, by simp⟩)]
  rw [List.map_append, List.map_append, List.map_cons, List.map_cons, map_skip key val _ v p hp, map_skip key val _ v q hq, if_pos rfl]
theorem put_new {α : Type} (key : α → List Nat) (val : α → SV) {k : List Nat} {v : SV} {vs : List α} (h : k ∉ vs.map key) : putS (vs.map fun a => ((.inr (TX (key a)) : Key), val a)) (.inr (TX k)) v = (vs.map fun a => ((.inr (TX (key a)) : Key), val a)) ++ [(.inr (TX k), v)] := by
  unfold putS
  rw [if_neg]
  intro z
  rw [List.any_eq_true] at z
  obtain ⟨x, hx, hk⟩ := z
  obtain ⟨w, hw, rfl⟩ := List.mem_map.mp hx
  have e := of_decide_eq_true hk
  simp only [Sum.inr.injEq, TX_inj] at e
  exact h (List.mem_map.mpr ⟨w, hw, e⟩)
theorem drop_skip {α : Type} (key : α → List Nat) (val : α → SV) (k : List Nat) : ∀ p : List α, k ∉ p.map key → dropS (p.map fun a => ((.inr (TX (key a)) : Key), val a)) (.inr (TX k)) = p.map fun a => ((.inr (TX (key a)) : Key), val a)
  | [], _ => rfl
  | y :: p, h => by
    rw [List.map_cons, List.mem_cons, not_or] at h
    have e : decide ((.inr (TX (key y)) : Key) ≠ .inr (TX k)) = true := decide_eq_true (by rw [ne_eq, key_ne (fun z => h.1 z.symm)]; exact not_false)
    have ih := drop_skip key val k p h.2
    unfold dropS at ih ⊢
    simp only [List.map_cons, List.filter_cons, e, if_true, ih]
theorem drop_at {α : Type} (key : α → List Nat) (val : α → SV) (x : α) (p q : List α) (hp : key x ∉ p.map key) (hq : key x ∉ q.map key) : dropS ((p ++ x :: q).map fun a => ((.inr (TX (key a)) : Key), val a)) (.inr (TX (key x))) = (p ++ q).map fun a => ((.inr (TX (key a)) : Key), val a) := by
  have h1 := drop_skip key val (key x) p hp
  have h2 := drop_skip key val (key x) q hq
  unfold dropS at h1 h2 ⊢
  rw [List.map_append, List.filter_append, List.map_cons, List.filter_cons, h1, h2, List.map_append]
  simp
theorem val_none {α : Type} (key : α → List Nat) (val : α → SV) {k : List Nat} {vs : List α} (h : k ∉ vs.map key) : valS (vs.map fun a => ((.inr (TX (key a)) : Key), val a)) (.inr (TX k)) = none := by
  unfold valS
  rw [List.find?_eq_none.mpr]
  · rfl
  · intro x hx
    obtain ⟨w, hw, rfl⟩ := List.mem_map.mp hx
    intro z
    have e := of_decide_eq_true z
    simp only [Sum.inr.injEq, TX_inj] at e
    exact h (List.mem_map.mpr ⟨w, hw, e⟩)
theorem wi_val (l : List (List Nat)) (n : List Nat) : (valS (wiK l) (.inr (TX n))).isSome = l.contains n := by
  by_cases h : n ∈ l
  · obtain ⟨p, q, rfl, hp⟩ := List.eq_append_cons_of_mem h
    rw [show valS (wiK (p ++ n :: q)) (.inr (TX n)) = some (.dat (.bool true)) from val_at id (fun _ => .dat (.bool true)) n q p (by simpa using hp)]
    simp
  · rw [show valS (wiK l) (.inr (TX n)) = none from val_none id (fun _ => .dat (.bool true)) (by simpa using h)]
    simp [h]
theorem ones_nm {α : Type} (vs : List α) (key : α → List Nat) : ones (((vs.map key).map tD).map .dat) = vs.map fun v => Itm.one (.dat (tD (key v))) := by
  unfold ones
  rw [List.map_map, List.map_map, List.map_map]
  rfl
theorem nd_split {α β : Type} {key : α → β} {p q : List α} {x : α} (h : ((p ++ x :: q).map key).Nodup) : key x ∉ p.map key ∧ key x ∉ q.map key := by
  rw [List.map_append, List.map_cons] at h
  obtain ⟨h1, h2, h3⟩ := List.nodup_append.mp h
  exact ⟨fun z => h3 _ z _ List.mem_cons_self rfl, (List.nodup_cons.mp h2).1⟩
theorem wish_at {C : Cs} (k : Ok C) {p q : List Wk} {w : Wk} (h : C.ws = p ++ w :: q) : valS (wishK C.ws) (.inr (TX w.nm)) = some (.ref w.ad) := by
  rw [h]
  exact val_at Wk.nm (fun w => .ref w.ad) w q p (nd_split (h ▸ k.nw)).1
theorem price_at {C : Cs} (k : Ok C) {p q : List Wk} {w : Wk} (h : C.ws = p ++ w :: q) : valS (priceK C.ws) (.inr (TX w.nm)) = some (.dat (.int w.co)) := by
  rw [h]
  exact val_at Wk.nm (fun w => .dat (.int w.co)) w q p (nd_split (h ▸ k.nw)).1
theorem held_at {C : Cs} (k : Ok C) {p q : List (List Nat × Int)} {v : List Nat × Int} (h : C.vs = p ++ v :: q) : valS (heldK C.vs) (.inr (TX v.1)) = some (.dat (.int v.2)) := by
  rw [h]
  exact val_at (fun v : List Nat × Int => v.1) (fun v => .dat (.int v.2)) v q p (nd_split (h ▸ k.nv)).1
theorem nd_len {α : Type} [DecidableEq α] : ∀ (l m : List α), l.Nodup → (∀ x ∈ l, x ∈ m) → l.length ≤ m.length
  | [], _, _, _ => Nat.zero_le _
  | x :: l, m, h, hs => by
    obtain ⟨h1, h2⟩ := List.nodup_cons.mp h
    have hx := hs x List.mem_cons_self
    have := nd_len l (m.erase x) h2 fun y hy => by
      have : y ≠ x := fun z => h1 (z ▸ hy)
      exact (List.mem_erase_of_ne this).mpr (hs y (List.mem_cons_of_mem _ hy))
    rw [List.length_erase_of_mem hx] at this
    have : 0 < m.length := List.length_pos_of_mem hx
    rw [List.length_cons]
    omega
theorem wi_len {C : Cs} (k : Ok C) {w : Wk} (h : w ∈ C.ws) : w.wi.length ≤ 20 := by
  have := nd_len w.wi (C.vs.map (·.1)) (k.wn w h) (k.wv w h)
  rw [List.length_map] at this
  have := k.lv
  omega
theorem strI_tx (n : List Nat) : strI (TX n) = n.map fun c => Itm.one (.dat (.str (TX [c]))) := by
  unfold strI
  rw [TX_cps]
  rfl
theorem nm_ev {n : List Nat} (h : isNm n) (st : Store) : sem_is_chest_name [.dat (.str (TX n))] st = some (.ok (.dat (.bool true)), st) := by
  have e0 : hEq (.str (TX n)) (.str (TX [])) = some (.bool false) := by
    rw [eq_tx (nm_ok h) (fun c hc => by cases hc)]
    have : n ≠ [] := fun z => by rw [z] at h; exact absurd h.1 (by decide)
    simp [this]
  have hl := h.2.1
  have ll : ¬ ((n.length : Int) > 8) := by omega
  have len := len_tx n (by omega)
  have lp : forZ (fun _ => True) (gN 1) sem_is_chest_name_b3 [1] (n.map fun c => Itm.one (.dat (.str (TX [c])))) [some (.dat (.str (TX n))), none] st = some (.nx [some (.dat (.str (TX n))), none], st) :=
    for_skip (fun c => Itm.one (.dat (.str (TX [c])))) trivial n (fun c hc => ⟨_, [some (.dat (.str (TX n))), some (.dat (.str (TX [c])))], rfl, by
      have := h.2.2 c hc
      simp! only [sem_is_chest_name_b3, lit_abc, abc_notIn c this.1 this.2], rfl⟩)
  simp! only [sem_is_chest_name, lit_nil, e0, len, ll, strI_tx, lp]
theorem new_ev {n : List Nat} {ks : List (List Nat)} {st : Store} {j : Nat} (h : isNm n) (hj : st[j]? = some (.lst ((ks.map tD).map .dat))) (hn : n ∉ ks) : sem_look_new_name [.dat (.str (TX n)), .ref j] st = some (.ok (.dat .none), st) := by
  have hc : ks.contains n = false := by simpa using hn
  simp! only [sem_look_new_name, nm_ev h, hj, in_tx, hc]
theorem init_ok (A : Store) : ∃ T', sem_Chest_init [.ref A.length] (A ++ [.ins 0 []]) = some (.ok (.dat .none), T') ∧ Go A.length ⟨[], [], 0, 0, 0⟩ A ⟨[], [], 0, 0, 0⟩ T' ∧ T'.length = A.length + 6 := by
  have e : sem_Chest_init [.ref A.length] (A ++ [.ins 0 []]) = some (.ok (.dat .none), A ++ [.ins 0 (insS A.length 0 0 0), .lst [], .dic [], .lst [], .dic [], .dic []]) := by
    simp! only [sem_Chest_init, put1, put2, put3, put4, put5, put6, put7, Nat.add_assoc]
    rfl
  refine ⟨_, e, ⟨⟨?_, ?_, ?_, ?_, ?_, ?_, fun w hw => (by cases hw), fun w hw => (by cases hw)⟩, ⟨List.nodup_nil, List.nodup_nil, List.nodup_nil, by decide, by decide, fun w hw => (by cases hw), fun w hw => (by cases hw), fun w hw => (by cases hw), fun w hw => (by cases hw), fun w hw => (by cases hw), fun w hw => (by cases hw), Int.le_refl _⟩, by rw [List.length_append]; omega, fun i x hx _ => st_app hx _, fun i hi => .inl hi⟩, by rw [List.length_append]; rfl⟩
  · exact u_get0
  all_goals exact u_get_sh
def Cs.enrol (C : Cs) (n : List Nat) : Cs := { C with vs := C.vs ++ [(n, 0)] }
theorem enrol_ok {T : Store} {c : Nat} {C : Cs} (h : Ch T c C) (k : Ok C) {n : List Nat} (hn : isNm n) (hf : n ∉ C.vs.map (·.1)) (hl : C.vs.length < 20) :
    ∃ T', sem_Chest_enrol [.ref c, .dat (.str (TX n))] T = some (.ok (.dat .none), T') ∧ Go c C T (C.enrol n) T' := by
  have c0 := h.c0
  have c1 := h.c1
  have c2 := h.c2
  have hlt := h.lt
  have nw := new_ev hn c1 hf
  have hl' : ¬ ((C.vs.length : Int) ≥ 20) := by omega
  have ll : C.vs.length < 1000000 := by omega
  have pn : putS (heldK C.vs) (.inr (TX n)) (.dat (.int 0)) = heldK C.vs ++ [(.inr (TX n), .dat (.int 0))] := put_new (fun v : List Nat × Int => v.1) (fun v => .dat (.int v.2)) hf
  have hk : (heldK C.vs).length < 1000000 := by unfold heldK; rw [List.length_map]; omega
  have nl : (nmS (C.vs.map (·.1))).length = C.vs.length := by unfold nmS; rw [List.length_map, List.length_map, List.length_map]
  have e : sem_Chest_enrol [.ref c, .dat (.str (TX n))] T = some (.ok (.dat .none), (T.set (c + 1) (.lst (nmS (C.vs.map (·.1)) ++ [.dat (tD n)]))).set (c + 2) (.dic (heldK C.vs ++ [(.inr (TX n), .dat (.int 0))]))) := by
    unfold insS at c0
    simp! only [sem_Chest_enrol, c0, nw, c1, c2, nl, hl', sem_Chest_enrol_t2, u_gets, u_gets0, u_putC hk, pn, tD, u_appS]
  have e1 : nmS ((C.vs ++ [((n, 0) : List Nat × Int)]).map (·.1)) = nmS (C.vs.map (·.1)) ++ [.dat (tD n)] := by simp [nmS]
  have e2 : heldK (C.vs ++ [(n, 0)]) = heldK C.vs ++ [(.inr (TX n), .dat (.int 0))] := by simp [heldK]
  refine ⟨_, e, ⟨⟨?_, ?_, ?_, ?_, ?_, ?_, fun w hw => ?_, h.ca⟩, ⟨?_, k.nw, k.na, ?_, k.lw, fun v hv => ?_, k.iw, fun v hv => ?_, k.pw, k.wn, fun w hw x hx => ?_, k.wl⟩, ?_, fun i x hx hi => ?_, fun i hi => .inl hi⟩⟩
  · rw [u_gets (by omega), u_gets (by omega)]; exact c0
  · rw [u_gets (by omega), u_gets0 (by omega)]; exact congrArg (fun x => some (Cell.lst x)) e1.symm
  · rw [u_gets0 (by rw [List.length_set]; omega)]; exact congrArg (fun x => some (Cell.dic x)) e2.symm
  · rw [u_gets (by omega), u_gets (by omega)]; exact h.c3
  · rw [u_gets (by omega), u_gets (by omega)]; exact h.c4
  · rw [u_gets (by omega), u_gets (by omega)]; exact h.c5
  · have := h.ca w hw
    rw [u_gets (by omega), u_gets (by omega)]; exact h.cw w hw
  · show ((C.vs ++ [((n, 0) : List Nat × Int)]).map (·.1)).Nodup
    rw [List.map_append]
    refine List.nodup_append.mpr ⟨k.nv, List.pairwise_singleton _ _, fun a ha b hb z => ?_⟩
    rw [List.map_cons, List.map_nil, List.mem_singleton] at hb
    exact hf (by rw [show n = a from (z.trans hb).symm]; exact ha)
  · show (C.vs ++ [(n, 0)]).length ≤ 20
    rw [List.length_append, List.length_singleton]; omega
  · rcases List.mem_append.mp hv with z | z
    · exact k.iv v z
    · rw [List.mem_singleton.mp z]; exact hn
  · rcases List.mem_append.mp hv with z | z
    · exact k.pv v z
    · rw [List.mem_singleton.mp z]; exact Int.le_refl _
  · show x ∈ (C.vs ++ [((n, 0) : List Nat × Int)]).map (·.1)
    rw [List.map_append]
    exact List.mem_append_left _ (k.wv w hw x hx)
  · rw [List.length_set, List.length_set]; exact Nat.le_refl _
  · have h1 : i ≠ c + 1 := fun z => hi (.inl (by omega))
    have h2 : i ≠ c + 2 := fun z => hi (.inl (by omega))
    rw [u_gets (by omega), u_gets (by omega)]; exact hx

theorem u_geta {A B : Store} {i : Nat} (h : i < A.length) : (A ++ B)[i]? = A[i]? := List.getElem?_append_left h
theorem nd_inj {α β : Type} {key : α → β} {x y : α} : ∀ {l : List α}, (l.map key).Nodup → x ∈ l → y ∈ l → key x = key y → x = y
  | [], _, hx, _, _ => by cases hx
  | z :: l, h, hx, hy, e => by
    rw [List.map_cons, List.nodup_cons] at h
    obtain ⟨h1, h2⟩ := h
    rcases List.mem_cons.mp hx with ex | hx <;> rcases List.mem_cons.mp hy with ey | hy
    · rw [ex, ey]
    · exact absurd (List.mem_map.mpr ⟨y, hy, by rw [← e, ex]⟩) h1
    · exact absurd (List.mem_map.mpr ⟨x, hx, by rw [e, ey]⟩) h1
    · exact nd_inj h2 hx hy e
def Cs.propose (C : Cs) (n : List Nat) (co : Int) (ad : Nat) : Cs := { C with ws := C.ws ++ [⟨n, co, ad, []⟩] }
theorem propose_ok {T : Store} {c : Nat} {C : Cs} (h : Ch T c C) (k : Ok C) {n : List Nat} (hn : isNm n) (hf : n ∉ C.ws.map Wk.nm) (hl : C.ws.length < 12) {co : Int} (h0 : 1 ≤ co) (h1 : co ≤ 1000000000) :
    ∃ T', sem_Chest_propose [.ref c, .dat (.str (TX n)), .dat (.int co)] T = some (.ok (.dat .none), T') ∧ Go c C T (C.propose n co T.length) T' := by
  have c0 := h.c0
  have c3 := h.c3
  have c4 := h.c4
  have c5 := h.c5
  have hlt := h.lt
  have nw := new_ev hn c3 hf
  have hl' : ¬ ((C.ws.length : Int) ≥ 12) := by omega
  have n0 : ¬ co < 1 := by omega
  have n1 : ¬ co > 1000000000 := by omega
  have p4 : putS (priceK C.ws) (.inr (TX n)) (.dat (.int co)) = priceK C.ws ++ [(.inr (TX n), .dat (.int co))] := put_new Wk.nm (fun w => .dat (.int w.co)) hf
  have p5 : putS (wishK C.ws) (.inr (TX n)) (.ref T.length) = wishK C.ws ++ [(.inr (TX n), .ref T.length)] := put_new Wk.nm (fun w => .ref w.ad) hf
  have k4 : (priceK C.ws).length < 1000000 := by unfold priceK; rw [List.length_map]; omega
  have k5 : (wishK C.ws).length < 1000000 := by unfold wishK; rw [List.length_map]; omega
  have nl : (nmS (C.ws.map Wk.nm)).length = C.ws.length := by unfold nmS; rw [List.length_map, List.length_map, List.length_map]
  have e : sem_Chest_propose [.ref c, .dat (.str (TX n)), .dat (.int co)] T = some (.ok (.dat .none), List.set (α := Cell) (List.append (α := Cell) ((T.set (c + 3) (.lst (nmS (C.ws.map Wk.nm) ++ [.dat (tD n)]))).set (c + 4) (.dic (priceK C.ws ++ [(.inr (TX n), .dat (.int co))]))) [.dic []]) (c + 5) (.dic (wishK C.ws ++ [(.inr (TX n), .ref T.length)]))) := by
    unfold insS at c0
    rw [List.append_eq]
    simp! only [sem_Chest_propose, c0, nw, c3, n0, n1, sem_Chest_propose_t2, nl, hl', sem_Chest_propose_t3, u_gets, u_gets0, u_geta, List.length_set, c4, c5, u_putC k4, u_putC k5, p4, p5, tD, u_appS]
  have e3 : nmS ((C.ws ++ [(⟨n, co, T.length, []⟩ : Wk)]).map Wk.nm) = nmS (C.ws.map Wk.nm) ++ [.dat (tD n)] := by simp [nmS]
  have e4 : priceK (C.ws ++ [⟨n, co, T.length, []⟩]) = priceK C.ws ++ [(.inr (TX n), .dat (.int co))] := by simp [priceK]
  have e5 : wishK (C.ws ++ [⟨n, co, T.length, []⟩]) = wishK C.ws ++ [(.inr (TX n), .ref T.length)] := by simp [wishK]
  have hT : List.set (α := Cell) (List.append (α := Cell) ((T.set (c + 3) (.lst (nmS (C.ws.map Wk.nm) ++ [.dat (tD n)]))).set (c + 4) (.dic (priceK C.ws ++ [(.inr (TX n), .dat (.int co))]))) [.dic []]) (c + 5) (.dic (wishK C.ws ++ [(.inr (TX n), .ref T.length)])) =
      (((T ++ [Cell.dic []]).set (c + 3) (.lst (nmS ((C.ws ++ [(⟨n, co, T.length, []⟩ : Wk)]).map Wk.nm)))).set (c + 4) (.dic (priceK (C.ws ++ [⟨n, co, T.length, []⟩])))).set (c + 5) (.dic (wishK (C.ws ++ [⟨n, co, T.length, []⟩]))) := by
    rw [List.append_eq, e3, e4, e5, List.set_append_left _ _ (show c + 3 < T.length by omega), List.set_append_left _ _ (show c + 4 < _ by rw [List.length_set]; omega)]
  rw [hT] at e
  refine ⟨_, e, ⟨⟨?_, ?_, ?_, ?_, ?_, ?_, fun w hw => ?_, fun w hw => ?_⟩, ⟨k.nv, ?_, ?_, k.lv, ?_, k.iv, fun w hw => ?_, k.pv, fun w hw => ?_, fun w hw => ?_, fun w hw x hx => ?_, k.wl⟩, ?_, fun i x hx hi => ?_, fun i hi => ?_⟩⟩
  · rw [u_gets (by omega), u_gets (by omega), u_gets (by omega)]; exact st_app c0 _
  · rw [u_gets (by omega), u_gets (by omega), u_gets (by omega)]; exact st_app h.c1 _
  · rw [u_gets (by omega), u_gets (by omega), u_gets (by omega)]; exact st_app h.c2 _
  · rw [u_gets (by omega), u_gets (by omega), u_gets0 (by rw [List.length_append]; omega)]; rfl
  · rw [u_gets (by omega), u_gets0 (by rw [List.length_set, List.length_append]; omega)]; rfl
  · rw [u_gets0 (by rw [List.length_set, List.length_set, List.length_append]; omega)]; rfl
  · rcases List.mem_append.mp hw with z | z
    · have := h.ca w z
      rw [u_gets (by omega), u_gets (by omega), u_gets (by omega)]; exact st_app (h.cw w z) _
    · rw [List.mem_singleton.mp z]
      show _[T.length]? = _
      rw [u_gets (by omega), u_gets (by omega), u_gets (by omega)]; exact u_get0
  · rcases List.mem_append.mp hw with z | z
    · exact h.ca w z
    · rw [List.mem_singleton.mp z]
      show ¬ (c ≤ T.length ∧ T.length < c + 6)
      omega
  · show ((C.ws ++ [(⟨n, co, T.length, []⟩ : Wk)]).map Wk.nm).Nodup
    rw [List.map_append]
    refine List.nodup_append.mpr ⟨k.nw, List.pairwise_singleton _ _, fun a ha b hb z => ?_⟩
    rw [List.map_cons, List.map_nil, List.mem_singleton] at hb
    exact hf (by rw [show n = a from (z.trans hb).symm]; exact ha)
  · show ((C.ws ++ [(⟨n, co, T.length, []⟩ : Wk)]).map Wk.ad).Nodup
    rw [List.map_append]
    refine List.nodup_append.mpr ⟨k.na, List.pairwise_singleton _ _, fun a ha b hb z => ?_⟩
    rw [List.map_cons, List.map_nil, List.mem_singleton] at hb
    obtain ⟨u, hu, rfl⟩ := List.mem_map.mp ha
    have := st_lt (h.cw u hu)
    have : u.ad = T.length := z.trans hb
    omega
  · show (C.ws ++ [_]).length ≤ 12
    rw [List.length_append, List.length_singleton]; omega
  · rcases List.mem_append.mp hw with z | z
    · exact k.iw w z
    · rw [List.mem_singleton.mp z]; exact hn
  · rcases List.mem_append.mp hw with z | z
    · exact k.pw w z
    · rw [List.mem_singleton.mp z]; exact ⟨h0, h1⟩
  · rcases List.mem_append.mp hw with z | z
    · exact k.wn w z
    · rw [List.mem_singleton.mp z]; exact List.nodup_nil
  · rcases List.mem_append.mp hw with z | z
    · exact k.wv w z x hx
    · rw [List.mem_singleton.mp z] at hx; cases hx
  · rw [List.length_set, List.length_set, List.length_set, List.length_append]; omega
  · have h1 : i ≠ c + 3 := fun z => hi (.inl (by omega))
    have h2 : i ≠ c + 4 := fun z => hi (.inl (by omega))
    have h3 : i ≠ c + 5 := fun z => hi (.inl (by omega))
    rw [u_gets (by omega), u_gets (by omega), u_gets (by omega)]; exact st_app hx _
  · rcases hi with hi | ⟨w, hw, e⟩
    · exact .inl (.inl hi)
    · rcases List.mem_append.mp hw with z | z
      · exact .inl (.inr ⟨w, z, e⟩)
      · rw [List.mem_singleton.mp z] at e
        exact .inr (Nat.le_of_eq e)
def Wk.wish (wn : List Nat) (f : List (List Nat) → List (List Nat)) (w : Wk) : Wk := if w.nm = wn then { w with wi := f w.wi } else w
def Cs.wish (C : Cs) (wn : List Nat) (f : List (List Nat) → List (List Nat)) : Cs := { C with ws := C.ws.map (Wk.wish wn f) }
theorem wish_nm {wn f} {w : Wk} : (Wk.wish wn f w).nm = w.nm := by unfold Wk.wish; split <;> rfl
theorem wish_co {wn f} {w : Wk} : (Wk.wish wn f w).co = w.co := by unfold Wk.wish; split <;> rfl
theorem wish_ad {wn f} {w : Wk} : (Wk.wish wn f w).ad = w.ad := by unfold Wk.wish; split <;> rfl
theorem wish_go {T : Store} {c : Nat} {C : Cs} (h : Ch T c C) (k : Ok C) {w : Wk} (hw : w ∈ C.ws) {f : List (List Nat) → List (List Nat)} (fn : (f w.wi).Nodup) (fv : ∀ n ∈ f w.wi, n ∈ C.vs.map (·.1)) :
    Go c C T (C.wish w.nm f) (T.set w.ad (.dic (wiK (f w.wi)))) := by
  have wa := h.ca w hw
  have wl := st_lt (h.cw w hw)
  have eq : ∀ u ∈ C.ws, u.nm = w.nm → u = w := fun u hu e => nd_inj k.nw hu hw e
  have e1 : (C.wish w.nm f).ws.map Wk.nm = C.ws.map Wk.nm := by unfold Cs.wish; rw [List.map_map]; exact List.map_congr_left fun u _ => wish_nm
  have e2 : (C.wish w.nm f).ws.map Wk.ad = C.ws.map Wk.ad := by unfold Cs.wish; rw [List.map_map]; exact List.map_congr_left fun u _ => wish_ad
  have e3 : priceK (C.wish w.nm f).ws = priceK C.ws := by unfold Cs.wish priceK; rw [List.map_map]; exact List.map_congr_left fun u _ => by show (_, _) = _; rw [wish_nm, wish_co]
  have e4 : wishK (C.wish w.nm f).ws = wishK C.ws := by unfold Cs.wish wishK; rw [List.map_map]; exact List.map_congr_left fun u _ => by show (_, _) = _; rw [wish_nm, wish_ad]
  have ln : (C.wish w.nm f).ws.length = C.ws.length := List.length_map _
  have mm : ∀ u ∈ (C.wish w.nm f).ws, ∃ u0 ∈ C.ws, u = Wk.wish w.nm f u0 ∧ (u = u0 ∧ u0.nm ≠ w.nm ∨ u0 = w ∧ u = { w with wi := f w.wi }) := fun u hu => by
    obtain ⟨u0, h0, rfl⟩ := List.mem_map.mp hu
    refine ⟨u0, h0, rfl, ?_⟩
    unfold Wk.wish
    by_cases e : u0.nm = w.nm
    · rw [if_pos e, eq u0 h0 e]; exact .inr ⟨rfl, rfl⟩
    · rw [if_neg e]; exact .inl ⟨rfl, e⟩
  refine ⟨⟨?_, ?_, ?_, ?_, ?_, ?_, fun u hu => ?_, fun u hu => ?_⟩, ⟨k.nv, by rw [e1]; exact k.nw, by rw [e2]; exact k.na, k.lv, by rw [ln]; exact k.lw, k.iv, fun u hu => ?_, k.pv, fun u hu => ?_, fun u hu => ?_, fun u hu x hx => ?_, k.wl⟩, by rw [List.length_set]; exact Nat.le_refl _, fun i x hx hi => ?_, fun i hi => ?_⟩
  · rw [u_gets (by omega)]; exact h.c0
  · rw [u_gets (by omega)]; exact h.c1
  · rw [u_gets (by omega)]; exact h.c2
  · rw [u_gets (by omega), e1]; exact h.c3
  · rw [u_gets (by omega), e3]; exact h.c4
  · rw [u_gets (by omega), e4]; exact h.c5
  · obtain ⟨u0, h0, _, ⟨rfl, hn⟩ | ⟨rfl, rfl⟩⟩ := mm u hu
    · rw [u_gets fun z => hn (by rw [nd_inj k.na h0 hw z.symm])]; exact h.cw _ h0
    · exact u_gets0 wl
  · obtain ⟨u0, h0, rfl, _⟩ := mm u hu
    rw [wish_ad]; exact h.ca u0 h0
  · obtain ⟨u0, h0, rfl, _⟩ := mm u hu
    rw [wish_nm]; exact k.iw u0 h0
  · obtain ⟨u0, h0, rfl, _⟩ := mm u hu
    rw [wish_co]; exact k.pw u0 h0
  · obtain ⟨u0, h0, _, ⟨rfl, hn⟩ | ⟨rfl, rfl⟩⟩ := mm u hu
    · exact k.wn _ h0
    · exact fn
  · obtain ⟨u0, h0, _, ⟨rfl, hn⟩ | ⟨rfl, rfl⟩⟩ := mm u hu
    · exact k.wv _ h0 x hx
    · exact fv x hx
  · rw [u_gets fun z => hi (.inr ⟨w, hw, z⟩)]; exact hx
  · rcases hi with hi | ⟨u, hu, e⟩
    · exact .inl (.inl hi)
    · obtain ⟨u0, h0, rfl, _⟩ := mm u hu
      rw [wish_ad] at e
      exact .inl (.inr ⟨u0, h0, e⟩)
theorem mem_split {α : Type} {x : α} {l : List α} (h : x ∈ l) : ∃ p q, l = p ++ x :: q := List.append_of_mem h
def wantF (n : List Nat) (l : List (List Nat)) : List (List Nat) := if n ∈ l then l else l ++ [n]
theorem wantF_put (n : List Nat) (l : List (List Nat)) : putS (wiK l) (.inr (TX n)) (.dat (.bool true)) = wiK (wantF n l) := by
  unfold wantF
  by_cases h : n ∈ l
  · rw [if_pos h]
    unfold putS
    rw [if_pos (by rw [List.any_eq_true]; exact ⟨(.inr (TX n), .dat (.bool true)), List.mem_map.mpr ⟨n, h, rfl⟩, by simp⟩)]
    unfold wiK
    rw [List.map_map]
    refine List.map_congr_left fun m _ => ?_
    show (if _ then _ else _) = _
    split <;> rfl
  · rw [if_neg h]
    have := put_new id (fun _ => SV.dat (.bool true)) (k := n) (v := .dat (.bool true)) (vs := l) (by simpa using h)
    unfold wiK
    rw [List.map_append]
    exact this
theorem voter_ok {T : Store} {c : Nat} {C : Cs} (h : Ch T c C) {n : List Nat} (hn : n ∈ C.vs.map (·.1)) : sem_Chest_look_voter [.ref c, .dat (.str (TX n))] T = some (.ok (.dat .none), T) := by
  have c0 := h.c0
  have c1 := h.c1
  unfold insS at c0
  unfold nmS at c1
  have hc : (C.vs.map (·.1)).contains n = true := by simpa using hn
  simp! only [sem_Chest_look_voter, c0, c1, notIn_tx, hc]
theorem work_ok {T : Store} {c : Nat} {C : Cs} (h : Ch T c C) {n : List Nat} (hn : n ∈ C.ws.map Wk.nm) : sem_Chest_look_work [.ref c, .dat (.str (TX n))] T = some (.ok (.dat .none), T) := by
  have c0 := h.c0
  have c3 := h.c3
  unfold insS at c0
  unfold nmS at c3
  have hc : (C.ws.map Wk.nm).contains n = true := by simpa using hn
  simp! only [sem_Chest_look_work, c0, c3, notIn_tx, hc]
theorem want_ok {T : Store} {c : Nat} {C : Cs} (h : Ch T c C) (k : Ok C) {n : List Nat} (hn : n ∈ C.vs.map (·.1)) {w : Wk} (hw : w ∈ C.ws) :
    ∃ T', sem_Chest_want [.ref c, .dat (.str (TX n)), .dat (.str (TX w.nm))] T = some (.ok (.dat .none), T') ∧ Go c C T (C.wish w.nm (wantF n)) T' := by
  have c0 := h.c0
  have c5 := h.c5
  have lv := voter_ok h hn
  have lw := work_ok h (List.mem_map.mpr ⟨w, hw, rfl⟩)
  obtain ⟨p, q, hs⟩ := mem_split hw
  have wa := wish_at k hs
  have ww := h.cw w hw
  have kl : (wiK w.wi).length < 1000000 := by unfold wiK; rw [List.length_map]; have := wi_len k hw; omega
  have nd : (wantF n w.wi).Nodup := by
    unfold wantF
    split
    · exact k.wn w hw
    · rename_i h
      exact List.nodup_append.mpr ⟨k.wn w hw, List.pairwise_singleton _ _, fun a ha b hb z => h (by rw [← List.mem_singleton.mp hb, ← z]; exact ha)⟩
  have mv : ∀ m ∈ wantF n w.wi, m ∈ C.vs.map (·.1) := fun m hm => by
    unfold wantF at hm
    split at hm
    · exact k.wv w hw m hm
    · rcases List.mem_append.mp hm with z | z
      · exact k.wv w hw m z
      · rw [List.mem_singleton.mp z]; exact hn
  refine ⟨_, ?_, wish_go h k hw nd mv⟩
  unfold insS at c0
  simp! only [sem_Chest_want, c0, lv, lw, c5, wa, ww, u_putC kl, wantF_put]

/-! what is told, read as data -/
def refIn (lo hi : Nat) : SV → Prop
  | .dat _ => True
  | .ref i => lo ≤ i ∧ i < hi
def Blk (T : Store) (lo hi : Nat) : Prop := ∀ i, lo ≤ i → i < hi → ∃ xs, (T[i]? = some (.lst xs) ∨ T[i]? = some (.tup xs)) ∧ ∀ x ∈ xs, refIn lo hi x
theorem omap_congr {α β : Type} {f g : α → Option β} : ∀ {l : List α}, (∀ x ∈ l, f x = g x) → omap f l = omap g l
  | [], _ => rfl
  | x :: l, h => by
    rw [u_om_cons, u_om_cons, h x List.mem_cons_self, omap_congr fun y hy => h y (List.mem_cons_of_mem _ hy)]
theorem omap_at {α β : Type} {f : α → Option β} : ∀ {xs : List α} {ys : List β}, xs.length = ys.length → (∀ (i : Nat) (x : α) (y : β), xs[i]? = some x → ys[i]? = some y → f x = some y) → omap f xs = some ys
  | [], [], _, _ => rfl
  | [], _ :: _, h, _ => by cases h
  | _ :: _, [], h, _ => by cases h
  | x :: xs, y :: ys, h, hs => by
    rw [u_om_cons, hs 0 x y rfl rfl, omap_at (by simpa using h) fun i a b ha hb => hs (i + 1) a b ha hb]
    rfl
theorem dr_blk {T T' : Store} {lo hi : Nat} (s : ∀ i x, lo ≤ i → i < hi → T[i]? = some x → T'[i]? = some x) (B : Blk T lo hi) : ∀ (n : Nat) (v : SV), refIn lo hi v → dr n T' v = dr n T v
  | 0, .dat _, _ => rfl
  | 0, .ref _, _ => rfl
  | n + 1, .dat _, _ => rfl
  | n + 1, .ref i, h => by
    obtain ⟨xs, h1, h2⟩ := B i h.1 h.2
    have e : omap (dr n T') xs = omap (dr n T) xs := omap_congr fun x hx => dr_blk s B n x (h2 x hx)
    rcases h1 with h1 | h1
    · rw [u_dr_ref, u_dr_ref, h1, s i _ h.1 h.2 h1, u_drC_lst, u_drC_lst, e]
    · rw [u_dr_ref, u_dr_ref, h1, s i _ h.1 h.2 h1, u_drC_tup, u_drC_tup, e]
/-- told: v reads as d, all of it lies from lo to hi -/
structure Td (T : Store) (lo hi : Nat) (v : SV) (d : D) : Prop where
  r : refIn lo hi v
  b : Blk T lo hi
  rd : dr 6 T v = some d
theorem Td.mono {T T' : Store} {lo hi : Nat} {v : SV} {d : D} (h : Td T lo hi v d) (s : ∀ i x, lo ≤ i → i < hi → T[i]? = some x → T'[i]? = some x) : Td T' lo hi v d :=
  ⟨h.r, fun i h1 h2 => by
    obtain ⟨xs, k1, k2⟩ := h.b i h1 h2
    exact ⟨xs, k1.imp (s i _ h1 h2) (s i _ h1 h2), k2⟩, by rw [dr_blk s h.b 6 v h.r]; exact h.rd⟩
theorem Td.app {T : Store} {lo hi : Nat} {v : SV} {d : D} (h : Td T lo hi v d) (L : Store) : Td (T ++ L) lo hi v d := h.mono fun _ _ _ _ hx => st_app hx L
theorem Td.set {T : Store} {lo hi : Nat} {v : SV} {d : D} (h : Td T lo hi v d) {j : Nat} {X : Cell} (hj : ¬ (lo ≤ j ∧ j < hi)) : Td (T.set j X) lo hi v d := h.mono fun i x h1 h2 hx => by
  rw [List.getElem?_set_ne (by rintro rfl; exact hj ⟨h1, h2⟩)]; exact hx
theorem Td.go {c : Nat} {C C' : Cs} {T T' : Store} {lo hi : Nat} {v : SV} {d : D} (h : Td T lo hi v d) (g : Go c C T C' T') (hn : ∀ i, lo ≤ i → i < hi → ¬ own c C i) : Td T' lo hi v d := h.mono fun i x h1 h2 hx => g.fr i x hx (hn i h1 h2)
theorem Go.apart {c : Nat} {C C' : Cs} {T T' : Store} (g : Go c C T C' T') {lo hi : Nat} (hh : hi ≤ T.length) (hn : ∀ i, lo ≤ i → i < hi → ¬ own c C i) : ∀ i, lo ≤ i → i < hi → ¬ own c C' i := fun i h1 h2 h3 => by
  rcases g.ow i h3 with h | h
  · exact hn i h1 h2 h
  · omega
/-! pot, given, spent -/
def rowD (v : List Nat × Int) : D := .tuple [tD v.1, .int v.2]
def rowC (v : List Nat × Int) : Cell := .tup [.dat (tD v.1), .dat (.int v.2)]
def vRefs (k n : Nat) : List SV := (List.range n).map fun i => .ref (k + (i + 1))
def voC (k : Nat) (vs : List (List Nat × Int)) : Store := .lst (vRefs k vs.length) :: vs.map rowC
theorem voters_ev {T : Store} {c : Nat} {C : Cs} (h : Ch T c C) (k : Ok C) : sem_Chest_voters [.ref c] T = some (.ok (.ref T.length), T ++ voC T.length C.vs) := by
  have c0 := h.c0
  have c1 := h.c1
  have c2 := h.c2
  have g0 := st_app c0
  have g1 := st_app c1
  have g2 := st_app c2
  have lv := k.lv
  obtain ⟨s', h1, h2⟩ := comp_inv (ok := fun st' => lstOf st' (.ref (c + 1)) = some (nmS (C.vs.map (·.1)))) (set := gN 1) (q := mYes) (f := mTup (mCons (mV 1) (mCons (mIxD (mFld 0 1 (mV 0)) (mV 1)) mNil))) (r := T.length) (e := [some (.ref c), none]) (st := T ++ [.lst []])
    (fun v : List Nat × Int => Itm.one (.dat (tD v.1))) C.vs (fun p s => s = T ++ voC T.length p)
    (fun s => s = T ++ voC T.length C.vs)
    (fun p x w s hx hp => by
      have va := held_at k hx
      have ll : p.length + (w.length + 1) ≤ 20 := by
        have := congrArg List.length hx
        rw [List.length_append, List.length_cons] at this
        omega
      subst hp
      refine ⟨by rw [u_lst_ref, g1]; rfl, _, _, rfl, .inr ⟨_, .ref (T.length + (p.length + 1)), T ++ .lst (vRefs T.length p.length) :: (p.map rowC ++ [rowC x]), vRefs T.length p.length, rfl, ?_, u_get0, by unfold vRefs; rw [List.length_map, List.length_range]; omega, ?_⟩⟩
      · unfold voC
        unfold insS at g0
        simp! only [tD, g0, g2, va, rowC]
      · rw [u_set0]
        unfold voC vRefs
        rw [List.length_append, List.length_singleton, List.range_succ, List.map_append, List.map_append]
        rfl)
    (fun s hs => ⟨by rw [hs, u_lst_ref, g1]; rfl, hs⟩) rfl
  subst h2
  rw [← ones_nm] at h1
  unfold insS at c0
  have c1' : T[c + 1]? = some (.lst (((C.vs.map (·.1)).map tD).map .dat)) := c1
  have h1' := h1
  unfold nmS at h1'
  simp only [u_lst_ref] at h1'
  simp! only [sem_Chest_voters, c0, c1', h1']
theorem om_rows {T : Store} {n k : Nat} : ∀ (vs : List (List Nat × Int)) (j : Nat), (∀ m v, vs[m]? = some v → T[k + (j + m + 1)]? = some (rowC v)) → omap (dr (n + 2) T) ((List.range' j vs.length).map fun i => .ref (k + (i + 1))) = some (vs.map rowD)
  | [], _, _ => rfl
  | v :: vs, j, h => by
    have h0 := h 0 v rfl
    have ih := om_rows (n := n) vs (j + 1) fun m u hu => by
      have := h (m + 1) u (by simpa using hu)
      rw [show j + 1 + m + 1 = j + (m + 1) + 1 by omega]
      exact this
    rw [List.length_cons, List.range'_succ, List.map_cons, u_om_cons, u_dr_ref, show k + (j + 1) = k + (j + 0 + 1) by omega, h0]
    unfold rowC
    rw [u_drC_tup]
    show ((omap (dr (n + 1) T) ([tD v.1, .int v.2].map .dat)).map PyData.tuple).bind _ = _
    rw [u_om_dat, ih]
    rfl
theorem voC_len (k : Nat) (vs : List (List Nat × Int)) : (voC k vs).length = vs.length + 1 := by unfold voC; rw [List.length_cons, List.length_map]
theorem voC_at (k : Nat) (vs : List (List Nat × Int)) (m : Nat) : (voC k vs)[m + 1]? = (vs[m]?).map rowC := by unfold voC; rw [List.getElem?_cons_succ, List.getElem?_map]
theorem voters_td (T L : Store) (vs : List (List Nat × Int)) : Td (T ++ (voC T.length vs ++ L)) T.length (T.length + (vs.length + 1)) (.ref T.length) (.list (vs.map rowD)) := by
  have at0 : (T ++ (voC T.length vs ++ L))[T.length]? = some (.lst (vRefs T.length vs.length)) := by unfold voC; exact u_get0
  have atS : ∀ m, m < vs.length → (T ++ (voC T.length vs ++ L))[T.length + (m + 1)]? = (vs[m]?).map rowC := fun m hm => by
    rw [u_get_sh, List.getElem?_append_left (by rw [voC_len]; omega), voC_at]
  refine ⟨⟨Nat.le_refl _, by omega⟩, fun i h1 h2 => ?_, ?_⟩
  · obtain ⟨j, rfl⟩ := Nat.exists_eq_add_of_le h1
    cases j with
    | zero =>
      refine ⟨_, .inl at0, fun x hx => ?_⟩
      unfold vRefs at hx
      obtain ⟨i, hi, rfl⟩ := List.mem_map.mp hx
      have := List.mem_range.mp hi
      exact ⟨by omega, by omega⟩
    | succ m =>
      have hm : m < vs.length := by omega
      refine ⟨[.dat (tD vs[m].1), .dat (.int vs[m].2)], .inr (by rw [atS m hm, List.getElem?_eq_getElem hm]; rfl), fun x hx => ?_⟩
      rcases List.mem_cons.mp hx with rfl | hx
      · exact trivial
      · rw [List.mem_singleton.mp hx]; exact trivial
  · rw [u_dr_ref, at0, u_drC_lst]
    unfold vRefs
    rw [List.range_eq_range', om_rows (n := 3) vs 0 fun m v hv => by
      have hm : m < vs.length := (List.getElem?_eq_some_iff.mp hv).1
      rw [Nat.zero_add, atS m hm, hv]
      rfl]
    rfl
def wNames (C : Cs) (w : Wk) : List (List Nat) := (C.vs.map (·.1)).filter fun n => w.wi.contains n
theorem wanting_ev {T : Store} {c : Nat} {C : Cs} (h : Ch T c C) (k : Ok C) {w : Wk} (hw : w ∈ C.ws) : sem_Chest_wanting [.ref c, .dat (.str (TX w.nm))] T = some (.ok (.ref T.length), T ++ [.lst (nmS (wNames C w))]) := by
  have c0 := h.c0
  have c1 := h.c1
  have g0 := st_app c0
  have g1 := st_app c1
  have g5 := st_app h.c5
  have gw := st_app (h.cw w hw)
  have lv := k.lv
  obtain ⟨p, q, hs⟩ := List.append_of_mem hw
  have wa := wish_at k hs
  have cm := comp_flt (ok := fun st' => lstOf st' (.ref (c + 1)) = some (nmS (C.vs.map (·.1)))) (set := gN 2) (q := mB (mInD false (mV 2) (mIxD (mFld 0 4 (mV 0)) (mV 1)))) (f := mV 2) (st := T) (e := [some (.ref c), some (.dat (.str (TX w.nm))), none])
    (fun v : List Nat => Itm.one (.dat (tD v))) (C.vs.map (·.1)) (fun n => w.wi.contains n) (fun n => .dat (tD n)) (fun acc => by rw [u_lst_ref, g1]; rfl) (by rw [List.length_map]; omega) (fun n _ => ⟨[some (.ref c), some (.dat (.str (TX w.nm))), some (.dat (tD n))], fun acc => rfl, fun acc => by
      have hv := wi_val w.wi n
      unfold insS at g0
      simp! only [tD, g0, g5, wa, gw, hv], fun _ acc => rfl⟩)
  have e1 : ((C.vs.map (·.1)).map fun v : List Nat => Itm.one (.dat (tD v))) = ones (((C.vs.map (·.1)).map tD).map .dat) := by rw [ones_map, List.map_map, List.map_map, List.map_map]; rfl
  have e2 : (((C.vs.map (·.1)).filter fun n => w.wi.contains n).map fun n => SV.dat (tD n)) = nmS (wNames C w) := by unfold nmS wNames; rw [List.map_map]; rfl
  rw [e1, e2] at cm
  unfold insS at c0
  have c1' : T[c + 1]? = some (.lst (((C.vs.map (·.1)).map tD).map .dat)) := c1
  rw [show nmS (C.vs.map (·.1)) = ((C.vs.map (·.1)).map tD).map .dat from rfl] at cm
  simp only [u_lst_ref] at cm
  simp! only [sem_Chest_wanting, c0, c1', cm]

def workD (C : Cs) (w : Wk) : D := .tuple [tD w.nm, .int w.co, .list ((wNames C w).map tD)]
def wkC1 (C : Cs) : Nat → List Wk → Store
  | _, [] => []
  | k, w :: ws => .lst (nmS (wNames C w)) :: .tup [.dat (tD w.nm), .dat (.int w.co), .ref k] :: wkC1 C (k + 2) ws
def wkRefs (k n : Nat) : List SV := (List.range n).map fun i => .ref (k + (2 * i + 2))
def wkC (C : Cs) (k : Nat) (ws : List Wk) : Store := .lst (wkRefs k ws.length) :: wkC1 C (k + 1) ws
theorem wkC1_len (C : Cs) : ∀ (ws : List Wk) (k : Nat), (wkC1 C k ws).length = 2 * ws.length
  | [], _ => rfl
  | w :: ws, k => by
    show (_ :: _ :: wkC1 C (k + 2) ws).length = _
    rw [List.length_cons, List.length_cons, wkC1_len C ws (k + 2), List.length_cons]
    omega
theorem wkC1_app (C : Cs) (x : Wk) : ∀ (ws : List Wk) (k : Nat), wkC1 C k (ws ++ [x]) = wkC1 C k ws ++ [.lst (nmS (wNames C x)), .tup [.dat (tD x.nm), .dat (.int x.co), .ref (k + 2 * ws.length)]]
  | [], _ => rfl
  | w :: ws, k => by
    show _ :: _ :: wkC1 C (k + 2) (ws ++ [x]) = _ :: _ :: (wkC1 C (k + 2) ws ++ _)
    rw [wkC1_app C x ws (k + 2), show k + 2 + 2 * ws.length = k + 2 * (w :: ws).length by rw [List.length_cons]; omega]
theorem wkC1_at (C : Cs) : ∀ (ws : List Wk) (k m : Nat) (w : Wk), ws[m]? = some w → (wkC1 C k ws)[2 * m]? = some (.lst (nmS (wNames C w))) ∧ (wkC1 C k ws)[2 * m + 1]? = some (.tup [.dat (tD w.nm), .dat (.int w.co), .ref (k + 2 * m)])
  | [], _, _, _, h => by cases h
  | u :: ws, k, 0, w, h => by cases h; exact ⟨rfl, rfl⟩
  | u :: ws, k, m + 1, w, h => by
    have := wkC1_at C ws (k + 2) m w h
    rw [show k + 2 + 2 * m = k + 2 * (m + 1) by omega] at this
    exact this
theorem wkC_len (C : Cs) (k : Nat) (ws : List Wk) : (wkC C k ws).length = 2 * ws.length + 1 := by unfold wkC; rw [List.length_cons, wkC1_len]
theorem works_ev {T : Store} {c : Nat} {C : Cs} (h : Ch T c C) (k : Ok C) : sem_Chest_works [.ref c] T = some (.ok (.ref T.length), T ++ wkC C T.length C.ws) := by
  have c0 := h.c0
  have c3 := h.c3
  have g0 := st_app c0
  have g3 := st_app c3
  have g4 := st_app h.c4
  have lw := k.lw
  obtain ⟨s', h1, h2⟩ := comp_inv (ok := fun st' => lstOf st' (.ref (c + 3)) = some (nmS (C.ws.map Wk.nm))) (set := gN 1) (q := mYes) (f := mTup (mCons (mV 1) (mCons (mIxD (mFld 0 3 (mV 0)) (mV 1)) (mCons (mMeth 0 sem_Chest_wanting (mV 0) (mCons (mV 1) mNil)) mNil)))) (r := T.length) (e := [some (.ref c), none]) (st := T ++ [.lst []])
    (fun w : Wk => Itm.one (.dat (tD w.nm))) C.ws (fun p s => s = T ++ wkC C T.length p)
    (fun s => s = T ++ wkC C T.length C.ws)
    (fun p x w s hx hp => by
      have va := price_at k hx
      have xm : x ∈ C.ws := by rw [hx]; simp
      have ll : p.length + (w.length + 1) ≤ 12 := by
        have := congrArg List.length hx
        rw [List.length_append, List.length_cons] at this
        omega
      subst hp
      have we := wanting_ev (h.app (wkC C T.length p)) k xm
      rw [show (T ++ wkC C T.length p).length = T.length + 1 + 2 * p.length by rw [List.length_append, wkC_len]; omega] at we
      refine ⟨by rw [u_lst_ref, g3]; rfl, _, _, rfl, .inr ⟨_, .ref (T.length + (2 * p.length + 2)), T ++ .lst (wkRefs T.length p.length) :: (wkC1 C (T.length + 1) p ++ [.lst (nmS (wNames C x)), .tup [.dat (tD x.nm), .dat (.int x.co), .ref (T.length + 1 + 2 * p.length)]]), wkRefs T.length p.length, rfl, ?_, u_get0, by unfold wkRefs; rw [List.length_map, List.length_range]; omega, ?_⟩⟩
      · unfold insS at g0
        have el : T.length + (wkC C T.length p).length = T.length + 1 + 2 * p.length := by rw [wkC_len]; omega
        have e2 : T.length + 1 + 2 * p.length + 1 = T.length + (2 * p.length + 2) := by omega
        simp! only [tD, g0, g4, va, we]
        unfold wkC
        simp only [List.cons_append, List.nil_append, List.length_append, List.length_cons, List.length_nil, List.append_assoc, wkC1_len, Nat.zero_add]
      · rw [u_set0, ← wkC1_app]
        unfold wkC wkRefs
        rw [List.length_append, List.length_singleton, List.range_succ, List.map_append]
        rfl)
    (fun s hs => ⟨by rw [hs, u_lst_ref, g3]; rfl, hs⟩) rfl
  subst h2
  rw [← ones_nm] at h1
  unfold insS at c0
  have c3' : T[c + 3]? = some (.lst (((C.ws.map Wk.nm).map tD).map .dat)) := c3
  rw [show nmS (C.ws.map Wk.nm) = ((C.ws.map Wk.nm).map tD).map .dat from rfl] at h1
  simp only [u_lst_ref] at h1
  simp! only [sem_Chest_works, c0, c3', h1]
theorem om_works {C : Cs} {T : Store} {n k : Nat} : ∀ (ws : List Wk) (j : Nat), (∀ m w, ws[m]? = some w → ∃ a, T[k + (2 * (j + m) + 2)]? = some (.tup [.dat (tD w.nm), .dat (.int w.co), .ref a]) ∧ T[a]? = some (.lst (nmS (wNames C w)))) → omap (dr (n + 3) T) ((List.range' j ws.length).map fun i => .ref (k + (2 * i + 2))) = some (ws.map (workD C))
  | [], _, _ => rfl
  | w :: ws, j, h => by
    obtain ⟨a, h0, h1⟩ := h 0 w rfl
    have ih := om_works (n := n) ws (j + 1) fun m u hu => by
      have := h (m + 1) u (by simpa using hu)
      rw [show j + 1 + m = j + (m + 1) by omega]
      exact this
    rw [show j + 0 = j from rfl] at h0
    rw [List.length_cons, List.range'_succ, List.map_cons, u_om_cons, u_dr_ref, h0, u_drC_tup, u_om_cons, u_om_cons, u_om_cons, u_om_nil, u_dr_ref, h1, u_drC_lst, show nmS (wNames C w) = ((wNames C w).map tD).map .dat from rfl, u_om_dat, ih]
    rfl
theorem works_td (T L : Store) (C : Cs) (ws : List Wk) : Td (T ++ (wkC C T.length ws ++ L)) T.length (T.length + (2 * ws.length + 1)) (.ref T.length) (.list (ws.map (workD C))) := by
  have at0 : (T ++ (wkC C T.length ws ++ L))[T.length]? = some (.lst (wkRefs T.length ws.length)) := by unfold wkC; exact u_get0
  have atS : ∀ m, m < 2 * ws.length → (T ++ (wkC C T.length ws ++ L))[T.length + (m + 1)]? = (wkC1 C (T.length + 1) ws)[m]? := fun m hm => by
    rw [u_get_sh, List.getElem?_append_left (by rw [wkC_len]; omega)]
    unfold wkC
    rw [List.getElem?_cons_succ]
  have atW : ∀ m w, ws[m]? = some w → (T ++ (wkC C T.length ws ++ L))[T.length + (2 * m + 1)]? = some (.lst (nmS (wNames C w))) ∧ (T ++ (wkC C T.length ws ++ L))[T.length + (2 * m + 2)]? = some (.tup [.dat (tD w.nm), .dat (.int w.co), .ref (T.length + (2 * m + 1))]) := fun m w hw => by
    have hm : m < ws.length := (List.getElem?_eq_some_iff.mp hw).1
    obtain ⟨a1, a2⟩ := wkC1_at C ws (T.length + 1) m w hw
    rw [atS (2 * m) (by omega), show 2 * m + 2 = (2 * m + 1) + 1 by omega, atS (2 * m + 1) (by omega), a1, a2, show T.length + 1 + 2 * m = T.length + (2 * m + 1) by omega]
    exact ⟨rfl, rfl⟩
  refine ⟨⟨Nat.le_refl _, by omega⟩, fun i h1 h2 => ?_, ?_⟩
  · obtain ⟨j, rfl⟩ := Nat.exists_eq_add_of_le h1
    by_cases j0 : j = 0
    · subst j0
      refine ⟨_, .inl at0, fun x hx => ?_⟩
      unfold wkRefs at hx
      obtain ⟨i, hi, rfl⟩ := List.mem_map.mp hx
      have := List.mem_range.mp hi
      exact ⟨by omega, by omega⟩
    · have hm : (j - 1) / 2 < ws.length := by omega
      obtain ⟨a1, a2⟩ := atW ((j - 1) / 2) ws[(j - 1) / 2] (List.getElem?_eq_getElem hm)
      by_cases par : (j - 1) % 2 = 0
      · rw [show 2 * ((j - 1) / 2) + 1 = j by omega] at a1
        refine ⟨_, .inl a1, fun x hx => ?_⟩
        unfold nmS at hx
        obtain ⟨d, _, rfl⟩ := List.mem_map.mp hx
        exact trivial
      · rw [show 2 * ((j - 1) / 2) + 2 = j by omega] at a2
        refine ⟨_, .inr a2, fun x hx => ?_⟩
        simp only [List.mem_cons, List.not_mem_nil, or_false] at hx
        rcases hx with rfl | rfl | rfl
        · exact trivial
        · exact trivial
        · exact ⟨by omega, by omega⟩
  · rw [u_dr_ref, at0, u_drC_lst]
    unfold wkRefs
    rw [List.range_eq_range', om_works (C := C) (n := 2) ws 0 fun m w hw => by
      obtain ⟨a1, a2⟩ := atW m w hw
      rw [Nat.zero_add]
      exact ⟨_, a2, a1⟩]
    rfl

theorem rem_at (p q : List (List Nat)) (x : List Nat) (hp : x ∉ p) : hRemS (((p ++ x :: q).map tD).map .dat) [.dat (.str (TX x))] = some (.dat .none, ((p ++ q).map tD).map .dat) := by
  unfold hRemS
  simp only
  rw [if_pos (by rw [List.all_eq_true]; intro s hs; obtain ⟨d, hd, rfl⟩ := List.mem_map.mp hs; obtain ⟨l, _, rfl⟩ := List.mem_map.mp hd; rfl)]
  have e : ((((p ++ x :: q).map tD).map SV.dat).findIdx? (isK (TX x))) = some p.length := by
    refine List.findIdx?_eq_some_iff_getElem.mpr ⟨by rw [List.length_map, List.length_map, List.length_append, List.length_cons]; omega, ?_, fun j hj => ?_⟩
    · rw [List.getElem_map, List.getElem_map, List.getElem_append_right (Nat.le_refl _)]
      simp [isK, tD]
    · rw [List.getElem_map, List.getElem_map, List.getElem_append_left hj]
      show ¬ decide (TX p[j] = TX x) = true
      rw [decide_eq_true_eq, TX_inj]
      intro z
      exact hp (z ▸ List.getElem_mem hj)
  rw [e]
  simp only [Option.map_some, Option.some.injEq, Prod.mk.injEq, true_and]
  have e3 : ((p ++ x :: q).map tD).map SV.dat = (p.map tD).map SV.dat ++ .dat (tD x) :: (q.map tD).map SV.dat := by simp
  rw [e3, List.eraseIdx_append_of_length_le (by simp)]
  simp
def Cs.withdraw (C : Cs) (n : List Nat) : Cs := { C with ws := C.ws.filter fun w => decide (w.nm ≠ n) }
theorem filter_split {p q : List Wk} {w : Wk} (h : ((p ++ w :: q).map Wk.nm).Nodup) : (p ++ w :: q).filter (fun u => decide (u.nm ≠ w.nm)) = p ++ q := by
  obtain ⟨n1, n2⟩ := nd_split h
  rw [List.filter_append, List.filter_cons, if_neg (by simp)]
  have f : ∀ l : List Wk, w.nm ∉ l.map Wk.nm → l.filter (fun u => decide (u.nm ≠ w.nm)) = l := fun l hl => List.filter_eq_self.mpr fun u hu => by
    rw [decide_eq_true_eq]
    exact fun z => hl (by rw [← z]; exact List.mem_map.mpr ⟨u, hu, rfl⟩)
  rw [f p n1, f q n2]
theorem Ok.sub {C : Cs} (k : Ok C) {ws : List Wk} (hs : ws.Sublist C.ws) {a : Int} (ha : 0 ≤ a) (b d : Int) : Ok ⟨C.vs, ws, a, b, d⟩ :=
  ⟨k.nv, (hs.map _).nodup k.nw, (hs.map _).nodup k.na, k.lv, Nat.le_trans hs.length_le k.lw, k.iv, fun w hw => k.iw w (hs.subset hw), k.pv, fun w hw => k.pw w (hs.subset hw), fun w hw => k.wn w (hs.subset hw), fun w hw => k.wv w (hs.subset hw), ha⟩
theorem withdraw_ok {T : Store} {c : Nat} {C : Cs} (h : Ch T c C) (k : Ok C) {w : Wk} (hw : w ∈ C.ws) :
    ∃ T', sem_Chest_withdraw [.ref c, .dat (.str (TX w.nm))] T = some (.ok (.dat .none), T') ∧ Go c C T (C.withdraw w.nm) T' ∧ T'.length = T.length := by
  have c0 := h.c0
  have c3 := h.c3
  have c4 := h.c4
  have c5 := h.c5
  have hlt := h.lt
  have lw := work_ok h (List.mem_map.mpr ⟨w, hw, rfl⟩)
  obtain ⟨p, q, hs⟩ := mem_split hw
  have nd : ((p ++ w :: q).map Wk.nm).Nodup := hs ▸ k.nw
  obtain ⟨n1, n2⟩ := nd_split nd
  have pa := price_at k hs
  have wa := wish_at k hs
  have e0 : C.withdraw w.nm = { C with ws := p ++ q } := by unfold Cs.withdraw; rw [hs, filter_split nd]
  have ra : hRemS (nmS (C.ws.map Wk.nm)) [.dat (.str (TX w.nm))] = some (.dat .none, nmS ((p ++ q).map Wk.nm)) := by
    have := rem_at (p.map Wk.nm) (q.map Wk.nm) w.nm n1
    rw [hs, List.map_append, List.map_append, List.map_cons]
    exact this
  have d4 : dropS (priceK C.ws) (.inr (TX w.nm)) = priceK (p ++ q) := by rw [hs]; exact drop_at Wk.nm (fun w => .dat (.int w.co)) w p q n1 n2
  have d5 : dropS (wishK C.ws) (.inr (TX w.nm)) = wishK (p ++ q) := by rw [hs]; exact drop_at Wk.nm (fun w => .ref w.ad) w p q n1 n2
  have e : sem_Chest_withdraw [.ref c, .dat (.str (TX w.nm))] T = some (.ok (.dat .none), ((T.set (c + 3) (.lst (nmS ((p ++ q).map Wk.nm)))).set (c + 4) (.dic (priceK (p ++ q)))).set (c + 5) (.dic (wishK (p ++ q)))) := by
    unfold insS at c0
    simp! only [sem_Chest_withdraw, c0, lw, c3, ra, u_gets, u_gets0, List.length_set, c4, pa, d4, c5, wa, d5]
  rw [e0]
  have hsub : (p ++ q).Sublist C.ws := by rw [hs]; exact (List.Sublist.refl p).append (List.sublist_cons_self w q)
  refine ⟨_, e, ⟨⟨?_, ?_, ?_, ?_, ?_, ?_, fun u hu => ?_, fun u hu => h.ca u (hsub.subset hu)⟩, k.sub hsub k.wl _ _, ?_, fun i x hx hi => ?_, fun i hi => ?_⟩, by rw [List.length_set, List.length_set, List.length_set]⟩
  · rw [u_gets (by omega), u_gets (by omega), u_gets (by omega)]; exact c0
  · rw [u_gets (by omega), u_gets (by omega), u_gets (by omega)]; exact h.c1
  · rw [u_gets (by omega), u_gets (by omega), u_gets (by omega)]; exact h.c2
  · rw [u_gets (by omega), u_gets (by omega), u_gets0 (by omega)]
  · rw [u_gets (by omega), u_gets0 (by rw [List.length_set]; omega)]
  · rw [u_gets0 (by rw [List.length_set, List.length_set]; omega)]
  · have := h.ca u (hsub.subset hu)
    rw [u_gets (by omega), u_gets (by omega), u_gets (by omega)]; exact h.cw u (hsub.subset hu)
  · rw [List.length_set, List.length_set, List.length_set]; exact Nat.le_refl _
  · have h1 : i ≠ c + 3 := fun z => hi (.inl (by omega))
    have h2 : i ≠ c + 4 := fun z => hi (.inl (by omega))
    have h3 : i ≠ c + 5 := fun z => hi (.inl (by omega))
    rw [u_gets (by omega), u_gets (by omega), u_gets (by omega)]; exact hx
  · rcases hi with hi | ⟨u, hu, e⟩
    · exact .inl (.inl hi)
    · exact .inl (.inr ⟨u, hsub.subset hu, e⟩)

/-! leave, unwant -/
def notN (n m : List Nat) : Bool := decide (m ≠ n)
def dropN (n : List Nat) (w : Wk) : Wk := { w with wi := w.wi.filter (notN n) }
theorem dropN_nm {n : List Nat} {w : Wk} : (dropN n w).nm = w.nm := rfl
theorem dropN_ad {n : List Nat} {w : Wk} : (dropN n w).ad = w.ad := rfl
theorem filter_notN {n : List Nat} {l : List (List Nat)} (h : n ∉ l) : l.filter (notN n) = l := List.filter_eq_self.mpr fun m hm => by
  unfold notN
  rw [decide_eq_true_eq]
  exact fun z => h (z ▸ hm)
theorem filter_mid {n : List Nat} {p q : List (List Nat)} (h : (p ++ n :: q).Nodup) : (p ++ n :: q).filter (notN n) = p ++ q := by
  obtain ⟨h1, h2, h3⟩ := List.nodup_append.mp h
  rw [List.filter_append, List.filter_cons, if_neg (by unfold notN; simp), filter_notN fun z => h3 _ z _ List.mem_cons_self rfl, filter_notN (List.nodup_cons.mp h2).1]
theorem drop_wi (l : List (List Nat)) (n : List Nat) : dropS (wiK l) (.inr (TX n)) = wiK (l.filter (notN n)) := by
  unfold dropS wiK
  rw [List.filter_map]
  refine congrArg _ (List.filter_congr fun m _ => ?_)
  show decide ((.inr (TX m) : Key) ≠ .inr (TX n)) = notN n m
  unfold notN
  by_cases h : m = n
  · rw [h]; simp
  · rw [decide_eq_true (show (.inr (TX m) : Key) ≠ .inr (TX n) by rw [ne_eq, key_ne h]; exact not_false), decide_eq_true h]
theorem Ch.wi {T : Store} {c : Nat} {C : Cs} (h : Ch T c C) {p q : List Wk} {x : Wk} (hs : C.ws = p ++ x :: q) (na : (C.ws.map Wk.ad).Nodup) (l : List (List Nat)) : Ch (T.set x.ad (.dic (wiK l))) c { C with ws := p ++ { x with wi := l } :: q } := by
  have hx : x ∈ C.ws := by rw [hs]; simp
  have wa := h.ca x hx
  have wl := st_lt (h.cw x hx)
  obtain ⟨n1, n2⟩ := nd_split (hs ▸ na)
  have e1 : (p ++ { x with wi := l } :: q).map Wk.nm = C.ws.map Wk.nm := by rw [hs, List.map_append, List.map_append]; rfl
  have e2 : priceK (p ++ { x with wi := l } :: q) = priceK C.ws := by rw [hs]; unfold priceK; rw [List.map_append, List.map_append]; rfl
  have e3 : wishK (p ++ { x with wi := l } :: q) = wishK C.ws := by rw [hs]; unfold wishK; rw [List.map_append, List.map_append]; rfl
  refine ⟨?_, ?_, ?_, ?_, ?_, ?_, fun u hu => ?_, fun u hu => ?_⟩
  · rw [u_gets (by omega)]; exact h.c0
  · rw [u_gets (by omega)]; exact h.c1
  · rw [u_gets (by omega)]; exact h.c2
  · rw [u_gets (by omega)]; show _ = some (Cell.lst (nmS ((p ++ { x with wi := l } :: q).map Wk.nm))); rw [e1]; exact h.c3
  · rw [u_gets (by omega)]; show _ = some (Cell.dic (priceK (p ++ { x with wi := l } :: q))); rw [e2]; exact h.c4
  · rw [u_gets (by omega)]; show _ = some (Cell.dic (wishK (p ++ { x with wi := l } :: q))); rw [e3]; exact h.c5
  · rcases List.mem_append.mp hu with z | z
    · rw [u_gets fun e => n1 (by rw [e]; exact List.mem_map.mpr ⟨u, z, rfl⟩)]; exact h.cw u (by rw [hs]; exact List.mem_append_left _ z)
    · rcases List.mem_cons.mp z with rfl | z
      · exact u_gets0 wl
      · rw [u_gets fun e => n2 (by rw [e]; exact List.mem_map.mpr ⟨u, z, rfl⟩)]; exact h.cw u (by rw [hs]; exact List.mem_append_right _ (List.mem_cons_of_mem _ z))
  · rcases List.mem_append.mp hu with z | z
    · exact h.ca u (by rw [hs]; exact List.mem_append_left _ z)
    · rcases List.mem_cons.mp z with rfl | z
      · exact h.ca x hx
      · exact h.ca u (by rw [hs]; exact List.mem_append_right _ (List.mem_cons_of_mem _ z))
theorem leave_loop {T : Store} {c : Nat} {C : Cs} (h : Ch T c C) (nw : (C.ws.map Wk.nm).Nodup) (na : (C.ws.map Wk.ad).Nodup) (lw : C.ws.length ≤ 12) (lq : ∀ w ∈ C.ws, w.wi.length ≤ 20) (n : List Nat) :
    ∃ T', forZ (fun st' => lstOf st' (.ref (c + 3)) = some (nmS (C.ws.map Wk.nm))) (gN 2) sem_Chest_leave_b4 [2] (ones (nmS (C.ws.map Wk.nm))) [some (.ref c), some (.dat (.str (TX n))), none] T = some (.nx [some (.ref c), some (.dat (.str (TX n))), none], T') ∧
      Ch T' c { C with ws := C.ws.map (dropN n) } ∧ T'.length = T.length ∧ ∀ i x, T[i]? = some x → (∀ w ∈ C.ws, w.ad ≠ i) → T'[i]? = some x := by
  obtain ⟨r, h1, T', rfl, h2⟩ := for_inv (ok := fun st' => lstOf st' (.ref (c + 3)) = some (nmS (C.ws.map Wk.nm))) (set := gN 2) (kl := [2]) (z := sem_Chest_leave_b4) (e := [some (.ref c), some (.dat (.str (TX n))), none]) (st := T)
    (fun w : Wk => Itm.one (.dat (tD w.nm))) C.ws (fun p e' s => e' = [some (.ref c), some (.dat (.str (TX n))), none] ∧ ∃ q, C.ws = p ++ q ∧ Ch s c { C with ws := p.map (dropN n) ++ q } ∧ s.length = T.length ∧ ∀ i x, T[i]? = some x → (∀ w ∈ C.ws, w.ad ≠ i) → s[i]? = some x)
    (fun r => ∃ T', r = (.nx [some (.ref c), some (.dat (.str (TX n))), none], T') ∧ Ch T' c { C with ws := C.ws.map (dropN n) } ∧ T'.length = T.length ∧ ∀ i x, T[i]? = some x → (∀ w ∈ C.ws, w.ad ≠ i) → T'[i]? = some x)
    (fun p x r e' s hx hP => by
      obtain ⟨he, q, hq, hc, hl, hf⟩ := hP
      have hq2 : q = x :: r := List.append_cancel_left (hq.symm.trans hx)
      subst hq2 he
      have xm : x ∈ C.ws := by rw [hx]; simp
      have nm : (p.map (dropN n) ++ x :: r).map Wk.nm = C.ws.map Wk.nm := by rw [hx, List.map_append, List.map_append, List.map_map]; rfl
      have ad : (p.map (dropN n) ++ x :: r).map Wk.ad = C.ws.map Wk.ad := by rw [hx, List.map_append, List.map_append, List.map_map]; rfl
      have c0 := hc.c0
      have c3 : s[c + 3]? = some (.lst (nmS (C.ws.map Wk.nm))) := by rw [← nm]; exact hc.c3
      have c5 := hc.c5
      have cw := hc.cw x (by simp)
      have wa : valS (wishK (p.map (dropN n) ++ x :: r)) (.inr (TX x.nm)) = some (.ref x.ad) := val_at Wk.nm (fun w => .ref w.ad) x r (p.map (dropN n)) (nd_split (nm ▸ nw)).1
      have hv := wi_val x.wi n
      have dw := drop_wi x.wi n
      unfold insS at c0
      refine ⟨by rw [u_lst_ref, c3]; rfl, _, _, rfl, ?_⟩
      by_cases hn : n ∈ x.wi
      · have hc1 : x.wi.contains n = true := by simpa using hn
        obtain ⟨pw, qw, hpw, hnp⟩ := List.eq_append_cons_of_mem hn
        have va : valS (wiK x.wi) (.inr (TX n)) = some (.dat (.bool true)) := by rw [hpw]; exact val_at id (fun _ => .dat (.bool true)) n qw pw (by simpa using hnp)
        have ew : ((p ++ [x]).map (dropN n) ++ r) = p.map (dropN n) ++ { x with wi := x.wi.filter (notN n) } :: r := by rw [List.map_append, List.append_assoc]; rfl
        refine ⟨(.nx [some (.ref c), some (.dat (.str (TX n))), some (.dat (tD x.nm))], s.set x.ad (.dic (wiK (x.wi.filter (notN n))))), ?_, rfl, r, by rw [hx, List.append_assoc]; rfl, ?_, by rw [List.length_set]; exact hl, fun i y hy hi => by rw [u_gets (hi x xm)]; exact hf i y hy hi⟩
        · simp! only [sem_Chest_leave_b4, tD, c0, c5, wa, cw, va, dw, Option.isSome_some]
        · rw [ew]; exact hc.wi rfl (by rw [show ({ C with ws := p.map (dropN n) ++ x :: r } : Cs).ws = p.map (dropN n) ++ x :: r from rfl, ad]; exact na) _
      · have hc1 : x.wi.contains n = false := by simpa using hn
        have va : valS (wiK x.wi) (.inr (TX n)) = none := val_none id (fun _ => .dat (.bool true)) (by simpa using hn)
        have ew : ((p ++ [x]).map (dropN n) ++ r) = p.map (dropN n) ++ x :: r := by
          rw [List.map_append, List.append_assoc]
          show _ ++ dropN n x :: r = _
          unfold dropN
          rw [filter_notN hn]
        refine ⟨(.nx [some (.ref c), some (.dat (.str (TX n))), some (.dat (tD x.nm))], s), ?_, rfl, r, by rw [hx, List.append_assoc]; rfl, by rw [ew]; exact hc, hl, hf⟩
        simp! only [sem_Chest_leave_b4, tD, c0, c5, wa, cw, va, Option.isSome_none])
    (fun e' s hP => by
      obtain ⟨he, q, hq, hc, hl, hf⟩ := hP
      have hq2 : q = [] := by simpa using hq
      subst hq2 he
      have nm : (C.ws.map (dropN n)).map Wk.nm = C.ws.map Wk.nm := by rw [List.map_map]; rfl
      rw [List.append_nil] at hc
      refine ⟨?_, s, rfl, hc, hl, hf⟩
      rw [u_lst_ref, hc.c3]
      show lstC (some (Cell.lst (nmS ((C.ws.map (dropN n)).map Wk.nm)))) = _
      rw [nm]; rfl)
    ⟨rfl, C.ws, rfl, h, rfl, fun i x hx _ => hx⟩
  exact ⟨T', by rw [show ones (nmS (C.ws.map Wk.nm)) = C.ws.map fun w => Itm.one (.dat (tD w.nm)) from ones_nm C.ws Wk.nm]; exact h1, h2⟩
def Cs.leave (C : Cs) (v : List Nat × Int) : Cs := { C with vs := C.vs.filter fun u => notN v.1 u.1, ws := C.ws.map (dropN v.1), well := C.well + v.2 }
theorem filter_vs {p q : List (List Nat × Int)} {v : List Nat × Int} (h : ((p ++ v :: q).map (·.1)).Nodup) : (p ++ v :: q).filter (fun u => notN v.1 u.1) = p ++ q := by
  obtain ⟨n1, n2⟩ := nd_split h
  have f : ∀ l : List (List Nat × Int), v.1 ∉ l.map (·.1) → l.filter (fun u => notN v.1 u.1) = l := fun l hl => List.filter_eq_self.mpr fun u hu => by
    unfold notN
    rw [decide_eq_true_eq]
    exact fun z => hl (by rw [← z]; exact List.mem_map.mpr ⟨u, hu, rfl⟩)
  rw [List.filter_append, List.filter_cons, if_neg (by unfold notN; simp), f p n1, f q n2]
theorem leave_ok {T : Store} {c : Nat} {C : Cs} (h : Ch T c C) (k : Ok C) {v : List Nat × Int} (hv : v ∈ C.vs) :
    ∃ T', sem_Chest_leave [.ref c, .dat (.str (TX v.1))] T = some (.ok (.dat .none), T') ∧ Go c C T (C.leave v) T' := by
  have c0 := h.c0
  have c1 := h.c1
  have c2 := h.c2
  have c3 := h.c3
  have hlt := h.lt
  have lv := voter_ok h (List.mem_map.mpr ⟨v, hv, rfl⟩)
  obtain ⟨p, q, hs⟩ := mem_split hv
  have nd : ((p ++ v :: q).map (·.1)).Nodup := hs ▸ k.nv
  obtain ⟨n1, n2⟩ := nd_split nd
  have va := held_at k hs
  have ra : hRemS (nmS (C.vs.map (·.1))) [.dat (.str (TX v.1))] = some (.dat .none, nmS ((p ++ q).map (·.1))) := by
    have := rem_at (p.map (·.1)) (q.map (·.1)) v.1 n1
    rw [hs, List.map_append, List.map_append, List.map_cons]
    exact this
  have d2 : dropS (heldK C.vs) (.inr (TX v.1)) = heldK (p ++ q) := by rw [hs]; exact drop_at (fun v : List Nat × Int => v.1) (fun v => .dat (.int v.2)) v p q n1 n2
  have f1 : ∀ w ∈ C.ws, w.ad ≠ c ∧ w.ad ≠ c + 1 ∧ w.ad ≠ c + 2 := fun w hw => by have := h.ca w hw; omega
  have hT1 : Ch (((T.set (c + 2) (.dic (heldK (p ++ q)))).set c (.ins 0 (insS c (C.well + v.2) C.gifts C.out))).set (c + 1) (.lst (nmS ((p ++ q).map (·.1))))) c { C with vs := p ++ q, well := C.well + v.2 } := by
    refine ⟨?_, ?_, ?_, ?_, ?_, ?_, fun w hw => ?_, h.ca⟩
    · rw [u_gets (by omega), u_gets0 (by rw [List.length_set]; omega)]
    · rw [u_gets0 (by rw [List.length_set, List.length_set]; omega)]
    · rw [u_gets (by omega), u_gets (by omega), u_gets0 (by omega)]
    · rw [u_gets (by omega), u_gets (by omega), u_gets (by omega)]; exact c3
    · rw [u_gets (by omega), u_gets (by omega), u_gets (by omega)]; exact h.c4
    · rw [u_gets (by omega), u_gets (by omega), u_gets (by omega)]; exact h.c5
    · obtain ⟨g0, g1, g2⟩ := f1 w hw
      rw [u_gets (by omega), u_gets (by omega), u_gets (by omega)]; exact h.cw w hw
  obtain ⟨T', lp, hc, hl, hf⟩ := leave_loop hT1 k.nw k.na k.lw (fun w hw => wi_len k hw) v.1
  have e : sem_Chest_leave [.ref c, .dat (.str (TX v.1))] T = some (.ok (.dat .none), T') := by
    unfold insS at c0 lp
    simp only [u_lst_ref] at lp
    simp! only [sem_Chest_leave, c0, lv, c1, c2, c3, va, d2, ra, u_gets, u_gets0, List.length_set, lp]
  have ev : C.leave v = { C with vs := p ++ q, ws := C.ws.map (dropN v.1), well := C.well + v.2 } := by unfold Cs.leave; rw [hs, filter_vs nd]
  rw [ev]
  have hsub : (p ++ q).Sublist C.vs := by rw [hs]; exact (List.Sublist.refl p).append (List.sublist_cons_self v q)
  have wm : ∀ u ∈ C.ws.map (dropN v.1), ∃ w ∈ C.ws, u = dropN v.1 w := fun u hu => by
    obtain ⟨w, hw, rfl⟩ := List.mem_map.mp hu
    exact ⟨w, hw, rfl⟩
  refine ⟨T', e, ⟨hc, ⟨(hsub.map _).nodup k.nv, ?_, ?_, Nat.le_trans hsub.length_le k.lv, by show (C.ws.map _).length ≤ 12; rw [List.length_map]; exact k.lw, fun u hu => k.iv u (hsub.subset hu), fun u hu => ?_, fun u hu => k.pv u (hsub.subset hu), fun u hu => ?_, fun u hu => ?_, fun u hu m hm => ?_, ?_⟩, ?_, fun i x hx hi => ?_, fun i hi => ?_⟩⟩
  · show ((C.ws.map (dropN v.1)).map Wk.nm).Nodup; rw [List.map_map]; exact k.nw
  · show ((C.ws.map (dropN v.1)).map Wk.ad).Nodup; rw [List.map_map]; exact k.na
  · obtain ⟨w, hw, rfl⟩ := wm u hu; exact k.iw w hw
  · obtain ⟨w, hw, rfl⟩ := wm u hu; exact k.pw w hw
  · obtain ⟨w, hw, rfl⟩ := wm u hu; exact (List.filter_sublist).nodup (k.wn w hw)
  · obtain ⟨w, hw, rfl⟩ := wm u hu
    obtain ⟨m1, m2⟩ := List.mem_filter.mp hm
    have := k.wv w hw m m1
    unfold notN at m2
    rw [decide_eq_true_eq] at m2
    rw [hs, List.map_append, List.map_cons] at this
    show m ∈ (p ++ q).map (·.1)
    rw [List.map_append]
    rcases List.mem_append.mp this with z | z
    · exact List.mem_append_left _ z
    · rcases List.mem_cons.mp z with z | z
      · exact absurd z m2
      · exact List.mem_append_right _ z
  · have := k.wl
    have := k.pv v hv
    show 0 ≤ C.well + v.2
    omega
  · rw [hl, List.length_set, List.length_set, List.length_set]; exact Nat.le_refl _
  · have h0 : i ≠ c := fun z => hi (.inl (by omega))
    have h1 : i ≠ c + 1 := fun z => hi (.inl (by omega))
    have h2 : i ≠ c + 2 := fun z => hi (.inl (by omega))
    refine hf i x ?_ fun w hw z => hi (.inr ⟨w, hw, z⟩)
    rw [u_gets (by omega), u_gets (by omega), u_gets (by omega)]; exact hx
  · rcases hi with hi | ⟨u, hu, e⟩
    · exact .inl (.inl hi)
    · obtain ⟨w, hw, rfl⟩ := wm u hu
      exact .inl (.inr ⟨w, hw, e⟩)
theorem wish_id {C : Cs} (k : Ok C) {w : Wk} (hw : w ∈ C.ws) {f : List (List Nat) → List (List Nat)} (hf : f w.wi = w.wi) : C.wish w.nm f = C := by
  unfold Cs.wish
  have : C.ws.map (Wk.wish w.nm f) = C.ws := by
    rw [show C.ws = C.ws.map id from (List.map_id _).symm, List.map_map]
    refine List.map_congr_left fun u hu => ?_
    show Wk.wish w.nm f u = u
    unfold Wk.wish
    split
    · rename_i e
      rw [nd_inj k.nw hu hw e, hf]
    · rfl
  rw [this]
theorem unwant_ok {T : Store} {c : Nat} {C : Cs} (h : Ch T c C) (k : Ok C) {n : List Nat} (hn : n ∈ C.vs.map (·.1)) {w : Wk} (hw : w ∈ C.ws) :
    ∃ T', sem_Chest_unwant [.ref c, .dat (.str (TX n)), .dat (.str (TX w.nm))] T = some (.ok (.dat .none), T') ∧ Go c C T (C.wish w.nm (fun l => l.filter (notN n))) T' := by
  have c0 := h.c0
  have c5 := h.c5
  have lv := voter_ok h hn
  have lw := work_ok h (List.mem_map.mpr ⟨w, hw, rfl⟩)
  obtain ⟨p, q, hs⟩ := mem_split hw
  have wa := wish_at k hs
  have ww := h.cw w hw
  have dw := drop_wi w.wi n
  unfold insS at c0
  by_cases hm : n ∈ w.wi
  · obtain ⟨pw, qw, hpw, hnp⟩ := List.eq_append_cons_of_mem hm
    have va : valS (wiK w.wi) (.inr (TX n)) = some (.dat (.bool true)) := by rw [hpw]; exact val_at id (fun _ => .dat (.bool true)) n qw pw (by simpa using hnp)
    refine ⟨T.set w.ad (.dic (wiK (w.wi.filter (notN n)))), ?_, wish_go (f := fun l => l.filter (notN n)) h k hw (List.filter_sublist.nodup (k.wn w hw)) fun m hm => k.wv w hw m (List.mem_filter.mp hm).1⟩
    simp! only [sem_Chest_unwant, c0, lv, lw, c5, wa, ww, va, dw, Option.isSome_some]
  · have va : valS (wiK w.wi) (.inr (TX n)) = none := val_none id (fun _ => .dat (.bool true)) (by simpa using hm)
    refine ⟨T, ?_, ?_⟩
    · simp! only [sem_Chest_unwant, c0, lv, lw, c5, wa, ww, va, Option.isSome_none]
    · rw [wish_id k hw (filter_notN hm)]
      exact ⟨h, k, Nat.le_refl _, fun _ _ hx _ => hx, fun _ hi => .inl hi⟩

/-! the law's own lists: names, works [name, cost, names of those who want it] -/
theorem nd_ix {α β : Type} {key : α → β} {l : List α} (h : (l.map key).Nodup) {i j : Nat} {x y : α} (hx : l[i]? = some x) (hy : l[j]? = some y) (e : key x = key y) : i = j := by
  obtain ⟨h1, h2⟩ := List.getElem?_eq_some_iff.mp hx
  obtain ⟨h3, h4⟩ := List.getElem?_eq_some_iff.mp hy
  have pw := List.pairwise_iff_getElem.mp h
  rcases Nat.lt_trichotomy i j with z | z | z
  · refine absurd ?_ (pw i j (by rw [List.length_map]; exact h1) (by rw [List.length_map]; exact h3) z)
    rw [List.getElem_map, List.getElem_map, h2, h4, e]
  · exact z
  · refine absurd ?_ (pw j i (by rw [List.length_map]; exact h3) (by rw [List.length_map]; exact h1) z)
    rw [List.getElem_map, List.getElem_map, h2, h4, e]
def rowS (w : Wk) (la : Nat) : List SV := [.dat (tD w.nm), .dat (.int w.co), .ref la]
def wkD (w : Wk) : D := .list [tD w.nm, .int w.co, .list (w.wi.map tD)]
def rfA (A : List (Nat × Nat)) : List SV := A.map fun a => .ref a.1
structure Ls (T : Store) (pl wl : Nat) (N : List (List Nat)) (W : List Wk) (A : List (Nat × Nat)) : Prop where
  p0 : T[pl]? = some (.lst (nmS N))
  w0 : T[wl]? = some (.lst (rfA A))
  ln : A.length = W.length
  ra : ∀ (i : Nat) (a : Nat × Nat) (w : Wk), A[i]? = some a → W[i]? = some w → T[a.1]? = some (.lst (rowS w a.2))
  la : ∀ (i : Nat) (a : Nat × Nat) (w : Wk), A[i]? = some a → W[i]? = some w → T[a.2]? = some (.lst (nmS w.wi))
def aL (pl wl : Nat) (A : List (Nat × Nat)) : List Nat := pl :: wl :: (A.map (·.1) ++ A.map (·.2))
theorem aL_mem {pl wl : Nat} {A : List (Nat × Nat)} {i : Nat} : i ∈ aL pl wl A ↔ i = pl ∨ i = wl ∨ ∃ a ∈ A, i = a.1 ∨ i = a.2 := by
  unfold aL
  rw [List.mem_cons, List.mem_cons, List.mem_append, List.mem_map, List.mem_map]
  constructor
  · rintro (h | h | ⟨a, h, e⟩ | ⟨a, h, e⟩)
    · exact .inl h
    · exact .inr (.inl h)
    · exact .inr (.inr ⟨a, h, .inl e.symm⟩)
    · exact .inr (.inr ⟨a, h, .inr e.symm⟩)
  · rintro (h | h | ⟨a, h, e | e⟩)
    · exact .inl h
    · exact .inr (.inl h)
    · exact .inr (.inr (.inl ⟨a, h, e.symm⟩))
    · exact .inr (.inr (.inr ⟨a, h, e.symm⟩))
section
variable {T T' : Store} {pl wl c : Nat} {N N' : List (List Nat)} {W W' : List Wk} {A A' : List (Nat × Nat)} {C C' : Cs}
theorem Ls.get (h : Ls T pl wl N W A) {i : Nat} {a : Nat × Nat} (ha : A[i]? = some a) : ∃ w, W[i]? = some w := by
  have := (List.getElem?_eq_some_iff.mp ha).1
  exact ⟨_, List.getElem?_eq_getElem (by rw [← h.ln]; exact this)⟩
theorem Ls.get' (h : Ls T pl wl N W A) {i : Nat} {w : Wk} (ha : W[i]? = some w) : ∃ a, A[i]? = some a := by
  have := (List.getElem?_eq_some_iff.mp ha).1
  exact ⟨_, List.getElem?_eq_getElem (by rw [h.ln]; exact this)⟩
theorem Ls.at (h : Ls T pl wl N W A) {i : Nat} (hi : i ∈ aL pl wl A) : ∃ x, T[i]? = some x := by
  rcases aL_mem.mp hi with rfl | rfl | ⟨a, ha, e⟩
  · exact ⟨_, h.p0⟩
  · exact ⟨_, h.w0⟩
  · obtain ⟨j, hj⟩ := List.mem_iff_getElem?.mp ha
    obtain ⟨w, hw⟩ := h.get hj
    rcases e with rfl | rfl
    · exact ⟨_, h.ra j a w hj hw⟩
    · exact ⟨_, h.la j a w hj hw⟩
theorem aL_1 {j : Nat} {a : Nat × Nat} (h : A[j]? = some a) : a.1 ∈ aL pl wl A := aL_mem.mpr (.inr (.inr ⟨a, List.mem_of_getElem? h, .inl rfl⟩))
theorem aL_2 {j : Nat} {a : Nat × Nat} (h : A[j]? = some a) : a.2 ∈ aL pl wl A := aL_mem.mpr (.inr (.inr ⟨a, List.mem_of_getElem? h, .inr rfl⟩))
theorem aL_p : pl ∈ aL pl wl A := aL_mem.mpr (.inl rfl)
theorem aL_w : wl ∈ aL pl wl A := aL_mem.mpr (.inr (.inl rfl))
theorem Ls.mono (h : Ls T pl wl N W A) (f : ∀ i x, i ∈ aL pl wl A → T[i]? = some x → T'[i]? = some x) : Ls T' pl wl N W A :=
  ⟨f _ _ aL_p h.p0, f _ _ aL_w h.w0, h.ln, fun i a w ha hw => f _ _ (aL_1 ha) (h.ra i a w ha hw), fun i a w ha hw => f _ _ (aL_2 ha) (h.la i a w ha hw)⟩
theorem Ls.app (h : Ls T pl wl N W A) (L : Store) : Ls (T ++ L) pl wl N W A := h.mono fun _ _ _ hx => st_app hx L
/-- all apart -/
structure Ap (pl wl : Nat) (A : List (Nat × Nat)) : Prop where
  pw : pl ≠ wl
  pa : ∀ a ∈ A, pl ≠ a.1 ∧ pl ≠ a.2 ∧ wl ≠ a.1 ∧ wl ≠ a.2
  ab : ∀ a ∈ A, ∀ b ∈ A, a.1 ≠ b.2
  n1 : (A.map (·.1)).Nodup
  n2 : (A.map (·.2)).Nodup
theorem Ap.sub {B : List (Nat × Nat)} (h : Ap pl wl A) (s : B.Sublist A) : Ap pl wl B := ⟨h.pw, fun a ha => h.pa a (s.subset ha), fun a ha b hb => h.ab a (s.subset ha) b (s.subset hb), (s.map _).nodup h.n1, (s.map _).nodup h.n2⟩
theorem Ls.setP (h : Ls T pl wl N W A) (q : Ap pl wl A) (N' : List (List Nat)) : Ls (T.set pl (.lst (nmS N'))) pl wl N' W A :=
  ⟨u_gets0 (st_lt h.p0), by rw [u_gets q.pw]; exact h.w0, h.ln, fun i a w ha hw => by rw [u_gets (q.pa a (List.mem_of_getElem? ha)).1]; exact h.ra i a w ha hw, fun i a w ha hw => by rw [u_gets (q.pa a (List.mem_of_getElem? ha)).2.1]; exact h.la i a w ha hw⟩
theorem Ap.inj2 (q : Ap pl wl A) {i j : Nat} {a b : Nat × Nat} (ha : A[i]? = some a) (hb : A[j]? = some b) (e : a.2 = b.2) : i = j := by
  exact nd_ix q.n2 ha hb e
theorem Ls.setI (h : Ls T pl wl N W A) (q : Ap pl wl A) {j : Nat} {a : Nat × Nat} {w : Wk} (ha : A[j]? = some a) (hw : W[j]? = some w) (l : List (List Nat)) : Ls (T.set a.2 (.lst (nmS l))) pl wl N (W.set j { w with wi := l }) A := by
  have am := List.mem_of_getElem? ha
  have pa := q.pa a am
  refine ⟨by rw [u_gets (Ne.symm pa.2.1)]; exact h.p0, by rw [u_gets (Ne.symm pa.2.2.2)]; exact h.w0, by rw [List.length_set]; exact h.ln, fun i b u hb hu => ?_, fun i b u hb hu => ?_⟩
  · rw [u_gets (Ne.symm (q.ab b (List.mem_of_getElem? hb) a am))]
    by_cases e : j = i
    · subst e
      rw [ha] at hb
      cases hb
      rw [List.getElem?_set_self (List.getElem?_eq_some_iff.mp hw).1] at hu
      cases hu
      exact h.ra j a w ha hw
    · rw [List.getElem?_set_ne e] at hu
      exact h.ra i b u hb hu
  · by_cases e : j = i
    · subst e
      rw [ha] at hb
      cases hb
      rw [List.getElem?_set_self (List.getElem?_eq_some_iff.mp hw).1] at hu
      cases hu
      exact u_gets0 (st_lt (h.la j a w ha hw))
    · rw [List.getElem?_set_ne e] at hu
      rw [u_gets fun z => e (q.inj2 ha hb z)]
      exact h.la i b u hb hu
theorem Ls.rdR (h : Ls T pl wl N W A) {j : Nat} {a : Nat × Nat} {w : Wk} (ha : A[j]? = some a) (hw : W[j]? = some w) (n : Nat) : dr (n + 3) T (.ref a.1) = some (wkD w) := by
  rw [u_dr_ref, h.ra j a w ha hw]
  unfold rowS
  rw [u_drC_lst, u_om_cons, u_om_cons, u_om_cons, u_om_nil, u_dr_ref, h.la j a w ha hw, u_drC_lst, show nmS w.wi = (w.wi.map tD).map .dat from rfl, u_om_dat]
  rfl
theorem Ls.rdW (h : Ls T pl wl N W A) (n : Nat) : omap (dr (n + 3) T) (rfA A) = some (W.map wkD) := by
  unfold rfA
  refine omap_at (by rw [List.length_map, List.length_map]; exact h.ln) fun i x y hx hy => ?_
  rw [List.getElem?_map] at hx hy
  cases ha : A[i]? with
  | none => rw [ha] at hx; cases hx
  | some a =>
    cases hw : W[i]? with
    | none => rw [hw] at hy; cases hy
    | some w =>
      rw [ha] at hx
      rw [hw] at hy
      cases hx
      cases hy
      exact h.rdR ha hw n
theorem Ls.rdP (h : Ls T pl wl N W A) (n : Nat) : dr (n + 1) T (.ref pl) = some (.list (N.map tD)) := by
  rw [u_dr_ref, h.p0, u_drC_lst, show nmS N = (N.map tD).map .dat from rfl, u_om_dat]
  rfl
theorem Ls.rdL (h : Ls T pl wl N W A) (n : Nat) : dr (n + 4) T (.ref wl) = some (.list (W.map wkD)) := by
  rw [u_dr_ref, h.w0, u_drC_lst, h.rdW n]
  rfl
structure In (c pl wl : Nat) (T : Store) (C : Cs) (A : List (Nat × Nat)) : Prop where
  ch : Ch T c C
  ok : Ok C
  ls : Ls T pl wl (C.vs.map (·.1)) C.ws A
  nd : Ap pl wl A
  ap : ∀ i ∈ aL pl wl A, ¬ own c C i
def mine (c pl wl : Nat) (C : Cs) (A : List (Nat × Nat)) (i : Nat) : Prop := own c C i ∨ i ∈ aL pl wl A
structure To (c pl wl : Nat) (T : Store) (C : Cs) (A : List (Nat × Nat)) (T' : Store) (C' : Cs) (A' : List (Nat × Nat)) : Prop where
  i : In c pl wl T' C' A'
  le : T.length ≤ T'.length
  fr : ∀ i x, T[i]? = some x → ¬ mine c pl wl C A i → T'[i]? = some x
  nw : ∀ i, mine c pl wl C' A' i → mine c pl wl C A i ∨ T.length ≤ i
theorem In.lt (h : In c pl wl T C A) {i : Nat} (hi : mine c pl wl C A i) : i < T.length := by
  rcases hi with hi | hi
  · exact h.ch.own_lt hi
  · obtain ⟨x, hx⟩ := h.ls.at hi
    exact st_lt hx
theorem In.app (h : In c pl wl T C A) (L : Store) : In c pl wl (T ++ L) C A := ⟨h.ch.app L, h.ok, h.ls.app L, h.nd, h.ap⟩
theorem To.refl (h : In c pl wl T C A) : To c pl wl T C A T C A := ⟨h, Nat.le_refl _, fun _ _ hx _ => hx, fun _ hi => .inl hi⟩
theorem To.app (h : In c pl wl T C A) (L : Store) : To c pl wl T C A (T ++ L) C A := ⟨h.app L, by rw [List.length_append]; omega, fun _ _ hx _ => st_app hx L, fun _ hi => .inl hi⟩
theorem To.keep (t : To c pl wl T C A T' C' A') {i : Nat} {x : Cell} (hx : T[i]? = some x) (hn : ¬ mine c pl wl C A i) : T'[i]? = some x ∧ ¬ mine c pl wl C' A' i := ⟨t.fr i x hx hn, fun h => by
  rcases t.nw i h with h | h
  · exact hn h
  · have := st_lt hx; omega⟩
theorem To.trans {T2 : Store} {C2 : Cs} {A2 : List (Nat × Nat)} (t : To c pl wl T C A T' C' A') (u : To c pl wl T' C' A' T2 C2 A2) : To c pl wl T C A T2 C2 A2 := ⟨u.i, Nat.le_trans t.le u.le, fun i x hx hn => by
  obtain ⟨h1, h2⟩ := t.keep hx hn
  exact u.fr i x h1 h2, fun i hi => by
  rcases u.nw i hi with h | h
  · exact t.nw i h
  · exact .inr (Nat.le_trans t.le h)⟩
theorem In.ch1 (h : In c pl wl T C A) (f1 : ∀ i x, T[i]? = some x → i ∉ aL pl wl A → T'[i]? = some x) : Ch T' c C := h.ch.mono fun i x hx ho => f1 i x hx fun z => h.ap i z ho
theorem to_of {T1 : Store} (h : In c pl wl T C A) (f1 : ∀ i x, T[i]? = some x → i ∉ aL pl wl A → T1[i]? = some x) (l1 : T.length ≤ T1.length) (ls : Ls T1 pl wl (C'.vs.map (·.1)) C'.ws A') (nd : Ap pl wl A')
    (hn : ∀ i ∈ aL pl wl A', i ∈ aL pl wl A ∨ T.length ≤ i) (g : Go c C T1 C' T') : To c pl wl T C A T' C' A' := by
  have hap : ∀ i ∈ aL pl wl A', ¬ own c C i := fun i hi ho => by
    rcases hn i hi with z | z
    · exact h.ap i z ho
    · have := h.ch.own_lt ho; omega
  refine ⟨⟨g.ch, g.ok, ls.mono fun i x hi hx => g.fr i x hx (hap i hi), nd, fun i hi ho => ?_⟩, Nat.le_trans l1 g.le, fun i x hx hm => g.fr i x (f1 i x hx fun z => hm (.inr z)) fun z => hm (.inl z), fun i hi => ?_⟩
  · rcases g.ow i ho with z | z
    · exact hap i hi z
    · obtain ⟨x, hx⟩ := ls.at hi
      have := st_lt hx
      omega
  · rcases hi with hi | hi
    · rcases g.ow i hi with z | z
      · exact .inl (.inl z)
      · exact .inr (Nat.le_trans l1 z)
    · exact (hn i hi).imp .inr id
end
theorem wish_set {C : Cs} (k : Ok C) {j : Nat} {w : Wk} (hw : C.ws[j]? = some w) (f : List (List Nat) → List (List Nat)) : (C.wish w.nm f).ws = C.ws.set j { w with wi := f w.wi } := by
  obtain ⟨hj, ej⟩ := List.getElem?_eq_some_iff.mp hw
  show C.ws.map (Wk.wish w.nm f) = _
  refine List.ext_getElem (by rw [List.length_map, List.length_set]) fun i h1 h2 => ?_
  rw [List.length_map] at h1
  rw [List.getElem_map, List.getElem_set]
  by_cases e : j = i
  · subst e
    rw [if_pos rfl, ej]
    unfold Wk.wish
    rw [if_pos rfl]
  · rw [if_neg e]
    unfold Wk.wish
    rw [if_neg]
    intro z
    exact e (nd_ix k.nw hw (List.getElem?_eq_getElem h1) z.symm)
theorem okT_wi {C : Cs} (k : Ok C) {w : Wk} (hw : w ∈ C.ws) : ∀ n ∈ w.wi, okT n := fun n hn => by
  obtain ⟨v, hv, rfl⟩ := List.mem_map.mp (k.wv w hw n hn)
  exact nm_ok (k.iv v hv)
theorem ok_tD {n : List Nat} (h : okT n) : okD 0 (tD n) := ok_tx h
theorem ok_tDs {ls : List (List Nat)} (h : ∀ l ∈ ls, okT l) : okD 1 (.list (ls.map tD)) := okD_list fun d hd => by
  obtain ⟨l, hl, rfl⟩ := List.mem_map.mp hd
  exact ok_tD (h l hl)
theorem ok_wkD {C : Cs} (k : Ok C) {w : Wk} (hw : w ∈ C.ws) : okD 2 (wkD w) := okD_list fun d hd => by
  simp only [List.mem_cons, List.not_mem_nil, or_false] at hd
  rcases hd with rfl | rfl | rfl
  · exact okD_mono (ok_tD (nm_ok (k.iw w hw))) (by decide)
  · exact okD_mono (okD_sc rfl) (by decide)
  · exact ok_tDs (okT_wi k hw)
theorem ok_wkDs {C : Cs} (k : Ok C) : okD 3 (.list (C.ws.map wkD)) := okD_list fun d hd => by
  obtain ⟨w, hw, rfl⟩ := List.mem_map.mp hd
  exact ok_wkD k hw
theorem wkD_ne {u w : Wk} (h : u.nm ≠ w.nm) : PyData.eqv (wkD u) (wkD w) = false := by
  unfold wkD
  simp only [PyData.eqv, PyData.eqvAll]
  have : PyData.eqv (tD u.nm) (tD w.nm) = false := by
    show PyData.eqv (.str (TX u.nm)) (.str (TX w.nm)) = false
    rw [eqv_tx]
    exact beq_eq_false_iff_ne.mpr h
  rw [this, Bool.false_and]
theorem place_w {C : Cs} (k : Ok C) {j : Nat} {w : Wk} (hw : C.ws[j]? = some w) : placeD (C.ws.map wkD) (wkD w) = some j := by
  obtain ⟨hj, ej⟩ := List.getElem?_eq_some_iff.mp hw
  have wm := List.mem_of_getElem? hw
  unfold placeD
  rw [if_pos ⟨(ok_wkDs k).shaped (by decide), (ok_wkD k wm).shaped (by decide)⟩]
  refine List.findIdx?_eq_some_iff_getElem.mpr ⟨by rw [List.length_map]; exact hj, ?_, fun i hi => ?_⟩
  · rw [List.getElem_map, ej]
    exact eqv_self (ok_wkD k wm).1
  · rw [List.getElem_map, wkD_ne]
    · exact Bool.false_ne_true
    · intro z
      exact absurd (nd_ix k.nw (List.getElem?_eq_getElem (show i < C.ws.length by omega)) hw z) (show i ≠ j by omega)

def turnf (c k : Int) : Int := c % 900900929 + 2503 * k + 77
def spinf (c k : Int) : Int := turnf c k * turnf c k * (turnf c k + 31 * k) / 13 % 700700003
theorem spinf_nn (c k : Int) : 0 ≤ spinf c k ∧ spinf c k < 700700003 := ⟨Int.emod_nonneg _ (by decide), Int.emod_lt_of_pos _ (by decide)⟩
def spins (c : Int) (m : Nat) : List Int := (List.range m).map fun k : Nat => spinf c (k : Int)
theorem spins_ev (c : Int) (m : Nat) (hm : m ≤ 1000) : sem_law_spins [.int c, .int m] = some (.list ((spins c m).map PyData.int)) := by
  simp! [sem_law_spins, range_ni]
  rw [Int.toNat_natCast]
  refine b_word (enc := fun s : List Int => [some (.int c), some (.int (m : Int)), some (.list (s.map PyData.int)), none, none]) (cv := ni) (fun p s => s = p.map fun k : Nat => spinf c (k : Int)) (List.range m) [] rfl ?_ (fun s hs => ?_)
  · intro p k q s hx hs
    obtain ⟨hp, _, hlt⟩ := range_split hx
    have hsl : s.length = p.length := by rw [hs, List.length_map]
    refine ⟨s ++ [spinf c (k : Int)], ?_, by rw [hs, List.map_append]; rfl⟩
    have t0 : 0 ≤ c % 900900929 := Int.emod_nonneg _ (by decide)
    have t1 : c % 900900929 < 900900929 := Int.emod_lt_of_pos _ (by decide)
    have ht : c % 900900929 + 2503 * (k : Int) + 77 = turnf c k := rfl
    have b0 : 0 ≤ turnf c k := by unfold turnf; omega
    have b1 : turnf c k < 1000000000 := by unfold turnf; omega
    have m1 : hMul (.int (turnf c k)) (.int (turnf c k)) = some (.int (turnf c k * turnf c k)) := hMul_of (mulC_small (by omega))
    have m2 : hMul (.int (turnf c k * turnf c k)) (.int (turnf c k + 31 * (k : Int))) = some (.int (turnf c k * turnf c k * (turnf c k + 31 * (k : Int)))) := hMul_of (mulC_smallR (by omega))
    simp! [ni, ht, m1, m2, List.map_append]
    rfl
  · simp! [hs]
    rfl
theorem spins_at (c : Int) (m : Nat) (k : Int) (h0 : 0 ≤ k) (h1 : k < m) : atI (spins c m) k = some (spinf c k) := by
  have e : k = ((k.toNat : Nat) : Int) := by omega
  have h2 : k.toNat < m := by omega
  rw [e, atI_nat _ _ (by unfold spins; rw [List.length_map, List.length_range]; exact h2)]
  unfold spins
  rw [List.getElem?_map, List.getElem?_range h2]
  rfl
theorem nth_ex (ns : List Int) (k : Int) : ∃ z : Int, sem_law_nth [.list (ns.map PyData.int), .int k] = some (.int z) := by
  cases h : cutL ns (some k) (some (k + 1)) with
  | nil =>
    refine ⟨0, ?_⟩
    simp! [sem_law_nth, h, k_scs_int]
    rfl
  | cons x xs =>
    refine ⟨x, ?_⟩
    have sc : scsK (PyData.int x :: xs.map PyData.int) = some (PyData.int x :: xs.map PyData.int) := k_scs_int (ns := x :: xs)
    simp! [sem_law_nth, h, sc]
    rw [forL_rt (d := .int x) (by simp! [])]
    rfl

def lt26 (i : Int) : Nat := 97 + (i % 26).toNat
theorem lt26_in (i : Int) : 97 ≤ lt26 i ∧ lt26 i < 123 := by unfold lt26; omega
theorem ix_abc (i : Int) : hIxS (.str (TX abc)) (.int (i % 26)) = some (.str (TX [lt26 i])) := by
  rw [ix_tx abc _ (by decide), abc_at (i % 26) (by omega) (by omega)]
  rfl
def wordF (c : Int) : List Nat := (List.range 7).map fun j : Nat => lt26 (spinf c (j : Int))
theorem wordF_len (c : Int) : (wordF c).length = 7 := by unfold wordF; rw [List.length_map, List.length_range]
theorem wordF_in (c : Int) : ∀ x ∈ wordF c, 97 ≤ x ∧ x < 123 := fun x hx => by
  unfold wordF at hx
  obtain ⟨j, _, rfl⟩ := List.mem_map.mp hx
  exact lt26_in _
def nmF (c : Int) (k : Nat) : List Nat :=
  if spinf c 8 % 4 = 0 then [lt26 (spinf c 7 + (k : Int) / 8)] ++ (wordF c).take (k % 8) else
  if spinf c 8 % 4 = 1 then (wordF c).drop (7 - k % 8) ++ [lt26 (spinf c 7 + (k : Int) / 8)] else
  ((wordF c).take (spinf c 8 / 4 % 8).toNat).take (spinf c 8 / 32 % (((wordF c).take (spinf c 8 / 4 % 8).toNat).length + 1)).toNat ++ [lt26 (spinf c 7 + (k : Int))] ++ ((wordF c).take (spinf c 8 / 4 % 8).toNat).drop (spinf c 8 / 32 % (((wordF c).take (spinf c 8 / 4 % 8).toNat).length + 1)).toNat
theorem lt26_inj (s : Int) (a b : Nat) (ha : a < 21) (hb : b < 21) (h : lt26 (s + (a : Int)) = lt26 (s + (b : Int))) : a = b := by
  unfold lt26 at h
  omega
theorem nm_inj (c : Int) (a b : Nat) (ha : a < 21) (hb : b < 21) (h : nmF c a = nmF c b) : a = b := by
  unfold nmF at h
  have wl := wordF_len c
  split at h
  · obtain ⟨h1, h2⟩ := List.append_inj' h (by
      have := congrArg List.length h
      rw [List.length_append, List.length_append] at this
      simpa using this)
    have h3 := congrArg List.length h2
    rw [List.length_take, List.length_take, wl] at h3
    have h4 : lt26 (spinf c 7 + (a : Int) / 8) = lt26 (spinf c 7 + (b : Int) / 8) := by simpa using h1
    have := lt26_inj (spinf c 7) (a / 8) (b / 8) (by omega) (by omega) (by
      rw [show ((a / 8 : Nat) : Int) = (a : Int) / 8 by omega, show ((b / 8 : Nat) : Int) = (b : Int) / 8 by omega]; exact h4)
    omega
  · split at h
    · obtain ⟨h1, h2⟩ := List.append_inj' h rfl
      have h3 := congrArg List.length h1
      rw [List.length_drop, List.length_drop, wl] at h3
      have h4 : lt26 (spinf c 7 + (a : Int) / 8) = lt26 (spinf c 7 + (b : Int) / 8) := by simpa using h2
      have := lt26_inj (spinf c 7) (a / 8) (b / 8) (by omega) (by omega) (by
        rw [show ((a / 8 : Nat) : Int) = (a : Int) / 8 by omega, show ((b / 8 : Nat) : Int) = (b : Int) / 8 by omega]; exact h4)
      omega
    · obtain ⟨h1, _⟩ := List.append_inj' h rfl
      obtain ⟨_, h2⟩ := List.append_inj' h1 rfl
      exact lt26_inj (spinf c 7) a b ha hb (by simpa using h2)
theorem flat1 (f : Nat → Nat) : ∀ l : List Nat, (l.map fun j => [f j]).flatten = l.map f
  | [] => rfl
  | x :: l => by rw [List.map_cons, List.flatten_cons, flat1 f l]; rfl
theorem sum1 (f : Nat → Nat) : ∀ l : List Nat, ((l.map fun j => [f j]).map List.length).sum = l.length
  | [] => rfl
  | x :: l => by rw [List.map_cons, List.map_cons, List.sum_cons, sum1 f l]; simp only [List.length_cons, List.length_nil]; omega
theorem nm_in (c : Int) (k : Nat) : 1 ≤ (nmF c k).length ∧ (nmF c k).length ≤ 8 ∧ ∀ x ∈ nmF c k, 97 ≤ x ∧ x < 123 := by
  have wl := wordF_len c
  unfold nmF
  split
  · refine ⟨by rw [List.length_append, List.length_singleton]; omega, by rw [List.length_append, List.length_singleton, List.length_take]; omega, fun x hx => ?_⟩
    rcases List.mem_append.mp hx with h | h
    · rw [List.mem_singleton.mp h]; exact lt26_in _
    · exact wordF_in c x (List.mem_of_mem_take h)
  · split
    · refine ⟨by rw [List.length_append, List.length_singleton]; omega, by rw [List.length_append, List.length_singleton, List.length_drop]; omega, fun x hx => ?_⟩
      rcases List.mem_append.mp hx with h | h
      · exact wordF_in c x (List.mem_of_mem_drop h)
      · rw [List.mem_singleton.mp h]; exact lt26_in _
    · refine ⟨by rw [List.length_append, List.length_append, List.length_singleton]; omega, by rw [List.length_append, List.length_append, List.length_singleton, List.length_take, List.length_drop, List.length_take]; omega, fun x hx => ?_⟩
      rcases List.mem_append.mp hx with h | h
      · rcases List.mem_append.mp h with h | h
        · exact wordF_in c x (List.mem_of_mem_take (List.mem_of_mem_take h))
        · rw [List.mem_singleton.mp h]; exact lt26_in _
      · exact wordF_in c x (List.mem_of_mem_take (List.mem_of_mem_drop h))
theorem cut_suf {α : Type} (xs : List α) (k : Nat) : cutL xs (some (k : Int)) none = xs.drop k := by
  have h : ¬ ((k : Int) < 0) := by omega
  unfold cutL HT.sIx
  simp only [h, if_false, Int.toNat_natCast]
  by_cases hk : k ≤ xs.length
  · rw [Nat.min_eq_left hk, List.take_of_length_le (by rw [List.length_drop]; omega)]
  · rw [Nat.min_eq_right (by omega), List.drop_length, List.drop_eq_nil_of_le (by omega), List.take_nil]
theorem cut_pre' {α : Type} (xs : List α) (i : Int) (h : 0 ≤ i) : cutL xs none (some i) = xs.take i.toNat := by
  have := cutL_pre xs i.toNat
  rw [Int.toNat_of_nonneg h] at this
  exact this
theorem cut_suf' {α : Type} (xs : List α) (i : Int) (h : 0 ≤ i) : cutL xs (some i) none = xs.drop i.toNat := by
  have := cut_suf xs i.toNat
  rw [Int.toNat_of_nonneg h] at this
  exact this
theorem name_ev (c : Int) (k : Nat) (hk : k < 21) : sem_law_name [.int c, .int (k : Int)] = some (.str (TX (nmF c k))) := by
  have d9 : sem_law_spins [.int c, .int 9] = _ := spins_ev c 9 (by decide)
  have at9 : ∀ k : Int, 0 ≤ k → k < 9 → atI (spins c 9) k = some (spinf c k) := fun k h0 h1 => spins_at c 9 k h0 (by omega)
  have c7 : cutL (spins c 9) none (some 7) = (List.range 7).map fun k : Nat => spinf c (k : Int) := by
    rw [cut_pre' _ 7 (by decide)]
    rfl
  have wl := wordF_len c
  have s8 := spinf_nn c 8
  have s7 := spinf_nn c 7
  simp! [sem_law_name, d9, lit_abc, lit_nil, c7, List.map_map]
  refine b_map (cv := fun j : Nat => PyData.int (spinf c (j : Int))) (fun j => .str (TX [lt26 (spinf c (j : Int))])) (List.range 7) (by rw [List.length_range]; decide) (fun j _ => ⟨_, rfl, rfl, ?_⟩) ?_
  · simp! [ix_abc]
  have jn := join_tx ((List.range 7).map fun j : Nat => [lt26 (spinf c (j : Int))]) (by rw [sum1 (fun j => lt26 (spinf c (j : Int)))]; decide)
  rw [flat1 (fun j => lt26 (spinf c (j : Int))), List.map_map] at jn
  have jn' : hJoin (.str (TX [])) (.list ((List.range 7).map fun j : Nat => PyData.str (TX [lt26 (spinf c (j : Int))]))) = some (.str (TX (wordF c))) := jn
  have e8 : (((k % 8 : Nat) : Int)) = (k : Int) % 8 := by omega
  have k8 : ((k : Int) % 8).toNat = k % 8 := by omega
  have k7 : (7 - (k : Int) % 8).toNat = 7 - k % 8 := by omega
  unfold nmF
  by_cases h0 : spinf c 8 % 4 = 0
  · have b0 : (spinf c 8 % 4 == 0) = true := by rw [h0]; rfl
    rw [if_pos h0]
    have p1 := cut_pre' (wordF c) ((k : Int) % 8) (by omega)
    rw [k8] at p1
    have ad := add_tx [lt26 (spinf c 7 + (k : Int) / 8)] ((wordF c).take (k % 8)) (by rw [List.length_take, List.length_singleton]; omega)
    simp! [jn', at9, hEq_int, b0, ix_abc, v_cutS', cut_tx, p1, ad]
  · have b0 : (spinf c 8 % 4 == 0) = false := by simpa using h0
    rw [if_neg h0]
    by_cases h1 : spinf c 8 % 4 = 1
    · have b1 : (spinf c 8 % 4 == 1) = true := by rw [h1]; rfl
      rw [if_pos h1]
      have p1 := cut_suf' (wordF c) (7 - (k : Int) % 8) (by omega)
      rw [k7] at p1
      have ad := add_tx ((wordF c).drop (7 - k % 8)) [lt26 (spinf c 7 + (k : Int) / 8)] (by rw [List.length_drop, List.length_singleton]; omega)
      simp! [jn', at9, hEq_int, b0, sem_law_name_t4, b1, ix_abc, v_cutS', cut_tx, p1, ad]
    · have b1 : (spinf c 8 % 4 == 1) = false := by simpa using h1
      rw [if_neg h1]
      have p1 := cut_pre' (wordF c) (spinf c 8 / 4 % 8) (by omega)
      have wl2 : ((wordF c).take (spinf c 8 / 4 % 8).toNat).length ≤ 7 := by rw [List.length_take]; omega
      generalize (wordF c).take (spinf c 8 / 4 % 8).toNat = w2 at *
      have i0 := Int.emod_nonneg (spinf c 8 / 32) (show (w2.length : Int) + 1 ≠ 0 by omega)
      have p2 := cut_pre' w2 (spinf c 8 / 32 % ((w2.length : Int) + 1)) i0
      have p3 := cut_suf' w2 (spinf c 8 / 32 % ((w2.length : Int) + 1)) i0
      have ad := add_tx (w2.take (spinf c 8 / 32 % ((w2.length : Int) + 1)).toNat) [lt26 (spinf c 7 + (k : Int))] (by rw [List.length_take, List.length_singleton]; omega)
      have ad2 := add_tx (w2.take (spinf c 8 / 32 % ((w2.length : Int) + 1)).toNat ++ [lt26 (spinf c 7 + (k : Int))]) (w2.drop (spinf c 8 / 32 % ((w2.length : Int) + 1)).toNat) (by rw [List.length_append, List.length_take, List.length_drop, List.length_singleton]; omega)
      simp! [jn', at9, hEq_int, b0, sem_law_name_t4, b1, sem_law_name_t5, ix_abc, v_cutS', cut_tx, p1, len_tx, p2, p3, ad, ad2]

/-! a name that is not known yet -/
def freshL (cell : Int) (ns : List (List Nat)) : List (List Nat) := ((List.range 21).map (nmF cell)).filter fun n => !ns.contains n
theorem freshL_ne (cell : Int) (ns : List (List Nat)) (h : ns.length ≤ 20) : freshL cell ns ≠ [] := fun z => by
  have nd : ((List.range 21).map (nmF cell)).Nodup := by
    refine List.nodup_iff_pairwise_ne.mpr (List.pairwise_map.mpr ((List.nodup_range (n := 21)).imp_of_mem fun {a b} ha hb hab e => ?_))
    exact hab (nm_inj cell a b (List.mem_range.mp ha) (List.mem_range.mp hb) e)
  have := nd_len ((List.range 21).map (nmF cell)) ns nd fun x hx => by
    unfold freshL at z
    have := List.filter_eq_nil_iff.mp z x hx
    simpa using this
  rw [List.length_map, List.length_range] at this
  omega
theorem freshL_mem {cell : Int} {ns : List (List Nat)} {n : List Nat} (h : n ∈ freshL cell ns) : isNm n ∧ n ∉ ns := by
  obtain ⟨h1, h2⟩ := List.mem_filter.mp h
  obtain ⟨k, _, rfl⟩ := List.mem_map.mp h1
  exact ⟨nm_in cell k, by simpa using h2⟩
theorem fresh_ev (cell x : Int) (ns : List (List Nat)) (h : ns.length ≤ 20) : ∃ n, sem_law_fresh [.int cell, .list (ns.map tD), .int x] = some (tD n) ∧ isNm n ∧ n ∉ ns := by
  have hne := freshL_ne cell ns h
  have fp := List.length_pos_iff.mpr hne
  obtain ⟨i, ei, hi⟩ : ∃ i : Nat, x % ((freshL cell ns).length : Int) = (i : Int) ∧ i < (freshL cell ns).length := by
    have h0 := Int.emod_nonneg x (show ((freshL cell ns).length : Int) ≠ 0 by omega)
    have h1 := Int.emod_lt_of_pos x (show (0 : Int) < ((freshL cell ns).length : Int) by omega)
    exact ⟨(x % ((freshL cell ns).length : Int)).toNat, by omega, by omega⟩
  have hm := freshL_mem (List.getElem_mem hi)
  refine ⟨(freshL cell ns)[i], ?_, hm.1, hm.2⟩
  have r21 : rangeD 0 21 = (List.range 21).map ni := range_ni 21
  simp! [sem_law_fresh, r21]
  refine b_map (cv := ni) (fun k => tD (nmF cell k)) (List.range 21) (by rw [List.length_range]; decide) (fun k hk => ⟨_, rfl, rfl, ?_⟩) ?_
  · have := name_ev cell k (List.mem_range.mp hk)
    simp! [ni, this, tD]
  · simp! [h]
    rw [show (List.range 21).map (fun k => tD (nmF cell k)) = ((List.range 21).map (nmF cell)).map tD by rw [List.map_map]; rfl]
    refine b_filter (cv := tD) tD (fun n => !ns.contains n) ((List.range 21).map (nmF cell)) (by rw [List.length_map, List.length_range]; decide) (fun n _ => ⟨_, rfl, ?_, fun _ => ?_⟩) ?_
    · have := notIn_tx n ns
      simp! [tD, this]
    · simp! [tD]
    · have e : (((List.range 21).map (nmF cell)).filter fun n => !ns.contains n) = freshL cell ns := rfl
      rw [e]
      have ea : atI (freshL cell ns) (i : Int) = some (freshL cell ns)[i] := by rw [atI_nat _ _ hi, List.getElem?_eq_getElem hi]
      simp! [ei, ea]

/-! what lies from k on -/
def At (T : Store) (k : Nat) (L : Store) : Prop := ∀ j x, L[j]? = some x → T[k + j]? = some x
theorem at_app (T L M : Store) : At (T ++ (L ++ M)) T.length L := fun j x h => by
  rw [u_get_sh, List.getElem?_append_left (List.getElem?_eq_some_iff.mp h).1]; exact h
theorem at_app' (T L : Store) : At (T ++ L) T.length L := fun j x h => by rw [u_get_sh]; exact h
theorem At.go {c : Nat} {C C' : Cs} {T T' : Store} {k : Nat} {L : Store} (h : At T k L) (g : Go c C T C' T') (hn : ∀ i, k ≤ i → i < k + L.length → ¬ own c C i) : At T' k L := fun j x hx =>
  g.fr _ _ (h j x hx) (hn _ (by omega) (by have := (List.getElem?_eq_some_iff.mp hx).1; omega))
theorem At.app {T : Store} {k : Nat} {L : Store} (h : At T k L) (M : Store) : At (T ++ M) k L := fun j x hx => st_app (h j x hx) M

theorem vo_rd {T : Store} {k n : Nat} {vs : List (List Nat × Int)} (h : At T k (voC k vs)) : dr (n + 3) T (.ref k) = some (.list (vs.map rowD)) := by
  have a0 : T[k]? = some (.lst (vRefs k vs.length)) := h 0 _ rfl
  rw [u_dr_ref, a0, u_drC_lst]
  have : omap (dr (n + 2) T) (vRefs k vs.length) = some (vs.map rowD) := omap_at (by unfold vRefs; rw [List.length_map, List.length_range, List.length_map]) fun i x y hx hy => by
    unfold vRefs at hx
    rw [List.getElem?_map] at hx hy
    cases e : vs[i]? with
    | none => rw [e] at hy; cases hy
    | some v =>
      rw [e] at hy
      cases hy
      have hi := (List.getElem?_eq_some_iff.mp e).1
      rw [List.getElem?_range hi] at hx
      cases hx
      have b := h (i + 1) (rowC v) (by rw [voC_at, e]; rfl)
      rw [u_dr_ref, b]
      unfold rowC
      rw [u_drC_tup]
      show (omap (dr (n + 1) T) ([tD v.1, .int v.2].map .dat)).map PyData.tuple = _
      rw [u_om_dat]
      rfl
  rw [this]
  rfl
theorem wk_rd {T : Store} {C : Cs} {k n : Nat} {ws : List Wk} (h : At T k (wkC C k ws)) : dr (n + 4) T (.ref k) = some (.list (ws.map (workD C))) := by
  have a0 : T[k]? = some (.lst (wkRefs k ws.length)) := h 0 _ rfl
  rw [u_dr_ref, a0, u_drC_lst]
  have : omap (dr (n + 3) T) (wkRefs k ws.length) = some (ws.map (workD C)) := omap_at (by unfold wkRefs; rw [List.length_map, List.length_range, List.length_map]) fun i x y hx hy => by
    unfold wkRefs at hx
    rw [List.getElem?_map] at hx hy
    cases e : ws[i]? with
    | none => rw [e] at hy; cases hy
    | some w =>
      rw [e] at hy
      cases hy
      have hi := (List.getElem?_eq_some_iff.mp e).1
      rw [List.getElem?_range hi] at hx
      cases hx
      obtain ⟨x1, x2⟩ := wkC1_at C ws (k + 1) i w e
      have b1 := h (2 * i + 1) _ x1
      have b2 := h (2 * i + 2) _ x2
      rw [show k + 1 + 2 * i = k + (2 * i + 1) by omega] at b2
      rw [u_dr_ref, b2, u_drC_tup, u_om_cons, u_om_cons, u_om_cons, u_om_nil, u_dr_ref, b1, u_drC_lst]
      unfold nmS
      rw [u_om_dat]
      rfl
  rw [this]
  rfl
theorem At.set {T : Store} {k : Nat} {L : Store} (h : At T k L) {i : Nat} {X : Cell} (hi : ¬ (k ≤ i ∧ i < k + L.length)) : At (T.set i X) k L := fun j x hx => by
  have hl := (List.getElem?_eq_some_iff.mp hx).1
  rw [List.getElem?_set_ne (by omega)]; exact h j x hx

def xS (X : List Int) : List SV := (X.map PyData.int).map .dat
theorem set_id {α : Type} {l : List α} {j : Nat} {x : α} (h : l[j]? = some x) : l.set j x = l := by
  obtain ⟨h1, h2⟩ := List.getElem?_eq_some_iff.mp h
  rw [← h2, List.set_getElem_self]
theorem emod_nat {x : Int} {n : Nat} (h : 0 < n) : ∃ i : Nat, x % (n : Int) = (i : Int) ∧ i < n := by
  have h0 := Int.emod_nonneg x (show (n : Int) ≠ 0 by omega)
  have h1 := Int.emod_lt_of_pos x (show (0 : Int) < (n : Int) by omega)
  exact ⟨(x % (n : Int)).toNat, by omega, by omega⟩
theorem atI_mapG {α β : Type} (f : α → β) (xs : List α) (i : Int) : atI (xs.map f) i = (atI xs i).map f := by
  unfold atI
  rw [List.length_map]
  cases ixN xs.length i with
  | none => rfl
  | some j => simp
theorem at_mod {α : Type} (l : List α) (h : l ≠ []) (x : Int) : ∃ (i : Nat) (v : α), l[i]? = some v ∧ atI l (x % (l.length : Int)) = some v := by
  obtain ⟨i, e, hi⟩ := emod_nat (x := x) (List.length_pos_iff.mpr h)
  exact ⟨i, l[i], List.getElem?_eq_getElem hi, by rw [e, atI_nat l i hi, List.getElem?_eq_getElem hi]⟩
theorem run_of {n np : Nat} {z : Zsem} {xs : List SV} {st st' : Store} {v : SV} (hl : xs.length = np) (h : z (xs.map some ++ List.replicate (n - xs.length) none) st = some (.rt v, st')) : runM n np z xs st = some (.ok v, st') := by
  rw [u_run hl, h]; rfl
section
variable {T : Store} {c pl wl xl : Nat} {C : Cs} {A : List (Nat × Nat)}
theorem ne_names (h : ∀ l ∈ ls, okT l) (hl : ls ≠ []) : hNe (.list (ls.map tD)) (.list []) = some (.bool true) := by
  have ok := ok_tDs h
  cases ls with
  | nil => exact absurd rfl hl
  | cons v0 vs0 => exact hNe_cons_nil ok (by decide)
theorem okN {C : Cs} (k : Ok C) : ∀ l ∈ C.vs.map (·.1), okT l := fun l hl => by
  obtain ⟨v, hv, rfl⟩ := List.mem_map.mp hl
  exact nm_ok (k.iv v hv)
/-- want or unwant -/
theorem wishes_t5 (h : In c pl wl T C A) {j : Nat} {a : Nat × Nat} {w : Wk} (ha : A[j]? = some a) (hw : C.ws[j]? = some w) {n : List Nat} (hn : n ∈ C.vs.map (·.1)) {x0 : Int} {X : List Int} (hx : T[xl]? = some (.lst (xS X))) (a0 : atI X 0 = some x0) (nx : ¬ mine c pl wl C A xl) (o6 : Option SV) :
    ∃ T' C', sem_law_of_wishes_t5 [some (.ref c), some (.ref pl), some (.ref wl), some (.ref xl), some (.ref a.1), some (.dat (tD n)), o6, none] T = some (.rt (.dat .none), T') ∧ To c pl wl T C A T' C' A := by
  have hx' : T[xl]? = some (.lst ((X.map PyData.int).map .dat)) := hx
  have wm := List.mem_of_getElem? hw
  have r1 : T[a.1]? = some (.lst [.dat (tD w.nm), .dat (.int w.co), .ref a.2]) := h.ls.ra j a w ha hw
  have r2 : T[a.2]? = some (.lst ((w.wi.map tD).map .dat)) := h.ls.la j a w ha hw
  have i1 := in_tx n w.wi
  have i2 := notIn_tx n w.wi
  have wl20 := wi_len h.ok wm
  have m1 : ∀ i x, T[i]? = some x → i ∉ aL pl wl A → ∀ Y, (T.set a.2 Y)[i]? = some x := fun i x hx hi Y => by rw [u_gets fun z => hi (by rw [← z]; exact aL_2 ha)]; exact hx
  have a2c : a.2 ≠ c := fun z => h.ap a.2 (aL_2 ha) (.inl (by omega))
  have aab : a.1 ≠ a.2 := h.nd.ab a (List.mem_of_getElem? ha) a (List.mem_of_getElem? ha)
  have a2x : a.2 ≠ xl := fun z => nx (.inr (by rw [← z]; exact aL_2 ha))
  have a2l := st_lt r2
  by_cases b0 : x0 % 7 < 6
  · by_cases hm : n ∈ w.wi
    · have hc : w.wi.contains n = true := by simpa using hm
      have e0 : wantF n w.wi = w.wi := if_pos hm
      obtain ⟨T', e, g⟩ := want_ok h.ch h.ok hn wm
      have c0 := h.ch.c0
      unfold insS at c0
      refine ⟨T', _, ?_, to_of h (fun _ _ hx _ => hx) (Nat.le_refl _) (A' := A) ?_ h.nd (fun i hi => .inl hi) g⟩
      · simp! only [sem_law_of_wishes_t5, tD, hx', a0, b0, r1, r2, i2, hc, c0, e]
      · rw [wish_set h.ok hw, e0, show w = { w with wi := w.wi } from rfl, set_id hw]
        exact h.ls
    · have hc : w.wi.contains n = false := by simpa using hm
      have e0 : wantF n w.wi = w.wi ++ [n] := if_neg hm
      obtain ⟨T1, hT1⟩ : ∃ T1, T1 = T.set a.2 (.lst (nmS (w.wi ++ [n]))) := ⟨_, rfl⟩
      have f1 : ∀ i x, T[i]? = some x → i ∉ aL pl wl A → T1[i]? = some x := fun i x hx hi => hT1 ▸ m1 i x hx hi _
      have ch1 := h.ch1 f1
      obtain ⟨T', e, g⟩ := want_ok ch1 h.ok hn wm
      have c0 := h.ch.c0
      have c01 := ch1.c0
      unfold insS at c0 c01
      have en : ((w.wi.map tD).map SV.dat) ++ [.dat (.str (TX n))] = nmS (w.wi ++ [n]) := by unfold nmS; simp [tD]
      have q1 : T1[a.1]? = some (.lst [.dat (tD w.nm), .dat (.int w.co), .ref a.2]) := by rw [hT1, u_gets (Ne.symm aab)]; exact r1
      have q2 : T1[a.2]? = some (.lst (((w.wi ++ [n]).map tD).map .dat)) := by rw [hT1, u_gets0 a2l]; rfl
      refine ⟨T', _, ?_, to_of h f1 (by rw [hT1, List.length_set]; exact Nat.le_refl _) (A' := A) ?_ h.nd (fun i hi => .inl hi) g⟩
      · simp! only [sem_law_of_wishes_t5, tD, hx', a0, b0, r1, r2, i2, hc, u_appS, en, ← hT1, c01, q1, q2, e]
      · rw [wish_set h.ok hw, e0, hT1]
        exact h.ls.setI h.nd ha hw _
  · by_cases hm : n ∈ w.wi
    · have hc : w.wi.contains n = true := by simpa using hm
      obtain ⟨p, q, hpq, hnp⟩ := List.eq_append_cons_of_mem hm
      have e0 : w.wi.filter (notN n) = p ++ q := by
        have := h.ok.wn w wm
        rw [hpq] at this ⊢
        exact filter_mid this
      have hr : hRemS ((w.wi.map tD).map .dat) [.dat (.str (TX n))] = some (.dat .none, nmS (p ++ q)) := by rw [hpq]; exact rem_at p q n hnp
      obtain ⟨T1, hT1⟩ : ∃ T1, T1 = T.set a.2 (.lst (nmS (p ++ q))) := ⟨_, rfl⟩
      have f1 : ∀ i x, T[i]? = some x → i ∉ aL pl wl A → T1[i]? = some x := fun i x hx hi => hT1 ▸ m1 i x hx hi _
      have ch1 := h.ch1 f1
      obtain ⟨T', e, g⟩ := unwant_ok ch1 h.ok hn wm
      have c01 := ch1.c0
      unfold insS at c01
      have q1 : T1[a.1]? = some (.lst [.dat (tD w.nm), .dat (.int w.co), .ref a.2]) := by rw [hT1, u_gets (Ne.symm aab)]; exact r1
      have q2 : T1[a.2]? = some (.lst (((p ++ q).map tD).map .dat)) := by rw [hT1, u_gets0 a2l]; rfl
      refine ⟨T', _, ?_, to_of h f1 (by rw [hT1, List.length_set]; exact Nat.le_refl _) (A' := A) ?_ h.nd (fun i hi => .inl hi) g⟩
      · simp! only [sem_law_of_wishes_t5, sem_law_of_wishes_t6, sem_law_of_wishes_t7, tD, hx', a0, b0, r1, r2, i1, hc, hr, ← hT1, c01, q1, q2, e]
      · rw [wish_set h.ok hw, e0, hT1]
        exact h.ls.setI h.nd ha hw _
    · have hc : w.wi.contains n = false := by simpa using hm
      obtain ⟨T', e, g⟩ := unwant_ok h.ch h.ok hn wm
      have c0 := h.ch.c0
      unfold insS at c0
      refine ⟨T', _, ?_, to_of h (fun _ _ hx _ => hx) (Nat.le_refl _) (A' := A) ?_ h.nd (fun i hi => .inl hi) g⟩
      · simp! only [sem_law_of_wishes_t5, sem_law_of_wishes_t6, sem_law_of_wishes_t7, tD, hx', a0, b0, r1, r2, i1, hc, c0, e]
      · rw [wish_set h.ok hw, filter_notN hm, show w = { w with wi := w.wi } from rfl, set_id hw]
        exact h.ls
theorem wishes_t3 (h : In c pl wl T C A) {j : Nat} {a : Nat × Nat} {w : Wk} (ha : A[j]? = some a) (hw : C.ws[j]? = some w) {n : List Nat} (hn : n ∈ C.vs.map (·.1)) {x0 x2 x3 : Int} {X : List Int} (hx : T[xl]? = some (.lst (xS X))) (a0 : atI X 0 = some x0) (a2 : atI X 2 = some x2) (a3 : atI X 3 = some x3) (nx : ¬ mine c pl wl C A xl) :
    ∃ T' C', sem_law_of_wishes_t3 [some (.ref c), some (.ref pl), some (.ref wl), some (.ref xl), some (.ref a.1), some (.dat (tD n)), none, none] T = some (.rt (.dat .none), T') ∧ To c pl wl T C A T' C' A := by
  have hx' : T[xl]? = some (.lst ((X.map PyData.int).map .dat)) := hx
  have p1 : T[pl]? = some (.lst (nmS (C.vs.map (·.1)))) := h.ls.p0
  have r1 : T[a.1]? = some (.lst [.dat (tD w.nm), .dat (.int w.co), .ref a.2]) := h.ls.ra j a w ha hw
  have r2 : T[a.2]? = some (.lst ((w.wi.map tD).map .dat)) := h.ls.la j a w ha hw
  have lv := h.ok.lv
  obtain ⟨O, hO⟩ : ∃ O, O = (C.vs.map (·.1)).filter fun n => !w.wi.contains n := ⟨_, rfl⟩
  have g1 := fun L => st_app p1 L
  have g3 := fun L => st_app r1 L
  have g4 := fun L => st_app r2 L
  have cm := comp_flt (ok := fun st' => lstOf st' (.ref pl) = some (nmS (C.vs.map (·.1)))) (set := gN 7) (q := mPT (dB (d2 hNotIn (dV 7) (d2 hIxL (dV 4) (dC (.int 2)))))) (f := mV 7) (st := T) (e := [some (.ref c), some (.ref pl), some (.ref wl), some (.ref xl), some (.ref a.1), some (.dat (tD n)), none, none])
    (fun v : List Nat => Itm.one (.dat (tD v))) (C.vs.map (·.1)) (fun n => !w.wi.contains n) (fun n => .dat (tD n)) (fun acc => by rw [u_lst_ref, g1]; rfl) (by rw [List.length_map]; omega) (fun m _ => ⟨[some (.ref c), some (.ref pl), some (.ref wl), some (.ref xl), some (.ref a.1), some (.dat (tD n)), none, some (.dat (tD m))], fun acc => rfl, fun acc => by
      have i2 := notIn_tx m w.wi
      simp! only [tD, g3, g4, i2], fun _ acc => rfl⟩)
  have e1 : ((C.vs.map (·.1)).map fun v : List Nat => Itm.one (.dat (tD v))) = ones (nmS (C.vs.map (·.1))) := by unfold nmS; rw [ones_map, List.map_map, List.map_map, List.map_map]; rfl
  have e2 : (((C.vs.map (·.1)).filter fun n => !w.wi.contains n).map fun n => SV.dat (tD n)) = (O.map tD).map .dat := by rw [hO, List.map_map]; rfl
  rw [e1, e2] at cm
  simp only [u_lst_ref] at cm
  have okO : ∀ l ∈ O, okT l := fun l hl => okN h.ok l (by rw [hO] at hl; exact (List.mem_filter.mp hl).1)
  obtain ⟨T2, hT2⟩ : ∃ T2, T2 = T ++ [Cell.lst ((O.map tD).map .dat)] := ⟨_, rfl⟩
  have h2 : In c pl wl T2 C A := hT2 ▸ h.app _
  have t0 : To c pl wl T C A T2 C A := hT2 ▸ To.app h _
  have hx2 : T2[xl]? = some (.lst ((X.map PyData.int).map .dat)) := by rw [hT2]; exact st_app hx _
  have o2 : T2[T.length]? = some (.lst ((O.map tD).map .dat)) := by rw [hT2]; exact u_get0
  obtain ⟨n', hn', e3⟩ : ∃ n', n' ∈ C.vs.map (·.1) ∧ (zIf (mPT (tAndD (dB (d2 hEq (d2 hMod (d2 hIxL (dV 3) (dC (.int 3))) (dC (.int 3))) (dC (.int 1)))) (dB (d2 hNe (dV 6) (dLst dNil)))))
  (zSet 5 (mP (dSc (d2 hIxL (dV 6) (d2 hMod (d2 hIxL (dV 3) (dC (.int 2))) (dA hLen (dCons (dV 6) dNil))))))) zNx) [some (.ref c), some (.ref pl), some (.ref wl), some (.ref xl), some (.ref a.1), some (.dat (tD n)), some (.ref T.length), none] T2 = some (.nx [some (.ref c), some (.ref pl), some (.ref wl), some (.ref xl), some (.ref a.1), some (.dat (tD n')), some (.ref T.length), none], T2) := by
    by_cases b1 : x3 % 3 = 1
    · have b1' : (x3 % 3 == 1) = true := beq_iff_eq.mpr b1
      by_cases hO0 : O = []
      · rw [hO0] at o2
        have ne : hNe (.list []) (.list []) = some (.bool false) := hNe_nil2
        refine ⟨n, hn, ?_⟩
        simp only [List.map_nil] at o2
        simp! only [hx2, a3, o2, hEq_int, b1', ne]
      · have ne := ne_names okO hO0
        obtain ⟨i, n', hi, e4⟩ := at_mod O hO0 x2
        have mm := List.mem_of_getElem? hi
        have op := List.length_pos_iff.mpr hO0
        refine ⟨n', by rw [hO] at mm; exact (List.mem_filter.mp mm).1, ?_⟩
        simp! only [hx2, a2, a3, o2, hEq_int, b1', ne, e4, tD]
    · have b1' : (x3 % 3 == 1) = false := beq_eq_false_iff_ne.mpr b1
      refine ⟨n, hn, ?_⟩
      simp! only [hx2, a3, hEq_int, b1']
  obtain ⟨T', C', e, t⟩ := wishes_t5 h2 ha hw hn' hx2 a0 (t0.keep hx nx).2 (some (.ref T.length))
  refine ⟨T', C', ?_, t0.trans t⟩
  unfold sem_law_of_wishes_t3
  refine seqZ (e' := [some (.ref c), some (.ref pl), some (.ref wl), some (.ref xl), some (.ref a.1), some (.dat (tD n)), some (.ref T.length), none]) (st1 := T2) (by simp! only [p1, cm]; rw [hT2]) ?_
  exact seqZ e3 e
/-- a deed of wishes -/
theorem wishes_d (h : In c pl wl T C A) (hv : C.vs ≠ []) (hws : C.ws ≠ []) {x0 x1 x2 x3 : Int} {X : List Int} (hx : T[xl]? = some (.lst (xS X))) (a0 : atI X 0 = some x0) (a1 : atI X 1 = some x1) (a2 : atI X 2 = some x2) (a3 : atI X 3 = some x3) (nx : ¬ mine c pl wl C A xl) :
    ∃ T' C', sem_law_of_wishes [.ref c, .ref pl, .ref wl, .ref xl] T = some (.ok (.dat .none), T') ∧ To c pl wl T C A T' C' A := by
  have hx' : T[xl]? = some (.lst ((X.map PyData.int).map .dat)) := hx
  have p1 : T[pl]? = some (.lst (((C.vs.map (·.1)).map tD).map .dat)) := h.ls.p0
  have w1 := h.ls.w0
  have rw5 := h.ls.rdW 2
  have vp := List.length_pos_iff.mpr hv
  have wp := List.length_pos_iff.mpr hws
  obtain ⟨j, w, hw, ew⟩ := at_mod C.ws hws x1
  obtain ⟨a, ha⟩ := h.ls.get' hw
  have wm := List.mem_of_getElem? hw
  obtain ⟨iv, v, hiv, ev⟩ := at_mod C.vs hv x2
  have ev' : atI (C.vs.map (·.1)) (x2 % (C.vs.length : Int)) = some v.1 := by rw [atI_mapG, ev]; rfl
  have vm : v.1 ∈ C.vs.map (·.1) := List.mem_map.mpr ⟨v, List.mem_of_getElem? hiv, rfl⟩
  have ea : atI (rfA A) (x1 % (C.ws.length : Int)) = some (.ref a.1) := by
    obtain ⟨i, ei, hi⟩ := emod_nat (x := x1) wp
    have hj : C.ws[i]? = some w := by rw [ei, atI_nat _ _ hi] at ew; exact ew
    have ij : i = j := nd_ix h.ok.nw hj hw rfl
    have hl : i < (rfA A).length := by unfold rfA; rw [List.length_map, h.ls.ln]; exact hi
    rw [ei, atI_nat _ _ hl, ij]
    unfold rfA
    rw [List.getElem?_map, ha]
    rfl
  have r1 : T[a.1]? = some (.lst [.dat (tD w.nm), .dat (.int w.co), .ref a.2]) := h.ls.ra j a w ha hw
  have r2 : T[a.2]? = some (.lst ((w.wi.map tD).map .dat)) := h.ls.la j a w ha hw
  have okw := okT_wi h.ok wm
  obtain ⟨n', hn', e3⟩ : ∃ n', n' ∈ C.vs.map (·.1) ∧ (zIf (mPT (tAndD (dB (d2 hEq (d2 hMod (d2 hIxL (dV 3) (dC (.int 3))) (dC (.int 3))) (dC (.int 0)))) (dB (d2 hNe (d2 hIxL (dV 4) (dC (.int 2))) (dLst dNil)))))
  (zSet 5 (mP (dSc (d2 hIxL (d2 hIxL (dV 4) (dC (.int 2))) (d2 hMod (d2 hIxL (dV 3) (dC (.int 2))) (dA hLen (dCons (d2 hIxL (dV 4) (dC (.int 2))) dNil))))))) zNx) [some (.ref c), some (.ref pl), some (.ref wl), some (.ref xl), some (.ref a.1), some (.dat (tD v.1)), none, none] T = some (.nx [some (.ref c), some (.ref pl), some (.ref wl), some (.ref xl), some (.ref a.1), some (.dat (tD n')), none, none], T) := by
    by_cases b1 : x3 % 3 = 0
    · have b1' : (x3 % 3 == 0) = true := beq_iff_eq.mpr b1
      by_cases hO0 : w.wi = []
      · rw [hO0] at r2
        have ne : hNe (.list []) (.list []) = some (.bool false) := hNe_nil2
        refine ⟨v.1, vm, ?_⟩
        simp only [List.map_nil] at r2
        simp! only [hx', a3, r1, r2, hEq_int, b1', ne]
      · have ne := ne_names okw hO0
        obtain ⟨i, n', hi, e4⟩ := at_mod w.wi hO0 x2
        have mm := List.mem_of_getElem? hi
        have op := List.length_pos_iff.mpr hO0
        refine ⟨n', h.ok.wv w wm n' mm, ?_⟩
        simp! only [hx', a2, a3, r1, r2, hEq_int, b1', ne, e4, tD]
    · have b1' : (x3 % 3 == 0) = false := beq_eq_false_iff_ne.mpr b1
      refine ⟨v.1, vm, ?_⟩
      simp! only [hx', a3, hEq_int, b1']
  obtain ⟨T', C', e, t⟩ := wishes_t3 h ha hw hn' hx a0 a2 a3 nx
  refine ⟨T', C', ?_, t⟩
  unfold sem_law_of_wishes
  refine run_of rfl ?_
  refine seqZ (e' := [some (.ref c), some (.ref pl), some (.ref wl), some (.ref xl), some (.ref a.1), none, none, none]) (st1 := T) (by simp! only [hx', a1, w1, rw5, ea]) ?_
  refine seqZ (e' := [some (.ref c), some (.ref pl), some (.ref wl), some (.ref xl), some (.ref a.1), some (.dat (tD v.1)), none, none]) (st1 := T) (by simp! only [hx', a2, p1, ev', tD]) ?_
  exact seqZ e3 e
end
theorem set_mid {α : Type} (x y : α) (q : List α) : ∀ p : List α, (p ++ x :: q).set p.length y = p ++ y :: q
  | [] => rfl
  | z :: p => congrArg (z :: ·) (set_mid x y q p)
theorem get_mid {α : Type} (x : α) (q : List α) : ∀ p : List α, (p ++ x :: q)[p.length]? = some x
  | [] => rfl
  | z :: p => get_mid x q p
theorem at_last {α : Type} (l : List α) (x : α) : atI (l ++ [x]) (-1) = some x := by
  unfold atI ixN
  rw [List.length_append, List.length_singleton, if_neg (by decide), if_pos (by omega), Option.bind_some, show ((-1 : Int) + ((l.length + 1 : Nat) : Int)).toNat = l.length by omega]
  exact get_mid x [] l
theorem seqRt {z y : Zsem} {e : SEnv} {st st1 : Store} {v : SV} (h : z e st = some (.rt v, st1)) : zSeq z y e st = some (.rt v, st1) := by
  rw [u_seq, h]; rfl
theorem ifT {p : SEnv → Mo Bool} {a b : Zsem} {e : SEnv} {st st1 : Store} {r : Option (Rz × Store)} (h : p e st = some (.ok true, st1)) (k : a e st1 = r) : zIf p a b e st = r := by
  rw [u_if, h]; exact k
section
variable {T : Store} {c pl wl xl : Nat} {C : Cs} {A : List (Nat × Nat)}
theorem voters_loop {N' : List (List Nat)} {W : List Wk} {s : Store} (h : Ls s pl wl N' W A) (q : Ap pl wl A) (nd : ∀ w ∈ W, w.wi.Nodup) (ha : A.length ≤ 12) (n : List Nat) (c xl : Nat) (z : Int) :
    ∃ s', forZ (fun st' => lstOf st' (.ref wl) = some (rfA A)) (gN 6) sem_law_of_voters_b8 [6] (ones (rfA A)) [some (.ref c), some (.ref pl), some (.ref wl), some (.ref xl), some (.dat (.int z)), some (.dat (tD n)), none] s = some (.nx [some (.ref c), some (.ref pl), some (.ref wl), some (.ref xl), some (.dat (.int z)), some (.dat (tD n)), none], s') ∧
      Ls s' pl wl N' (W.map (dropN n)) A ∧ s'.length = s.length ∧ ∀ i x, s[i]? = some x → i ∉ aL pl wl A → s'[i]? = some x := by
  obtain ⟨r, h1, s', rfl, h2⟩ := for_inv (ok := fun st' => lstOf st' (.ref wl) = some (rfA A)) (set := gN 6) (kl := [6]) (z := sem_law_of_voters_b8) (e := [some (.ref c), some (.ref pl), some (.ref wl), some (.ref xl), some (.dat (.int z)), some (.dat (tD n)), none]) (st := s)
    (fun a : Nat × Nat => Itm.one (.ref a.1)) A (fun p e' s' => e' = [some (.ref c), some (.ref pl), some (.ref wl), some (.ref xl), some (.dat (.int z)), some (.dat (tD n)), none] ∧ ∃ W1 W2, W = W1 ++ W2 ∧ W1.length = p.length ∧ Ls s' pl wl N' (W1.map (dropN n) ++ W2) A ∧ s'.length = s.length ∧ ∀ i x, s[i]? = some x → i ∉ aL pl wl A → s'[i]? = some x)
    (fun r => ∃ s', r = (.nx [some (.ref c), some (.ref pl), some (.ref wl), some (.ref xl), some (.dat (.int z)), some (.dat (tD n)), none], s') ∧ Ls s' pl wl N' (W.map (dropN n)) A ∧ s'.length = s.length ∧ ∀ i x, s[i]? = some x → i ∉ aL pl wl A → s'[i]? = some x)
    (fun p a r e' s' hx hP => by
      obtain ⟨he, W1, W2, hW, hl, hs, hn, hf⟩ := hP
      subst he
      have ga : A[p.length]? = some a := by rw [hx]; exact get_mid a r p
      have hp : p.length < A.length := (List.getElem?_eq_some_iff.mp ga).1
      have ln := hs.ln
      rw [List.length_append, List.length_map] at ln
      cases W2 with
      | nil => rw [List.length_nil] at ln; omega
      | cons w W2 =>
        have gw : (W1.map (dropN n) ++ w :: W2)[p.length]? = some w := by rw [← hl, ← List.length_map (dropN n)]; exact get_mid w W2 _
        have wm : w ∈ W := by rw [hW]; simp
        have r1 : s'[a.1]? = some (.lst [.dat (tD w.nm), .dat (.int w.co), .ref a.2]) := hs.ra _ a w ga gw
        have r2 : s'[a.2]? = some (.lst ((w.wi.map tD).map .dat)) := hs.la _ a w ga gw
        have i1 := in_tx n w.wi
        refine ⟨by rw [u_lst_ref, hs.w0]; rfl, _, _, rfl, ?_⟩
        by_cases hm : n ∈ w.wi
        · have hc : w.wi.contains n = true := by simpa using hm
          obtain ⟨pw, qw, hpq, hnp⟩ := List.eq_append_cons_of_mem hm
          have e0 : w.wi.filter (notN n) = pw ++ qw := by
            have := nd w wm
            rw [hpq] at this ⊢
            exact filter_mid this
          have hr : hRemS ((w.wi.map tD).map .dat) [.dat (.str (TX n))] = some (.dat .none, nmS (w.wi.filter (notN n))) := by rw [e0, hpq]; exact rem_at pw qw n hnp
          refine ⟨(.nx [some (.ref c), some (.ref pl), some (.ref wl), some (.ref xl), some (.dat (.int z)), some (.dat (tD n)), some (.ref a.1)], s'.set a.2 (.lst (nmS (w.wi.filter (notN n))))), ?_, rfl, W1 ++ [w], W2, by rw [hW, List.append_assoc]; rfl, by rw [List.length_append, List.length_append, hl]; rfl, ?_, by rw [List.length_set]; exact hn, fun i x hx hi => by rw [u_gets fun z => hi (by rw [← z]; exact aL_2 ga)]; exact hf i x hx hi⟩
          · simp! only [sem_law_of_voters_b8, tD, r1, r2, i1, hc, hr]
          · have := hs.setI q ga gw (w.wi.filter (notN n))
            rw [show (W1.map (dropN n) ++ w :: W2).set p.length { w with wi := w.wi.filter (notN n) } = (W1 ++ [w]).map (dropN n) ++ W2 by rw [← hl, ← List.length_map (dropN n), set_mid, List.map_append, List.append_assoc]; rfl] at this
            exact this
        · have hc : w.wi.contains n = false := by simpa using hm
          refine ⟨(.nx [some (.ref c), some (.ref pl), some (.ref wl), some (.ref xl), some (.dat (.int z)), some (.dat (tD n)), some (.ref a.1)], s'), ?_, rfl, W1 ++ [w], W2, by rw [hW, List.append_assoc]; rfl, by rw [List.length_append, List.length_append, hl]; rfl, ?_, hn, hf⟩
          · simp! only [sem_law_of_voters_b8, tD, r1, r2, i1, hc]
          · rw [show (W1 ++ [w]).map (dropN n) ++ W2 = W1.map (dropN n) ++ w :: W2 by
              rw [List.map_append, List.append_assoc]
              show _ ++ dropN n w :: W2 = _
              unfold dropN
              rw [filter_notN hm]]
            exact hs)
    (fun e' s' hP => by
      obtain ⟨he, W1, W2, hW, hl, hs, hn, hf⟩ := hP
      subst he
      have ln := hs.ln
      rw [List.length_append, List.length_map] at ln
      have w2 : W2 = [] := List.length_eq_zero_iff.mp (by omega)
      subst w2
      rw [List.append_nil] at hW hs
      subst hW
      exact ⟨by rw [u_lst_ref, hs.w0]; rfl, s', rfl, hs, hn, hf⟩)
    ⟨rfl, [], W, rfl, rfl, h, rfl, fun i x hx _ => hx⟩
  exact ⟨s', by rw [show ones (rfA A) = A.map fun a => Itm.one (.ref a.1) by unfold rfA ones; rw [List.map_map]; rfl]; exact h1, h2⟩
/-- a deed of voters -/
theorem voters_d (h : In c pl wl T C A) {x0 x1 : Int} {X : List Int} (z : Int) (hx : T[xl]? = some (.lst (xS X))) (a0 : atI X 0 = some x0) (a1 : atI X 1 = some x1) (nx : ¬ mine c pl wl C A xl) :
    ∃ T' C', sem_law_of_voters [.ref c, .ref pl, .ref wl, .ref xl, .dat (.int z)] T = some (.ok (.dat .none), T') ∧ To c pl wl T C A T' C' A := by
  have hx' : T[xl]? = some (.lst ((X.map PyData.int).map .dat)) := hx
  have p1 : T[pl]? = some (.lst (((C.vs.map (·.1)).map tD).map .dat)) := h.ls.p0
  have lv := h.ok.lv
  have pl_lt := st_lt p1
  have c0 := h.ch.c0
  unfold insS at c0
  have plc : pl ≠ c := fun e => h.ap pl aL_p (.inl (by omega))
  have plx : pl ≠ xl := fun e => nx (.inr (by rw [← e]; exact aL_p))
  by_cases b1 : x0 % 2 = 0 ∧ C.vs.length < 20
  · have b2 : (x0 % 2 == 0) = true := beq_iff_eq.mpr b1.1
    have b3 : (C.vs.length : Int) < 20 := by have := b1.2; omega
    obtain ⟨n, fe, hn, hf⟩ := fresh_ev z x1 (C.vs.map (·.1)) (by rw [List.length_map]; omega)
    obtain ⟨T1, hT1⟩ : ∃ T1, T1 = T.set pl (.lst (nmS (C.vs.map (·.1) ++ [n]))) := ⟨_, rfl⟩
    have f1 : ∀ i x, T[i]? = some x → i ∉ aL pl wl A → T1[i]? = some x := fun i x hx hi => by rw [hT1, u_gets fun z => hi (by rw [← z]; exact aL_p)]; exact hx
    have ch1 := h.ch1 f1
    have c01 := ch1.c0
    unfold insS at c01
    obtain ⟨T', e, g⟩ := enrol_ok ch1 h.ok hn hf b1.2
    have en : (((C.vs.map (·.1)).map tD).map SV.dat) ++ [.dat (tD n)] = nmS (C.vs.map (·.1) ++ [n]) := by unfold nmS; simp
    have e' : sem_Chest_enrol [.ref c, .dat (tD n)] T1 = some (.ok (.dat .none), T') := e
    have scn : scK (tD n) = some (tD n) := rfl
    refine ⟨T', C.enrol n, ?_, to_of h f1 (by rw [hT1, List.length_set]; exact Nat.le_refl _) (A' := A) ?_ h.nd (fun i hi => .inl hi) g⟩
    · simp! only [sem_law_of_voters, hx', p1, a0, a1, hEq_int, b2, b3, fe, u_appS, en, ← hT1, c01, e']
    · rw [hT1, show (C.enrol n).vs.map (·.1) = C.vs.map (·.1) ++ [n] by unfold Cs.enrol; rw [List.map_append]; rfl]
      exact h.ls.setP h.nd _
  · have hb : (zIf (mPT (tAndD (dB (d2 hEq (d2 hMod (d2 hIxL (dV 3) (dC (.int 0))) (dC (.int 2))) (dC (.int 0)))) (dB (d2 hLt (dA hLen (dCons (dV 1) dNil)) (dC (.int 20))))))
      (zSeq (zSet 5 (mP (dA sem_law_fresh (dCons (dV 4) (dCons (dV 1) (dCons (d2 hIxL (dV 3) (dC (.int 1))) dNil))))))
      (zSeq (zExpr (mLM hAppS (mV 1) (mCons (mV 5) mNil)))
      (zRet (mMeth 0 sem_Chest_enrol (mV 0) (mCons (mV 5) mNil))))) zNx) [some (.ref c), some (.ref pl), some (.ref wl), some (.ref xl), some (.dat (.int z)), none, none] T = some (.nx [some (.ref c), some (.ref pl), some (.ref wl), some (.ref xl), some (.dat (.int z)), none, none], T) := by
      by_cases b2 : x0 % 2 = 0
      · have b2' : (x0 % 2 == 0) = true := beq_iff_eq.mpr b2
        have b3 : ¬ (C.vs.length : Int) < 20 := fun h => b1 ⟨b2, by omega⟩
        simp! only [hx', p1, a0, hEq_int, b2', b3]
      · have b2' : (x0 % 2 == 0) = false := beq_eq_false_iff_ne.mpr b2
        simp! only [hx', p1, a0, hEq_int, b2']
    by_cases hv : C.vs = []
    · refine ⟨T, C, ?_, To.refl h⟩
      refine run_of rfl (seqZ hb ?_)
      rw [hv] at p1
      simp only [List.map_nil] at p1
      have ne : hNe (.list []) (.list []) = some (.bool false) := hNe_nil2
      simp! only [p1, ne]
    · have vp := List.length_pos_iff.mpr hv
      have ne := ne_names (okN h.ok) (show C.vs.map (·.1) ≠ [] from fun e => hv (List.map_eq_nil_iff.mp e))
      obtain ⟨iv, v, hiv, ev⟩ := at_mod C.vs hv x1
      have ev' : atI (C.vs.map (·.1)) (x1 % (C.vs.length : Int)) = some v.1 := by rw [atI_mapG, ev]; rfl
      have vm := List.mem_of_getElem? hiv
      obtain ⟨p, q, hs⟩ := mem_split vm
      have nd : ((p ++ v :: q).map (·.1)).Nodup := hs ▸ h.ok.nv
      have fN : (C.vs.map (·.1)).filter (notN v.1) = (p ++ q).map (·.1) := by
        have := filter_mid (n := v.1) (p := p.map (·.1)) (q := q.map (·.1)) (by rw [List.map_append, List.map_cons] at nd; exact nd)
        rw [hs, List.map_append, List.map_cons, this, List.map_append]
      have ra : hRemS (((C.vs.map (·.1)).map tD).map .dat) [.dat (tD v.1)] = some (.dat .none, nmS ((p ++ q).map (·.1))) := by
        have := rem_at (p.map (·.1)) (q.map (·.1)) v.1 (nd_split nd).1
        have e5 : (p ++ v :: q).map (·.1) = p.map (·.1) ++ v.1 :: q.map (·.1) := by rw [List.map_append, List.map_cons]
        have e6 : (p ++ q).map (·.1) = p.map (·.1) ++ q.map (·.1) := List.map_append
        rw [hs, e5, e6]
        exact this
      obtain ⟨T1, hT1⟩ : ∃ T1, T1 = T.set pl (.lst (nmS ((p ++ q).map (·.1)))) := ⟨_, rfl⟩
      have f1 : ∀ i x, T[i]? = some x → i ∉ aL pl wl A → T1[i]? = some x := fun i x hx hi => by rw [hT1, u_gets fun z => hi (by rw [← z]; exact aL_p)]; exact hx
      have l1 : T1.length = T.length := by rw [hT1, List.length_set]
      have ls1 : Ls T1 pl wl ((p ++ q).map (·.1)) C.ws A := by rw [hT1]; exact h.ls.setP h.nd _
      obtain ⟨T2, lp, ls2, l2, f2⟩ := voters_loop ls1 h.nd (fun w hw => h.ok.wn w hw) (by rw [h.ls.ln]; exact h.ok.lw) v.1 c xl z
      have f12 : ∀ i x, T[i]? = some x → i ∉ aL pl wl A → T2[i]? = some x := fun i x hx hi => f2 i x (f1 i x hx hi) hi
      have ch2 := h.ch1 f12
      have c02 := ch2.c0
      unfold insS at c02
      obtain ⟨T', e, g⟩ := leave_ok ch2 h.ok vm
      have e' : sem_Chest_leave [.ref c, .dat (tD v.1)] T2 = some (.ok (.dat .none), T') := e
      have w1 := ls1.w0
      have scn : scK (tD v.1) = some (tD v.1) := rfl
      refine ⟨T', C.leave v, ?_, to_of h f12 (by rw [l2, l1]; exact Nat.le_refl _) (A' := A) ?_ h.nd (fun i hi => .inl hi) g⟩
      · refine run_of rfl (seqZ hb ?_)
        simp only [u_lst_ref] at lp
        simp! only [p1, hx', a1, ne, ev', scn, ra, ← hT1, w1, lp, sem_law_of_voters_l11, c02, e']
      · have : (C.leave v).vs.map (·.1) = (p ++ q).map (·.1) := by unfold Cs.leave; rw [hs, filter_vs nd]
        rw [this]
        exact ls2
theorem cost_d (x : Int) (h : 0 ≤ x) (h2 : x < 700700003) : ∃ co : Int, sem_law_cost [.int x] = some (.int co) ∧ 1 ≤ co ∧ co ≤ 1000000000 := by
  by_cases b0 : x % 4 = 0
  · have b0' : (x % 4 == 0) = true := beq_iff_eq.mpr b0
    have h4 := Int.emod_nonneg (x / 4) (show (4 : Int) ≠ 0 by decide)
    have h5 := Int.emod_lt_of_pos (x / 4) (show (0 : Int) < 4 by decide)
    have : x / 4 % 4 = 0 ∨ x / 4 % 4 = 1 ∨ x / 4 % 4 = 2 ∨ x / 4 % 4 = 3 := by omega
    rcases this with h1 | h1 | h1 | h1
    · exact ⟨1, by simp! [sem_law_cost, hEq_int, b0', h1]; rfl, by decide, by decide⟩
    · exact ⟨2, by simp! [sem_law_cost, hEq_int, b0', h1]; rfl, by decide, by decide⟩
    · exact ⟨1000000000, by simp! [sem_law_cost, hEq_int, b0', h1]; rfl, by decide, by decide⟩
    · exact ⟨999999999, by simp! [sem_law_cost, hEq_int, b0', h1]; rfl, by decide, by decide⟩
  · have b0' : (x % 4 == 0) = false := beq_eq_false_iff_ne.mpr b0
    by_cases b1 : x % 4 = 1
    · have b1' : (x % 4 == 1) = true := beq_iff_eq.mpr b1
      exact ⟨1 + x / 4 % 30, by simp! [sem_law_cost, hEq_int, b0', b1'], by omega, by omega⟩
    · have b1' : (x % 4 == 1) = false := beq_eq_false_iff_ne.mpr b1
      exact ⟨1 + x * 41 % 1000000000, by simp! [sem_law_cost, hEq_int, b0', b1', hMul_of (show MulC x 41 from mulC_smallR (by decide))], by omega, by omega⟩
theorem map_erase {α β : Type} (f : α → β) : ∀ (l : List α) (j : Nat), (l.map f).eraseIdx j = (l.eraseIdx j).map f
  | [], _ => rfl
  | _ :: _, 0 => rfl
  | x :: l, j + 1 => congrArg (f x :: ·) (map_erase f l j)
theorem rfA_erase (A : List (Nat × Nat)) (j : Nat) : (rfA A).eraseIdx j = rfA (A.eraseIdx j) := by
  unfold rfA
  exact map_erase _ A j
theorem withdraw_ws {C : Cs} (k : Ok C) {j : Nat} {w : Wk} (hw : C.ws[j]? = some w) : (C.withdraw w.nm).ws = C.ws.eraseIdx j := by
  obtain ⟨p, q, hs⟩ := mem_split (List.mem_of_getElem? hw)
  have nd : ((p ++ w :: q).map Wk.nm).Nodup := hs ▸ k.nw
  have hp : C.ws[p.length]? = some w := by rw [hs]; exact get_mid w q p
  have e : j = p.length := nd_ix k.nw hw hp rfl
  show C.ws.filter (fun u => decide (u.nm ≠ w.nm)) = _
  rw [hs, filter_split nd, e, List.eraseIdx_append_of_length_le (Nat.le_refl _), Nat.sub_self]
  rfl
theorem Ls.erase {N : List (List Nat)} {W : List Wk} (h : Ls T pl wl N W A) (q : Ap pl wl A) (j : Nat) : Ls (T.set wl (.lst (rfA (A.eraseIdx j)))) pl wl N (W.eraseIdx j) (A.eraseIdx j) := by
  have sub : (A.eraseIdx j).Sublist A := List.eraseIdx_sublist ..
  refine ⟨by rw [u_gets (Ne.symm q.pw)]; exact h.p0, u_gets0 (st_lt h.w0), by rw [List.length_eraseIdx, List.length_eraseIdx, h.ln], fun i a w ha hw => ?_, fun i a w ha hw => ?_⟩
  · rw [u_gets (q.pa a (sub.subset (List.mem_of_getElem? ha))).2.2.1]
    rw [List.getElem?_eraseIdx] at ha hw
    by_cases e : i < j
    · rw [if_pos e] at ha hw; exact h.ra i a w ha hw
    · rw [if_neg e] at ha hw; exact h.ra (i + 1) a w ha hw
  · rw [u_gets (q.pa a (sub.subset (List.mem_of_getElem? ha))).2.2.2]
    rw [List.getElem?_eraseIdx] at ha hw
    by_cases e : i < j
    · rw [if_pos e] at ha hw; exact h.la i a w ha hw
    · rw [if_neg e] at ha hw; exact h.la (i + 1) a w ha hw
theorem aL_sub {B : List (Nat × Nat)} (s : B.Sublist A) {i : Nat} (hi : i ∈ aL pl wl B) : i ∈ aL pl wl A := by
  rcases aL_mem.mp hi with e | e | ⟨a, ha, e⟩
  · exact aL_mem.mpr (.inl e)
  · exact aL_mem.mpr (.inr (.inl e))
  · exact aL_mem.mpr (.inr (.inr ⟨a, s.subset ha, e⟩))
theorem Ls.push {N : List (List Nat)} {W : List Wk} (h : Ls T pl wl N W A) (q : Ap pl wl A) (w : Wk) (hw : w.wi = []) : Ls ((T ++ [Cell.lst [], .lst (rowS w T.length)]).set wl (.lst (rfA (A ++ [(T.length + 1, T.length)])))) pl wl N (W ++ [w]) (A ++ [(T.length + 1, T.length)]) := by
  have l0 := st_lt h.w0
  have lp := st_lt h.p0
  have b0 : (T ++ [Cell.lst [], .lst (rowS w T.length)])[T.length]? = some (.lst []) := u_get0
  have b1 : (T ++ [Cell.lst [], .lst (rowS w T.length)])[T.length + 1]? = some (.lst (rowS w T.length)) := u_get1
  refine ⟨by rw [u_gets (Ne.symm q.pw)]; exact st_app h.p0 _, u_gets0 (by rw [List.length_append]; omega), by rw [List.length_append, List.length_append, h.ln]; rfl, fun i a u ha hu => ?_, fun i a u ha hu => ?_⟩
  · by_cases e : i < A.length
    · rw [List.getElem?_append_left e] at ha
      rw [List.getElem?_append_left (by rw [← h.ln]; exact e)] at hu
      rw [u_gets (q.pa a (List.mem_of_getElem? ha)).2.2.1]
      exact st_app (h.ra i a u ha hu) _
    · rw [List.getElem?_append_right (by omega)] at ha
      rw [List.getElem?_append_right (by rw [← h.ln]; omega), ← h.ln] at hu
      cases hi : i - A.length with
      | zero =>
        rw [hi] at ha hu
        cases ha
        cases hu
        rw [u_gets (by omega)]
        exact b1
      | succ k => rw [hi] at ha; cases ha
  · by_cases e : i < A.length
    · rw [List.getElem?_append_left e] at ha
      rw [List.getElem?_append_left (by rw [← h.ln]; exact e)] at hu
      rw [u_gets (q.pa a (List.mem_of_getElem? ha)).2.2.2]
      exact st_app (h.la i a u ha hu) _
    · rw [List.getElem?_append_right (by omega)] at ha
      rw [List.getElem?_append_right (by rw [← h.ln]; omega), ← h.ln] at hu
      cases hi : i - A.length with
      | zero =>
        rw [hi] at ha hu
        cases ha
        cases hu
        rw [u_gets (by omega), hw]
        exact b0
      | succ k => rw [hi] at ha; cases ha
theorem Ap.push (q : Ap pl wl A) {n : Nat} (hn : ∀ i ∈ aL pl wl A, i < n) : Ap pl wl (A ++ [(n + 1, n)]) := by
  have hp := hn _ aL_p
  have hw := hn _ aL_w
  have h1 : ∀ a ∈ A, a.1 < n ∧ a.2 < n := fun a ha => ⟨hn _ (aL_mem.mpr (.inr (.inr ⟨a, ha, .inl rfl⟩))), hn _ (aL_mem.mpr (.inr (.inr ⟨a, ha, .inr rfl⟩)))⟩
  refine ⟨q.pw, fun a ha => ?_, fun a ha b hb => ?_, ?_, ?_⟩
  · rcases List.mem_append.mp ha with z | z
    · exact q.pa a z
    · rw [List.mem_singleton.mp z]
      exact ⟨by omega, by omega, by omega, by omega⟩
  · rcases List.mem_append.mp ha with z | z <;> rcases List.mem_append.mp hb with y | y
    · exact q.ab a z b y
    · rw [List.mem_singleton.mp y]
      have := h1 a z
      show a.1 ≠ n
      omega
    · rw [List.mem_singleton.mp z]
      have := h1 b y
      show n + 1 ≠ b.2
      omega
    · rw [List.mem_singleton.mp z, List.mem_singleton.mp y]
      show n + 1 ≠ n
      omega
  · rw [List.map_append]
    refine List.nodup_append.mpr ⟨q.n1, List.pairwise_singleton _ _, fun i hi j hj e => ?_⟩
    obtain ⟨a, ha, rfl⟩ := List.mem_map.mp hi
    rw [List.map_cons, List.map_nil, List.mem_singleton] at hj
    have := h1 a ha
    have : a.1 = n + 1 := e.trans hj
    omega
  · rw [List.map_append]
    refine List.nodup_append.mpr ⟨q.n2, List.pairwise_singleton _ _, fun i hi j hj e => ?_⟩
    obtain ⟨a, ha, rfl⟩ := List.mem_map.mp hi
    rw [List.map_cons, List.map_nil, List.mem_singleton] at hj
    have := h1 a ha
    have : a.2 = n := e.trans hj
    omega
/-- a deed of works -/
theorem works_d (h : In c pl wl T C A) {x0 x1 x2 : Int} {X : List Int} (z : Int) (hx : T[xl]? = some (.lst (xS X))) (a0 : atI X 0 = some x0) (a1 : atI X 1 = some x1) (a2 : atI X 2 = some x2) (p2 : 0 ≤ x2 ∧ x2 < 700700003) (nx : ¬ mine c pl wl C A xl) :
    ∃ T' C' A', sem_law_of_works [.ref c, .ref wl, .ref xl, .dat (.int z)] T = some (.ok (.dat .none), T') ∧ To c pl wl T C A T' C' A' := by
  have hx' : T[xl]? = some (.lst ((X.map PyData.int).map .dat)) := hx
  have w1 := h.ls.w0
  have rw5 := h.ls.rdW 2
  have lw := h.ok.lw
  have w_lt := st_lt w1
  have x_lt := st_lt hx
  have c0 := h.ch.c0
  unfold insS at c0
  have wlx : wl ≠ xl := fun e => nx (.inr (by rw [← e]; exact aL_w))
  have wlc : wl ≠ c := fun e => h.ap wl aL_w (.inl (by omega))
  by_cases b1 : x0 / 7 % 3 > 0 ∧ C.ws.length < 12
  · have b2 : x0 / 7 % 3 > 0 := b1.1
    have b3 : (C.ws.length : Int) < 12 := by have := b1.2; omega
    obtain ⟨n, fe, hn, hf⟩ := fresh_ev z x1 (C.ws.map Wk.nm) (by rw [List.length_map]; omega)
    obtain ⟨co, ce, co1, co2⟩ := cost_d x2 p2.1 p2.2
    obtain ⟨wn, hwn⟩ : ∃ wn : Wk, wn = ⟨n, co, T.length, []⟩ := ⟨_, rfl⟩
    obtain ⟨T1, hT1⟩ : ∃ T1, T1 = (T ++ [Cell.lst [], .lst (rowS wn T.length)]).set wl (.lst (rfA (A ++ [(T.length + 1, T.length)]))) := ⟨_, rfl⟩
    have f1 : ∀ i x, T[i]? = some x → i ∉ aL pl wl A → T1[i]? = some x := fun i x hx hi => by rw [hT1, u_gets fun z => hi (by rw [← z]; exact aL_w)]; exact st_app hx _
    have l1 : T1.length = T.length + 2 := by rw [hT1, List.length_set, List.length_append]; rfl
    have ls1 : Ls T1 pl wl (C.vs.map (·.1)) (C.ws ++ [wn]) (A ++ [(T.length + 1, T.length)]) := by rw [hT1]; exact h.ls.push h.nd wn (by rw [hwn])
    have ch1 := h.ch1 f1
    have c01 := ch1.c0
    unfold insS at c01
    obtain ⟨T', e, g⟩ := propose_ok ch1 h.ok hn hf b1.2 co1 co2
    have e' : sem_Chest_propose [.ref c, .dat (tD n), .dat (.int co)] T1 = some (.ok (.dat .none), T') := e
    have w11 := ls1.w0
    have rw51 := ls1.rdW 2
    have al := at_last (C.ws ++ [wn]) wn
    have scn : scK (tD n) = some (tD n) := rfl
    have gw : (T ++ [Cell.lst [], Cell.lst [.dat (tD n), .dat (.int co), .ref T.length]])[wl]? = some (.lst (rfA A)) := st_app w1 _
    have wco : wn.co = co := by rw [hwn]
    have gw0 : (T ++ [Cell.lst []])[wl]? = some (.lst (rfA A)) := st_app w1 _
    have er : rfA A ++ [.ref (T.length + 1)] = rfA (A ++ [(T.length + 1, T.length)]) := by unfold rfA; rw [List.map_append]; rfl
    have ew : [SV.dat (tD n), .dat (.int co), .ref T.length] = rowS wn T.length := by rw [hwn]; rfl
    have lA : (rfA A).length < 1000000 := by unfold rfA; rw [List.length_map, h.ls.ln]; omega
    have atl : atI (C.ws ++ [wn]) (-1) = some wn := at_last _ _
    have nm1 : (C.ws.map wkD).map (fun d => d) = C.ws.map wkD := List.map_id' _
    refine ⟨T', C.propose n co T1.length, A ++ [(T.length + 1, T.length)], ?_, to_of h f1 (by omega) (A' := A ++ [(T.length + 1, T.length)]) ?_ (h.nd.push fun i hi => h.lt (.inr hi)) (fun i hi => ?_) g⟩
    · refine run_of rfl (seqRt (ifT (st1 := T) (by simp! only [hx', w1, rw5, a0, b2, b3]) ?_))
      refine seqP (d := tD n) ?_ ?_
      · simp! only [w1, rw5]
        refine b_map (cv := wkD) (fun w => tD w.nm) C.ws (by omega) (fun w _ => ⟨_, rfl, rfl, ?_⟩) ?_
        · simp! [wkD, tD, u_at0]
        · have fe' : sem_law_fresh [.int z, .list (C.ws.map fun w => tD w.nm), .int x1] = some (tD n) := by
            rw [show (C.ws.map fun w => tD w.nm) = (C.ws.map Wk.nm).map tD by rw [List.map_map]; rfl]; exact fe
          simp! only [hx', a1, fe']
      refine seqZ (e' := [some (.ref c), some (.ref wl), some (.ref xl), some (.dat (.int z)), none, some (.dat (tD n))]) (st1 := T1) ?_ ?_
      · simp! only [w1, hx', a2, ce, gw, gw0, scn, u_appS, er]
        rw [hT1, hwn]
        rfl
      · simp! only [c01, w11, rw51, scn, atl, wkD, u_at1, wco, e']
    · show Ls T1 pl wl (C.vs.map (·.1)) (C.ws ++ [(⟨n, co, T1.length, []⟩ : Wk)]) _
      have := ls1
      rw [hwn] at this
      refine ⟨this.p0, this.w0, by rw [this.ln, List.length_append, List.length_append]; rfl, fun i a u ha hu => ?_, fun i a u ha hu => ?_⟩
      all_goals
        by_cases e : i < C.ws.length
        · rw [List.getElem?_append_left e] at hu
          first
          | exact this.ra i a u ha (by rw [List.getElem?_append_left e]; exact hu)
          | exact this.la i a u ha (by rw [List.getElem?_append_left e]; exact hu)
        · rw [List.getElem?_append_right (by omega)] at hu
          cases hi : i - C.ws.length with
          | zero =>
            rw [hi] at hu
            cases hu
            first
            | exact this.ra i a ⟨n, co, T.length, []⟩ ha (by rw [List.getElem?_append_right (by omega), hi]; rfl)
            | exact this.la i a ⟨n, co, T.length, []⟩ ha (by rw [List.getElem?_append_right (by omega), hi]; rfl)
          | succ k => rw [hi] at hu; cases hu
    · rcases aL_mem.mp hi with e | e | ⟨a, ha, e⟩
      · exact .inl (aL_mem.mpr (.inl e))
      · exact .inl (aL_mem.mpr (.inr (.inl e)))
      · rcases List.mem_append.mp ha with z | z
        · exact .inl (aL_mem.mpr (.inr (.inr ⟨a, z, e⟩)))
        · rw [List.mem_singleton.mp z] at e
          rcases e with e | e
          · have e : i = T.length + 1 := e
            exact .inr (by omega)
          · have e : i = T.length := e
            exact .inr (by omega)
  · have hb : (zIf (mPT (tAndD (dB (d2 hGt (d2 hMod (d2 hDiv (d2 hIxL (dV 2) (dC (.int 0))) (dC (.int 7))) (dC (.int 3))) (dC (.int 0)))) (dB (d2 hLt (dA hLen (dCons (dV 1) dNil)) (dC (.int 12))))))
        (zSeq (zSet 5 (mP (dA sem_law_fresh (dCons (dSc (dV 3)) (dCons (dLst (lComp [4] (gSet 4) cYes (dSc (d2 hIxL (dV 4) (dC (.int 0)))) (iL (dV 1)))) (dCons (dSc (d2 hIxL (dV 2) (dC (.int 1)))) dNil))))))
        (zSeq (zExpr (mLM hAppS (mV 1) (mCons (mLst (mCons (mV 5) (mCons (mP (dA sem_law_cost (dCons (dSc (d2 hIxL (dV 2) (dC (.int 2)))) dNil))) (mCons (mAl dNil) mNil)))) mNil)))
        (zRet (mMeth 0 sem_Chest_propose (mV 0) (mCons (mV 5) (mCons (mP (dSc (d2 hIxL (d2 hIxL (dV 1) (d1 hNeg (dC (.int 1)))) (dC (.int 1))))) mNil)))))) zNx) [some (.ref c), some (.ref wl), some (.ref xl), some (.dat (.int z)), none, none] T = some (.nx [some (.ref c), some (.ref wl), some (.ref xl), some (.dat (.int z)), none, none], T) := by
      by_cases b2 : x0 / 7 % 3 > 0
      · have b3 : ¬ (C.ws.length : Int) < 12 := fun h => b1 ⟨b2, by omega⟩
        simp! only [hx', w1, rw5, a0, b2, b3]
      · simp! only [hx', w1, rw5, a0, b2]
    by_cases hws : C.ws = []
    · refine ⟨T, C, A, ?_, To.refl h⟩
      refine run_of rfl (seqZ hb ?_)
      rw [hws] at rw5
      simp only [List.map_nil] at rw5
      have ne : hNe (.list []) (.list []) = some (.bool false) := hNe_nil2
      simp! only [w1, rw5, ne]
    · have wp := List.length_pos_iff.mpr hws
      have ne : hNe (.list (C.ws.map wkD)) (.list []) = some (.bool true) := by
        have ok := ok_wkDs h.ok
        cases hh : C.ws with
        | nil => exact absurd hh hws
        | cons v0 vs0 =>
          rw [hh, List.map_cons] at ok
          exact hNe_cons_nil ok (by decide)
      obtain ⟨j, ej, hj⟩ := emod_nat (x := x1) wp
      obtain ⟨w, hw⟩ : ∃ w, C.ws[j]? = some w := ⟨_, List.getElem?_eq_getElem hj⟩
      obtain ⟨a, ha⟩ := h.ls.get' hw
      have wm := List.mem_of_getElem? hw
      have hl : j < (rfA A).length := by unfold rfA; rw [List.length_map, h.ls.ln]; exact hj
      have ea : atI (rfA A) (j : Int) = some (.ref a.1) := by
        rw [atI_nat _ _ hl]
        unfold rfA
        rw [List.getElem?_map, ha]
        rfl
      have r1 : T[a.1]? = some (.lst [.dat (tD w.nm), .dat (.int w.co), .ref a.2]) := h.ls.ra j a w ha hw
      have r2 : T[a.2]? = some (.lst ((w.wi.map tD).map .dat)) := h.ls.la j a w ha hw
      have plc : placeD (C.ws.map wkD) (.list [tD w.nm, .int w.co, .list (w.wi.map tD)]) = some j := place_w h.ok hw
      obtain ⟨T1, hT1⟩ : ∃ T1, T1 = T.set wl (.lst (rfA (A.eraseIdx j))) := ⟨_, rfl⟩
      have f1 : ∀ i x, T[i]? = some x → i ∉ aL pl wl A → T1[i]? = some x := fun i x hx hi => by rw [hT1, u_gets fun z => hi (by rw [← z]; exact aL_w)]; exact hx
      have ch1 := h.ch1 f1
      have c01 := ch1.c0
      unfold insS at c01
      obtain ⟨T', e, g, _⟩ := withdraw_ok ch1 h.ok wm
      have pa := h.nd.pa a (List.mem_of_getElem? ha)
      have q1 : T1[a.1]? = some (.lst [.dat (tD w.nm), .dat (.int w.co), .ref a.2]) := by rw [hT1, u_gets pa.2.2.1]; exact r1
      have q2 : T1[a.2]? = some (.lst ((w.wi.map tD).map .dat)) := by rw [hT1, u_gets pa.2.2.2]; exact r2
      have scn : scK (tD w.nm) = some (tD w.nm) := rfl
      have e' : sem_Chest_withdraw [.ref c, .dat (tD w.nm)] T1 = some (.ok (.dat .none), T') := e
      have sub : (A.eraseIdx j).Sublist A := List.eraseIdx_sublist ..
      have er := rfA_erase A j
      refine ⟨T', C.withdraw w.nm, A.eraseIdx j, ?_, to_of h f1 (by rw [hT1, List.length_set]; exact Nat.le_refl _) (A' := A.eraseIdx j) ?_ (h.nd.sub sub) (fun i hi => .inl (aL_sub sub hi)) g⟩
      · refine run_of rfl (seqZ hb ?_)
        simp! only [w1, rw5, ne, hx', a1, ej, ea, r1, r2, u_mRemD, u_remK, u_remC, u_remDC, plc, er, ← hT1, c01, q1, q2, u_at0, scn, e']
      · rw [withdraw_ws h.ok hw, hT1]
        exact h.ls.erase h.nd j
end
section
variable {T : Store} {c pl wl xl : Nat} {C : Cs} {A : List (Nat × Nat)}
/-- a deed -/
theorem deed_d (h : In c pl wl T C A) (x : Int) (z : Int) (hx : T[xl]? = some (.lst (xS (spins x 4)))) (nx : ¬ mine c pl wl C A xl) :
    ∃ T' C' A', sem_law_deed [.ref c, .ref pl, .ref wl, .ref xl, .dat (.int z)] T = some (.ok (.dat .none), T') ∧ To c pl wl T C A T' C' A' := by
  have hx' : T[xl]? = some (.lst (((spins x 4).map PyData.int).map .dat)) := hx
  have sa : ∀ k : Int, 0 ≤ k → k < 4 → atI (spins x 4) k = some (spinf x k) := fun k h0 h1 => spins_at x 4 k h0 (by omega)
  have p1 : T[pl]? = some (.lst (((C.vs.map (·.1)).map tD).map .dat)) := h.ls.p0
  have w1 := h.ls.w0
  have rw5 := h.ls.rdW 2
  by_cases b0 : spinf x 0 % 7 = 0
  · have b0' : (spinf x 0 % 7 == 0) = true := beq_iff_eq.mpr b0
    obtain ⟨Y, hY⟩ : ∃ Y : List Int, Y = [spinf x 0 / 7, spinf x 1, spinf x 2, spinf x 3] := ⟨_, rfl⟩
    have ct : cutL (spins x 4) (some 1) none = [spinf x 1, spinf x 2, spinf x 3] := rfl
    obtain ⟨T1, hT1⟩ : ∃ T1, T1 = T ++ [Cell.lst (xS Y)] := ⟨_, rfl⟩
    have h1 : In c pl wl T1 C A := hT1 ▸ h.app _
    have t1 : To c pl wl T C A T1 C A := hT1 ▸ To.app h _
    have n1 : ¬ mine c pl wl C A T.length := fun hm => by have := h.lt hm; omega
    obtain ⟨T', C', e, t⟩ := voters_d (xl := T.length) (X := Y) h1 (x0 := spinf x 0 / 7) (x1 := spinf x 1) z (by rw [hT1]; exact u_get0) (by rw [hY]; rfl) (by rw [hY]; rfl) n1
    refine ⟨T', C', A, ?_, t1.trans t⟩
    have e5 : T1 = T ++ [Cell.lst [.dat (.int (spinf x 0 / 7)), .dat (.int (spinf x 1)), .dat (.int (spinf x 2)), .dat (.int (spinf x 3))]] := by rw [hT1, hY]; rfl
    have sc : scsK [PyData.int (spinf x 1), PyData.int (spinf x 2), PyData.int (spinf x 3)] = some [.int (spinf x 1), .int (spinf x 2), .int (spinf x 3)] := rfl
    have hc : hCat (.list [PyData.int (spinf x 0 / 7)]) (.list [.int (spinf x 1), .int (spinf x 2), .int (spinf x 3)]) = some [.int (spinf x 0 / 7), .int (spinf x 1), .int (spinf x 2), .int (spinf x 3)] := rfl
    simp! only [sem_law_deed, hx', sa, hEq_int, b0', ct, sc, hc, ← e5, e]
  · have b0' : (spinf x 0 % 7 == 0) = false := beq_eq_false_iff_ne.mpr b0
    have s2 := spinf_nn x 2
    have ev : hEq (.list ((C.vs.map (·.1)).map tD)) (.list []) = some (.bool (decide (C.vs = []))) := by
      cases hh : C.vs with
      | nil => exact hEq_ints [] []
      | cons v vs =>
        have ok := ok_tDs (okN h.ok)
        rw [hh, List.map_cons, List.map_cons] at ok
        exact hEq_cons_nil ok (by decide)
    have ew : hEq (.list (C.ws.map wkD)) (.list []) = some (.bool (decide (C.ws = []))) := by
      cases hh : C.ws with
      | nil => exact hEq_ints [] []
      | cons v vs =>
        have ok := ok_wkDs h.ok
        rw [hh, List.map_cons] at ok
        exact hEq_cons_nil ok (by decide)
    by_cases b1 : spinf x 0 % 7 < 3 ∨ C.vs = [] ∨ C.ws = []
    · obtain ⟨T', C', A', e, t⟩ := works_d h z hx (sa 0 (by decide) (by decide)) (sa 1 (by decide) (by decide)) (sa 2 (by decide) (by decide)) s2 nx
      refine ⟨T', C', A', ?_, t⟩
      by_cases b2 : spinf x 0 % 7 < 3
      · simp! only [sem_law_deed, hx', sa, hEq_int, b0', b2, e]
      · by_cases b3 : C.vs = []
        · rw [decide_eq_true b3] at ev
          simp! only [sem_law_deed, hx', sa, hEq_int, b0', b2, p1, ev, e]
        · rw [decide_eq_false b3] at ev
          have b4 : C.ws = [] := (b1.resolve_left b2).resolve_left b3
          rw [decide_eq_true b4] at ew
          simp! only [sem_law_deed, hx', sa, hEq_int, b0', b2, p1, ev, w1, rw5, ew, e]
    · have b2 : ¬ spinf x 0 % 7 < 3 := fun z => b1 (.inl z)
      have b3 : C.vs ≠ [] := fun z => b1 (.inr (.inl z))
      have b4 : C.ws ≠ [] := fun z => b1 (.inr (.inr z))
      obtain ⟨T', C', e, t⟩ := wishes_d h b3 b4 hx (sa 0 (by decide) (by decide)) (sa 1 (by decide) (by decide)) (sa 2 (by decide) (by decide)) (sa 3 (by decide) (by decide)) nx
      refine ⟨T', C', A, ?_, t⟩
      rw [decide_eq_false b3] at ev
      rw [decide_eq_false b4] at ew
      simp! only [sem_law_deed, hx', sa, hEq_int, b0', b2, p1, ev, w1, rw5, ew, e]
end
def workN (N : List (List Nat)) (w : Wk) : D := .tuple [tD w.nm, .int w.co, .list ((N.filter fun n => w.wi.contains n).map tD)]
theorem due_ev (N : List (List Nat)) (W : List Wk) (hN : N.length ≤ 20) (hW : W.length ≤ 12) : sem_law_due [.list (N.map tD), .list (W.map wkD)] = some (.list (W.map (workN N))) := by
  simp! [sem_law_due]
  refine b_map (cv := wkD) (workN N) W (by omega) (fun w _ => ⟨_, rfl, rfl, ?_⟩) rfl
  simp! [wkD, u_at0, u_at1, u_at2, tD]
  refine b_filter (cv := tD) tD (fun n => w.wi.contains n) N (by omega) (fun n _ => ⟨_, rfl, ?_, fun _ => ?_⟩) ?_
  · have := in_tx n w.wi
    simp! [tD, u_at2, this]
  · simp! [tD]
  · simp! [workN, tD]
theorem counts_ev (z : Int) : sem_law_counts [.int z] = some (.bool true) := by simp! [sem_law_counts]
theorem workN_eq {C : Cs} {w : Wk} : workN (C.vs.map (·.1)) w = workD C w := rfl
theorem ok_workD {C : Cs} (k : Ok C) {w : Wk} (hw : w ∈ C.ws) : okD 2 (workD C w) := okD_tuple fun d hd => by
  simp only [List.mem_cons, List.not_mem_nil, or_false] at hd
  rcases hd with rfl | rfl | rfl
  · exact okD_mono (ok_tD (nm_ok (k.iw w hw))) (by decide)
  · exact okD_mono (okD_sc rfl) (by decide)
  · exact ok_tDs fun n hn => okN k n (List.mem_filter.mp hn).1
theorem ok_workDs {C : Cs} (k : Ok C) : okD 3 (.list (C.ws.map (workD C))) := okD_list fun d hd => by
  obtain ⟨w, hw, rfl⟩ := List.mem_map.mp hd
  exact ok_workD k hw
/-- what is held: due, found, the pair of both -/
def heldC (C : Cs) (k : Nat) : Store := .lst ((C.ws.map (workD C)).map .dat) :: (wkC C (k + 1) C.ws ++ [.tup [.ref (k + 1), .ref k]])
theorem heldC_len (C : Cs) (k : Nat) : (heldC C k).length = 2 * C.ws.length + 3 := by
  unfold heldC
  rw [List.length_cons, List.length_append, wkC_len]
  rfl
section
variable {T : Store} {c pl wl xl : Nat} {C : Cs} {A : List (Nat × Nat)}
theorem right_loop (k : Ok C) {f hl d : Nat} {s : Store} (ha : At s f (wkC C f C.ws)) :
    forZ (fun st' => lstOf st' (.ref f) = some (wkRefs f C.ws.length)) (gN 6) sem_law_right_b5 [6] (ones (wkRefs f C.ws.length)) [some (.ref c), some (.ref pl), some (.ref wl), some (.ref hl), some (.ref d), some (.ref f), none, none, none] s = some (.nx [some (.ref c), some (.ref pl), some (.ref wl), some (.ref hl), some (.ref d), some (.ref f), none, none, none], s) := by
  have a0 : s[f]? = some (.lst (wkRefs f C.ws.length)) := ha 0 _ rfl
  have e1 : ones (wkRefs f C.ws.length) = (List.range C.ws.length).map fun m => Itm.one (.ref (f + (2 * m + 2))) := by unfold ones wkRefs; rw [List.map_map]; rfl
  rw [e1]
  refine for_skip (fun m => Itm.one (.ref (f + (2 * m + 2)))) (by rw [u_lst_ref, a0]; rfl) _ fun m hm => ?_
  have hm' := List.mem_range.mp hm
  obtain ⟨x1, x2⟩ := wkC1_at C C.ws (f + 1) m C.ws[m] (List.getElem?_eq_getElem hm')
  have b1 : s[f + (2 * m + 1)]? = some (.lst (((wNames C C.ws[m]).map tD).map .dat)) := ha (2 * m + 1) _ x1
  have b2 := ha (2 * m + 2) _ x2
  rw [show f + 1 + 2 * m = f + (2 * m + 1) by omega] at b2
  refine ⟨_, [some (.ref c), some (.ref pl), some (.ref wl), some (.ref hl), some (.ref d), some (.ref f), some (.ref (f + (2 * m + 2))), none, none], rfl, ?_, rfl⟩
  simp! only [sem_law_right_b5, b1, b2, u_at0, u_at1, u_at2, counts_ev]
/-- all is right, and it is held -/
theorem right_d (h : In c pl wl T C A) {hl : Nat} {hs : List SV} (hh : T[hl]? = some (.lst hs)) (hn : ¬ mine c pl wl C A hl) (hlen : hs.length < 1000) :
    ∃ L, sem_law_right [.ref c, .ref pl, .ref wl, .ref hl] T = some (.ok (.dat (.bool true)), T.set hl (.lst (hs ++ [.ref (T.length + (2 * C.ws.length + 2))])) ++ (heldC C T.length ++ L)) := by
  have p1 : T[pl]? = some (.lst (((C.vs.map (·.1)).map tD).map .dat)) := h.ls.p0
  have w1 := h.ls.w0
  have rw5 := h.ls.rdW 2
  have lw := h.ok.lw
  have lv := h.ok.lv
  have hl_lt := st_lt hh
  have dv := due_ev (C.vs.map (·.1)) C.ws (by rw [List.length_map]; exact lv) lw
  have dv : sem_law_due [.list ((C.vs.map (·.1)).map tD), .list (C.ws.map wkD)] = some (.list (C.ws.map (workD C))) := dv
  obtain ⟨f, hf⟩ : ∃ f, f = T.length + 1 := ⟨_, rfl⟩
  obtain ⟨T1, hT1⟩ : ∃ T1, T1 = T ++ [Cell.lst ((C.ws.map (workD C)).map .dat)] := ⟨_, rfl⟩
  have l1 : T1.length = f := by rw [hT1, List.length_append, hf]; rfl
  have h1 : In c pl wl T1 C A := hT1 ▸ h.app _
  have we := works_ev h1.ch h1.ok
  rw [l1] at we
  obtain ⟨T2, hT2⟩ : ∃ T2, T2 = T1 ++ wkC C f C.ws := ⟨_, rfl⟩
  rw [← hT2] at we
  have l2 : T2.length = f + (2 * C.ws.length + 1) := by rw [hT2, List.length_append, wkC_len, l1]
  have h2 : In c pl wl T2 C A := hT2 ▸ h1.app _
  have c1 := h1.ch.c0
  have c2 := h2.ch.c0
  unfold insS at c1 c2
  have at2 : At T2 f (wkC C f C.ws) := by rw [hT2, ← l1]; exact at_app' _ _
  have a0 : T2[f]? = some (.lst (wkRefs f C.ws.length)) := at2 0 _ rfl
  have rd2 : omap (dr 5 T2) (wkRefs f C.ws.length) = some (C.ws.map (workD C)) := by
    have := wk_rd (n := 2) at2
    rw [u_dr_ref, a0, u_drC_lst] at this
    cases e : omap (dr 5 T2) (wkRefs f C.ws.length) with
    | none => rw [e] at this; cases this
    | some l => rw [e] at this; cases this; rfl
  have due2 : T2[T.length]? = some (.lst ((C.ws.map (workD C)).map .dat)) := by rw [hT2, hT1]; exact st_app u_get0 _
  have ne := hNe_self (ok_workDs h.ok) (by decide)
  obtain ⟨T3, hT3⟩ : ∃ T3, T3 = T.set hl (.lst (hs ++ [.ref (T.length + (2 * C.ws.length + 2))])) ++ heldC C T.length := ⟨_, rfl⟩
  have e3 : T3 = (T2 ++ [Cell.tup [.ref f, .ref T.length]]).set hl (.lst (hs ++ [.ref T2.length])) := by
    rw [hT3, hT2, hT1, List.set_append_left _ _ (by rw [List.length_append, List.length_append]; omega), List.set_append_left _ _ (by rw [List.length_append]; omega), List.set_append_left _ _ hl_lt, ← hT1, ← hT2, l2, hf]
    unfold heldC
    rw [List.append_assoc, List.append_assoc, show T.length + 1 + (2 * C.ws.length + 1) = T.length + (2 * C.ws.length + 2) by omega]
    rfl
  have h3 : In c pl wl T3 C A := by
    have hp := h2.app [Cell.tup [.ref f, .ref T.length]]
    rw [e3]
    refine ⟨hp.ch.set fun z => hn (.inl z), hp.ok, hp.ls.mono fun i x hi hx => by rw [u_gets fun z => hn (.inr (by rw [z]; exact hi))]; exact hx, hp.nd, hp.ap⟩
  have ve := voters_ev h3.ch h3.ok
  obtain ⟨T4, hT4⟩ : ∃ T4, T4 = T3 ++ voC T3.length C.vs := ⟨_, rfl⟩
  rw [← hT4] at ve
  have h4 : In c pl wl T4 C A := hT4 ▸ h3.app _
  have c3 := h3.ch.c0
  unfold insS at c3
  have hh2 : T2[hl]? = some (.lst hs) := by rw [hT2, hT1]; exact st_app (st_app hh _) _
  have hh2' : (T2 ++ [Cell.tup [.ref f, .ref T.length]])[hl]? = some (.lst hs) := st_app hh2 _
  have at4 : At T4 T3.length (voC T3.length C.vs) := by rw [hT4]; exact at_app' _ _
  have v0 : T4[T3.length]? = some (.lst (vRefs T3.length C.vs.length)) := at4 0 _ rfl
  have cm := comp_flt (ok := fun st' => lstOf st' (.ref T3.length) = some (vRefs T3.length C.vs.length)) (set := gT (gsC (gN 7) (gsC (gN 8) gsN))) (q := mYes) (f := mV 7) (st := T4) (e := [some (.ref c), some (.ref pl), some (.ref wl), some (.ref hl), some (.ref T.length), some (.ref f), none, none, none])
    (fun m : Nat => Itm.one (.ref (T3.length + (m + 1)))) (List.range C.vs.length) (fun _ => true) (fun m => .dat (tD (C.vs.getD m default).1)) (fun acc => by rw [u_lst_ref, st_app v0]; rfl) (by rw [List.length_range]; omega) (fun m hm => by
      have hm' := List.mem_range.mp hm
      have rc : T4[T3.length + (m + 1)]? = some (rowC C.vs[m]) := at4 (m + 1) _ (by rw [voC_at, List.getElem?_eq_getElem hm']; rfl)
      have gd : C.vs.getD m default = C.vs[m] := by rw [List.getD_eq_getElem?_getD, List.getElem?_eq_getElem hm']; rfl
      rw [gd]
      refine ⟨[some (.ref c), some (.ref pl), some (.ref wl), some (.ref hl), some (.ref T.length), some (.ref f), none, some (.dat (tD C.vs[m].1)), some (.dat (.int C.vs[m].2))], fun acc => ?_, fun acc => rfl, fun _ acc => rfl⟩
      rw [u_gT1, u_tup_ref, st_app rc]
      rfl)
  rw [List.filter_eq_self.mpr fun _ _ => rfl] at cm
  have e1 : ((List.range C.vs.length).map fun m => Itm.one (.ref (T3.length + (m + 1)))) = ones (vRefs T3.length C.vs.length) := by unfold ones vRefs; rw [List.map_map]; rfl
  have e2 : ((List.range C.vs.length).map fun m => SV.dat (tD (C.vs.getD m default).1)) = ((C.vs.map (·.1)).map tD).map .dat := by
    rw [List.map_map, List.map_map]
    exact range_getD (fun v : List Nat × Int => SV.dat (tD v.1)) default C.vs
  rw [e1, e2] at cm
  simp only [u_lst_ref] at cm
  have p5 : ∀ L, (T4 ++ L)[pl]? = some (.lst (((C.vs.map (·.1)).map tD).map .dat)) := fun L => st_app h4.ls.p0 L
  have eq := hEq_self (ok_tDs (okN h.ok)) (by decide)
  have lp := right_loop (c := c) (pl := pl) (wl := wl) (hl := hl) (d := T.length) h.ok at2
  simp only [u_lst_ref] at lp
  have e4 : T.set hl (.lst (hs ++ [.ref (T.length + (2 * C.ws.length + 2))])) ++ (heldC C T.length ++ (voC T3.length C.vs ++ [.lst (((C.vs.map (·.1)).map tD).map .dat)])) = T4 ++ [.lst (((C.vs.map (·.1)).map tD).map .dat)] := by
    rw [hT4, List.append_assoc, ← List.append_assoc, ← hT3]
  refine ⟨voC T3.length C.vs ++ [.lst (((C.vs.map (·.1)).map tD).map .dat)], ?_⟩
  rw [e4]
  unfold sem_law_right
  refine run_of rfl ?_
  refine seqZ (e' := [some (.ref c), some (.ref pl), some (.ref wl), some (.ref hl), some (.ref T.length), none, none, none, none]) (st1 := T1) (by simp! only [p1, w1, rw5, dv]; rw [hT1]) ?_
  refine seqZ (e' := [some (.ref c), some (.ref pl), some (.ref wl), some (.ref hl), some (.ref T.length), some (.ref f), none, none, none]) (st1 := T2) (by simp! only [c1, we]) ?_
  refine seqZ (e' := [some (.ref c), some (.ref pl), some (.ref wl), some (.ref hl), some (.ref T.length), some (.ref f), none, none, none]) (st1 := T2) (by simp! only [a0, rd2, due2, ne]) ?_
  unfold sem_law_right_t3
  refine seqZ (e' := [some (.ref c), some (.ref pl), some (.ref wl), some (.ref hl), some (.ref T.length), some (.ref f), none, none, none]) (st1 := T2) (by simp! only [a0, lp]) ?_
  unfold sem_law_right_t4
  refine seqZ (e' := [some (.ref c), some (.ref pl), some (.ref wl), some (.ref hl), some (.ref T.length), some (.ref f), none, none, none]) (st1 := T3) (by simp! only [hh2, hh2', u_appS, ← e3]) ?_
  simp! only [c3, ve, v0, cm, p5, eq]
end
theorem il_al {p : SE → Option (List D)} {e : SEnv} {st : Store} {ds : List D} (h : p (view st e) = some ds) : mIL (mAl p) e st = some (.ok ⟨ones (ds.map .dat), fun st' => lstOf st' (.ref st.length) = some (ds.map .dat)⟩, st ++ [.lst (ds.map .dat)]) := by
  rw [u_mIL, u_mb, u_mAl, h, u_malK, u_mbK, u_ilK, u_lst_ref, u_get0]
  rfl
def hRef (h : Nat × Cs) : SV := .ref (h.1 + (2 * h.2.ws.length + 2))
structure Hd (s : Store) (C : Cs) (A : List (Nat × Nat)) (hs : List (Nat × Cs)) : Prop where
  h8 : s[8]? = some (.lst (hs.map hRef))
  at_ : ∀ h ∈ hs, At s h.1 (heldC h.2 h.1)
  ok : ∀ h ∈ hs, Ok h.2
  pw : hs.Pairwise fun a b => a.1 + (2 * a.2.ws.length + 3) ≤ b.1
  fr : ∀ h ∈ hs, ∀ i, h.1 ≤ i → i < h.1 + (2 * h.2.ws.length + 3) → i ≠ 8 ∧ ¬ mine 0 6 7 C A i
theorem At.some {s : Store} {k : Nat} {L : Store} (h : At s k L) {i : Nat} (h1 : k ≤ i) (h2 : i < k + L.length) : ∃ x, s[i]? = some x := by
  obtain ⟨j, rfl⟩ := Nat.exists_eq_add_of_le h1
  exact ⟨_, h j _ (List.getElem?_eq_getElem (by omega))⟩
section
variable {s s' : Store} {C C' : Cs} {A A' : List (Nat × Nat)} {hs : List (Nat × Cs)}
theorem Hd.to (H : Hd s C A hs) (t : To 0 6 7 s C A s' C' A') (n8 : ¬ mine 0 6 7 C A 8) : Hd s' C' A' hs := by
  refine ⟨t.fr 8 _ H.h8 n8, fun h hh i x hx => ?_, H.ok, H.pw, fun h hh i h1 h2 => ⟨(H.fr h hh i h1 h2).1, ?_⟩⟩
  · have hl := (List.getElem?_eq_some_iff.mp hx).1
    rw [heldC_len] at hl
    exact t.fr _ _ (H.at_ h hh i x hx) (H.fr h hh _ (by omega) (by omega)).2
  · obtain ⟨x, hx⟩ := (H.at_ h hh).some h1 (by rw [heldC_len]; exact h2)
    exact (t.keep hx (H.fr h hh i h1 h2).2).2
theorem Hd.app (H : Hd s C A hs) (L : Store) : Hd (s ++ L) C A hs := ⟨st_app H.h8 L, fun h hh => (H.at_ h hh).app L, H.ok, H.pw, H.fr⟩
theorem In.set8 {c pl wl j : Nat} (h : In c pl wl s C A) (hn : ¬ mine c pl wl C A j) (X : Cell) : In c pl wl (s.set j X) C A := ⟨h.ch.set fun z => hn (.inl z), h.ok, h.ls.mono fun i x hi hx => by rw [u_gets fun z => hn (.inr (by rw [z]; exact hi))]; exact hx, h.nd, h.ap⟩
theorem Hd.push (H : Hd s C A hs) (h : In 0 6 7 s C A) (n8 : ¬ mine 0 6 7 C A 8) (L : Store) : Hd (s.set 8 (.lst (hs.map hRef ++ [.ref (s.length + (2 * C.ws.length + 2))])) ++ (heldC C s.length ++ L)) C A (hs ++ [(s.length, C)]) := by
  have l8 := st_lt H.h8
  have sl : (s.set 8 (.lst (hs.map hRef ++ [.ref (s.length + (2 * C.ws.length + 2))]))).length = s.length := List.length_set ..
  have hlt : ∀ h ∈ hs, h.1 + (2 * h.2.ws.length + 3) ≤ s.length := fun h hh => by
    obtain ⟨x, hx⟩ := (H.at_ h hh).some (i := h.1 + (2 * h.2.ws.length + 2)) (by omega) (by rw [heldC_len]; omega)
    have := st_lt hx
    omega
  refine ⟨?_, fun g hg => ?_, fun g hg => ?_, ?_, fun g hg i h1 h2 => ?_⟩
  · refine st_app ?_ _
    rw [u_gets0 l8, List.map_append]
    rfl
  · rcases List.mem_append.mp hg with z | z
    · refine At.app (fun i x hx => ?_) _
      have hl := (List.getElem?_eq_some_iff.mp hx).1
      rw [heldC_len] at hl
      rw [u_gets (Ne.symm (H.fr g z _ (by omega) (by omega)).1)]
      exact H.at_ g z i x hx
    · rw [List.mem_singleton.mp z]
      have := at_app (s.set 8 (.lst (hs.map hRef ++ [.ref (s.length + (2 * C.ws.length + 2))]))) (heldC C s.length) L
      rw [sl] at this
      exact this
  · rcases List.mem_append.mp hg with z | z
    · exact H.ok g z
    · rw [List.mem_singleton.mp z]; exact h.ok
  · refine List.pairwise_append.mpr ⟨H.pw, List.pairwise_singleton _ _, fun a ha b hb => ?_⟩
    rw [List.mem_singleton.mp hb]
    exact hlt a ha
  · rcases List.mem_append.mp hg with z | z
    · exact H.fr g z i h1 h2
    · rw [List.mem_singleton.mp z] at h1 h2
      have h1 : s.length ≤ i := h1
      exact ⟨by omega, fun hm => by have := h.lt hm; omega⟩
theorem b9_ok (h : In 0 6 7 s C A) (n8 : ¬ mine 0 6 7 C A 8) (H : Hd s C A hs) (hl : hs.length < 1000) (ns : List Int) (z x : Int) :
    ∃ s' C' A' k, sem_law_b9 [some (.dat (.list (ns.map PyData.int))), some (.dat (.int z)), some (.ref 0), some (.ref 6), some (.ref 7), some (.ref 8), none, some (.dat (.int x)), none, none, none, none] s = some (.nx [some (.dat (.list (ns.map PyData.int))), some (.dat (.int z)), some (.ref 0), some (.ref 6), some (.ref 7), some (.ref 8), none, some (.dat (.int x)), some (.ref s.length), none, none, none], s') ∧
      In 0 6 7 s' C' A' ∧ ¬ mine 0 6 7 C' A' 8 ∧ Hd s' C' A' (hs ++ [(k, C')]) ∧ ∀ i y, s[i]? = some y → ¬ mine 0 6 7 C A i → i ≠ 8 → s'[i]? = some y ∧ ¬ mine 0 6 7 C' A' i := by
  have sp : sem_law_spins [.int x, .int 4] = _ := spins_ev x 4 (by decide)
  obtain ⟨s1, hs1⟩ : ∃ s1, s1 = s ++ [Cell.lst (xS (spins x 4))] := ⟨_, rfl⟩
  have h1 : In 0 6 7 s1 C A := hs1 ▸ h.app _
  have H1 : Hd s1 C A hs := hs1 ▸ H.app _
  have nl : ¬ mine 0 6 7 C A s.length := fun hm => by have := h.lt hm; omega
  obtain ⟨s2, C', A', e2, t⟩ := deed_d h1 x z (xl := s.length) (by rw [hs1]; exact u_get0) nl
  have n82 := (t.keep H1.h8 n8).2
  have H2 := H1.to t n8
  obtain ⟨L, e3⟩ := right_d t.i H2.h8 n82 (by rw [List.length_map]; exact hl)
  refine ⟨_, C', A', s2.length, ?_, (t.i.set8 n82 _).app _, n82, H2.push t.i n82 L, fun i y hy hm h8 => ?_⟩
  · unfold sem_law_b9
    refine seqZ (e' := [some (.dat (.list (ns.map PyData.int))), some (.dat (.int z)), some (.ref 0), some (.ref 6), some (.ref 7), some (.ref 8), none, some (.dat (.int x)), some (.ref s.length), none, none, none]) (st1 := s1) (by simp! only [sp]; rw [hs1]; rfl) ?_
    refine seqZ (e' := [some (.dat (.list (ns.map PyData.int))), some (.dat (.int z)), some (.ref 0), some (.ref 6), some (.ref 7), some (.ref 8), none, some (.dat (.int x)), some (.ref s.length), none, none, none]) (st1 := s2) (by simp! only [e2]) ?_
    unfold sem_law_l13
    simp! only [e3]
  · have y1 : s1[i]? = some y := by rw [hs1]; exact st_app hy _
    obtain ⟨k1, k2⟩ := t.keep y1 hm
    exact ⟨st_app (by rw [u_gets (Ne.symm h8)]; exact k1) _, k2⟩
theorem In.mono {c pl wl : Nat} (h : In c pl wl s C A) (f : ∀ i x, s[i]? = some x → mine c pl wl C A i → s'[i]? = some x) : In c pl wl s' C A := ⟨h.ch.mono fun i x hx ho => f i x hx (.inl ho), h.ok, h.ls.mono fun i x hi hx => f i x hx (.inr hi), h.nd, h.ap⟩
theorem held_sub {k : Nat} (h : At s k (heldC C k)) : At s (k + 1) (wkC C (k + 1) C.ws) ∧ s[k]? = some (.lst ((C.ws.map (workD C)).map .dat)) ∧ s[k + (2 * C.ws.length + 2)]? = some (.tup [.ref (k + 1), .ref k]) := by
  refine ⟨fun i x hx => ?_, h 0 _ rfl, h _ _ ?_⟩
  · have hl := (List.getElem?_eq_some_iff.mp hx).1
    have := h (i + 1) x (by
      unfold heldC
      rw [List.getElem?_cons_succ, List.getElem?_append_left hl]
      exact hx)
    rw [show k + 1 + i = k + (i + 1) by omega]
    exact this
  · unfold heldC
    rw [show 2 * C.ws.length + 2 = (2 * C.ws.length + 1) + 1 by omega, List.getElem?_cons_succ, List.getElem?_append_right (by rw [wkC_len]; exact Nat.le_refl _), wkC_len, Nat.sub_self]
    rfl
theorem rd_found (h : At s k (wkC C k C.ws)) : omap (dr 5 s) (wkRefs k C.ws.length) = some (C.ws.map (workD C)) := by
  have a0 : s[k]? = some (.lst (wkRefs k C.ws.length)) := h 0 _ rfl
  have := wk_rd (n := 2) h
  rw [u_dr_ref, a0, u_drC_lst] at this
  cases e : omap (dr 5 s) (wkRefs k C.ws.length) with
  | none => rw [e] at this; cases this
  | some l => rw [e] at this; cases this; rfl
end
theorem extC_ok {st : Store} {i : Nat} {xs ys : List SV} (h : xs.length + ys.length ≤ 1000000) : extC st i ys (some (.lst xs)) = some (.ok (.dat .none), st.set i (.lst (xs ++ ys))) := by
  rw [u_extC, if_pos h]
section
variable {s : Store} {C : Cs} {A : List (Nat × Nat)} {hs : List (Nat × Cs)}
/-- the lists of one held answer are filled up -/
theorem fill_ok {N : List (List Nat)} (hN : s[6]? = some (.lst (nmS N))) (lN : N.length ≤ 20) {k : Nat} {D : Cs} (kd : Ok D) (ha : At s k (heldC D k)) (k6 : ∀ i, k ≤ i → i < k + (2 * D.ws.length + 3) → i ≠ 6) (ns : List Int) (z : Int) :
    ∃ s', (zFor (gN 11) sem_law_b19 [11] (mIL (mV 9))) [some (.dat (.list (ns.map PyData.int))), some (.dat (.int z)), some (.ref 0), some (.ref 6), some (.ref 7), some (.ref 8), none, none, none, some (.ref (k + 1)), some (.ref k), none] s = some (.nx [some (.dat (.list (ns.map PyData.int))), some (.dat (.int z)), some (.ref 0), some (.ref 6), some (.ref 7), some (.ref 8), none, none, none, some (.ref (k + 1)), some (.ref k), none], s') ∧
      s'[k + 1]? = some (.lst (wkRefs (k + 1) D.ws.length)) ∧ ∀ i x, s[i]? = some x → ¬ (k ≤ i ∧ i < k + (2 * D.ws.length + 3)) → s'[i]? = some x := by
  obtain ⟨hf, hd, ht⟩ := held_sub ha
  have a0 : s[k + 1]? = some (.lst (wkRefs (k + 1) D.ws.length)) := hf 0 _ rfl
  have lw := kd.lw
  have lv := kd.lv
  obtain ⟨r, h1, s', rfl, h2⟩ := for_inv (ok := fun st' => lstOf st' (.ref (k + 1)) = some (wkRefs (k + 1) D.ws.length)) (set := gN 11) (kl := [11]) (z := sem_law_b19) (e := [some (.dat (.list (ns.map PyData.int))), some (.dat (.int z)), some (.ref 0), some (.ref 6), some (.ref 7), some (.ref 8), none, none, none, some (.ref (k + 1)), some (.ref k), none]) (st := s)
    (fun m : Nat => Itm.one (.ref (k + 1 + (2 * m + 2)))) (List.range D.ws.length) (fun p e s' => e = [some (.dat (.list (ns.map PyData.int))), some (.dat (.int z)), some (.ref 0), some (.ref 6), some (.ref 7), some (.ref 8), none, none, none, some (.ref (k + 1)), some (.ref k), none] ∧ ∀ i x, s[i]? = some x → (∀ m, m < p.length → i ≠ k + 1 + (2 * m + 1)) → s'[i]? = some x)
    (fun r => ∃ s', r = (.nx [some (.dat (.list (ns.map PyData.int))), some (.dat (.int z)), some (.ref 0), some (.ref 6), some (.ref 7), some (.ref 8), none, none, none, some (.ref (k + 1)), some (.ref k), none], s') ∧ ∀ i x, s[i]? = some x → (∀ m, m < D.ws.length → i ≠ k + 1 + (2 * m + 1)) → s'[i]? = some x)
    (fun p m q e s' hx hP => by
      obtain ⟨he, hfr⟩ := hP
      subst he
      obtain ⟨hi, hp, hlt⟩ := range_split hx.symm
      subst hi
      obtain ⟨x1, x2⟩ := wkC1_at D D.ws (k + 1 + 1) p.length D.ws[p.length] (List.getElem?_eq_getElem hlt)
      have b1 := hf (2 * p.length + 1) _ x1
      have b2 := hf (2 * p.length + 2) _ x2
      rw [show k + 1 + 1 + 2 * p.length = k + 1 + (2 * p.length + 1) by omega] at b2
      have c0 := hfr _ _ a0 (fun m hm => by omega)
      have c1 := hfr _ _ b1 (fun m hm => by omega)
      have c2 := hfr _ _ b2 (fun m hm => by omega)
      have c6 := hfr _ _ hN (fun m hm e => k6 (k + 1 + (2 * m + 1)) (by omega) (by omega) e.symm)
      have ln : (wNames D D.ws[p.length]).length ≤ 20 := by
        unfold wNames
        have := List.length_filter_le (fun n => D.ws[p.length].wi.contains n) (D.vs.map (·.1))
        rw [List.length_map] at this
        omega
      have le : (nmS (wNames D D.ws[p.length])).length + (nmS N).length ≤ 1000000 := by
        unfold nmS
        rw [List.length_map, List.length_map, List.length_map, List.length_map]
        omega
      refine ⟨by rw [u_lst_ref, c0]; rfl, _, _, rfl, (.nx [some (.dat (.list (ns.map PyData.int))), some (.dat (.int z)), some (.ref 0), some (.ref 6), some (.ref 7), some (.ref 8), none, none, none, some (.ref (k + 1)), some (.ref k), some (.ref (k + 1 + (2 * p.length + 2)))], s'.set (k + 1 + (2 * p.length + 1)) (.lst (nmS (wNames D D.ws[p.length]) ++ nmS N))), ?_, rfl, fun i x hx hi => ?_⟩
      · simp! only [sem_law_b19, c2, u_at2, u_mExt, u_extK, c1, c6, extC_ok le]
      · rw [List.length_append, List.length_singleton] at hi
        rw [u_gets (Ne.symm (hi p.length (by omega)))]
        exact hfr i x hx fun m hm => hi m (by omega))
    (fun e s' hP => by
      obtain ⟨he, hfr⟩ := hP
      subst he
      rw [List.length_range] at hfr
      exact ⟨by rw [u_lst_ref, hfr _ _ a0 (fun m hm => by omega)]; rfl, s', rfl, hfr⟩)
    ⟨rfl, fun i x hx _ => hx⟩
  refine ⟨s', ?_, h2 _ _ a0 (fun m hm => by omega), fun i x hx hi => h2 i x hx fun m hm e => hi (by omega)⟩
  have e1 : ones (wkRefs (k + 1) D.ws.length) = (List.range D.ws.length).map fun m => Itm.one (.ref (k + 1 + (2 * m + 2))) := by unfold ones wkRefs; rw [List.map_map]; rfl
  rw [← e1] at h1
  simp only [u_lst_ref] at h1
  simp! only [a0, h1]
theorem t9_ok (h : In 0 6 7 s C A) (ns : List Int) (z : Int) : ∃ s', sem_law_t9 [some (.dat (.list (ns.map PyData.int))), some (.dat (.int z)), some (.ref 0), some (.ref 6), some (.ref 7), some (.ref 8), none, none, none, none, none, none] s = some (.rt (.dat (.bool true)), s') := by
  have h1 := h.app [Cell.lst []]
  obtain ⟨L, e⟩ := right_d (hl := s.length) (hs := []) h1 u_get0 (fun hm => by have := h.lt hm; omega) (by decide)
  generalize List.set (s ++ [Cell.lst []]) s.length _ ++ _ = S2 at e
  exact ⟨S2, by simp! only [sem_law_t9, e]⟩
theorem t8_ok (h : In 0 6 7 s C A) (n8 : ¬ mine 0 6 7 C A 8) (H : Hd s C A hs) (ns : List Int) (z : Int) :
    ∃ s', sem_law_t8 [some (.dat (.list (ns.map PyData.int))), some (.dat (.int z)), some (.ref 0), some (.ref 6), some (.ref 7), some (.ref 8), none, none, none, none, none, none] s = some (.rt (.dat (.bool true)), s') := by
  have h8 := H.h8
  have lv := h.ok.lv
  unfold sem_law_t8
  refine seqForX (src := ⟨ones (hs.map hRef), fun st' => lstOf st' (.ref 8) = some (hs.map hRef)⟩) (st1 := s) (fun g : Nat × Cs => Itm.one (hRef g)) hs (fun p e s' => e = [some (.dat (.list (ns.map PyData.int))), some (.dat (.int z)), some (.ref 0), some (.ref 6), some (.ref 7), some (.ref 8), none, none, none, none, none, none] ∧ In 0 6 7 s' C A ∧ s'[8]? = some (.lst (hs.map hRef)) ∧ ∃ r, hs = p ++ r ∧ ∀ g ∈ r, At s' g.1 (heldC g.2 g.1))
    (by simp! only [h8]) (by unfold ones; rw [List.map_map]; rfl) ⟨rfl, h, h8, hs, rfl, H.at_⟩ (fun p g q e s' hx hP => ?_) (fun e s' hP => ?_)
  · obtain ⟨he, hi, h8', r, hr, hat⟩ := hP
    subst he
    have hq : r = g :: q := List.append_cancel_left (hr.symm.trans hx)
    subst hq
    have gm : g ∈ hs := by rw [hx]; simp
    have ga := hat g List.mem_cons_self
    obtain ⟨gf, gd, gt⟩ := held_sub ga
    have fr := H.fr g gm
    have p6 := hi.ls.p0
    have k6 : ∀ i, g.1 ≤ i → i < g.1 + (2 * g.2.ws.length + 3) → i ≠ 6 := fun i h1 h2 e => (fr i h1 h2).2 (.inr (by rw [e]; exact aL_p))
    obtain ⟨s2, e2, f2, fr2⟩ := fill_ok p6 (by rw [List.length_map]; exact lv) (H.ok g gm) ga k6 ns z
    have gl := st_lt f2
    refine ⟨by show lstOf s' (.ref 8) = _; rw [u_lst_ref, h8']; rfl, [some (.dat (.list (ns.map PyData.int))), some (.dat (.int z)), some (.ref 0), some (.ref 6), some (.ref 7), some (.ref 8), none, none, none, some (.ref (g.1 + 1)), some (.ref g.1), none], s', by unfold hRef; simp! only [gt], [some (.dat (.list (ns.map PyData.int))), some (.dat (.int z)), some (.ref 0), some (.ref 6), some (.ref 7), some (.ref 8), none, none, none, some (.ref (g.1 + 1)), some (.ref g.1), none], s2.set (g.1 + 1) (.lst []), ?_, rfl, ?_, ?_, q, by rw [hx, List.append_assoc]; rfl, fun b hb i x hx' => ?_⟩
    · unfold sem_law_b18
      refine seqZ e2 ?_
      simp! only [f2]
    · refine hi.mono fun i x hx' hm => ?_
      have ho : ¬ (g.1 ≤ i ∧ i < g.1 + (2 * g.2.ws.length + 3)) := fun z => (fr i z.1 z.2).2 hm
      rw [u_gets (by omega)]
      exact fr2 i x hx' ho
    · have ho : ¬ (g.1 ≤ 8 ∧ 8 < g.1 + (2 * g.2.ws.length + 3)) := fun z => (fr 8 z.1 z.2).1 rfl
      rw [u_gets (by omega)]
      exact fr2 _ _ h8' ho
    · have pw := H.pw
      rw [hx] at pw
      obtain ⟨_, pw2, _⟩ := List.pairwise_append.mp pw
      have := (List.pairwise_cons.mp pw2).1 b hb
      have hl := (List.getElem?_eq_some_iff.mp hx').1
      rw [u_gets (by omega)]
      exact fr2 _ _ (hat b (List.mem_cons_of_mem _ hb) i x hx') (by omega)
  · obtain ⟨he, hi, h8', _⟩ := hP
    subst he
    exact ⟨by show lstOf s' (.ref 8) = _; rw [u_lst_ref, h8']; rfl, t9_ok hi ns z⟩
theorem t7_ok (h : In 0 6 7 s C A) (n8 : ¬ mine 0 6 7 C A 8) (H : Hd s C A hs) (ns : List Int) (z : Int) :
    ∃ s', sem_law_t7 [some (.dat (.list (ns.map PyData.int))), some (.dat (.int z)), some (.ref 0), some (.ref 6), some (.ref 7), some (.ref 8), none, none, none, none, none, none] s = some (.rt (.dat (.bool true)), s') := by
  have h8 := H.h8
  obtain ⟨s', e⟩ := t8_ok h n8 H ns z
  refine ⟨s', ?_⟩
  unfold sem_law_t7
  refine seqSkip (src := ⟨ones (hs.map hRef), fun st' => lstOf st' (.ref 8) = some (hs.map hRef)⟩) (fun g : Nat × Cs => Itm.one (hRef g)) hs (by simp! only [h8]) (by unfold ones; rw [List.map_map]; rfl) (by show lstOf s (.ref 8) = _; rw [u_lst_ref, h8]; rfl) rfl (fun g hg => ?_) e
  obtain ⟨gf, gd, gt⟩ := held_sub (H.at_ g hg)
  have a0 : s[g.1 + 1]? = some (.lst (wkRefs (g.1 + 1) g.2.ws.length)) := gf 0 _ rfl
  have rd := rd_found gf
  have ne := hNe_self (ok_workDs (H.ok g hg)) (by decide)
  refine ⟨[some (.dat (.list (ns.map PyData.int))), some (.dat (.int z)), some (.ref 0), some (.ref 6), some (.ref 7), some (.ref 8), none, none, none, some (.ref (g.1 + 1)), some (.ref g.1), none], [some (.dat (.list (ns.map PyData.int))), some (.dat (.int z)), some (.ref 0), some (.ref 6), some (.ref 7), some (.ref 8), none, none, none, some (.ref (g.1 + 1)), some (.ref g.1), none], by unfold hRef; simp! only [gt], ?_, rfl⟩
  simp! only [sem_law_b15, a0, gd, rd, ne]
end
theorem law_true (ns : List Int) (hl : ns.length ≤ 63) (hb : ∀ z ∈ ns, Builtin.Int.intBits z ≤ 1048576) : ∃ st', sem_law [.dat (.list (ns.map PyData.int))] [] = some (.ok (.dat (.bool true)), st') := by
  obtain ⟨z, hz⟩ := nth_ex ns 1
  obtain ⟨n0, hn0⟩ := nth_ex ns 0
  obtain ⟨m, em, hm⟩ := emod_nat (x := n0) (show 0 < 21 by decide)
  have em : n0 % 21 = (m : Int) := em
  obtain ⟨T1, e1, g1, l1⟩ := init_ok []
  have e1 : sem_Chest_init [.ref 0] [.ins 0 []] = some (.ok (.dat .none), T1) := e1
  have l1 : T1.length = 6 := l1
  obtain ⟨T2, hT2⟩ : ∃ T2, T2 = T1 ++ [Cell.lst [], .lst [], .lst []] := ⟨_, rfl⟩
  have at2 : ∀ i, (T1 ++ [Cell.lst [], .lst [], .lst []])[6 + i]? = [Cell.lst [], .lst [], .lst []][i]? := fun i => by rw [← l1, u_get_sh]
  have q6 : T2[6]? = some (.lst []) := by rw [hT2]; exact at2 0
  have q7 : T2[7]? = some (.lst []) := by rw [hT2]; exact at2 1
  have q8 : T2[8]? = some (.lst []) := by rw [hT2]; exact at2 2
  have no0 : ∀ i, 6 ≤ i → ¬ own 0 ⟨[], [], 0, 0, 0⟩ i := fun i hi ho => by
    rcases ho with ho | ⟨w, hw, _⟩
    · omega
    · cases hw
  have I0 : In 0 6 7 T2 ⟨[], [], 0, 0, 0⟩ [] := ⟨hT2 ▸ g1.ch.app _, g1.ok, ⟨q6, q7, rfl, fun i a w ha => by simp at ha, fun i a w ha => by simp at ha⟩, ⟨by decide, fun a ha => (by cases ha), fun a ha => (by cases ha), List.nodup_nil, List.nodup_nil⟩, fun i hi => by
    rcases aL_mem.mp hi with e | e | ⟨a, ha, _⟩
    · exact no0 i (by omega)
    · exact no0 i (by omega)
    · cases ha⟩
  have n80 : ¬ mine 0 6 7 ⟨[], [], 0, 0, 0⟩ [] 8 := fun hm => by
    rcases hm with hm | hm
    · exact no0 8 (by decide) hm
    · rcases aL_mem.mp hm with e | e | ⟨a, ha, _⟩
      · cases e
      · cases e
      · cases ha
  unfold sem_law
  refine run_ex rfl ?_
  simp only [List.map_cons, List.map_nil, List.length_cons, List.length_nil, Nat.reduceAdd, Nat.reduceSub, List.reduceReplicate, List.cons_append, List.nil_append]
  refine seqPX (d := .int z) (by simp! only [hz]) ?_
  simp only [List.set_cons_succ, List.set_cons_zero]
  refine seqZX (e' := [some (.dat (.list (ns.map PyData.int))), some (.dat (.int z)), some (.ref 0), none, none, none, none, none, none, none, none, none]) (st1 := T1) (by simp! only [e1]) ?_
  refine seqZX (e' := [some (.dat (.list (ns.map PyData.int))), some (.dat (.int z)), some (.ref 0), some (.ref 6), none, none, none, none, none, none, none, none]) (st1 := T1 ++ [.lst []]) (by simp! only [l1]) ?_
  refine seqZX (e' := [some (.dat (.list (ns.map PyData.int))), some (.dat (.int z)), some (.ref 0), some (.ref 6), some (.ref 7), none, none, none, none, none, none, none]) (st1 := T1 ++ [.lst [], .lst []]) (by simp! only [l1]) ?_
  refine seqZX (e' := [some (.dat (.list (ns.map PyData.int))), some (.dat (.int z)), some (.ref 0), some (.ref 6), some (.ref 7), some (.ref 8), none, none, none, none, none, none]) (st1 := T2) (by simp! only [l1]; rw [hT2]) ?_
  refine seqForX (src := ⟨rngI 0 m, fun _ => True⟩) (st1 := T2) (fun i : Nat => Itm.one (.dat (.int (i : Int)))) (List.range m) (fun p e s => e = [some (.dat (.list (ns.map PyData.int))), some (.dat (.int z)), some (.ref 0), some (.ref 6), some (.ref 7), some (.ref 8), none, none, none, none, none, none] ∧ ∃ C, In 0 6 7 s C [] ∧ ¬ mine 0 6 7 C [] 8 ∧ s[8]? = some (.lst []) ∧ C.ws = [] ∧ C.vs.map (·.1) = (List.range p.length).map (nmF z))
    (by simp! only [hn0, em, u_ir1 (show (-1000000 : Int) < (m : Int) by omega) (show (m : Int) < 1000000 by omega), Int.toNat_natCast]) rngI_map ⟨rfl, _, I0, n80, q8, rfl, rfl⟩ (fun p i q e s hx hP => ?_) (fun e s hP => ?_)
  · obtain ⟨he, C, h, n8, h8, hw, hnm⟩ := hP
    subst he
    obtain ⟨hi, hp, hlt⟩ := range_split hx.symm
    subst hi
    have nk := name_ev z p.length (by omega)
    have fr : nmF z p.length ∉ C.vs.map (·.1) := fun y => by
      rw [hnm] at y
      obtain ⟨j, hj, e⟩ := List.mem_map.mp y
      have hj := List.mem_range.mp hj
      have := nm_inj z j p.length (by omega) (by omega) e
      omega
    have vl : C.vs.length = p.length := by have := congrArg List.length hnm; rwa [List.length_map, List.length_map, List.length_range] at this
    have p1 : s[6]? = some (.lst (((C.vs.map (·.1)).map tD).map .dat)) := h.ls.p0
    obtain ⟨s1, hs1⟩ : ∃ s1, s1 = s.set 6 (.lst (nmS (C.vs.map (·.1) ++ [nmF z p.length]))) := ⟨_, rfl⟩
    have f1 : ∀ i x, s[i]? = some x → i ∉ aL 6 7 [] → s1[i]? = some x := fun i x hx hi => by rw [hs1, u_gets fun z => hi (by rw [← z]; exact aL_p)]; exact hx
    have ch1 := h.ch1 f1
    have c01 := ch1.c0
    unfold insS at c01
    obtain ⟨s2, e2, g2⟩ := enrol_ok ch1 h.ok (nm_in z p.length) fr (by omega)
    have e2' : sem_Chest_enrol [.ref 0, .dat (tD (nmF z p.length))] s1 = some (.ok (.dat .none), s2) := e2
    have nk' : sem_law_name [.int z, .int (p.length : Int)] = some (tD (nmF z p.length)) := nk
    have en : (((C.vs.map (·.1)).map tD).map SV.dat) ++ [.dat (tD (nmF z p.length))] = nmS (C.vs.map (·.1) ++ [nmF z p.length]) := by unfold nmS; simp
    have q1 : s1[6]? = some (.lst (((C.vs.map (·.1) ++ [nmF z p.length]).map tD).map .dat)) := by rw [hs1, u_gets0 (st_lt p1)]; rfl
    have atl : atI (C.vs.map (·.1) ++ [nmF z p.length]) (-1) = some (nmF z p.length) := at_last _ _
    have scn : scK (tD (nmF z p.length)) = some (tD (nmF z p.length)) := rfl
    have ev : (C.enrol (nmF z p.length)).vs.map (·.1) = C.vs.map (·.1) ++ [nmF z p.length] := by unfold Cs.enrol; rw [List.map_append]; rfl
    have t := to_of (A' := []) h f1 (by rw [hs1, List.length_set]; exact Nat.le_refl _) (by rw [ev, hs1]; exact h.ls.setP h.nd _) h.nd (fun i hi => .inl hi) g2
    refine ⟨trivial, _, _, rfl, [some (.dat (.list (ns.map PyData.int))), some (.dat (.int z)), some (.ref 0), some (.ref 6), some (.ref 7), some (.ref 8), some (.dat (.int (p.length : Int))), none, none, none, none, none], s2, ?_, rfl, _, t.i, (t.keep h8 n8).2, (t.keep h8 n8).1, hw, ?_⟩
    · simp! only [sem_law_b6, nk', p1, u_appS, en, ← hs1, c01, q1, atl, scn, e2']
    · rw [ev, hnm, List.length_append, List.length_singleton, List.range_succ, List.map_append]
      rfl
  · obtain ⟨he, C, h, n8, h8, hw, hnm⟩ := hP
    subst he
    refine ⟨trivial, ?_⟩
    unfold sem_law_t6
    have cl : (cutL ns (some 2) (some 62)).length ≤ 60 := by
      have := cutL_nat ns 2 62 (by omega)
      rw [show ((2 : Nat) : Int) = 2 from rfl, show ((62 : Nat) : Int) = 62 from rfl] at this
      rw [this, List.length_take]
      omega
    have hv : (dScs (lCut (dV 0) (oSome (dC (.int 2))) (oSome (dC (.int 62))))) (view s [some (.dat (.list (ns.map PyData.int))), some (.dat (.int z)), some (.ref 0), some (.ref 6), some (.ref 7), some (.ref 8), none, none, none, none, none, none]) = some ((cutL ns (some 2) (some 62)).map PyData.int) := by simp! only [k_scs_int]
    have H0 : Hd s C [] [] := ⟨h8, fun g hg => (by cases hg), fun g hg => (by cases hg), List.Pairwise.nil, fun g hg => (by cases hg)⟩
    have s8 := st_lt h8
    refine seqForX (fun x : Int => Itm.one (.dat (.int x))) (cutL ns (some 2) (some 62)) (fun p e s' => e = [some (.dat (.list (ns.map PyData.int))), some (.dat (.int z)), some (.ref 0), some (.ref 6), some (.ref 7), some (.ref 8), none, none, none, none, none, none] ∧ ∃ C A hs, In 0 6 7 s' C A ∧ ¬ mine 0 6 7 C A 8 ∧ Hd s' C A hs ∧ hs.length = p.length ∧ s'[s.length]? = some (.lst (xS (cutL ns (some 2) (some 62)))) ∧ ¬ mine 0 6 7 C A s.length)
      (il_al hv) (by rw [ones_map, List.map_map]; rfl) ⟨rfl, C, [], [], h.app _, n8, H0.app _, rfl, u_get0, fun hm => by have := h.lt hm; omega⟩ (fun p x q e s' hx hP => ?_) (fun e s' hP => ?_)
    · obtain ⟨he, C, A, hs, h, n8, H, hl', hc, nc⟩ := hP
      subst he
      have pl : p.length < 60 := by
        have := congrArg List.length hx
        rw [List.length_append, List.length_cons] at this
        omega
      obtain ⟨s2, C', A', k, e2, h2, n82, H2, f2⟩ := b9_ok h n8 H (by omega) ns z x
      obtain ⟨k1, k2⟩ := f2 _ _ hc nc (by omega)
      refine ⟨by show lstOf s' (.ref s.length) = _; rw [u_lst_ref, hc]; rfl, _, _, rfl, _, s2, e2, rfl, C', A', _, h2, n82, H2, by rw [List.length_append, List.length_append, hl']; rfl, k1, k2⟩
    · obtain ⟨he, C, A, hs, h, n8, H, hl', hc, nc⟩ := hP
      subst he
      exact ⟨by show lstOf s' (.ref s.length) = _; rw [u_lst_ref, hc]; rfl, t7_ok h n8 H ns z⟩

end Lw

namespace Lw
open PySem PySem.Spec PyProof.Rows L2 PV MV
def caL (C0_ C1_ C2_ C3_ C4_ C5_ C6_ C7_ : Addr) : Nat → Addr
  | 0 => C0_
  | 1 => C1_
  | 2 => C2_
  | 3 => C3_
  | 4 => C4_
  | 5 => C5_
  | 6 => C6_
  | 7 => C7_
  | _ => 0
theorem all_mk {l : PySem.W.OpenLaw} {w : World} {K : PySem.W.Frag} {h : Heap} {mg : Str → Option Value} {fa f1 f2 f3 f4 f5 f6 f7 f8 f9 f10 f11 f12 f13 f14 f15 f16 f17 f18 f19 f20 f21 f22 f23 f24 f25 f26 f27 C0_ C1_ C2_ C3_ C4_ C5_ C6_ C7_ : Addr} (X : K.In h) (G : h.Ns mainGlobals mg) (hfa : mg "law" = some (.ref fa))
    {od1 an1 od2 an2 od3 an3 od4 an4 od5 an5 od6 an6 od7 an7 od8 an8 od9 an9 od10 an10 od11 an11 od12 an12 od13 an13 od14 an14 od15 an15 od16 an16 od17 an17 od18 an18 od19 an19 od20 an20 od21 an21 od22 an22 od23 an23 od24 an24 od25 an25 od26 an26 od27 an27 : Option Addr} {sl1 sl2 sl3 sl4 sl5 sl6 sl7 sl8 sl9 sl10 sl11 sl12 sl13 sl14 sl15 sl16 sl17 sl18 sl19 sl20 sl21 sl22 sl23 sl24 sl25 sl26 sl27 : Array (Option Value)} {oc1 kV1 dc1 pm1 cd1 ct1 oc2 kV2 dc2 pm2 cd2 ct2 oc3 kV3 dc3 pm3 cd3 ct3 oc4 kV4 dc4 pm4 cd4 ct4 oc5 kV5 dc5 pm5 cd5 ct5 oc6 kV6 dc6 pm6 cd6 ct6 oc7 kV7 dc7 pm7 cd7 ct7 oc8 kV8 dc8 pm8 cd8 ct8 oc9 kV9 dc9 pm9 cd9 ct9 oc10 kV10 dc10 pm10 cd10 ct10 oc11 kV11 dc11 pm11 cd11 ct11 oc12 kV12 dc12 pm12 cd12 ct12 oc13 kV13 dc13 pm13 cd13 ct13 oc14 kV14 dc14 pm14 cd14 ct14 oc15 kV15 dc15 pm15 cd15 ct15 oc16 kV16 dc16 pm16 cd16 ct16 oc17 kV17 dc17 pm17 cd17 ct17 oc18 kV18 dc18 pm18 cd18 ct18 oc19 kV19 dc19 pm19 cd19 ct19 oc20 kV20 dc20 pm20 cd20 ct20 oc21 kV21 dc21 pm21 cd21 ct21 oc22 kV22 dc22 pm22 cd22 ct22 oc23 kV23 dc23 pm23 cd23 ct23 oc24 kV24 dc24 pm24 cd24 ct24 oc25 kV25 dc25 pm25 cd25 ct25 oc26 kV26 dc26 pm26 cd26 ct26 oc27 kV27 dc27 pm27 cd27 ct27 : Value} {tk1 tk2 tk3 tk4 : Tok}
    (a1 : PySem.W.nsIn K mainGlobals "_law_nth" = some (some (.ref f1)))
    (l1 : K.lookup f1 = some ⟨oc1, od1, .func (PySem.W.fnOf "_law_nth" "_law_nth" (defArgs st_law_nth) (defBody st_law_nth) (defScope st_law_nth) .none kV1 dc1 pm1 an1 cd1 ct1), sl1⟩) (c1 : PySem.W.codeIn K cd1 "_law_nth" = true) (k1 : PySem.W.keepIn K (.ref f1) = true)
    (a2 : PySem.W.findIn K (.ref C0_) "__init__" = some (some (.ref f2))) (i2 : PySem.W.isFn K (.ref f2) = true)
    (l2 : K.lookup f2 = some ⟨oc2, od2, .func (PySem.W.fnOf "__init__" "Chest.__init__" (defArgs st_Chest_init) (defBody st_Chest_init) (defScope st_Chest_init) .none kV2 dc2 pm2 an2 cd2 ct2), sl2⟩) (c2 : PySem.W.codeIn K cd2 "Chest.__init__" = true) (k2 : PySem.W.keepIn K (.ref f2) = true)
    (a3 : PySem.W.nsIn K mainGlobals "_law_due" = some (some (.ref f3)))
    (l3 : K.lookup f3 = some ⟨oc3, od3, .func (PySem.W.fnOf "_law_due" "_law_due" (defArgs st_law_due) (defBody st_law_due) (defScope st_law_due) .none kV3 dc3 pm3 an3 cd3 ct3), sl3⟩) (c3 : PySem.W.codeIn K cd3 "_law_due" = true) (k3 : PySem.W.keepIn K (.ref f3) = true)
    (a4 : PySem.W.findIn K (.ref C0_) "wanting" = some (some (.ref f4))) (i4 : PySem.W.isFn K (.ref f4) = true)
    (l4 : K.lookup f4 = some ⟨oc4, od4, .func (PySem.W.fnOf "wanting" "Chest.wanting" (defArgs st_Chest_wanting) (defBody st_Chest_wanting) (defScope st_Chest_wanting) .none kV4 dc4 pm4 an4 cd4 ct4), sl4⟩) (c4 : PySem.W.codeIn K cd4 "Chest.wanting" = true) (k4 : PySem.W.keepIn K (.ref f4) = true)
    (a5 : PySem.W.findIn K (.ref C0_) "works" = some (some (.ref f5))) (i5 : PySem.W.isFn K (.ref f5) = true)
    (l5 : K.lookup f5 = some ⟨oc5, od5, .func (PySem.W.fnOf "works" "Chest.works" (defArgs st_Chest_works) (defBody st_Chest_works) (defScope st_Chest_works) .none kV5 dc5 pm5 an5 cd5 ct5), sl5⟩) (c5 : PySem.W.codeIn K cd5 "Chest.works" = true) (k5 : PySem.W.keepIn K (.ref f5) = true)
    (a6 : PySem.W.nsIn K mainGlobals "_law_counts" = some (some (.ref f6)))
    (l6 : K.lookup f6 = some ⟨oc6, od6, .func (PySem.W.fnOf "_law_counts" "_law_counts" (defArgs st_law_counts) (defBody st_law_counts) (defScope st_law_counts) .none kV6 dc6 pm6 an6 cd6 ct6), sl6⟩) (c6 : PySem.W.codeIn K cd6 "_law_counts" = true) (k6 : PySem.W.keepIn K (.ref f6) = true)
    (a7 : PySem.W.findIn K (.ref C0_) "voters" = some (some (.ref f7))) (i7 : PySem.W.isFn K (.ref f7) = true)
    (l7 : K.lookup f7 = some ⟨oc7, od7, .func (PySem.W.fnOf "voters" "Chest.voters" (defArgs st_Chest_voters) (defBody st_Chest_voters) (defScope st_Chest_voters) .none kV7 dc7 pm7 an7 cd7 ct7), sl7⟩) (c7 : PySem.W.codeIn K cd7 "Chest.voters" = true) (k7 : PySem.W.keepIn K (.ref f7) = true)
    (a8 : PySem.W.nsIn K mainGlobals "_law_right" = some (some (.ref f8)))
    (l8 : K.lookup f8 = some ⟨oc8, od8, .func (PySem.W.fnOf "_law_right" "_law_right" (defArgs st_law_right) (defBody st_law_right) (defScope st_law_right) .none kV8 dc8 pm8 an8 cd8 ct8), sl8⟩) (c8 : PySem.W.codeIn K cd8 "_law_right" = true) (k8 : PySem.W.keepIn K (.ref f8) = true)
    (a9 : PySem.W.nsIn K mainGlobals "is_chest_name" = some (some (.ref f9)))
    (l9 : K.lookup f9 = some ⟨oc9, od9, .func (PySem.W.fnOf "is_chest_name" "is_chest_name" (defArgs st_is_chest_name) (defBody st_is_chest_name) (defScope st_is_chest_name) .none kV9 dc9 pm9 an9 cd9 ct9), sl9⟩) (c9 : PySem.W.codeIn K cd9 "is_chest_name" = true) (k9 : PySem.W.keepIn K (.ref f9) = true)
    (a10 : PySem.W.nsIn K mainGlobals "look_new_name" = some (some (.ref f10)))
    (l10 : K.lookup f10 = some ⟨oc10, od10, .func (PySem.W.fnOf "look_new_name" "look_new_name" (defArgs st_look_new_name) (defBody st_look_new_name) (defScope st_look_new_name) .none kV10 dc10 pm10 an10 cd10 ct10), sl10⟩) (c10 : PySem.W.codeIn K cd10 "look_new_name" = true) (k10 : PySem.W.keepIn K (.ref f10) = true)
    (a11 : PySem.W.findIn K (.ref C0_) "enrol" = some (some (.ref f11))) (i11 : PySem.W.isFn K (.ref f11) = true)
    (l11 : K.lookup f11 = some ⟨oc11, od11, .func (PySem.W.fnOf "enrol" "Chest.enrol" (defArgs st_Chest_enrol) (defBody st_Chest_enrol) (defScope st_Chest_enrol) .none kV11 dc11 pm11 an11 cd11 ct11), sl11⟩) (c11 : PySem.W.codeIn K cd11 "Chest.enrol" = true) (k11 : PySem.W.keepIn K (.ref f11) = true)
    (a12 : PySem.W.nsIn K mainGlobals "_law_spins" = some (some (.ref f12)))
    (l12 : K.lookup f12 = some ⟨oc12, od12, .func (PySem.W.fnOf "_law_spins" "_law_spins" (defArgs st_law_spins) (defBody st_law_spins) (defScope st_law_spins) .none kV12 dc12 pm12 an12 cd12 ct12), sl12⟩) (c12 : PySem.W.codeIn K cd12 "_law_spins" = true) (k12 : PySem.W.keepIn K (.ref f12) = true)
    (a13 : PySem.W.nsIn K mainGlobals "_law_name" = some (some (.ref f13)))
    (l13 : K.lookup f13 = some ⟨oc13, od13, .func (PySem.W.fnOf "_law_name" "_law_name" (defArgs st_law_name) (defBody st_law_name) (defScope st_law_name) .none kV13 dc13 pm13 an13 cd13 ct13), sl13⟩) (c13 : PySem.W.codeIn K cd13 "_law_name" = true) (k13 : PySem.W.keepIn K (.ref f13) = true)
    (a14 : PySem.W.findIn K (.ref C0_) "look_voter" = some (some (.ref f14))) (i14 : PySem.W.isFn K (.ref f14) = true)
    (l14 : K.lookup f14 = some ⟨oc14, od14, .func (PySem.W.fnOf "look_voter" "Chest.look_voter" (defArgs st_Chest_look_voter) (defBody st_Chest_look_voter) (defScope st_Chest_look_voter) .none kV14 dc14 pm14 an14 cd14 ct14), sl14⟩) (c14 : PySem.W.codeIn K cd14 "Chest.look_voter" = true) (k14 : PySem.W.keepIn K (.ref f14) = true)
    (a15 : PySem.W.findIn K (.ref C0_) "look_work" = some (some (.ref f15))) (i15 : PySem.W.isFn K (.ref f15) = true)
    (l15 : K.lookup f15 = some ⟨oc15, od15, .func (PySem.W.fnOf "look_work" "Chest.look_work" (defArgs st_Chest_look_work) (defBody st_Chest_look_work) (defScope st_Chest_look_work) .none kV15 dc15 pm15 an15 cd15 ct15), sl15⟩) (c15 : PySem.W.codeIn K cd15 "Chest.look_work" = true) (k15 : PySem.W.keepIn K (.ref f15) = true)
    (a16 : PySem.W.findIn K (.ref C0_) "unwant" = some (some (.ref f16))) (i16 : PySem.W.isFn K (.ref f16) = true)
    (l16 : K.lookup f16 = some ⟨oc16, od16, .func (PySem.W.fnOf "unwant" "Chest.unwant" (defArgs st_Chest_unwant) (defBody st_Chest_unwant) (defScope st_Chest_unwant) .none kV16 dc16 pm16 an16 cd16 ct16), sl16⟩) (c16 : PySem.W.codeIn K cd16 "Chest.unwant" = true) (k16 : PySem.W.keepIn K (.ref f16) = true)
    (a17 : PySem.W.findIn K (.ref C0_) "want" = some (some (.ref f17))) (i17 : PySem.W.isFn K (.ref f17) = true)
    (l17 : K.lookup f17 = some ⟨oc17, od17, .func (PySem.W.fnOf "want" "Chest.want" (defArgs st_Chest_want) (defBody st_Chest_want) (defScope st_Chest_want) .none kV17 dc17 pm17 an17 cd17 ct17), sl17⟩) (c17 : PySem.W.codeIn K cd17 "Chest.want" = true) (k17 : PySem.W.keepIn K (.ref f17) = true)
    (a18 : PySem.W.nsIn K mainGlobals "_law_of_wishes" = some (some (.ref f18)))
    (l18 : K.lookup f18 = some ⟨oc18, od18, .func (PySem.W.fnOf "_law_of_wishes" "_law_of_wishes" (defArgs st_law_of_wishes) (defBody st_law_of_wishes) (defScope st_law_of_wishes) .none kV18 dc18 pm18 an18 cd18 ct18), sl18⟩) (c18 : PySem.W.codeIn K cd18 "_law_of_wishes" = true) (k18 : PySem.W.keepIn K (.ref f18) = true)
    (a19 : PySem.W.nsIn K mainGlobals "_law_fresh" = some (some (.ref f19)))
    (l19 : K.lookup f19 = some ⟨oc19, od19, .func (PySem.W.fnOf "_law_fresh" "_law_fresh" (defArgs st_law_fresh) (defBody st_law_fresh) (defScope st_law_fresh) .none kV19 dc19 pm19 an19 cd19 ct19), sl19⟩) (c19 : PySem.W.codeIn K cd19 "_law_fresh" = true) (k19 : PySem.W.keepIn K (.ref f19) = true)
    (a20 : PySem.W.findIn K (.ref C0_) "leave" = some (some (.ref f20))) (i20 : PySem.W.isFn K (.ref f20) = true)
    (l20 : K.lookup f20 = some ⟨oc20, od20, .func (PySem.W.fnOf "leave" "Chest.leave" (defArgs st_Chest_leave) (defBody st_Chest_leave) (defScope st_Chest_leave) .none kV20 dc20 pm20 an20 cd20 ct20), sl20⟩) (c20 : PySem.W.codeIn K cd20 "Chest.leave" = true) (k20 : PySem.W.keepIn K (.ref f20) = true)
    (a21 : PySem.W.nsIn K mainGlobals "_law_of_voters" = some (some (.ref f21)))
    (l21 : K.lookup f21 = some ⟨oc21, od21, .func (PySem.W.fnOf "_law_of_voters" "_law_of_voters" (defArgs st_law_of_voters) (defBody st_law_of_voters) (defScope st_law_of_voters) .none kV21 dc21 pm21 an21 cd21 ct21), sl21⟩) (c21 : PySem.W.codeIn K cd21 "_law_of_voters" = true) (k21 : PySem.W.keepIn K (.ref f21) = true)
    (a22 : PySem.W.findIn K (.ref C0_) "propose" = some (some (.ref f22))) (i22 : PySem.W.isFn K (.ref f22) = true)
    (l22 : K.lookup f22 = some ⟨oc22, od22, .func (PySem.W.fnOf "propose" "Chest.propose" (defArgs st_Chest_propose) (defBody st_Chest_propose) (defScope st_Chest_propose) .none kV22 dc22 pm22 an22 cd22 ct22), sl22⟩) (c22 : PySem.W.codeIn K cd22 "Chest.propose" = true) (k22 : PySem.W.keepIn K (.ref f22) = true)
    (a23 : PySem.W.findIn K (.ref C0_) "withdraw" = some (some (.ref f23))) (i23 : PySem.W.isFn K (.ref f23) = true)
    (l23 : K.lookup f23 = some ⟨oc23, od23, .func (PySem.W.fnOf "withdraw" "Chest.withdraw" (defArgs st_Chest_withdraw) (defBody st_Chest_withdraw) (defScope st_Chest_withdraw) .none kV23 dc23 pm23 an23 cd23 ct23), sl23⟩) (c23 : PySem.W.codeIn K cd23 "Chest.withdraw" = true) (k23 : PySem.W.keepIn K (.ref f23) = true)
    (a24 : PySem.W.nsIn K mainGlobals "_law_cost" = some (some (.ref f24)))
    (l24 : K.lookup f24 = some ⟨oc24, od24, .func (PySem.W.fnOf "_law_cost" "_law_cost" (defArgs st_law_cost) (defBody st_law_cost) (defScope st_law_cost) .none kV24 dc24 pm24 an24 cd24 ct24), sl24⟩) (c24 : PySem.W.codeIn K cd24 "_law_cost" = true) (k24 : PySem.W.keepIn K (.ref f24) = true)
    (a25 : PySem.W.nsIn K mainGlobals "_law_of_works" = some (some (.ref f25)))
    (l25 : K.lookup f25 = some ⟨oc25, od25, .func (PySem.W.fnOf "_law_of_works" "_law_of_works" (defArgs st_law_of_works) (defBody st_law_of_works) (defScope st_law_of_works) .none kV25 dc25 pm25 an25 cd25 ct25), sl25⟩) (c25 : PySem.W.codeIn K cd25 "_law_of_works" = true) (k25 : PySem.W.keepIn K (.ref f25) = true)
    (a26 : PySem.W.nsIn K mainGlobals "_law_deed" = some (some (.ref f26)))
    (l26 : K.lookup f26 = some ⟨oc26, od26, .func (PySem.W.fnOf "_law_deed" "_law_deed" (defArgs st_law_deed) (defBody st_law_deed) (defScope st_law_deed) .none kV26 dc26 pm26 an26 cd26 ct26), sl26⟩) (c26 : PySem.W.codeIn K cd26 "_law_deed" = true) (k26 : PySem.W.keepIn K (.ref f26) = true)
    (a27 : PySem.W.nsIn K mainGlobals "law" = some (some (.ref f27)))
    (l27 : K.lookup f27 = some ⟨oc27, od27, .func (PySem.W.fnOf "law" "law" (defArgs st_law) (defBody st_law) (defScope st_law) .none kV27 dc27 pm27 an27 cd27 ct27), sl27⟩) (c27 : PySem.W.codeIn K cd27 "law" = true) (k27 : PySem.W.keepIn K (.ref f27) = true)
    (g0_ : PySem.W.nsIn K mainGlobals "Chest" = some (some (.ref C0_)))
    (g1_ : PySem.W.nsIn K mainGlobals "PurseError" = some (some (.ref C1_)))
    (g2_ : PySem.W.nsIn K mainGlobals "TooMuch" = some (some (.ref C2_)))
    (g3_ : PySem.W.nsIn K mainGlobals "NoName" = some (some (.ref C3_)))
    (g4_ : PySem.W.nsIn K mainGlobals "Twice" = some (some (.ref C4_)))
    (g5_ : PySem.W.nsIn K mainGlobals "NoVoter" = some (some (.ref C5_)))
    (g6_ : PySem.W.nsIn K mainGlobals "NoWork" = some (some (.ref C6_)))
    (g7_ : PySem.W.nsIn K mainGlobals "Full" = some (some (.ref C7_)))
    (pg0 : PySem.W.plainGet K C0_ Str.empty = true) (hd0 : PySem.W.hasDictIn K C0_ = true) (po0 : PySem.W.plainOver K C0_ = true) (sa0 : PySem.W.findIn K (.ref C0_) "__setattr__" = some (some (.builtin "object.__setattr__"))) (mk0 : PySem.W.makesIn K C0_ = true) (kc0 : PySem.W.keepIn K (.ref C0_) = true)
    (tt_na_Chest_people : PySem.W.findIn K (.ref C0_) "people" = some none)
    (tt_na_Chest_held : PySem.W.findIn K (.ref C0_) "held" = some none)
    (tt_na_Chest_plans : PySem.W.findIn K (.ref C0_) "plans" = some none)
    (tt_na_Chest_prices : PySem.W.findIn K (.ref C0_) "prices" = some none)
    (tt_na_Chest_wished : PySem.W.findIn K (.ref C0_) "wished" = some none)
    (tt_na_Chest_well : PySem.W.findIn K (.ref C0_) "well" = some none)
    (tt_na_Chest_gifts : PySem.W.findIn K (.ref C0_) "gifts" = some none)
    (tt_na_Chest_outlay : PySem.W.findIn K (.ref C0_) "outlay" = some none)
    (tt_x_NoName : PySem.W.excIn K C3_ [.type "ValueError", .type "Exception", .type "BaseException", .type "object"] "ValueError.__new__" = true)
    (tt_k_NoName : PySem.W.keepIn K (.ref C3_) = true)
    (tt_b_NoName : PySem.W.subIn K (.ref C3_) (.type "BaseException") = some true)
    (tt_t_NoName : PySem.W.typeIn K (.ref C3_) = some (.type "type"))
    (tt_x_Twice : PySem.W.excIn K C4_ [.type "ValueError", .type "Exception", .type "BaseException", .type "object"] "ValueError.__new__" = true)
    (tt_k_Twice : PySem.W.keepIn K (.ref C4_) = true)
    (tt_b_Twice : PySem.W.subIn K (.ref C4_) (.type "BaseException") = some true)
    (tt_t_Twice : PySem.W.typeIn K (.ref C4_) = some (.type "type"))
    (tt_x_Full : PySem.W.excIn K C7_ [.type "ValueError", .type "Exception", .type "BaseException", .type "object"] "ValueError.__new__" = true)
    (tt_k_Full : PySem.W.keepIn K (.ref C7_) = true)
    (tt_b_Full : PySem.W.subIn K (.ref C7_) (.type "BaseException") = some true)
    (tt_t_Full : PySem.W.typeIn K (.ref C7_) = some (.type "type"))
    (tt_x_NoVoter : PySem.W.excIn K C5_ [.type "ValueError", .type "Exception", .type "BaseException", .type "object"] "ValueError.__new__" = true)
    (tt_k_NoVoter : PySem.W.keepIn K (.ref C5_) = true)
    (tt_b_NoVoter : PySem.W.subIn K (.ref C5_) (.type "BaseException") = some true)
    (tt_t_NoVoter : PySem.W.typeIn K (.ref C5_) = some (.type "type"))
    (tt_x_NoWork : PySem.W.excIn K C6_ [.type "ValueError", .type "Exception", .type "BaseException", .type "object"] "ValueError.__new__" = true)
    (tt_k_NoWork : PySem.W.keepIn K (.ref C6_) = true)
    (tt_b_NoWork : PySem.W.subIn K (.ref C6_) (.type "BaseException") = some true)
    (tt_t_NoWork : PySem.W.typeIn K (.ref C6_) = some (.type "type"))
    (tt_x_TooMuch : PySem.W.excIn K C2_ [.type "ValueError", .type "Exception", .type "BaseException", .type "object"] "ValueError.__new__" = true)
    (tt_k_TooMuch : PySem.W.keepIn K (.ref C2_) = true)
    (tt_b_TooMuch : PySem.W.subIn K (.ref C2_) (.type "BaseException") = some true)
    (tt_t_TooMuch : PySem.W.typeIn K (.ref C2_) = some (.type "type"))
    (z1 : PySem.W.nsIn K mainGlobals "bool" = some none) (z2 : PySem.W.nsIn K mainGlobals "int" = some none) (z3 : PySem.W.nsIn K mainGlobals "isinstance" = some none) (z4 : PySem.W.nsIn K mainGlobals "len" = some none) (z5 : PySem.W.nsIn K mainGlobals "list" = some none) (z6 : PySem.W.nsIn K mainGlobals "range" = some none) (z7 : PySem.W.nsIn K mainGlobals "tuple" = some none) (q1 : PySem.W.nsIn K mainGlobals "MOST_PEOPLE" = some (some (.int 20 tk1))) (q2 : PySem.W.nsIn K mainGlobals "MOST_PLANS" = some (some (.int 12 tk2))) (q3 : PySem.W.nsIn K mainGlobals "MOST_COINS" = some (some (.int 1000000000 tk3))) (q4 : PySem.W.nsIn K mainGlobals "LETTERS_KNOWN" = some (some (.str "abcdefghijklmnopqrstuvwxyz" tk4))) :
    ∃ fd : FuncData, (∀ (s : Shared) (v : Value), BindsTo s fd ⟨[v], []⟩ [("script", v)]) ∧ ∀ base : Heap, K.In base → base.Ns mainGlobals mg → FnOk l.prog w K mg base (L2.CX l.prog w) 6 fa fd ["script"] (spAll K FN sem_law) := by
  have e := hfa.symm.trans (PySem.W.mg_of X G a27)
  cases e
  have B : Bt mg := ⟨True.intro, PySem.W.mg_none_of X G z1, PySem.W.mg_none_of X G z2, PySem.W.mg_none_of X G z3, PySem.W.mg_none_of X G z4, PySem.W.mg_none_of X G z5, PySem.W.mg_none_of X G z6, PySem.W.mg_none_of X G z7, ⟨_, PySem.W.mg_of X G q1⟩, ⟨_, PySem.W.mg_of X G q2⟩, ⟨_, PySem.W.mg_of X G q3⟩, ⟨_, PySem.W.mg_of X G q4⟩⟩

  have TT : TxT K mg (caL C0_ C1_ C2_ C3_ C4_ C5_ C6_ C7_) := ⟨True.intro, PySem.W.mg_of X G g0_, ⟨pg0, hd0, po0, sa0⟩, tt_na_Chest_people, tt_na_Chest_held, tt_na_Chest_plans, tt_na_Chest_prices, tt_na_Chest_wished, tt_na_Chest_well, tt_na_Chest_gifts, tt_na_Chest_outlay, PySem.W.mg_of X G g2_, PySem.W.mg_of X G g3_, PySem.W.mg_of X G g4_, PySem.W.mg_of X G g5_, PySem.W.mg_of X G g6_, PySem.W.mg_of X G g7_, tt_x_NoName, tt_k_NoName, tt_b_NoName, tt_t_NoName, tt_x_Twice, tt_k_Twice, tt_b_Twice, tt_t_Twice, tt_x_Full, tt_k_Full, tt_b_Full, tt_t_Full, tt_x_NoVoter, tt_k_NoVoter, tt_b_NoVoter, tt_t_NoVoter, tt_x_NoWork, tt_k_NoWork, tt_b_NoWork, tt_t_NoWork, tt_x_TooMuch, tt_k_TooMuch, tt_b_TooMuch, tt_t_TooMuch⟩
  refine ⟨PySem.W.fnOf "law" "law" (defArgs st_law) (defBody st_law) (defScope st_law) .none kV27 dc27 pm27 an27 cd27 ct27, fun s v => .of_eq rfl, fun base _ _ => ?_⟩
  have C1 := cal_law_nth (P := l.prog) (w := w) (base := base) (fun_mk (st := st_law_nth) l1 c1 k1) (PySem.W.mg_of X G a1) B 
  have C2 := cal_Chest_init (P := l.prog) (w := w) (base := base) (fun_mk (st := st_Chest_init) l2 c2 k2) (⟨mk0, a2, i2, kc0⟩) B TT 
  have C3 := cal_law_due (P := l.prog) (w := w) (base := base) (fun_mk (st := st_law_due) l3 c3 k3) (PySem.W.mg_of X G a3) B 
  have C4 := cal_Chest_wanting (P := l.prog) (w := w) (base := base) (fun_mk (st := st_Chest_wanting) l4 c4 k4) (⟨a4, i4, k4⟩) B TT 
  have C5 := cal_Chest_works (P := l.prog) (w := w) (base := base) (fun_mk (st := st_Chest_works) l5 c5 k5) (⟨a5, i5, k5⟩) B TT C4
  have C6 := cal_law_counts (P := l.prog) (w := w) (base := base) (fun_mk (st := st_law_counts) l6 c6 k6) (PySem.W.mg_of X G a6) B 
  have C7 := cal_Chest_voters (P := l.prog) (w := w) (base := base) (fun_mk (st := st_Chest_voters) l7 c7 k7) (⟨a7, i7, k7⟩) B TT 
  have C8 := cal_law_right (P := l.prog) (w := w) (base := base) (fun_mk (st := st_law_right) l8 c8 k8) (PySem.W.mg_of X G a8) B TT C3 C5 C6 C7
  have C9 := cal_is_chest_name (P := l.prog) (w := w) (base := base) (fun_mk (st := st_is_chest_name) l9 c9 k9) (PySem.W.mg_of X G a9) B TT 
  have C10 := cal_look_new_name (P := l.prog) (w := w) (base := base) (fun_mk (st := st_look_new_name) l10 c10 k10) (PySem.W.mg_of X G a10) B TT C9
  have C11 := cal_Chest_enrol (P := l.prog) (w := w) (base := base) (fun_mk (st := st_Chest_enrol) l11 c11 k11) (⟨a11, i11, k11⟩) B TT C10
  have C12 := cal_law_spins (P := l.prog) (w := w) (base := base) (fun_mk (st := st_law_spins) l12 c12 k12) (PySem.W.mg_of X G a12) B 
  have C13 := cal_law_name (P := l.prog) (w := w) (base := base) (fun_mk (st := st_law_name) l13 c13 k13) (PySem.W.mg_of X G a13) B C12
  have C14 := cal_Chest_look_voter (P := l.prog) (w := w) (base := base) (fun_mk (st := st_Chest_look_voter) l14 c14 k14) (⟨a14, i14, k14⟩) B TT 
  have C15 := cal_Chest_look_work (P := l.prog) (w := w) (base := base) (fun_mk (st := st_Chest_look_work) l15 c15 k15) (⟨a15, i15, k15⟩) B TT 
  have C16 := cal_Chest_unwant (P := l.prog) (w := w) (base := base) (fun_mk (st := st_Chest_unwant) l16 c16 k16) (⟨a16, i16, k16⟩) B TT C14 C15
  have C17 := cal_Chest_want (P := l.prog) (w := w) (base := base) (fun_mk (st := st_Chest_want) l17 c17 k17) (⟨a17, i17, k17⟩) B TT C14 C15
  have C18 := cal_law_of_wishes (P := l.prog) (w := w) (base := base) (fun_mk (st := st_law_of_wishes) l18 c18 k18) (PySem.W.mg_of X G a18) B TT C16 C17
  have C19 := cal_law_fresh (P := l.prog) (w := w) (base := base) (fun_mk (st := st_law_fresh) l19 c19 k19) (PySem.W.mg_of X G a19) B C13
  have C20 := cal_Chest_leave (P := l.prog) (w := w) (base := base) (fun_mk (st := st_Chest_leave) l20 c20 k20) (⟨a20, i20, k20⟩) B TT C14
  have C21 := cal_law_of_voters (P := l.prog) (w := w) (base := base) (fun_mk (st := st_law_of_voters) l21 c21 k21) (PySem.W.mg_of X G a21) B TT C19 C11 C20
  have C22 := cal_Chest_propose (P := l.prog) (w := w) (base := base) (fun_mk (st := st_Chest_propose) l22 c22 k22) (⟨a22, i22, k22⟩) B TT C10
  have C23 := cal_Chest_withdraw (P := l.prog) (w := w) (base := base) (fun_mk (st := st_Chest_withdraw) l23 c23 k23) (⟨a23, i23, k23⟩) B TT C15
  have C24 := cal_law_cost (P := l.prog) (w := w) (base := base) (fun_mk (st := st_law_cost) l24 c24 k24) (PySem.W.mg_of X G a24) B 
  have C25 := cal_law_of_works (P := l.prog) (w := w) (base := base) (fun_mk (st := st_law_of_works) l25 c25 k25) (PySem.W.mg_of X G a25) B TT C19 C22 C23 C24
  have C26 := cal_law_deed (P := l.prog) (w := w) (base := base) (fun_mk (st := st_law_deed) l26 c26 k26) (PySem.W.mg_of X G a26) B TT C18 C21 C25
  exact (law_fn (fun_mk (st := st_law) l27 c27 k27) B TT C1 C2 C8 C11 C12 C13 C26).imp fun vs H Q E h => h (caL C0_ C1_ C2_ C3_ C4_ C5_ C6_ C7_)
end Lw
open PySem PySem.W PyProof.Rows
set_option maxHeartbeats 0 in
theorem PySem.Challenge.cw_purse_k42_wishes_and_proposals_holds : PySem.Challenge.rw_purse_k42_wishes_and_proposals.Holds := by
  w_on; o_law; k_head; (case hw => w_witness2)
  k_fill
  refine L2.walk_ofB (l := PySem.Challenge.rw_purse_k42_wishes_and_proposals) (n := 63) (k := 6) (x := "script") (CX := fun w => L2.CX PySem.Challenge.rw_purse_k42_wishes_and_proposals.prog w) (sp := fun w => MV.spAll _ Lw.FN Lw.sem_law) rfl (by decide) rfl ⟨rfl, by decide, by decide⟩ (fun w h Y => PySem.W.kIn_of Y) ?F (fun _ _ a ns hl hb _ hS => fun ca => Exists.elim (Lw.law_true ns hl hb) fun _ h => MV.law_endM hS h) (fun _ _ _ _ _ h => MV.cx_end h)
  case F =>
    intro w mg fa h KX G hmg
    refine' Lw.all_mk KX G hmg ?a1 ?l1 ?c1 ?k1 ?a2 ?i2 ?l2 ?c2 ?k2 ?a3 ?l3 ?c3 ?k3 ?a4 ?i4 ?l4 ?c4 ?k4 ?a5 ?i5 ?l5 ?c5 ?k5 ?a6 ?l6 ?c6 ?k6 ?a7 ?i7 ?l7 ?c7 ?k7 ?a8 ?l8 ?c8 ?k8 ?a9 ?l9 ?c9 ?k9 ?a10 ?l10 ?c10 ?k10 ?a11 ?i11 ?l11 ?c11 ?k11 ?a12 ?l12 ?c12 ?k12 ?a13 ?l13 ?c13 ?k13 ?a14 ?i14 ?l14 ?c14 ?k14 ?a15 ?i15 ?l15 ?c15 ?k15 ?a16 ?i16 ?l16 ?c16 ?k16 ?a17 ?i17 ?l17 ?c17 ?k17 ?a18 ?l18 ?c18 ?k18 ?a19 ?l19 ?c19 ?k19 ?a20 ?i20 ?l20 ?c20 ?k20 ?a21 ?l21 ?c21 ?k21 ?a22 ?i22 ?l22 ?c22 ?k22 ?a23 ?i23 ?l23 ?c23 ?k23 ?a24 ?l24 ?c24 ?k24 ?a25 ?l25 ?c25 ?k25 ?a26 ?l26 ?c26 ?k26 ?a27 ?l27 ?c27 ?k27 ?g0_ ?g1_ ?g2_ ?g3_ ?g4_ ?g5_ ?g6_ ?g7_ ?pg0 ?hd0 ?po0 ?sa0 ?mk0 ?kc0 ?tt_na_Chest_people ?tt_na_Chest_held ?tt_na_Chest_plans ?tt_na_Chest_prices ?tt_na_Chest_wished ?tt_na_Chest_well ?tt_na_Chest_gifts ?tt_na_Chest_outlay ?tt_x_NoName ?tt_k_NoName ?tt_b_NoName ?tt_t_NoName ?tt_x_Twice ?tt_k_Twice ?tt_b_Twice ?tt_t_Twice ?tt_x_Full ?tt_k_Full ?tt_b_Full ?tt_t_Full ?tt_x_NoVoter ?tt_k_NoVoter ?tt_b_NoVoter ?tt_t_NoVoter ?tt_x_NoWork ?tt_k_NoWork ?tt_b_NoWork ?tt_t_NoWork ?tt_x_TooMuch ?tt_k_TooMuch ?tt_b_TooMuch ?tt_t_TooMuch ?z1 ?z2 ?z3 ?z4 ?z5 ?z6 ?z7 ?q1 ?q2 ?q3 ?q4
    (case g0_ => k_is); (case g1_ => k_is); (case g2_ => k_is); (case g3_ => k_is); (case g4_ => k_is); (case g5_ => k_is); (case g6_ => k_is); (case g7_ => k_is); (case a1 => k_is); (case l1 => k_is); (case c1 => k_is); (case k1 => k_is); (case a2 => k_is); (case i2 => k_is); (case l2 => k_is); (case c2 => k_is); (case k2 => k_is); (case a3 => k_is); (case l3 => k_is); (case c3 => k_is); (case k3 => k_is); (case a4 => k_is); (case i4 => k_is); (case l4 => k_is); (case c4 => k_is); (case k4 => k_is); (case a5 => k_is); (case i5 => k_is); (case l5 => k_is); (case c5 => k_is); (case k5 => k_is); (case a6 => k_is); (case l6 => k_is); (case c6 => k_is); (case k6 => k_is); (case a7 => k_is); (case i7 => k_is); (case l7 => k_is); (case c7 => k_is); (case k7 => k_is); (case a8 => k_is); (case l8 => k_is); (case c8 => k_is); (case k8 => k_is); (case a9 => k_is); (case l9 => k_is); (case c9 => k_is); (case k9 => k_is); (case a10 => k_is); (case l10 => k_is); (case c10 => k_is); (case k10 => k_is); (case a11 => k_is); (case i11 => k_is); (case l11 => k_is); (case c11 => k_is); (case k11 => k_is); (case a12 => k_is); (case l12 => k_is); (case c12 => k_is); (case k12 => k_is); (case a13 => k_is); (case l13 => k_is); (case c13 => k_is); (case k13 => k_is); (case a14 => k_is); (case i14 => k_is); (case l14 => k_is); (case c14 => k_is); (case k14 => k_is); (case a15 => k_is); (case i15 => k_is); (case l15 => k_is); (case c15 => k_is); (case k15 => k_is); (case a16 => k_is); (case i16 => k_is); (case l16 => k_is); (case c16 => k_is); (case k16 => k_is); (case a17 => k_is); (case i17 => k_is); (case l17 => k_is); (case c17 => k_is); (case k17 => k_is); (case a18 => k_is); (case l18 => k_is); (case c18 => k_is); (case k18 => k_is); (case a19 => k_is); (case l19 => k_is); (case c19 => k_is); (case k19 => k_is); (case a20 => k_is); (case i20 => k_is); (case l20 => k_is); (case c20 => k_is); (case k20 => k_is); (case a21 => k_is); (case l21 => k_is); (case c21 => k_is); (case k21 => k_is); (case a22 => k_is); (case i22 => k_is); (case l22 => k_is); (case c22 => k_is); (case k22 => k_is); (case a23 => k_is); (case i23 => k_is); (case l23 => k_is); (case c23 => k_is); (case k23 => k_is); (case a24 => k_is); (case l24 => k_is); (case c24 => k_is); (case k24 => k_is); (case a25 => k_is); (case l25 => k_is); (case c25 => k_is); (case k25 => k_is); (case a26 => k_is); (case l26 => k_is); (case c26 => k_is); (case k26 => k_is); (case a27 => k_is); (case l27 => k_is); (case c27 => k_is); (case k27 => k_is); (case pg0 => k_is); (case hd0 => k_is); (case po0 => k_is); (case sa0 => k_is); (case mk0 => k_is); (case kc0 => k_is); (case tt_na_Chest_people => k_is); (case tt_na_Chest_held => k_is); (case tt_na_Chest_plans => k_is); (case tt_na_Chest_prices => k_is); (case tt_na_Chest_wished => k_is); (case tt_na_Chest_well => k_is); (case tt_na_Chest_gifts => k_is); (case tt_na_Chest_outlay => k_is); (case tt_x_NoName => k_exc); (case tt_k_NoName => k_is); (case tt_b_NoName => k_is); (case tt_t_NoName => k_is); (case tt_x_Twice => k_exc); (case tt_k_Twice => k_is); (case tt_b_Twice => k_is); (case tt_t_Twice => k_is); (case tt_x_Full => k_exc); (case tt_k_Full => k_is); (case tt_b_Full => k_is); (case tt_t_Full => k_is); (case tt_x_NoVoter => k_exc); (case tt_k_NoVoter => k_is); (case tt_b_NoVoter => k_is); (case tt_t_NoVoter => k_is); (case tt_x_NoWork => k_exc); (case tt_k_NoWork => k_is); (case tt_b_NoWork => k_is); (case tt_t_NoWork => k_is); (case tt_x_TooMuch => k_exc); (case tt_k_TooMuch => k_is); (case tt_b_TooMuch => k_is); (case tt_t_TooMuch => k_is); (case z1 => k_is); (case z2 => k_is); (case z3 => k_is); (case z4 => k_is); (case z5 => k_is); (case z6 => k_is); (case z7 => k_is); (case q1 => k_is); (case q2 => k_is); (case q3 => k_is); (case q4 => k_is)

