import PyProof.Rows.All
import Wide.All
import OpenK.AllK
import Wide.FinOn
import HandS.ForMost
import HandS.Codes
import HandS.NoneIn
import HandS.Style
import HandS.RaiseMore
import HandS.TupAny
import HandS.IsInst
import HandS.Small
import HandS.Walk
import HandS.JoinGen
import HandS.SortRule
import PySem.Challenge.RW_potround_k65_books_as_texts
import HandS.SortKw
import KE.DataMinKey
import HandS.More
import HandS.DictComp
import HandS.OwnEq
import HandS.Defaults
import HandS.Ends
set_option Elab.async false
set_option linter.all false
set_option maxRecDepth 100000
set_option maxHeartbeats 8000000
/-! Own words over the hand layer: what stays behind a step, small joins of rules. -/
namespace Zz
open PySem PySem.Spec PyProof.Rows L2

/-! ### joins -/
def tOr2 (t u : TE) : TE := fun σ H Q => t σ H Q ∨ u σ H Q
def iOr2 (t u : TI) : TI := fun σ H R => t σ H R ∨ u σ H R
section
variable {X : Cx}
theorem pe_or2 {e : Expr} {t u : TE} (h : PE X e t) (h' : PE X e u) : PE X e (tOr2 t u) :=
  ⟨fun pins s σ H Q I hw => hw.elim (fun a => h.run pins s σ H Q I a) (fun a => h'.run pins s σ H Q I a)⟩
theorem pi_or2 {tg e : Expr} {t u : TI} (h : PI X tg e t) (h' : PI X tg e u) : PI X tg e (iOr2 t u) :=
  ⟨fun pins s σ H R I hw => hw.elim (fun a => h.run pins s σ H R I a) (fun a => h'.run pins s σ H R I a)⟩
/-- a list or a tuple is walked -/
theorem pi_seq {tg e : Expr} {t : TE} (h : PE X e t) : PI X tg e (iOr2 (iList X.K t) (iTup X.K t)) := pi_or2 (pi_list h) (pi_tup h)
theorem call_strA : CallR X (.type "str") (fun xs H Q => (∃ i, xs = [.int i] ∧ i.natAbs.log2 < 1920 ∧ Q (.str (toString i)) H) ∨ ∃ a, xs = [.str a] ∧ Q (.str a) H) := CallR.or call_str_int SkE.call_str_str
/-- a thing just made is held from now on -/
def tFrz (te : TE) : TE := fun σ H Q => te σ H fun x H1 => ∃ d u, x = .ref d ∧ H1 d = some u ∧ Mut (some u) ∧ ∀ od, Q x (upd H1 d (.frz od u))
theorem pe_frz {e : Expr} {te : TE} (h : PE X e te) : PE X e (tFrz te) := by
  refine ⟨fun pins s σ H Q I hw => thn (h.run pins s σ H _ I hw) fun v s1 q => ?_⟩
  obtain ⟨x, H1, I1, r, d, u, ex, hd, mu, k⟩ := q
  obtain ⟨od, I2⟩ := I1.lock hd mu
  exact ⟨x, _, I2, r, k od⟩
end

/-! ### what stays: all but some addresses -/
def Sm (S : List Addr) (H H' : Hp) : Prop := ∀ b o, b ∉ S → H b = some o → H' b = some o
section
variable {S : List Addr} {H H1 H2 : Hp} {K : PySem.W.Frag} {a p : Addr} {o u : HO} {xs : List V}
theorem Sm.refl (H : Hp) : Sm S H H := fun _ _ _ h => h
theorem Sm.trans (a : Sm S H H1) (b : Sm S H1 H2) : Sm S H H2 := fun c o n h => b c o n (a c o n h)
theorem Sm.new (h : H p = Option.none) : Sm S H (upd H p o) := fun b u _ e => by rw [upd_ne (ne_of_none e h)]; exact e
theorem Sm.at (h : p ∈ S) : Sm S H (upd H p o) := fun b u n e => by rw [upd_ne (show b ≠ p from fun z => n (by rw [z]; exact h))]; exact e
theorem Sm.mono {S' : List Addr} (e : Sm S H H1) (h : ∀ x ∈ S, x ∈ S') : Sm S' H H1 := fun b o n x => e b o (fun m => n (h b m)) x
theorem Sm.of (e : Sm [] H H1) : Sm S H H1 := e.mono fun _ h => by cases h
theorem Sm.same (e : Same H H1) : Sm S H H1 := fun b o _ h => e b o h
theorem Sm.toSame (e : Sm [] H H1) : Same H H1 := fun b o h => e b o (by simp) h
theorem Sm.free0 (e : Sm [] H H1) (h : H1 p = Option.none) : H p = Option.none := by
  cases q : H p with
  | none => rfl
  | some o => rw [e p o (by simp) q] at h; cases h
theorem Sm.free (e : Sm S H H1) (n : p ∉ S) (h : H1 p = Option.none) : H p = Option.none := by
  cases q : H p with
  | none => rfl
  | some o => rw [e p o n q] at h; cases h
/-- a new object may change behind -/
theorem Sm.mut (e : Sm S H H1) (h : H p = Option.none) : Sm S H (upd H1 p o) := fun b u n x => by
  rw [upd_ne (ne_of_none x h)]
  exact e b u n x
theorem Sm.sqL (e : Sm S H H1) (n : a ∉ S) (h : SqL K H a xs) : SqL K H1 a xs := by
  rcases h with (h | ⟨o, h⟩) | h
  · exact .inl (.inl (e _ _ n h))
  · exact .inl (.inr ⟨o, e _ _ n h⟩)
  · exact .inr h
theorem Sm.sqT (e : Sm S H H1) (n : a ∉ S) (h : SqT K H a xs) : SqT K H1 a xs := by
  rcases h with (h | ⟨o, h⟩) | h
  · exact .inl (.inl (e _ _ n h))
  · exact .inl (.inr ⟨o, e _ _ n h⟩)
  · exact .inr h
theorem sqL_new (h : H p = Option.none) (q : SqL K H a xs) : SqL K (upd H p o) a xs := (Sm.new (S := []) h).sqL (by simp) q
theorem sqT_new (h : H p = Option.none) (q : SqT K H a xs) : SqT K (upd H p o) a xs := (Sm.new (S := []) h).sqT (by simp) q
theorem sqL_at (h : H a = some (.lst xs)) : SqL K H a xs := .inl (.inl h)
theorem sqT_at (h : H a = some (.tup xs)) : SqT K H a xs := .inl (.inl h)
theorem at_new (h : H p = Option.none) (q : H a = some u) : upd H p o a = some u := by rw [upd_ne (ne_of_none q h)]; exact q
end
theorem yes_go {σ : L2.St} {H : Hp} {A B : Hp → Prop} (h : A H) : tYes σ H (fun b H3 => if b = true then A H3 else B H3) := by
  show if true = true then A H else B H
  rw [if_pos rfl]
  exact h
end Zz

/-! sorted of tuples whose first two items are ints and tell them apart. -/
namespace Zz
open PySem PySem.Spec PyProof.Rows L2

def IsTri (h : Heap) (v : Value) (x y : Int) : Prop :=
  ∃ (a : Addr) (o : Obj) (t u : Tok) (r : List Value) (n : Nat), v = .ref a ∧ h.get? a = some o ∧ o.cls = .type "tuple" ∧ o.data = .seq (List.toArray (.int x t :: .int y u :: r)) n
theorem IsTri.stay {h h' : Heap} {v : Value} {x y : Int} (p : IsTri h v x y) (k : ∀ b o, h.get? b = some o → o.cls = .type "tuple" → h'.get? b = some o) : IsTri h' v x y := by
  obtain ⟨a, o, t, u, r, n, e, ho, hc, hd⟩ := p
  exact ⟨a, o, t, u, r, n, e, k _ _ ho hc, hc, hd⟩
section
variable {prog : Program} {w : World} {A : Around} {s : Shared}
theorem lex_self {Q : Bool → Shared → Prop} (hq : Q false s) : ∀ (l : List Value) (i : Nat), PySem.W.KatLex prog w A true false Q (l.zip l) i s
  | [], i => PySem.W.kat_nil hq
  | v :: l, i => PySem.W.kat_cons (SeqAt.EqAt.same v prog w _ _ (PySem.W.kat_yes (lex_self hq l (i + 1))))
theorem tri_cmp {vs : List Value} {k : Value → Int × Int} (hp : ∀ v ∈ vs, IsTri s.heap v (k v).1 (k v).2) (hu : ∀ v ∈ vs, ∀ v' ∈ vs, k v = k v' → v = v') :
    SrtO.Cmp prog w A s (tuples' true) (fun p => p.1 ∈ vs) (SrtO.lt2 fun v u => SrtO.lexB (k v) (k u)) := by
  intro p q hm hm'
  show wpAny (model prog w) A (keyLt' (tuples' true) p.1 q.1) (fun r s' => s' = s ∧ r = SrtO.lexB (k p.1) (k q.1)) (fun _ _ => False) s
  by_cases hk : k p.1 = k q.1
  · have e := hu _ hm _ hm' hk
    rw [← e]
    obtain ⟨a, o, t, u, r, n, e1, ho, hc, hd⟩ := hp _ hm
    rw [show SrtO.lexB (k p.1) (k p.1) = false from SrtO.lexB_no.mpr (by omega), e1]
    refine PySem.W.kat_lt ho hd ho hd ?_
    rw [show decide ((List.toArray (Value.int (k p.1).1 t :: .int (k p.1).2 u :: r)).size < (List.toArray (Value.int (k p.1).1 t :: .int (k p.1).2 u :: r)).size) = false from decide_eq_false (Nat.lt_irrefl _)]
    exact lex_self ⟨rfl, rfl⟩ _ 0
  · have h1 := hp _ hm
    have h2 := hp _ hm'
    have hne : ¬ ((k p.1).1 = (k q.1).1 ∧ (k p.1).2 = (k q.1).2) := fun z => hk (Prod.ext z.1 z.2)
    have hb : SrtO.lexB (k p.1) (k q.1) = if (k p.1).1 = (k q.1).1 then decide ((k p.1).2 < (k q.1).2) else decide ((k p.1).1 < (k q.1).1) := rfl
    rw [hb]
    revert h1 h2 hne
    generalize (k p.1).1 = x
    generalize (k p.1).2 = y
    generalize (k q.1).1 = x'
    generalize (k q.1).2 = y'
    intro h1 h2 hne
    obtain ⟨a, o, t, u, r, n, e, ho, hc, hd⟩ := h1
    obtain ⟨a', o', t', u', r', n', e', ho', hc', hd'⟩ := h2
    rw [e, e']
    refine PySem.W.kat_lt ho hd ho' hd' ?_
    show PySem.W.KatLex prog w A true _ _ ((Value.int x t, Value.int x' t') :: (Value.int y u, Value.int y' u') :: r.zip r') 0 s
    refine PySem.W.kat_cons (SeqAt.EqAt.int_int x t x' t' prog w _ _ (PySem.W.kat_go (fun z => ?_) (fun z => ?_)))
    · have ex : x = x' := by simpa using z
      refine PySem.W.kat_yes (PySem.W.kat_cons (SeqAt.EqAt.int_int y u y' u' prog w _ _ (PySem.W.kat_go (fun z2 => ?_) (fun z2 => ?_))))
      · have ey : y = y' := by simpa using z2
        exact absurd ⟨ex, ey⟩ hne
      · rw [if_pos ex]
        exact PySem.W.kat_no (PySem.W.kat_one _ _ (PyProof.Rows.lt_int ⟨rfl, rfl⟩))
    · have ex : ¬ x = x' := by simpa using z
      rw [if_neg ex]
      exact PySem.W.kat_no (oneLt_int ⟨rfl, rfl⟩)
theorem tri_firsts {h : Heap} : ∀ {vs : List Value}, (∀ v ∈ vs, ∃ x y, IsTri h v x y) → ∃ fs : List Value, PySem.W.KatTups h vs fs ∧ fs.length = vs.length ∧ ∀ f ∈ fs, ∃ x t, f = Value.int x t
  | [], _ => ⟨[], PySem.W.KatTups.nil, rfl, fun _ hm => by simp at hm⟩
  | v :: vs, hp => by
    obtain ⟨fs, h1, h2, h3⟩ := tri_firsts (vs := vs) fun v' hm => hp v' (.tail _ hm)
    obtain ⟨x, y, a, o, t, u, r, n, e, ho, hc, hd⟩ := hp v (.head _)
    subst e
    refine ⟨.int x t :: fs, PySem.W.KatTups.cons ho hc hd rfl h1, congrArg (· + 1) h2, fun f hm => ?_⟩
    rcases List.mem_cons.mp hm with rfl | hm
    · exact ⟨x, t, rfl⟩
    · exact h3 f hm
theorem tri_sortable {a : Addr} {vs : List Value} {k : Value → Int × Int} (h0 : 0 < vs.length) (hp : ∀ v ∈ vs, IsTri s.heap v (k v).1 (k v).2) (hu : ∀ v ∈ vs, ∀ v' ∈ vs, k v = k v' → v = v')
    (ha : ∀ o, s.heap.get? a = some o → o.cls ≠ .type "tuple") : SrtO.SortableO prog w A s a vs fun v u => SrtO.lexB (k v) (k u) := by
  intro h' keep
  have hp' : ∀ v ∈ vs, IsTri h' v (k v).1 (k v).2 := fun v hm => (hp v hm).stay fun b o e c => keep b o (fun z => by subst z; exact ha o e c) e
  obtain ⟨fs, h1, h2, h3⟩ := tri_firsts fun v hm => ⟨_, _, hp' v hm⟩
  refine ⟨tuples' true, fun Q E hq => ?_, tri_cmp (s := { s with heap := h' }) hp' hu⟩
  refine PySem.W.kat_kind (T := .type "int") h1 (by omega) (fun f hm => ?_) (by rfl) ?_
  · obtain ⟨x, t, rfl⟩ := h3 f hm
    exact PySem.W.Looks.now
  · rw [show (Value.type "int" != Value.type "tuple") = true by first | decide +kernel | rfl | decide]
    exact hq
end
def rSortedE (K : PySem.W.Frag) : List V → Hp → VK → Prop := fun vs H Q => ∃ (a : Addr) (xs : List V) (k : V → Int × Int), vs = [V.ref a] ∧ SqL K H a xs ∧
  (∀ x ∈ xs, ∃ t r, x = V.ref t ∧ H t = some (.tup (.int (k x).1 :: .int (k x).2 :: r))) ∧ (∀ x ∈ xs, ∀ y ∈ xs, k x = k y → x = y) ∧
  ∀ ys p, SrtO.Srtd (ltP k) ys → SrtO.Stb (ltP k) ys xs → H p = none → Q (.ref p) (upd H p (.lst ys))
theorem cr_sortedE {X : Cx} : CallR X (.builtin "sorted") (rSortedE X.K) := by
  intro pins s σ H vs us Q I r h
  obtain ⟨a, xs, k, rfl, hs, hx, hu, q⟩ := h
  obtain ⟨its, rv, hl, hz⟩ := I.list hs
  obtain ⟨u, rfl, ru⟩ := vals1 r
  obtain rfl : u = Value.ref a := ru
  obtain ⟨e1, e2⟩ := refs_back rv fun x m => by
    obtain ⟨t, r, e, _⟩ := hx x m
    exact ⟨t, e⟩
  have hback : ∀ v ∈ its, ∀ v' ∈ its, backV v = backV v' → v = v' := fun v hv v' hv' e => by
    obtain ⟨t, rfl⟩ := e2 v hv
    obtain ⟨t', rfl⟩ := e2 v' hv'
    have e : V.ref t = V.ref t' := e
    cases e
    rfl
  have hT : ∀ v ∈ its, IsTri s.heap v (k (backV v)).1 (k (backV v)).2 := fun v hv => by
    obtain ⟨t, rfl⟩ := e2 v hv
    have hm : V.ref t ∈ xs := by rw [e1]; exact List.mem_map.mpr ⟨_, hv, rfl⟩
    obtain ⟨t', r, e, ht⟩ := hx _ hm
    cases e
    obtain ⟨_, its2, r2, o, ho, hc, n, hd⟩ := I.hok _ _ ht
    cases r2 with
    | cons ri r2 =>
      cases r2 with
      | cons rj r2 =>
        obtain ⟨t1, rfl⟩ := ri
        obtain ⟨t2, rfl⟩ := rj
        exact ⟨t, o, t1, t2, _, n, rfl, ho, hc, hd⟩
  have hU : ∀ v ∈ its, ∀ v' ∈ its, k (backV v) = k (backV v') → v = v' := fun v hv v' hv' e =>
    hback v hv v' hv' (hu _ (by rw [e1]; exact List.mem_map.mpr ⟨_, hv, rfl⟩) _ (by rw [e1]; exact List.mem_map.mpr ⟨_, hv', rfl⟩) e)
  refine SrtO.sorted_ord (SrtO.swo_lex fun v => k (backV v)) hl.isList (by rw [← rv.length]; exact hz) (fun h2 h₁ a' ha kk => ?_) fun out hs' hb' => ?_
  · refine tri_sortable (s := { s with heap := h₁ }) (k := fun v => k (backV v)) (by omega) (fun v hm => (hT v hm).stay fun b o e _ => (kk b o e).2) hU fun o e => ?_
    have e' : some o = some (seqObj "list" its.toArray 0) := e.symm.trans ha
    cases e'
    intro c
    exact absurd (Value.type.inj c) (by decide)
  · have h3 : ∀ u ∈ out, ∃ a, u = Value.ref a := fun u hm => e2 u (hb'.perm.mem_iff.mp hm)
    obtain ⟨n, hn⟩ := sortedAll_at s.heap its out.toArray
    have hb : SrtO.Stb (ltP k) (out.map backV) xs := by
      rw [e1]
      exact SrtO.Stb.map (ltP_swo k) backV hb'
    refine ⟨.ref _, upd H _ (.lst (out.map backV)), I.laid (t' := s.toks) (fun b o e => sortedAll_old e) (Nat.le_succ _) ⟨?_, out, n, vals_back h3, hn⟩, rfl, q _ _ (SrtO.srtd_map hs') hb (I.hok.fresh (Nat.le_succ _))⟩
    rw [hb.len]
    exact hz
end Zz

/-! max(xs, default=d) of a list of ints. -/
namespace Zz
open PySem PySem.Spec PyProof.Rows L2

abbrev dkw (d : Value) : List (Str × Value) := [(Str.ofString "default", d)]
theorem args_maxD (a d : Value) : argsOk "max" ⟨[a], dkw d⟩ := by unfold argsOk; kernel_rfl
theorem loopNm : (toString "max" ++ toString ".loop" : String) = "max.loop" := by decide
section
variable {prog : Program} {w : World} {A : Around} {R : Result → Shared → Prop} {it : Addr} {fp wr : List Addr} {n : Nat} {P : Nat → Value → Prop} {St : Nat → Heap → Prop} {d : Value}
/-- the rest of the loop, one item at least was met -/
theorem maxD_go (W : Walks prog w A.in1 it fp wr n P St) (bt : Nat → Nat → Bool) (hb : CmpOf prog w A.in1 .Gt P bt) (B : Addr) (nf : B ∉ fp) :
    ∀ (m j : Nat) (s : Shared) (x : Value) (c : Nat), n - (j + 1) = m → j + 1 ≤ n → St (j + 1) s.heap → P (argBest bt j) x → s.heap.get? B = some (seqObj "list" #[x, x] c) →
    (∀ y h1 t1, P (argBest bt (n - 1)) y → (∀ b o, b ∉ wr → b ≠ B → s.heap.get? b = some o → h1.get? b = some o) → R (.ok (.ret y)) { s with heap := h1, toks := t1 }) →
    codeAny (model prog w) A (.builtin "max.loop" ⟨[.ref it, .none, .ref B], dkw d⟩) R s := by
  have nw : B ∉ wr := fun z => nf (W.sub _ z)
  intro m
  induction m with
  | zero =>
    intro j s x c e1 e2 st px hB k
    have e3 : j + 1 = n := by omega
    refine codeAny_builtin F.entry_max_loop ?_
    rw [Around.under_plainId F.plain_max_loop _]
    show wpAny _ A.in1 (seqItems? (.ref B) >>= _) _ _ s
    refine wpAny_bind (wpAny_seqItems hB rfl ?_)
    show wpAny _ A.in1 (tryCatch (pyNext (.ref it)) _ >>= _) _ _ s
    refine wpAny_bind (wpAny_tryCatch (W.done s _ _ (e3 ▸ st) fun h1 t1 k1 => ?_))
    have hB1 := k1 B _ nw hB
    show wpAny _ A.in1 (updateSeq B (fun _ => #[]) >>= _) _ _ _
    refine wpAny_bind (wpAny_updateSeq hB1 rfl (wpAny_bind (wpAny_letGo (wpAny_pure ?_))))
    exact k x _ t1 (by rw [← e3]; exact px) fun b o q1 q2 q3 => (Heap.get?_update_other _ _ (Ne.symm q2)).trans (k1 b o q1 q3)
  | succ m ih =>
    intro j s x c e1 e2 st px hB k
    have lt : j + 1 < n := by omega
    refine codeAny_builtin F.entry_max_loop ?_
    rw [Around.under_plainId F.plain_max_loop _]
    show wpAny _ A.in1 (seqItems? (.ref B) >>= _) _ _ s
    refine wpAny_bind (wpAny_seqItems hB rfl ?_)
    show wpAny _ A.in1 (tryCatch (pyNext (.ref it)) _ >>= _) _ _ s
    refine wpAny_bind (wpAny_tryCatch (W.item (j + 1) s _ _ lt st fun y h1 t1 py st1 k1 => ?_))
    have hB1 := k1 B _ nw hB
    show wpAny _ A.in1 (tryCatch (holding [y, y] (richCompare .Gt y x >>= _)) _ >>= _) _ _ _
    refine wpAny_bind (wpAny_tryCatch (wpAny_holding (wpAny_bind (hb (j + 1) (argBest bt j) y x _ _ _ py px ?_))))
    refine wpAny_bind (wpAny_holding (wpAny_truthy_bool (wpAny_bind (wpAny_letGo (wpAny_pure ?_)))))
    cases hbt : bt (j + 1) (argBest bt j) with
    | true =>
      simp only [if_true]
      refine wpAny_bind (wpAny_updateSeq hB1 rfl (wpAny_bind (wpAny_letGo ?_)))
      rw [loopNm]
      refine wpAny_pure ⟨plainId_quiet F.plain_max_loop _, ?_⟩
      refine ih (j + 1) _ y _ (by omega) lt (W.frame _ _ _ st1 fun b q o e => (Heap.get?_update_other _ _ (fun z : B = b => nf (z ▸ q))).trans e) ?_ (Heap.get?_update_self _ hB1 rfl) ?_
      · simp only [argBest, hbt, if_true]; exact py
      · exact fun y2 h2 t2 p2 k2 => k y2 h2 t2 p2 fun b o q1 q2 q3 => k2 b o q1 q2 ((Heap.get?_update_other _ _ (Ne.symm q2)).trans (k1 b o q1 q3))
    | false =>
      simp only [Bool.false_eq_true, if_false]
      refine wpAny_bind (wpAny_letGo ?_)
      rw [loopNm]
      refine wpAny_pure ⟨plainId_quiet F.plain_max_loop _, ?_⟩
      refine ih (j + 1) _ x c (by omega) lt st1 ?_ hB1 ?_
      · simp only [argBest, hbt, Bool.false_eq_true, if_false]; exact px
      · exact fun y2 h2 t2 p2 k2 => k y2 h2 t2 p2 fun b o q1 q2 q3 => k2 b o q1 q2 (k1 b o q1 q3)
theorem maxD_start (W : Walks prog w A.in1 it fp wr n P St) (bt : Nat → Nat → Bool) (hb : CmpOf prog w A.in1 .Gt P bt) (B : Addr) (nf : B ∉ fp) {s : Shared} {c : Nat} (st : St 0 s.heap) (hB : s.heap.get? B = some (seqObj "list" #[] c))
    (k0 : n = 0 → ∀ h1 t1, (∀ b o, b ∉ wr → s.heap.get? b = some o → h1.get? b = some o) → R (.ok (.ret d)) { s with heap := h1, toks := t1 })
    (k : 0 < n → ∀ y h1 t1, P (argBest bt (n - 1)) y → (∀ b o, b ∉ wr → b ≠ B → s.heap.get? b = some o → h1.get? b = some o) → R (.ok (.ret y)) { s with heap := h1, toks := t1 }) :
    codeAny (model prog w) A (.builtin "max.loop" ⟨[.ref it, .none, .ref B], dkw d⟩) R s := by
  have nw : B ∉ wr := fun z => nf (W.sub _ z)
  refine codeAny_builtin F.entry_max_loop ?_
  rw [Around.under_plainId F.plain_max_loop _]
  show wpAny _ A.in1 (seqItems? (.ref B) >>= _) _ _ s
  refine wpAny_bind (wpAny_seqItems hB rfl ?_)
  show wpAny _ A.in1 (tryCatch (pyNext (.ref it)) _ >>= _) _ _ s
  by_cases hn : n = 0
  · refine wpAny_bind (wpAny_tryCatch (W.done s _ _ (by rw [hn]; exact st) fun h1 t1 k1 => ?_))
    show wpAny _ A.in1 (rule _ >>= _) _ _ _
    exact wpAny_bind (wpAny_rule (wpAny_pure (k0 hn h1 t1 k1)))
  · have n0 : 0 < n := Nat.pos_of_ne_zero hn
    refine wpAny_bind (wpAny_tryCatch (W.item 0 s _ _ n0 st fun x h1 t1 px st1 k1 => ?_))
    have hB1 := k1 B _ nw hB
    show wpAny _ A.in1 (updateSeq B (fun _ => #[x, x]) >>= _) _ _ _
    refine wpAny_bind (wpAny_updateSeq hB1 rfl ?_)
    rw [loopNm]
    refine wpAny_pure ⟨plainId_quiet F.plain_max_loop _, ?_⟩
    refine maxD_go W bt hb B nf _ 0 _ x _ rfl n0 (W.frame _ _ _ st1 fun b q o e => (Heap.get?_update_other _ _ (fun z : B = b => nf (z ▸ q))).trans e) px (Heap.get?_update_self _ hB1 rfl) ?_
    exact fun y2 h2 t2 p2 k2 => k n0 y2 h2 t2 p2 fun b o q1 q2 q3 => k2 b o q1 q2 ((Heap.get?_update_other _ _ (Ne.symm q2)).trans (k1 b o q1 q3))
variable {E : Value → Shared → Prop} {s : Shared}
theorem maxD_ints {Q : Value → Shared → Prop} {l : Addr} {xs : Array (Int × Tok)} (hh : A.handled = none) (hl : s.heap.IsList l (intItems xs))
    (k0 : xs.size = 0 → ∀ h1 t1, (∀ b o, s.heap.get? b = some o → h1.get? b = some o) → Q d { s with heap := h1, toks := t1 })
    (k : 0 < xs.size → ∀ v h1 t1, (intItems xs)[argBest (fun i j => decide (numAt xs i > numAt xs j)) (xs.size - 1)]? = some v → (∀ b o, s.heap.get? b = some o → h1.get? b = some o) → Q v { s with heap := h1, toks := t1 }) :
    wpAny (model prog w) A (call (.builtin "max") [.ref l] (dkw d)) Q E s := by
  refine kmk_tree F.kind_max F.plain_max F.entry_max (args_maxD _ _) ?_
  show wpAny _ A.in1 (Builtin.Builtins.bindParams "max" ["key", "default"] 0 ⟨[], dkw d⟩ >>= _) _ _ s
  refine wpAny_bind (wpAny_of_eq (show Builtin.Builtins.bindParams "max" ["key", "default"] 0 ⟨[], dkw d⟩ = pure [none, some d] from rfl) (wpAny_bind (wpAny_pure ?_)))
  refine wpAny_bind (iter_intList hl fun s2 e st hfp hlI => ?_)
  have sz : (intItems xs).size = xs.size := by simp [intItems]
  refine wpAny_bind (wpAny_newObj_type ?_)
  rw [loopNm]
  have W := Walks.list (prog := prog) (w := w) (A := A.in1) hh _ l hlI (intItems xs)
  have nf : s2.heap.objs.size ∉ [s.heap.objs.size, l] := fun z => Nat.lt_irrefl _ (hfp _ z)
  have old : ∀ b o, s.heap.get? b = some o → b ≠ s.heap.objs.size ∧ b ≠ s2.heap.objs.size ∧ s2.heap.get? b = some o := fun b o q => by
    have q2 : s2.heap.get? b = some o := by rw [e]; exact Heap.get?_push_of_some _ q
    exact ⟨Nat.ne_of_lt (Heap.lt_size q), Nat.ne_of_lt (Heap.lt_size q2), q2⟩
  have nwr : ∀ b, b ≠ s.heap.objs.size → b ∉ [s.heap.objs.size] := fun b z m => by
    rcases List.mem_cons.mp m with q | q
    · exact z q
    · cases q
  subst e
  refine wpAny_pure ⟨plainId_quiet F.plain_max_loop _, maxD_start W _ (CmpOf.ints_gt (numAt xs) (fun _ _ => intItems_at)) _ nf (W.frame _ _ _ st fun b _ o q => Heap.get?_push_of_some _ q) (Heap.get?_push_size _ rfl) (fun z h1 t1 k1 => ?_) (fun z v h1 t1 p k1 => ?_)⟩
  · exact k0 (by rw [← sz]; exact z) h1 t1 fun b o q => k1 b o (nwr b (old b o q).1) (Heap.get?_push_of_some _ (old b o q).2.2)
  · exact k (by rw [← sz]; exact z) v h1 t1 (by rw [sz] at p; exact p) fun b o q => k1 b o (nwr b (old b o q).1) (old b o q).2.1 (Heap.get?_push_of_some _ (old b o q).2.2)
end
def rMaxD (K : PySem.W.Frag) : List V → List V → Hp → VK → Prop := fun vs zs H Q => ∃ (a : Addr) (ns : List Int) (d : Int), vs = [V.ref a] ∧ zs = [.int d] ∧ SqL K H a (ns.map V.int) ∧
  ∀ m : Int, (ns = [] → m = d) → (ns ≠ [] → m ∈ ns ∧ ∀ y, y ∈ ns → y ≤ m) → Q (.int m) H
theorem cr_maxD {X : Cx} (hc : X.calm = true) : CallRK X (.builtin "max") [Str.ofString "default"] (rMaxD X.K) := by
  intro pins s σ H vs zs us ws Q I r rz h
  obtain ⟨a, ns, d, rfl, rfl, hs, q⟩ := h
  obtain rfl := Vals.ref1 r
  obtain ⟨w1, rfl, t, rfl⟩ := vals1 rz
  obtain ⟨its, rv, hl, _⟩ := I.list hs
  obtain ⟨xs, e⟩ := rv.ints.allInts.items
  have hn : numsOf (intItems xs).toList = ns := by rw [← e]; exact rv.ints.numsOf
  rw [nums_intItems] at hn
  rw [e] at hl
  have hl' : s.heap.IsList a (intItems xs) := hl.isList
  refine maxD_ints (I.ok.hd hc) hl' (fun z h1 t1 k1 => ?_) (fun z v h1 t1 hv k1 => ?_)
  · have e0 : ns = [] := by
      rw [← hn]
      exact List.eq_nil_of_length_eq_zero (by rw [List.length_map, Array.length_toList]; exact z)
    exact ⟨.int d, H, I.kept k1, ⟨t, rfl⟩, q d (fun _ => rfl) (fun z2 => absurd e0 z2)⟩
  · obtain ⟨t2, rfl⟩ := intItems_at hv
    obtain ⟨_, g2⟩ := argBest_gt (numAt xs) (xs.size - 1)
    have hlen : ns.length = xs.size := by rw [← hn, List.length_map, Array.length_toList]
    refine ⟨.int _, H, I.kept k1, ⟨t2, rfl⟩, q _ (fun z2 => ?_) (fun _ => ⟨?_, fun y hy => ?_⟩)⟩
    · rw [z2] at hlen
      exact absurd hlen (by show (0 : Nat) ≠ _; omega)
    · rw [← hn, numAt_eq]
      refine PySem.getD_mem ?_
      obtain ⟨g1, _⟩ := argBest_gt (numAt xs) (xs.size - 1)
      rw [List.length_map, Array.length_toList]
      omega
    · rw [← hn] at hy
      obtain ⟨j, hj, rfl⟩ := mem_getD hy
      rw [List.length_map, Array.length_toList] at hj
      rw [← numAt_eq]
      exact g2 j (by omega)
end Zz

/-! d != {} and d.update(e). -/
namespace Zz
open PySem PySem.Spec PyProof.Rows L2
section
variable {X : Cx}
/-- the right one has no entry -/
def rNeDict : R2 := fun x y H Q => ∃ a b ks, x = .ref a ∧ y = .ref b ∧ H a = some (.dK ks) ∧ H b = some (.dK []) ∧ Q (.bl (!ks.isEmpty)) H
theorem op_neDict (hu : X.A.units < cLine) : OpR X (compareOp .NotEq) rNeDict := by
  intro pins s σ H x y v u Q I rx ry h
  obtain ⟨a, b, ks, rfl, rfl, ea, eb, q⟩ := h
  obtain rfl : v = Value.ref a := rx
  obtain rfl : u = Value.ref b := ry
  obtain ⟨_, ya, va, ra, da⟩ := I.hok a (.dK ks) ea
  obtain ⟨_, yb, vb, rb, db⟩ := I.hok b (.dK []) eb
  have zb : vb.length = 0 := rb.length.symm
  refine PySem.W.keq_ne (knd := mixKind X.prog X.w) (r := true) ya yb da db hu (fun e => ?_) (fin_bl I q ?_)
  · have e2 : va = [] := List.eq_nil_of_length_eq_zero (by rw [e]; exact zb)
    subst e2
    have e3 : ks = [] := List.eq_nil_of_length_eq_zero ra.length
    subst e3
    exact hits_all rb ra fun p hp => by simp at hp
  · rw [zb, ← ra.length]
    cases ks <;> simp
def rUpd : V → List V → Hp → VK → Prop := fun x vs H Q => ∃ d o kvs more, x = .ref d ∧ vs = [.ref o] ∧ H d = some (.dK kvs) ∧ H o = some (.dK more) ∧ d ≠ o ∧ kvs.length + more.length ≤ sizeLine ∧ Q .non (upd H d (.dK (mergeK kvs more)))
theorem mt_update : MtM X "dict.update" rUpd := by
  intro pins s σ H x xs v us Q I r rs h
  obtain ⟨d, o, kvs, more, rfl, rfl, ed, eo, hne, hz, q⟩ := h
  obtain rfl : v = Value.ref d := r
  obtain ⟨u, rfl, ru⟩ := Vals.one rs
  obtain rfl : u = Value.ref o := ru
  obtain ⟨z1, y1, va, ra, da⟩ := I.hok d (.dK kvs) ed
  obtain ⟨z2, y2, vb, rb, db⟩ := I.hok o (.dK more) eo
  refine call_meetsIn PySem.F.slot_dict_update da.typeIs PySem.F.entry_dict_update (PySem.F.args_dict_update_2 _ _) (meets_dict_update (mixKind X.prog X.w) d o hne y2) ⟨va, vb, da, db, by rw [← ra.length, ← rb.length]; exact hz, fun h' dd' _ hs => ?_⟩
  have hl : (mergeK kvs more).length ≤ sizeLine := by
    have e := (KV.merge rb ra).length
    have l := merged_length_le va vb
    have := ra.length
    have := rb.length
    omega
  have ex : ∃ w, h'.get? d = some w := by
    obtain ⟨w, _, _, e, _⟩ := dd'
    exact ⟨w, e⟩
  exact ⟨.non, upd H d (.dK (mergeK kvs more)), d_write (t' := s.toks) I (by rw [ed]; exact True.intro) hs ex (dk_new hl y1 (KV.merge rb ra) dd'), rfl, q⟩
end
end Zz

/-! Texts of rows: what both writers write. -/
namespace Zz
open PySem PySem.Spec PyProof.Rows L2

/-- a part's text -/
def partT : V → Str
  | .non => "never"
  | .str s => s
  | .int i => Str.ofString (toString i)
  | _ => ""
/-- a part as it may stand in a row -/
def okP : V → Prop
  | .non => True
  | .str s => s.length ≤ 40
  | .int i => 0 ≤ i ∧ i < 10 ^ 10
  | _ => False
theorem okP_len {v : V} (h : okP v) : (partT v).length ≤ 40 := by
  cases v with
  | non => show ("never" : Str).length ≤ 40; decide
  | str s => exact h
  | int i => exact Nat.le_trans (toString_length_le (k := 10) h.1 (by decide) h.2) (by decide)
  | bl b => exact h.elim
  | byt b => exact h.elim
  | flt b => exact h.elim
  | ref a => exact h.elim
  | ty n => exact h.elim
def rowT (w : Str) (ps : List V) : Str := Txt.join " " (w :: ps.map partT)
theorem joinL_len (S : List Nat) : ∀ l : List (List Nat), (TL.joinL S l).length = (l.map List.length).sum + (l.length - 1) * S.length
  | [] => by simp [TL.joinL]
  | [p] => by simp [TL.joinL]
  | p :: q :: r => by
    have ih := joinL_len S (q :: r)
    show (p ++ (S ++ TL.joinL S (q :: r))).length = _
    rw [List.length_append, List.length_append, ih]
    simp only [List.map_cons, List.sum_cons, List.length_cons]
    rw [show r.length + 1 + 1 - 1 = (r.length + 1 - 1) + 1 by omega, Nat.succ_mul]
    omega
theorem tl_len (x : Str) : (TL.tl x).length = x.length := by simp [TL.tl, Str.length]
theorem join_len (s : Str) (l : List Str) : (Txt.join s l).length = (l.map (·.length)).sum + (l.length - 1) * s.length := by
  rw [TL.join_eq, ← tl_len, TL.tl_join, joinL_len, List.length_map, tl_len, List.map_map]
  congr 2
theorem sum_le {l : List Nat} {B : Nat} (h : ∀ x ∈ l, x ≤ B) : l.sum ≤ l.length * B := by
  induction l with
  | nil => simp
  | cons a r ih =>
    have h1 := h a (.head _)
    have h2 := ih fun x m => h x (.tail _ m)
    rw [List.sum_cons, List.length_cons, Nat.succ_mul]
    omega
theorem rowT_len {w : Str} {ps : List V} (hw : w.length ≤ 40) (hp : ∀ p ∈ ps, okP p) (hl : ps.length ≤ 10) : (rowT w ps).length ≤ 500 := by
  unfold rowT
  rw [join_len]
  have h1 : (((w :: ps.map partT).map (·.length))).sum ≤ ((w :: ps.map partT).map (·.length)).length * 40 := sum_le fun x m => by
    obtain ⟨y, hy, rfl⟩ := List.mem_map.mp m
    rcases List.mem_cons.mp hy with rfl | hy
    · exact hw
    · obtain ⟨p, hp', rfl⟩ := List.mem_map.mp hy
      exact okP_len (hp p hp')
  have h2 : (" " : Str).length = 1 := by decide
  rw [h2]
  simp only [List.length_map, List.length_cons] at h1 ⊢
  omega
theorem rowT_fits {w : Str} {ps : List V} (hw : w.length ≤ 40) (hp : ∀ p ∈ ps, okP p) (hl : ps.length ≤ 10) :
    ((w :: ps.map partT).map (·.length)).sum + (w :: ps.map partT).length * (" " : Str).length ≤ 16777216 := by
  have h1 : (((w :: ps.map partT).map (·.length))).sum ≤ ((w :: ps.map partT).map (·.length)).length * 40 := sum_le fun x m => by
    obtain ⟨y, hy, rfl⟩ := List.mem_map.mp m
    rcases List.mem_cons.mp hy with rfl | hy
    · exact hw
    · obtain ⟨p, hp', rfl⟩ := List.mem_map.mp hy
      exact okP_len (hp p hp')
  have h2 : (" " : Str).length = 1 := by decide
  rw [h2]
  simp only [List.length_map, List.length_cons] at h1 ⊢
  omega
end Zz

/-! What a Book was told, in plain Lean: the entries that stand, the next number, their order. -/
namespace Zz
open PySem PySem.Spec PyProof.Rows L2

inductive Told where
  | ent (n h : Int) (d : V)
  | rig (n h : Int) (d : V)
  | str (n : Int)
abbrev Ent := Int × Int × V     -- number, hour, deed
def kput (m : List Ent) (e : Ent) : List Ent := if (m.any fun p => decide (p.1 = e.1)) = true then m.map (fun p => if p.1 = e.1 then e else p) else m ++ [e]
def kdel (m : List Ent) (n : Int) : List Ent := m.filter fun p => decide (p.1 ≠ n)
def kstep (m : List Ent) : Told → List Ent
  | .ent n h d => kput m (n, h, d)
  | .rig n h d => kput m (n, h, d)
  | .str n => kdel m n
def kn (ts : List Told) : List Ent := ts.foldl kstep []
theorem kn_snoc (ts : List Told) (t : Told) : kn (ts ++ [t]) = kstep (kn ts) t := by
  unfold kn; rw [List.foldl_append]; rfl
theorem kn_take {ts : List Told} {i : Nat} {t : Told} (h : ts[i]? = some t) : kn (ts.take (i + 1)) = kstep (kn (ts.take i)) t := by
  rw [List.take_add_one, h]
  exact kn_snoc _ _
def keys (m : List Ent) : List Int := m.map (·.1)
/-- what is put right or struck stands -/
def okT (m : List Ent) : Told → Prop
  | .ent n _ _ => 0 ≤ n
  | .rig n _ _ => n ∈ keys m
  | .str n => n ∈ keys m
def Good (ts : List Told) : Prop := ∀ i t, ts[i]? = some t → okT (kn (ts.take i)) t
theorem Good.nil : Good [] := fun i t h => by simp at h
theorem Good.snoc {ts : List Told} {t : Told} (g : Good ts) (h : okT (kn ts) t) : Good (ts ++ [t]) := fun i u e => by
  by_cases hi : i < ts.length
  · rw [List.getElem?_append_left hi] at e
    rw [List.take_append_of_le_length (Nat.le_of_lt hi)]
    exact g i u e
  · by_cases h2 : i = ts.length
    · subst h2
      rw [List.getElem?_append_right (Nat.le_refl _), Nat.sub_self] at e
      have e : some t = some u := e
      cases e
      rw [List.take_append_of_le_length (Nat.le_refl _), List.take_length]
      exact h
    · rw [List.getElem?_eq_none (by rw [List.length_append, List.length_singleton]; omega)] at e
      cases e
theorem Good.init {ts : List Told} {t : Told} (g : Good (ts ++ [t])) : Good ts := fun i u e => by
  have hi : i < ts.length := (List.getElem?_eq_some_iff.mp e).1
  have z := g i u (by rw [List.getElem?_append_left hi]; exact e)
  rw [List.take_append_of_le_length (Nat.le_of_lt hi)] at z
  exact z
theorem kput_keys_in {m : List Ent} {e : Ent} (h : e.1 ∈ keys m) : keys (kput m e) = keys m := by
  unfold kput
  have ha : (m.any fun p => decide (p.1 = e.1)) = true := by
    obtain ⟨p, hp, e1⟩ := List.mem_map.mp h
    exact List.any_eq_true.mpr ⟨p, hp, decide_eq_true e1⟩
  rw [if_pos ha]
  unfold keys
  rw [List.map_map]
  exact List.map_congr_left fun p _ => by
    show (if p.1 = e.1 then e else p).1 = p.1
    by_cases q : p.1 = e.1
    · rw [if_pos q, q]
    · rw [if_neg q]
theorem kput_new {m : List Ent} {e : Ent} (h : e.1 ∉ keys m) : kput m e = m ++ [e] := by
  unfold kput
  rw [if_neg]
  intro ha
  obtain ⟨p, hp, e1⟩ := List.any_eq_true.mp ha
  exact h (List.mem_map.mpr ⟨p, hp, of_decide_eq_true e1⟩)
theorem kput_keys (m : List Ent) (e : Ent) : ∀ k, k ∈ keys (kput m e) ↔ k ∈ keys m ∨ k = e.1 := fun k => by
  by_cases h : e.1 ∈ keys m
  · rw [kput_keys_in h]
    exact ⟨.inl, fun z => z.elim id fun q => q ▸ h⟩
  · rw [kput_new h]
    unfold keys
    rw [List.map_append, List.mem_append]
    simp
theorem kput_nd {m : List Ent} {e : Ent} (h : (keys m).Nodup) : (keys (kput m e)).Nodup := by
  by_cases hk : e.1 ∈ keys m
  · rw [kput_keys_in hk]; exact h
  · rw [kput_new hk]
    unfold keys at *
    rw [List.map_append]
    exact nd_snoc h hk
theorem kdel_nd {m : List Ent} {n : Int} (h : (keys m).Nodup) : (keys (kdel m n)).Nodup := by
  unfold keys kdel at *
  exact List.Nodup.sublist ((List.filter_sublist).map _) h
theorem kn_nd (ts : List Told) : (keys (kn ts)).Nodup := by
  have go : ∀ (ts : List Told) (m : List Ent), (keys m).Nodup → (keys (ts.foldl kstep m)).Nodup := by
    intro ts
    induction ts with
    | nil => exact fun m h => h
    | cons t r ih =>
      intro m h
      refine ih _ ?_
      cases t with
      | ent n h' d => exact kput_nd h
      | rig n h' d => exact kput_nd h
      | str n => exact kdel_nd h
  exact go ts [] List.nodup_nil
theorem kput_len (m : List Ent) (e : Ent) : (kput m e).length ≤ m.length + 1 := by
  unfold kput
  split
  · rw [List.length_map]; exact Nat.le_succ _
  · rw [List.length_append]; exact Nat.le_refl _
theorem kn_len (ts : List Told) : (kn ts).length ≤ ts.length := by
  have go : ∀ (ts : List Told) (m : List Ent), (ts.foldl kstep m).length ≤ m.length + ts.length := by
    intro ts
    induction ts with
    | nil => exact fun m => Nat.le_refl _
    | cons t r ih =>
      intro m
      refine Nat.le_trans (ih _) ?_
      have : (kstep m t).length ≤ m.length + 1 := by
        cases t with
        | ent n h d => exact kput_len m _
        | rig n h d => exact kput_len m _
        | str n => exact Nat.le_trans (List.length_filter_le _ _) (Nat.le_succ _)
      rw [List.length_cons]; omega
  have := go ts []
  rw [List.length_nil, Nat.zero_add] at this
  exact this
/-! numbers -/
def own : Told → Int
  | .ent n _ _ => n
  | _ => -1
def IsNext (ts : List Told) (k : Int) : Prop := (ts = [] → k = 0) ∧ (ts ≠ [] → (∃ t ∈ ts, own t + 1 = k) ∧ ∀ t ∈ ts, own t + 1 ≤ k)
theorem IsNext.up {ts : List Told} {k : Int} (h : IsNext ts k) : ∀ t ∈ ts, own t < k := fun t m => by
  have := (h.2 (fun z => by rw [z] at m; cases m)).2 t m
  omega
theorem keys_own (ts : List Told) (g : Good ts) : ∀ k ∈ keys (kn ts), ∃ t ∈ ts, own t = k := by
  have go : ∀ i, i ≤ ts.length → ∀ k ∈ keys (kn (ts.take i)), ∃ t ∈ ts.take i, own t = k := by
    intro i
    induction i with
    | zero => intro _ k hk; rw [List.take_zero] at hk; cases hk
    | succ i ih =>
      intro hi k hk
      have hl : i < ts.length := hi
      have e : ts[i]? = some ts[i] := List.getElem?_eq_getElem hl
      have ih := ih (Nat.le_of_lt hl)
      have up : ∀ k ∈ keys (kn (ts.take i)), ∃ t ∈ ts.take (i + 1), own t = k := fun k hk => by
        obtain ⟨t, ht, e2⟩ := ih k hk
        rw [List.take_add_one]
        exact ⟨t, List.mem_append_left _ ht, e2⟩
      rw [kn_take e] at hk
      have gt := g i _ e
      generalize ts[i] = t at *
      cases t with
      | ent n h d =>
        rcases (kput_keys _ _ k).mp hk with q | q
        · exact up k q
        · refine ⟨.ent n h d, ?_, q.symm⟩
          rw [List.take_add_one, e]
          exact List.mem_append_right _ (by simp)
      | rig n h d =>
        rcases (kput_keys _ _ k).mp hk with q | q
        · exact up k q
        · exact up k (by rw [show k = n from q]; exact gt)
      | str n =>
        refine up k ?_
        obtain ⟨p, hp, e3⟩ := List.mem_map.mp hk
        exact List.mem_map.mpr ⟨p, (List.mem_filter.mp hp).1, e3⟩
  intro k hk
  have z := go ts.length (Nat.le_refl _) k
  rw [List.take_length] at z
  exact z hk
theorem next_fresh {ts : List Told} {k : Int} (g : Good ts) (h : IsNext ts k) : k ∉ keys (kn ts) := fun m => by
  obtain ⟨t, ht, e⟩ := keys_own ts g k m
  have := h.up t ht
  omega
theorem next_ge {ts : List Told} {k : Int} (g : Good ts) (h : IsNext ts k) : 0 ≤ k := by
  cases ts with
  | nil => exact Int.le_of_eq (h.1 rfl).symm
  | cons t r =>
    have := (h.2 (by simp)).2 t (.head _)
    have z := g 0 t rfl
    cases t with
    | ent n h d => have z : 0 ≤ n := z; have : n + 1 ≤ k := this; omega
    | rig n h d => have : (-1 : Int) + 1 ≤ k := this; omega
    | str n => have : (-1 : Int) + 1 ≤ k := this; omega

/-! sorted entries -/
abbrev Row3 := Int × Int × V    -- hour, number, deed
def ltE (a b : Row3) : Bool := SrtO.lexB (a.1, a.2.1) (b.1, b.2.1)
theorem ltE_swo : SrtO.Swo ltE := by
  refine ⟨fun x y h => ?_, fun x y z h1 h2 => ?_⟩
  · have a := SrtO.lexB_iff.mp h
    exact SrtO.lexB_no.mpr (by omega)
  · have a := SrtO.lexB_no.mp h1
    have b := SrtO.lexB_no.mp h2
    exact SrtO.lexB_no.mpr (by omega)
structure SrtE (out es : List Row3) : Prop where
  srt : SrtO.Srtd ltE out
  stb : SrtO.Stb ltE out es
theorem SrtE.uniq {o1 o2 es : List Row3} (a : SrtE o1 es) (b : SrtE o2 es) : o1 = o2 :=
  SrtO.stb_uniq ltE_swo a.srt b.srt ⟨a.stb.perm.trans b.stb.perm.symm, fun x => (a.stb.cls x).trans (b.stb.cls x).symm⟩
def TriAt (H : Hp) (y : V) (e : Row3) : Prop := ∃ t, y = .ref t ∧ H t = some (.tup [.int e.1, .int e.2.1, e.2.2])
def triOf (H : Hp) : V → Row3
  | .ref t => match H t with
    | some (.tup [.int h, .int n, d]) => (h, n, d)
    | _ => (0, 0, .non)
  | _ => (0, 0, .non)
theorem TriAt.of {H : Hp} {y : V} {e : Row3} (h : TriAt H y e) : triOf H y = e := by
  obtain ⟨t, rfl, ht⟩ := h
  unfold triOf
  simp only [ht]
theorem tri_map {H : Hp} : ∀ {xs : List V} {es : List Row3}, Paired (TriAt H) xs es → xs.map (triOf H) = es
  | _, _, .nil => rfl
  | _, _, .cons r t => by rw [List.map_cons, r.of, tri_map t]
theorem tri_mem {H : Hp} : ∀ {xs : List V} {es : List Row3}, Paired (TriAt H) xs es → ∀ x ∈ xs, TriAt H x (triOf H x) ∧ triOf H x ∈ es
  | _, _, .nil, x, m => by cases m
  | _, _, .cons r t, x, m => by
    rcases List.mem_cons.mp m with rfl | m
    · rw [r.of]; exact ⟨r, .head _⟩
    · exact ⟨(tri_mem t x m).1, .tail _ (tri_mem t x m).2⟩
theorem tri_of_mem {H : Hp} {xs : List V} (h : ∀ x ∈ xs, TriAt H x (triOf H x)) : Paired (TriAt H) xs (xs.map (triOf H)) := by
  induction xs with
  | nil => exact .nil
  | cons x r ih => exact .cons (h x (.head _)) (ih fun y m => h y (.tail _ m))
/-- how sorted is read where the items are such rows, no two alike in hour and number, no object twice -/
theorem r_sortedE {K : PySem.W.Frag} {H : Hp} {Q : VK} {a : Addr} {xs : List V} {es : List Row3} (hs : SqL K H a xs) (hp : Paired (TriAt H) xs es) (nd : (es.map fun e => (e.1, e.2.1)).Nodup)
    (q : ∀ (p : Addr) (ys : List V) (out : List Row3), H p = Option.none → SrtE out es → Paired (TriAt H) ys out → Q (.ref p) (upd H p (.lst ys))) : rSortedE K [.ref a] H Q := by
  have em := tri_map hp
  refine ⟨a, xs, fun x => ((triOf H x).1, (triOf H x).2.1), rfl, hs, fun x m => ?_, fun x m y m' e => ?_, fun ys p h1 h2 hp0 => ?_⟩
  · obtain ⟨t, e, ht⟩ := (tri_mem hp x m).1
    exact ⟨t, _, e, ht⟩
  · have nd2 : (xs.map fun x => ((triOf H x).1, (triOf H x).2.1)).Nodup := by
      rw [← em, List.map_map] at nd
      exact nd
    obtain ⟨i, hi, rfl⟩ := List.mem_iff_getElem.mp m
    obtain ⟨j, hj, rfl⟩ := List.mem_iff_getElem.mp m'
    have z := (List.getElem_inj (h₀ := by rw [List.length_map]; exact hi) (h₁ := by rw [List.length_map]; exact hj) nd2).mp (by rw [List.getElem_map, List.getElem_map]; exact e)
    subst z
    rfl
  · refine q p ys (ys.map (triOf H)) hp0 ⟨SrtO.srtd_map (f := triOf H) h1, ?_⟩ (tri_of_mem fun x m => (tri_mem hp x (h2.perm.mem_iff.mp m)).1)
    have z := SrtO.Stb.map (lt := ltE) ltE_swo (triOf H) h2
    rw [em] at z
    exact z
def ents (m : List Ent) : List Row3 := m.map fun e => (e.2.1, e.1, e.2.2)
theorem ents_nd {m : List Ent} (h : (keys m).Nodup) : ((ents m).map fun e => (e.1, e.2.1)).Nodup := by
  unfold ents
  rw [List.map_map]
  unfold keys at h
  unfold List.Nodup at h ⊢
  rw [List.pairwise_map] at h ⊢
  exact h.imp fun ne e => ne (congrArg Prod.snd e)
end Zz

/-! The text by its places, what the top has left of it, the entries' classes. -/
namespace Zz
open PySem PySem.Spec PyProof.Rows L2
def topS (i : Nat) : Stmt := PySem.Challenge.pw_potround_k65_books_as_texts.main.body.getD i (.Pass ⟨0, 0, 0, 0⟩)
abbrev s_Einit : Stmt := inClass (topS 2) 0
abbrev nm_Einit : List Str := ["self", "number", "hour", "deed"]
theorem sc_Einit : FnScope nm_Einit ["self", "number", "hour", "deed"] (C8.fnScope s_Einit) := C8.fnScope_by (by decide +kernel)
abbrev s_Eown : Stmt := inClass (topS 2) 1
abbrev nm_Eown : List Str := ["self"]
theorem sc_Eown : FnScope nm_Eown ["self"] (C8.fnScope s_Eown) := C8.fnScope_by (by decide +kernel)
abbrev s_Eput : Stmt := inClass (topS 2) 2
abbrev nm_Eput : List Str := ["self", "known"]
theorem sc_Eput : FnScope nm_Eput ["self", "known"] (C8.fnScope s_Eput) := C8.fnScope_by (by decide +kernel)
abbrev s_Rown : Stmt := inClass (topS 3) 0
abbrev nm_Rown : List Str := ["self"]
theorem sc_Rown : FnScope nm_Rown ["self"] (C8.fnScope s_Rown) := C8.fnScope_by (by decide +kernel)
abbrev s_Sput : Stmt := inClass (topS 4) 0
abbrev nm_Sput : List Str := ["self", "known"]
theorem sc_Sput : FnScope nm_Sput ["self", "known"] (C8.fnScope s_Sput) := C8.fnScope_by (by decide +kernel)
abbrev s_known : Stmt := topS 5
abbrev nm_known : List Str := ["some", "known", "one"]
theorem sc_known : FnScope nm_known ["some"] (C8.fnScope s_known) := C8.fnScope_by (by decide +kernel)
abbrev s_next : Stmt := topS 6
abbrev nm_next : List Str := ["some", "one"]
theorem sc_next : FnScope nm_next ["some"] (C8.fnScope s_next) := C8.fnScope_by (by decide +kernel)
abbrev s_Binit : Stmt := inClass (topS 10) 0
abbrev nm_Binit : List Str := ["self", "palette", "kinds", "teams", "pots", "slots"]
theorem sc_Binit : FnScope nm_Binit ["self", "palette", "kinds", "teams", "pots", "slots"] (C8.fnScope s_Binit) := C8.fnScope_by (by decide +kernel)
abbrev s_Blook : Stmt := inClass (topS 10) 1
abbrev nm_Blook : List Str := ["self", "number"]
theorem sc_Blook : FnScope nm_Blook ["self", "number"] (C8.fnScope s_Blook) := C8.fnScope_by (by decide +kernel)
abbrev s_Benter : Stmt := inClass (topS 10) 2
abbrev nm_Benter : List Str := ["self", "deed", "hour", "number"]
theorem sc_Benter : FnScope nm_Benter ["self", "deed", "hour"] (C8.fnScope s_Benter) := C8.fnScope_by (by decide +kernel)
abbrev s_Bright : Stmt := inClass (topS 10) 3
abbrev nm_Bright : List Str := ["self", "number", "deed", "hour"]
theorem sc_Bright : FnScope nm_Bright ["self", "number", "deed", "hour"] (C8.fnScope s_Bright) := C8.fnScope_by (by decide +kernel)
abbrev s_Bstrike : Stmt := inClass (topS 10) 4
abbrev nm_Bstrike : List Str := ["self", "number"]
theorem sc_Bstrike : FnScope nm_Bstrike ["self", "number"] (C8.fnScope s_Bstrike) := C8.fnScope_by (by decide +kernel)
abbrev s_Bundo : Stmt := inClass (topS 10) 5
abbrev nm_Bundo : List Str := ["self"]
theorem sc_Bundo : FnScope nm_Bundo ["self"] (C8.fnScope s_Bundo) := C8.fnScope_by (by decide +kernel)
abbrev s_Bentries : Stmt := inClass (topS 10) 6
abbrev nm_Bentries : List Str := ["self", "number", "hour", "deed"]
theorem sc_Bentries : FnScope nm_Bentries ["self"] (C8.fnScope s_Bentries) := C8.fnScope_by (by decide +kernel)
abbrev s_Blen : Stmt := inClass (topS 10) 11
abbrev nm_Blen : List Str := ["self"]
theorem sc_Blen : FnScope nm_Blen ["self"] (C8.fnScope s_Blen) := C8.fnScope_by (by decide +kernel)
/-- a method, by its text -/
def MF (K : PySem.W.Frag) (C : Addr) (m qual : Str) (st : Stmt) (ps : List Str) : Prop := ∃ f fd, Meth K C m f ∧ C8.Fun K m qual st f fd ∧ Binds K fd ps []
/-- a class and its __init__ -/
def KF (K : PySem.W.Frag) (mg : Str → Option Value) (x : Str) (C : Addr) (qual : Str) (st : Stmt) (ps : List Str) : Prop := ∃ f fd, Mk K C f ∧ mg x = some (.ref C) ∧ C8.Fun K "__init__" qual st f fd ∧ Binds K fd ps []
/-- a def of the module -/
def DF (K : PySem.W.Frag) (mg : Str → Option Value) (x : Str) (st : Stmt) (ps : List Str) : Prop := ∃ f fd, C8.Def K mg x st f fd ∧ Binds K fd ps []
/-- an entry's class -/
structure EC (K : PySem.W.Frag) (C : Addr) : Prop where
  cl : Cls K C
  nN : NoAttr K C "number"
  nH : NoAttr K C "hour"
  nD : NoAttr K C "deed"
structure TxE (K : PySem.W.Frag) (mg : Str → Option Value) (CE CR CS : Addr) : Prop where
  cE : EC K CE
  cR : EC K CR
  cS : EC K CS
  kE : KF K mg "Entered" CE "Entered.__init__" s_Einit ["self", "number", "hour", "deed"]
  kR : KF K mg "Righted" CR "Entered.__init__" s_Einit ["self", "number", "hour", "deed"]
  kS : KF K mg "Struck" CS "Entered.__init__" s_Einit ["self", "number", "hour", "deed"]
  oE : MF K CE "own_number" "Entered.own_number" s_Eown ["self"]
  oR : MF K CR "own_number" "Righted.own_number" s_Rown ["self"]
  oS : MF K CS "own_number" "Righted.own_number" s_Rown ["self"]
  pE : MF K CE "put_into" "Entered.put_into" s_Eput ["self", "known"]
  pR : MF K CR "put_into" "Entered.put_into" s_Eput ["self", "known"]
  pS : MF K CS "put_into" "Struck.put_into" s_Sput ["self", "known"]
  known : DF K mg "known_by" s_known ["some"]
  next : DF K mg "next_number" s_next ["some"]
  n_max : mg "max" = none
  ne : CE ≠ CR ∧ CE ≠ CS ∧ CR ≠ CS
/-- an entry's attributes -/
def fE (n h d : V) : List (Str × V) := [("number", n), ("hour", h), ("deed", d)]
theorem fE_put (n h d : V) : putF "deed" d (putF "hour" h (putF "number" n [])) = fE n h d := by
  have e1 : ¬ (("number" : Str) = "hour") := by decide +kernel
  have e2 : ¬ (("number" : Str) = "deed") := by decide +kernel
  have e3 : ¬ (("hour" : Str) = "deed") := by decide +kernel
  simp [putF, e1, e2, e3, fE]
theorem fE_n (n h d : V) : (fE n h d).lookup ("number" : Str) = some n := by
  unfold fE; rw [List.lookup_cons_self]
theorem fE_h (n h d : V) : (fE n h d).lookup ("hour" : Str) = some h := by
  unfold fE
  rw [List.lookup_cons, show (("hour" : Str) == "number") = false by decide +kernel]
  exact List.lookup_cons_self
theorem fE_d (n h d : V) : (fE n h d).lookup ("deed" : Str) = some d := by
  have e1 : (("deed" : Str) == "number") = false := by decide +kernel
  have e2 : (("deed" : Str) == "hour") = false := by decide +kernel
  simp only [fE, List.lookup, e1, e2, beq_self_eq_true]
theorem fE_no (n h d : V) {m : Str} (h1 : (m == ("number" : Str)) = false) (h2 : (m == ("hour" : Str)) = false) (h3 : (m == ("deed" : Str)) = false) : (fE n h d).lookup m = none := by
  simp only [fE, List.lookup, h1, h2, h3]
/-- an entry stands at v -/
def ToldAt (CE CR CS : Addr) (H : Hp) (v : V) : Told → Prop
  | .ent n h d => ∃ a dx, v = .ref a ∧ H a = some (.ins CE dx (fE (.int n) (.int h) d))
  | .rig n h d => ∃ a dx, v = .ref a ∧ H a = some (.ins CR dx (fE (.int n) (.int h) d))
  | .str n => ∃ a dx, v = .ref a ∧ H a = some (.ins CS dx (fE (.int n) .non .non))
section
variable {P : Program} {w : World} {K : PySem.W.Frag} {mg : Str → Option Value} {base : Heap} {CE CR CS : Addr}
/-! ### the entries' methods -/
def spEinit (C : Addr) : Sp := fun vs H Q _ => ∃ (x dx : Addr) (n h d : V), vs = [.ref x, n, h, d] ∧ H x = some (.ins C dx []) ∧ Q .non (upd H x (.ins C dx (fE n h d)))
theorem kE_of {x : Str} {C : Addr} (T : EC K C) (k : KF K mg x C "Entered.__init__" s_Einit ["self", "number", "hour", "deed"]) : C8.Mak P w K mg base 1 x C (spEinit C) [] := by
  obtain ⟨f, fd, M, hm, F, b⟩ := k
  refine C8.mak0 M hm F b .nil sc_Einit (fun vs H Q E z => ?_) (fun cdv A outer s H vs Q E hr z => ?_)
  · obtain ⟨_, _, _, _, _, rfl, _⟩ := z
    rfl
  · obtain ⟨x, dx, n, h, d, rfl, hx, q⟩ := z
    refine ⟨_, (pss_cons (ps_fld (pv 0) (pv 1) rfl)
    (pss_cons (ps_fld (pv 0) (pv 2) rfl)
    (pss_one (ps_fld (pv 0) (pv 3) rfl)))), ?_⟩
    refine ⟨n, rfl, .ref x, rfl, x, C, dx, [], rfl, hx, T.cl, T.nN, by show 0 < 1000; decide, ?_⟩
    refine ⟨h, rfl, .ref x, rfl, x, C, dx, _, rfl, upd_same, T.cl, T.nH, by show 1 < 1000; decide, ?_⟩
    refine ⟨d, rfl, .ref x, rfl, x, C, dx, _, rfl, upd_same, T.cl, T.nD, ?_, ?_⟩
    · have e1 : ¬ (("number" : Str) = "hour") := by decide +kernel
      simp [putF, e1]
    · rw [upd_upd, upd_upd, fE_put]
      exact q
def spOwn (C : Addr) (isE : Bool) : Sp := fun vs H Q _ => ∃ (x dx : Addr) (n : Int) (h d : V), vs = [.ref x] ∧ H x = some (.ins C dx (fE (.int n) h d)) ∧ Q (.int (if isE then n else -1)) H
theorem mE_own_ {C : Addr} (T : EC K C) (m : MF K C "own_number" "Entered.own_number" s_Eown ["self"]) : C8.Met P w K mg base 1 C "own_number" (spOwn C true) [] := by
  obtain ⟨f, fd, M, F, b⟩ := m
  refine C8.met0 T.cl M F b sc_Eown (fun vs H Q E z => ?_) (fun cdv A outer s H vs Q E hr z => ?_)
  · obtain ⟨_, _, _, _, _, rfl, _⟩ := z
    rfl
  · obtain ⟨x, dx, n, h, d, rfl, hx, q⟩ := z
    refine ⟨_, (pss_one (ps_ret (pe_fld (pv 0) rfl))), ?_⟩
    exact ⟨.ref x, rfl, x, C, dx, _, _, rfl, hx, T.cl, T.nN, fE_n _ _ _, q⟩
theorem mR_own_ {C : Addr} (T : EC K C) (m : MF K C "own_number" "Righted.own_number" s_Rown ["self"]) : C8.Met P w K mg base 1 C "own_number" (spOwn C false) [] := by
  obtain ⟨f, fd, M, F, b⟩ := m
  refine C8.met0 T.cl M F b sc_Rown (fun vs H Q E z => ?_) (fun cdv A outer s H vs Q E hr z => ?_)
  · obtain ⟨_, _, _, _, _, rfl, _⟩ := z
    rfl
  · obtain ⟨x, dx, n, h, d, rfl, hx, q⟩ := z
    refine ⟨_, (pss_one (ps_ret (pe_un un_neg pe_int))), ?_⟩
    exact ⟨1, rfl, q⟩
/-- an entry is put into a dict by numbers -/
def spPut (C : Addr) : Sp := fun vs H Q _ => ∃ (x dx k : Addr) (n : Int) (h d : V) (kvs : List (Key × V)), vs = [.ref x, .ref k] ∧ H x = some (.ins C dx (fE (.int n) h d)) ∧ H k = some (.dK kvs) ∧ kvs.length ≤ 1000 ∧
  ∀ t, H t = Option.none → Q .non (upd (upd H t (.tup [h, d])) k (.dK (putK kvs (Sum.inl n) (.ref t))))
theorem mE_put_ {C : Addr} (T : EC K C) (m : MF K C "put_into" "Entered.put_into" s_Eput ["self", "known"]) : C8.Met P w K mg base 1 C "put_into" (spPut C) [] := by
  obtain ⟨f, fd, M, F, b⟩ := m
  refine C8.met0 T.cl M F b sc_Eput (fun vs H Q E z => ?_) (fun cdv A outer s H vs Q E hr z => ?_)
  · obtain ⟨_, _, _, _, _, _, _, rfl, _⟩ := z
    rfl
  · obtain ⟨x, dx, k, n, h, d, kvs, rfl, hx, hk, hl, q⟩ := z
    have hu := hu_of hr
    refine ⟨_, (pss_one (ps_dput hu (pv 1) (pe_fld (pv 0) rfl) (pe_tup (pa_cons (pe_fld (pv 0) rfl) (pa_cons (pe_fld (pv 0) rfl) pa_nil))) rfl)), ?_⟩
    refine ⟨.ref x, rfl, x, C, dx, _, _, rfl, hx, T.cl, T.nH, fE_h _ _ _, .ref x, rfl, x, C, dx, _, _, rfl, hx, T.cl, T.nD, fE_d _ _ _, by show 2 ≤ sizeLine; decide, fun t ht => ?_⟩
    refine ⟨.ref k, rfl, .ref x, rfl, x, C, dx, _, _, rfl, at_new ht hx, T.cl, T.nN, fE_n _ _ _, k, _, rfl, DPut.k (k := Sum.inl n) (at_new ht hk) (small1000 hl), q t ht⟩
/-- one is taken out -/
def spDel (C : Addr) : Sp := fun vs H Q _ => ∃ (x dx k : Addr) (n : Int) (h d v : V) (kvs : List (Key × V)), vs = [.ref x, .ref k] ∧ H x = some (.ins C dx (fE (.int n) h d)) ∧ H k = some (.dK kvs) ∧ valV kvs (Sum.inl n) = some v ∧
  Q .non (upd H k (.dK (dropK kvs (Sum.inl n))))
theorem mS_put_ {C : Addr} (T : EC K C) (m : MF K C "put_into" "Struck.put_into" s_Sput ["self", "known"]) : C8.Met P w K mg base 1 C "put_into" (spDel C) [] := by
  obtain ⟨f, fd, M, F, b⟩ := m
  refine C8.met0 T.cl M F b sc_Sput (fun vs H Q E z => ?_) (fun cdv A outer s H vs Q E hr z => ?_)
  · obtain ⟨_, _, _, _, _, _, _, _, rfl, _⟩ := z
    rfl
  · obtain ⟨x, dx, k, n, h, d, v, kvs, rfl, hx, hk, hv, q⟩ := z
    have hu := hu_of hr
    refine ⟨_, (pss_one (ps_expr (pe_dpop1 (pv 1) (pe_fld (pv 0) rfl) ⟨rfl, rfl, rfl, rfl⟩))), ?_⟩
    exact ⟨.ref k, rfl, k, rfl, .inl ⟨kvs, .inl hk⟩, .ref x, rfl, x, C, dx, _, _, rfl, hx, T.cl, T.nN, fE_n _ _ _, kvs, Sum.inl n, v, hk, rfl, hv, q⟩
end
end Zz

/-! known_by, next_number. -/
namespace Zz
open PySem PySem.Spec PyProof.Rows L2
/-- the dict of what stands -/
def KnP (H : Hp) (p : Key × V) (e : Ent) : Prop := p.1 = Sum.inl e.1 ∧ ∃ t, p.2 = .ref t ∧ H t = some (.tup [.int e.2.1, e.2.2])
abbrev KnAt (H : Hp) : List (Key × V) → List Ent → Prop := Paired (KnP H)
theorem KnAt.keep {H H' : Hp} {kvs : List (Key × V)} {m : List Ent} (h : KnAt H kvs m) (k : ∀ t xs, H t = some (.tup xs) → H' t = some (.tup xs)) : KnAt H' kvs m :=
  Paired.mapP h fun p e ⟨a, t, b, c⟩ => ⟨a, t, b, k _ _ c⟩
theorem Sm.tup {S : List Addr} {H H' : Hp} (e : Sm S H H') (n : ∀ a ∈ S, ∀ xs, H a ≠ some (.tup xs)) : ∀ t xs, H t = some (.tup xs) → H' t = some (.tup xs) := fun t xs h => e t _ (fun m => n t m xs h) h
theorem KnAt.any {H : Hp} {n : Int} : ∀ {kvs : List (Key × V)} {m : List Ent}, KnAt H kvs m → (kvs.any fun kv => decide (kv.1 = (Sum.inl n : Key))) = m.any fun p => decide (p.1 = n)
  | _, _, .nil => rfl
  | p :: _, e :: _, .cons r t => by
    rw [List.any_cons, List.any_cons, KnAt.any t, r.1]
    congr 1
    by_cases h : e.1 = n
    · rw [h, decide_eq_true rfl, decide_eq_true rfl]
    · rw [decide_eq_false h, decide_eq_false fun z => h (Sum.inl.inj z)]
theorem KnAt.put {H : Hp} {n h : Int} {d : V} {t : Addr} (ht : H t = some (.tup [.int h, d])) {kvs : List (Key × V)} {m : List Ent} (k : KnAt H kvs m) : KnAt H (putK kvs (Sum.inl n) (.ref t)) (kput m (n, h, d)) := by
  unfold putK kput
  rw [k.any (n := n)]
  split
  · have go : ∀ {kvs : List (Key × V)} {m : List Ent}, KnAt H kvs m → KnAt H (kvs.map fun kv => if kv.1 = (Sum.inl n : Key) then (kv.1, V.ref t) else kv) (m.map fun p => if p.1 = n then (n, h, d) else p) := by
      intro kvs m k
      induction k with
      | nil => exact .nil
      | @cons p e ps qs r tl ih =>
        refine .cons ?_ ih
        show KnP H (if p.1 = (Sum.inl n : Key) then (p.1, V.ref t) else p) (if e.1 = n then (n, h, d) else e)
        by_cases q : e.1 = n
        · rw [if_pos (show p.1 = (Sum.inl n : Key) by rw [r.1, q]), if_pos q]
          exact ⟨by rw [r.1, q], t, rfl, ht⟩
        · rw [if_neg (show ¬ p.1 = (Sum.inl n : Key) from fun z => q (Sum.inl.inj (r.1.symm.trans z))), if_neg q]
          exact r
    exact go k
  · have go : ∀ {kvs : List (Key × V)} {m : List Ent}, KnAt H kvs m → KnAt H (kvs ++ [(Sum.inl n, V.ref t)]) (m ++ [(n, h, d)]) := by
      intro kvs m k
      induction k with
      | nil => exact .cons ⟨rfl, t, rfl, ht⟩ .nil
      | cons r tl ih => exact .cons r ih
    exact go k
theorem KnAt.del {H : Hp} {n : Int} {kvs : List (Key × V)} {m : List Ent} (k : KnAt H kvs m) : KnAt H (dropK kvs (Sum.inl n)) (kdel m n) := by
  unfold dropK kdel
  induction k with
  | nil => exact .nil
  | @cons p e ps qs r tl ih =>
    by_cases q : e.1 = n
    · rw [List.filter_cons_of_neg (by rw [r.1, q]; simp), List.filter_cons_of_neg (by simp [q])]
      exact ih
    · rw [List.filter_cons_of_pos (by rw [r.1]; simp; exact q), List.filter_cons_of_pos (by simp [q])]
      exact .cons r ih
theorem KnAt.val {H : Hp} {n : Int} {kvs : List (Key × V)} {m : List Ent} (k : KnAt H kvs m) (h : n ∈ keys m) : ∃ v, valV kvs (Sum.inl n) = some v := by
  have e := valV_any (Sum.inl n : Key) kvs
  rw [k.any (n := n)] at e
  obtain ⟨p, hp, e1⟩ := List.mem_map.mp h
  rw [List.any_eq_true.mpr ⟨p, hp, decide_eq_true e1⟩] at e
  exact Option.isSome_iff_exists.mp e.symm
theorem paired_get {α β : Type} {F : α → β → Prop} : ∀ {l : List α} {m : List β} {i : Nat} {x : α}, Paired F l m → l[i]? = some x → ∃ y, m[i]? = some y ∧ F x y
  | _, _, _, _, .nil, e => by simp at e
  | _, _, 0, _, .cons r _, e => by simp at e; subst e; exact ⟨_, rfl, r⟩
  | _, _, i + 1, x, .cons _ t, e => by
    obtain ⟨y, h1, h2⟩ := paired_get (i := i) (x := x) t (by simpa using e)
    exact ⟨y, by simpa using h1, h2⟩
section
variable {P : Program} {w : World} {K : PySem.W.Frag} {mg : Str → Option Value} {base : Heap} {CE CR CS : Addr}
theorem ToldAt.keep {H H' : Hp} {v : V} {t : Told} (h : ToldAt CE CR CS H v t) (k : ∀ a C dx fs, H a = some (.ins C dx fs) → H' a = some (.ins C dx fs)) : ToldAt CE CR CS H' v t := by
  cases t with
  | ent n h' d => obtain ⟨a, dx, e, z⟩ := h; exact ⟨a, dx, e, k _ _ _ _ z⟩
  | rig n h' d => obtain ⟨a, dx, e, z⟩ := h; exact ⟨a, dx, e, k _ _ _ _ z⟩
  | str n => obtain ⟨a, dx, e, z⟩ := h; exact ⟨a, dx, e, k _ _ _ _ z⟩
abbrev TsAt (CE CR CS : Addr) (H : Hp) : List V → List Told → Prop := Paired (ToldAt CE CR CS H)
theorem TsAt.keep {H H' : Hp} {vs : List V} {ts : List Told} (h : TsAt CE CR CS H vs ts) (k : ∀ a C dx fs, H a = some (.ins C dx fs) → H' a = some (.ins C dx fs)) : TsAt CE CR CS H' vs ts := Paired.mapP h fun _ _ z => z.keep k
theorem Sm.ins0 {H H' : Hp} (e : Sm [] H H') : ∀ a C dx fs, H a = some (.ins C dx fs) → H' a = some (.ins C dx fs) := fun a C dx fs h => e a _ (by simp) h
def spKnown (K : PySem.W.Frag) (CE CR CS : Addr) : Sp := fun vs H Q _ => ∃ (l : Addr) (es : List V) (ts : List Told), vs = [.ref l] ∧ SqL K H l es ∧ TsAt CE CR CS H es ts ∧ Good ts ∧ ts.length ≤ 200 ∧
  ∀ p kvs H', Sm [] H H' → H p = Option.none → H' p = some (.dK kvs) → KnAt H' kvs (kn ts) → Q (.ref p) H'
theorem c_known_ (T : TxE K mg CE CR CS) : C8.Cal P w K mg base 2 "known_by" (spKnown K CE CR CS) [] := by
  obtain ⟨f, fd, D, b⟩ := T.known
  have mE_put := mE_put_ (P := P) (w := w) (base := base) (mg := mg) T.cE T.pE
  have mR_put := mE_put_ (P := P) (w := w) (base := base) (mg := mg) T.cR T.pR
  have mS_put := mS_put_ (P := P) (w := w) (base := base) (mg := mg) T.cS T.pS
  refine C8.cal0 D b .nil sc_known (fun vs H Q E z => ?_) (fun cdv A outer s H vs Q E hr z => ?_)
  · obtain ⟨_, _, _, rfl, _⟩ := z
    rfl
  · obtain ⟨l, es, ts, rfl, hl, hts, g, hn, q⟩ := z
    have elen : es.length = ts.length := Paired.length hts
    refine ⟨_, (pss_cons (ps_set (i := 1) sc_known.nd rfl (Or.inl rfl) pe_dnewK)
    (pss_cons (ps_for PassesOwn.never rfl (pi_list (pv 0)) (pg_name (i := 2) sc_known.nd rfl (Or.inl rfl))
    (pss_one (ps_expr (pe_or2 (C8.pe_mt mE_put hr (by decide) (pv 2) (pa_cons (pv 1) pa_nil)) (pe_or2 (C8.pe_mt mR_put hr (by decide) (pv 2) (pa_cons (pv 1) pa_nil)) (C8.pe_mt mS_put hr (by decide) (pv 2) (pa_cons (pv 1) pa_nil)))))))
    (pss_one (ps_ret (pv 1))))), ?_⟩
    intro p hp
    refine ⟨.ref l, rfl, l, rfl, ⟨es, sqL_new hp hl⟩, for_list (K := K) (a := l) (xs := es) (fun i σ H2 => ∃ y kvs, σ = [some (.ref l), some (.ref p), y] ∧ Sm [] H H2 ∧ H2 p = some (.dK kvs) ∧ KnAt H2 kvs (kn (ts.take i)))
      ⟨none, [], rfl, Sm.new hp, upd_same, .nil⟩ (fun i σ H2 _ ⟨_, _, _, e, _⟩ => e.sqL (by simp) hl) ?_ ?_⟩
    · rintro i x σ H2 hi ⟨y, kvs, rfl, e, hd, hk⟩
      obtain ⟨t, ht, hT⟩ := paired_get hts hi
      have hok := g i t ht
      have hkl : kvs.length ≤ 1000 := by
        have := Paired.length hk
        have := kn_len (ts.take i)
        have : (ts.take i).length ≤ ts.length := by rw [List.length_take]; omega
        omega
      have step : ∀ (n h : Int) (d : V), kstep (kn (ts.take i)) t = kput (kn (ts.take i)) (n, h, d) → ∀ u, H2 u = Option.none →
          ∃ y kvs', ([some (V.ref l), some (V.ref p), some x] : L2.St) = [some (.ref l), some (.ref p), y] ∧ Sm [] H (upd (upd H2 u (.tup [.int h, d])) p (.dK (putK kvs (Sum.inl n) (.ref u)))) ∧
            (upd (upd H2 u (.tup [.int h, d])) p (.dK (putK kvs (Sum.inl n) (.ref u)))) p = some (.dK kvs') ∧ KnAt (upd (upd H2 u (.tup [.int h, d])) p (.dK (putK kvs (Sum.inl n) (.ref u)))) kvs' (kn (ts.take (i + 1))) := by
        intro n h d ek u hu
        have npu : u ≠ p := (ne_of_none hd hu).symm
        refine ⟨_, _, rfl, (e.trans (Sm.new hu)).mut hp, upd_same, ?_⟩
        rw [kn_take ht, ek]
        refine KnAt.put (by rw [upd_ne npu]; exact upd_same) (hk.keep fun a xs ha => ?_)
        have hap : a ≠ p := fun z => by rw [z, hd] at ha; cases ha
        rw [upd_ne hap, upd_ne (ne_of_none ha hu)]
        exact ha
      cases t with
      | ent n h d =>
        obtain ⟨a, dx, rfl, ha⟩ := hT
        have ha2 := e.ins0 _ _ _ _ ha
        exact .inl ⟨.ref a, rfl, a, dx, _, rfl, ha2, fE_no _ _ _ (by decide +kernel) (by decide +kernel) (by decide +kernel), .ref p, rfl, a, dx, p, n, .int h, d, kvs, rfl, ha2, hd, hkl, fun u hu => step n h d rfl u hu⟩
      | rig n h d =>
        obtain ⟨a, dx, rfl, ha⟩ := hT
        have ha2 := e.ins0 _ _ _ _ ha
        exact .inr (.inl ⟨.ref a, rfl, a, dx, _, rfl, ha2, fE_no _ _ _ (by decide +kernel) (by decide +kernel) (by decide +kernel), .ref p, rfl, a, dx, p, n, .int h, d, kvs, rfl, ha2, hd, hkl, fun u hu => step n h d rfl u hu⟩)
      | str n =>
        obtain ⟨a, dx, rfl, ha⟩ := hT
        have ha2 := e.ins0 _ _ _ _ ha
        obtain ⟨v, hv⟩ := hk.val hok
        refine .inr (.inr ⟨.ref a, rfl, a, dx, _, rfl, ha2, fE_no _ _ _ (by decide +kernel) (by decide +kernel) (by decide +kernel), .ref p, rfl, a, dx, p, n, .non, .non, v, kvs, rfl, ha2, hd, hv, ?_⟩)
        refine ⟨_, _, rfl, e.mut hp, upd_same, ?_⟩
        rw [kn_take ht]
        refine (KnAt.del hk).keep fun c xs hc => ?_
        rw [upd_ne (fun z => by rw [z, hd] at hc; cases hc)]
        exact hc
    · rintro σ H2 ⟨y, kvs, rfl, e, hd, hk⟩
      rw [elen, List.take_length] at hk
      exact ⟨.ref p, rfl, q p kvs H2 e hp hd hk⟩
def spNext (K : PySem.W.Frag) (CE CR CS : Addr) : Sp := fun vs H Q _ => ∃ (l : Addr) (es : List V) (ts : List Told), vs = [.ref l] ∧ SqL K H l es ∧ TsAt CE CR CS H es ts ∧ ts.length ≤ 200 ∧
  ∀ k H', Sm [] H H' → IsNext ts k → Q (.int k) H'
theorem c_next_ (T : TxE K mg CE CR CS) : C8.Cal P w K mg base 2 "next_number" (spNext K CE CR CS) [] := by
  obtain ⟨f, fd, D, b⟩ := T.next
  have mE_own := mE_own_ (P := P) (w := w) (base := base) (mg := mg) T.cE T.oE
  have mR_own := mR_own_ (P := P) (w := w) (base := base) (mg := mg) T.cR T.oR
  have mS_own := mR_own_ (P := P) (w := w) (base := base) (mg := mg) T.cS T.oS
  refine C8.cal0 D b .nil sc_next (fun vs H Q E z => ?_) (fun cdv A outer s H vs Q E hr z => ?_)
  · obtain ⟨_, _, _, rfl, _⟩ := z
    rfl
  · obtain ⟨l, es, ts, rfl, hl, hts, hn, q⟩ := z
    have elen : es.length = ts.length := Paired.length hts
    refine ⟨_, (pss_one (ps_ret (pe_op op_add (pe_callBK (cr_maxD rfl) (by rfl) T.n_max (by decide +kernel) (pa_cons (pe_lc (own := [("one", 1)]) (g := gName 1) (tt := tYes) rfl sc_next.nd (pi_list (pv 0)) (blkOk_by (own := [("one", 1)]) (N := nm_next) (sc := C8.fnScope s_next) (by decide +kernel)) (fun _ _ _ _ _ => (pg_name (i := 1) sc_next.nd rfl (Or.inl rfl))) (fun _ _ _ _ _ => pts_nil) (fun _ _ _ _ _ => (pe_or2 (C8.pe_mt0 mE_own hr (by decide) (pv 1)) (pe_or2 (C8.pe_mt0 mR_own hr (by decide) (pv 1)) (C8.pe_mt0 mS_own hr (by decide) (pv 1)))))) pa_nil) (pk_cons (pe_un un_neg pe_int) pk_nil)) pe_int))), ?_⟩
    refine ⟨.ref l, rfl, l, rfl, ⟨es, hl⟩, fun p hp => ?_⟩
    refine lc_list (K := K) (a := l) (xs := es) (fun i H2 => Sm [] H H2 ∧ H2 p = some (.lst (((ts.take i).map own).map V.int))) ⟨Sm.new hp, upd_same⟩ (fun i H2 _ ⟨e, _⟩ => e.sqL (by simp) hl) ?_ ?_
    · rintro i x H2 hi ⟨e, hd⟩
      obtain ⟨t, ht, hT⟩ := paired_get hts hi
      have fin : Sm [] H (upd H2 p (.lst (((ts.take i).map own).map V.int ++ [.int (own t)]))) ∧ (upd H2 p (.lst (((ts.take i).map own).map V.int ++ [.int (own t)]))) p = some (.lst (((ts.take (i + 1)).map own).map V.int)) := by
        refine ⟨e.mut hp, ?_⟩
        rw [upd_same, List.take_add_one, ht, List.map_append, List.map_append]
        rfl
      have hz : (((ts.take i).map own).map V.int).length < sizeLine := by
        rw [List.length_map, List.length_map]
        have : (ts.take i).length ≤ ts.length := by rw [List.length_take]; omega
        exact small1000 (by omega)
      refine ⟨rfl, yes_go ?_⟩
      cases t with
      | ent n h d =>
        obtain ⟨a, dx, rfl, ha⟩ := hT
        have ha2 := e.ins0 _ _ _ _ ha
        exact .inl ⟨.ref a, rfl, a, dx, _, rfl, ha2, fE_no _ _ _ (by decide +kernel) (by decide +kernel) (by decide +kernel), a, dx, n, .int h, d, rfl, ha2, _, hd, hz, fin⟩
      | rig n h d =>
        obtain ⟨a, dx, rfl, ha⟩ := hT
        have ha2 := e.ins0 _ _ _ _ ha
        exact .inr (.inl ⟨.ref a, rfl, a, dx, _, rfl, ha2, fE_no _ _ _ (by decide +kernel) (by decide +kernel) (by decide +kernel), a, dx, n, .int h, d, rfl, ha2, _, hd, hz, fin⟩)
      | str n =>
        obtain ⟨a, dx, rfl, ha⟩ := hT
        have ha2 := e.ins0 _ _ _ _ ha
        exact .inr (.inr ⟨.ref a, rfl, a, dx, _, rfl, ha2, fE_no _ _ _ (by decide +kernel) (by decide +kernel) (by decide +kernel), a, dx, n, .non, .non, rfl, ha2, _, hd, hz, fin⟩)
    · rintro H2 ⟨e, hd⟩
      rw [elen, List.take_length] at hd
      refine ⟨1, rfl, p, ts.map own, -1, rfl, rfl, sqL_at hd, fun m h1 h2 => ⟨m, 1, rfl, rfl, q _ H2 e ⟨fun z => ?_, fun z => ?_⟩⟩⟩
      · rw [h1 (by rw [z]; rfl)]
        rfl
      · obtain ⟨a1, a2⟩ := h2 (fun y => z (List.map_eq_nil_iff.mp y))
        obtain ⟨t, ht, e1⟩ := List.mem_map.mp a1
        refine ⟨⟨t, ht, by rw [e1]⟩, fun u hu => ?_⟩
        have := a2 _ (List.mem_map.mpr ⟨u, hu, rfl⟩)
        omega
end
end Zz

/-! The Book's methods. -/
namespace Zz
open PySem PySem.Spec PyProof.Rows L2
structure Hall where
  pal : Addr
  kinds : Addr
  teams : Addr
  pots : Addr
  slots : Int
def fB (h : Hall) (tl : Addr) : List (Str × V) := [("palette", .ref h.pal), ("kinds", .ref h.kinds), ("teams", .ref h.teams), ("pots", .ref h.pots), ("slots", .int h.slots), ("telling", .ref tl)]
theorem beqn {a b : Str} (h : (a == b) = false) : ¬ a = b := fun z => by rw [z, beq_self_eq_true] at h; cases h
section
theorem n12 : (("kinds" : Str) == "palette") = false := by decide +kernel
theorem n13 : (("teams" : Str) == "palette") = false := by decide +kernel
theorem n14 : (("pots" : Str) == "palette") = false := by decide +kernel
theorem n15 : (("slots" : Str) == "palette") = false := by decide +kernel
theorem n16 : (("telling" : Str) == "palette") = false := by decide +kernel
theorem n23 : (("teams" : Str) == "kinds") = false := by decide +kernel
theorem n24 : (("pots" : Str) == "kinds") = false := by decide +kernel
theorem n25 : (("slots" : Str) == "kinds") = false := by decide +kernel
theorem n26 : (("telling" : Str) == "kinds") = false := by decide +kernel
theorem n34 : (("pots" : Str) == "teams") = false := by decide +kernel
theorem n35 : (("slots" : Str) == "teams") = false := by decide +kernel
theorem n36 : (("telling" : Str) == "teams") = false := by decide +kernel
theorem n45 : (("slots" : Str) == "pots") = false := by decide +kernel
theorem n46 : (("telling" : Str) == "pots") = false := by decide +kernel
theorem n56 : (("telling" : Str) == "slots") = false := by decide +kernel
end
theorem fB_put (h : Hall) (tl : Addr) : putF "telling" (.ref tl) (putF "slots" (.int h.slots) (putF "pots" (.ref h.pots) (putF "teams" (.ref h.teams) (putF "kinds" (.ref h.kinds) (putF "palette" (.ref h.pal) []))))) = fB h tl := by
  have s : ∀ {a b : Str}, (a == b) = false → ¬ b = a := fun h z => beqn h z.symm
  simp only [putF, if_neg (s n12), if_neg (s n13), if_neg (s n14), if_neg (s n15), if_neg (s n16), if_neg (s n23), if_neg (s n24), if_neg (s n25), if_neg (s n26), if_neg (s n34), if_neg (s n35), if_neg (s n36), if_neg (s n45), if_neg (s n46), if_neg (s n56), fB]
theorem fB_pal (h : Hall) (tl : Addr) : (fB h tl).lookup ("palette" : Str) = some (.ref h.pal) := by simp only [fB, List.lookup, beq_self_eq_true]
theorem fB_kinds (h : Hall) (tl : Addr) : (fB h tl).lookup ("kinds" : Str) = some (.ref h.kinds) := by simp only [fB, List.lookup, n12, beq_self_eq_true]
theorem fB_teams (h : Hall) (tl : Addr) : (fB h tl).lookup ("teams" : Str) = some (.ref h.teams) := by simp only [fB, List.lookup, n13, n23, beq_self_eq_true]
theorem fB_pots (h : Hall) (tl : Addr) : (fB h tl).lookup ("pots" : Str) = some (.ref h.pots) := by simp only [fB, List.lookup, n14, n24, n34, beq_self_eq_true]
theorem fB_slots (h : Hall) (tl : Addr) : (fB h tl).lookup ("slots" : Str) = some (.int h.slots) := by simp only [fB, List.lookup, n15, n25, n35, n45, beq_self_eq_true]
theorem fB_tell (h : Hall) (tl : Addr) : (fB h tl).lookup ("telling" : Str) = some (.ref tl) := by simp only [fB, List.lookup, n16, n26, n36, n46, n56, beq_self_eq_true]
theorem fB_no (h : Hall) (tl : Addr) {m : Str} (h1 : (m == ("palette" : Str)) = false) (h2 : (m == ("kinds" : Str)) = false) (h3 : (m == ("teams" : Str)) = false) (h4 : (m == ("pots" : Str)) = false) (h5 : (m == ("slots" : Str)) = false)
    (h6 : (m == ("telling" : Str)) = false) : (fB h tl).lookup m = none := by
  simp only [fB, List.lookup, h1, h2, h3, h4, h5, h6]
/-- a Book stands at b: its telling at tl -/
structure BookAt (CB CE CR CS : Addr) (H : Hp) (b tl : Addr) (h : Hall) (ts : List Told) : Prop where
  ob : ∃ dx, H b = some (.ins CB dx (fB h tl))
  te : ∃ es, H tl = some (.lst es) ∧ TsAt CE CR CS H es ts
  good : Good ts
  few : ts.length ≤ 150
theorem Sm.ins {S : List Addr} {H H' : Hp} (e : Sm S H H') (n : ∀ a ∈ S, ∀ C dx fs, H a ≠ some (.ins C dx fs)) : ∀ a C dx fs, H a = some (.ins C dx fs) → H' a = some (.ins C dx fs) := fun a C dx fs h => e a _ (fun m => n a m _ _ _ h) h
theorem BookAt.keep {CB CE CR CS : Addr} {S : List Addr} {H H' : Hp} {b tl : Addr} {h : Hall} {ts : List Told} (B : BookAt CB CE CR CS H b tl h ts) (e : Sm S H H') (nt : tl ∉ S) (n : ∀ a ∈ S, ∀ C dx fs, H a ≠ some (.ins C dx fs)) :
    BookAt CB CE CR CS H' b tl h ts := by
  obtain ⟨⟨dx, ob⟩, ⟨es, te, ta⟩, g, f⟩ := B
  exact ⟨⟨dx, e.ins n _ _ _ _ ob⟩, ⟨es, e _ _ nt te, ta.keep (e.ins n)⟩, g, f⟩
theorem BookAt.keep0 {CB CE CR CS : Addr} {H H' : Hp} {b tl : Addr} {h : Hall} {ts : List Told} (B : BookAt CB CE CR CS H b tl h ts) (e : Sm [] H H') : BookAt CB CE CR CS H' b tl h ts := B.keep e (by simp) (by simp)
structure TxB (K : PySem.W.Frag) (mg : Str → Option Value) (CB : Addr) : Prop where
  cl : Cls K CB
  nP : NoAttr K CB "palette"
  nK : NoAttr K CB "kinds"
  nT : NoAttr K CB "teams"
  nO : NoAttr K CB "pots"
  nS : NoAttr K CB "slots"
  nL : NoAttr K CB "telling"
  kB : KF K mg "Book" CB "Book.__init__" s_Binit ["self", "palette", "kinds", "teams", "pots", "slots"]
  look : MF K CB "look_number" "Book.look_number" s_Blook ["self", "number"]
  enter : MF K CB "enter" "Book.enter" s_Benter ["self", "deed", "hour"]
  right : MF K CB "put_right" "Book.put_right" s_Bright ["self", "number", "deed", "hour"]
  strike : MF K CB "strike" "Book.strike" s_Bstrike ["self", "number"]
  undo : MF K CB "undo" "Book.undo" s_Bundo ["self"]
  entries : MF K CB "entries" "Book.entries" s_Bentries ["self"]
  lenB : MF K CB "__len__" "Book.__len__" s_Blen ["self"]
  n_len : mg "len" = none
  n_sorted : mg "sorted" = none
section
variable {P : Program} {w : World} {K : PySem.W.Frag} {mg : Str → Option Value} {base : Heap} {CB CE CR CS : Addr}
def spBinit (CB : Addr) : Sp := fun vs H Q _ => ∃ (x dx : Addr) (h : Hall), vs = [.ref x, .ref h.pal, .ref h.kinds, .ref h.teams, .ref h.pots, .int h.slots] ∧ H x = some (.ins CB dx []) ∧
  ∀ tl H', H tl = Option.none → H' x = some (.ins CB dx (fB h tl)) → H' tl = some (.lst []) → (∀ b o, b ≠ x → H b = some o → H' b = some o) → Q .non H'
theorem kB_ (T : TxB K mg CB) : C8.Mak P w K mg base 1 "Book" CB (spBinit CB) [] := by
  obtain ⟨f, fd, M, hm, F, b⟩ := T.kB
  refine C8.mak0 M hm F b .nil sc_Binit (fun vs H Q E z => ?_) (fun cdv A outer s H vs Q E hr z => ?_)
  · obtain ⟨_, _, _, rfl, _⟩ := z
    rfl
  · obtain ⟨x, dx, h, rfl, hx, q⟩ := z
    refine ⟨_, (pss_cons (ps_fld (pv 0) (pv 1) rfl)
    (pss_cons (ps_fld (pv 0) (pv 2) rfl)
    (pss_cons (ps_fld (pv 0) (pv 3) rfl)
    (pss_cons (ps_fld (pv 0) (pv 4) rfl)
    (pss_cons (ps_fld (pv 0) (pv 5) rfl)
    (pss_one (ps_fld (pv 0) (pe_lst pa_nil) rfl))))))), ?_⟩
    refine ⟨.ref h.pal, rfl, .ref x, rfl, x, CB, dx, [], rfl, hx, T.cl, T.nP, by show 0 < 1000; decide, ?_⟩
    refine ⟨.ref h.kinds, rfl, .ref x, rfl, x, CB, dx, _, rfl, upd_same, T.cl, T.nK, by show 1 < 1000; decide, ?_⟩
    rw [upd_upd]
    refine ⟨.ref h.teams, rfl, .ref x, rfl, x, CB, dx, _, rfl, upd_same, T.cl, T.nT, ?_, ?_⟩
    · simp only [putF]; split <;> simp
    rw [upd_upd]
    refine ⟨.ref h.pots, rfl, .ref x, rfl, x, CB, dx, _, rfl, upd_same, T.cl, T.nO, ?_, ?_⟩
    · have s : ∀ {a b : Str}, (a == b) = false → ¬ b = a := fun h z => beqn h z.symm
      simp only [putF, if_neg (s n12), if_neg (s n13), if_neg (s n23)]; simp
    rw [upd_upd]
    refine ⟨.int h.slots, rfl, .ref x, rfl, x, CB, dx, _, rfl, upd_same, T.cl, T.nS, ?_, ?_⟩
    · have s : ∀ {a b : Str}, (a == b) = false → ¬ b = a := fun h z => beqn h z.symm
      simp only [putF, if_neg (s n12), if_neg (s n13), if_neg (s n23), if_neg (s n14), if_neg (s n24), if_neg (s n34)]; simp
    rw [upd_upd]
    refine ⟨by show 0 ≤ sizeLine; decide, fun tl htl => ?_⟩
    have nx : x ≠ tl := fun z => by rw [← z, upd_same] at htl; cases htl
    have h0 : H tl = Option.none := by rw [upd_ne nx.symm] at htl; exact htl
    refine ⟨.ref x, rfl, x, CB, dx, _, rfl, at_new htl upd_same, T.cl, T.nL, ?_, ?_⟩
    · have s : ∀ {a b : Str}, (a == b) = false → ¬ b = a := fun h z => beqn h z.symm
      simp only [putF, if_neg (s n12), if_neg (s n13), if_neg (s n23), if_neg (s n14), if_neg (s n24), if_neg (s n34), if_neg (s n15), if_neg (s n25), if_neg (s n35), if_neg (s n45)]; simp
    · refine q tl _ h0 (by rw [upd_same, fB_put]) (by rw [upd_ne nx.symm, upd_same]) fun b o hb e => ?_
      rw [upd_ne hb, upd_ne (ne_of_none e h0), upd_ne hb]
      exact e
def spBlook (CB CE CR CS : Addr) : Sp := fun vs H Q _ => ∃ (b tl : Addr) (h : Hall) (ts : List Told) (n : Int), vs = [.ref b, .int n] ∧ BookAt CB CE CR CS H b tl h ts ∧ n ∈ keys (kn ts) ∧ ∀ H', Sm [] H H' → Q .non H'
theorem mB_look_ (TE : TxE K mg CE CR CS) (T : TxB K mg CB) : C8.Met P w K mg base 3 CB "look_number" (spBlook CB CE CR CS) [] := by
  obtain ⟨f, fd, M, F, b⟩ := T.look
  have c_known_by := c_known_ (P := P) (w := w) (base := base) TE
  refine C8.met0 T.cl M F b sc_Blook (fun vs H Q E z => ?_) (fun cdv A outer s H vs Q E hr z => ?_)
  · obtain ⟨_, _, _, _, _, rfl, _⟩ := z
    rfl
  · obtain ⟨b, tl, h, ts, n, rfl, B, hn, q⟩ := z
    have hu := hu_of hr
    obtain ⟨dx, ob⟩ := B.ob
    obtain ⟨es, te, ta⟩ := B.te
    refine ⟨_, (pss_one (ps_if (pt_cmp (pc_dnotin hu (pv 1) (C8.pe_c c_known_by hr (by decide) (by rfl) (pa_cons (pe_fld (pv 0) rfl) pa_nil)))) (pss_one ps_never) pss_nil)), ?_⟩
    refine ⟨.int n, rfl, .ref b, rfl, b, CB, dx, _, _, rfl, ob, T.cl, T.nL, fB_tell _ _, tl, es, ts, rfl, sqL_at te, ta, B.good, by have := B.few; omega, fun p kvs H1 e1 hp hd hk => ?_⟩
    obtain ⟨v, hv⟩ := hk.val hn
    refine ⟨p, _, rfl, DGet.k (k := Sum.inl n) hd, _, rfl, ?_⟩
    rw [hv]
    exact iteF (q H1 e1)
def spBenter (CB CE CR CS : Addr) : Sp := fun vs H Q _ => ∃ (b tl : Addr) (h : Hall) (ts : List Told) (hr : Int) (d : V), vs = [.ref b, d, .int hr] ∧ BookAt CB CE CR CS H b tl h ts ∧ ts.length < 150 ∧
  ∀ n H', Sm [tl] H H' → IsNext ts n → BookAt CB CE CR CS H' b tl h (ts ++ [.ent n hr d]) → Q (.int n) H'
theorem paired_snoc {α β : Type} {F : α → β → Prop} {x : α} {y : β} : ∀ {l : List α} {m : List β}, Paired F l m → F x y → Paired F (l ++ [x]) (m ++ [y])
  | _, _, .nil, h => .cons h .nil
  | _, _, .cons r t, h => .cons r (paired_snoc t h)
/-- the list of the telling grows -/
theorem book_grow {H : Hp} {b tl x : Addr} {h : Hall} {ts : List Told} {t : Told} {es : List V} (B : BookAt CB CE CR CS H b tl h ts) (hl : H tl = some (.lst es)) (few : ts.length < 150) (ok : okT (kn ts) t) (hT : ToldAt CE CR CS H (.ref x) t) :
    Sm [tl] H (upd H tl (.lst (es ++ [.ref x]))) ∧ BookAt CB CE CR CS (upd H tl (.lst (es ++ [.ref x]))) b tl h (ts ++ [t]) := by
  have ni : ∀ a C dx fs, H a = some (.ins C dx fs) → (upd H tl (.lst (es ++ [.ref x]))) a = some (.ins C dx fs) := fun a C dx fs z => by
    rw [upd_ne (fun y => by rw [y, hl] at z; cases z)]
    exact z
  obtain ⟨dx, ob⟩ := B.ob
  obtain ⟨es', te, ta⟩ := B.te
  rw [hl] at te
  cases te
  exact ⟨Sm.at (by simp), ⟨⟨dx, ni _ _ _ _ ob⟩, ⟨_, upd_same, paired_snoc (ta.keep ni) (hT.keep ni)⟩, B.good.snoc ok, by rw [List.length_append, List.length_singleton]; omega⟩⟩
theorem made_sm {H1 : Hp} {x dx C : Addr} {fs : List (Str × V)} (nx : H1 x = Option.none) (ndx : H1 dx = Option.none) (nxd : dx ≠ x) : Sm [] H1 (upd (upd (upd H1 dx (.own x)) x (.ins C dx [])) x (.ins C dx fs)) := by
  rw [upd_upd]
  exact (Sm.new ndx).trans (Sm.new (by rw [upd_ne nxd.symm]; exact nx))
theorem mB_enter_ (TE : TxE K mg CE CR CS) (T : TxB K mg CB) : C8.Met P w K mg base 3 CB "enter" (spBenter CB CE CR CS) [] := by
  obtain ⟨f, fd, M, F, b⟩ := T.enter
  have c_next_number := c_next_ (P := P) (w := w) (base := base) TE
  have kE := kE_of (P := P) (w := w) (base := base) TE.cE TE.kE
  refine C8.met0 T.cl M F b sc_Benter (fun vs H Q E z => ?_) (fun cdv A outer s H vs Q E hr z => ?_)
  · obtain ⟨_, _, _, _, _, _, rfl, _⟩ := z
    rfl
  · obtain ⟨b, tl, h, ts, ho, d, rfl, B, few, q⟩ := z
    have hu := hu_of hr
    obtain ⟨dx, ob⟩ := B.ob
    obtain ⟨es, te, ta⟩ := B.te
    refine ⟨_, (pss_cons (ps_set (i := 3) sc_Benter.nd rfl (Or.inl rfl) (C8.pe_c c_next_number hr (by decide) (by rfl) (pa_cons (pe_fld (pv 0) rfl) pa_nil)))
    (pss_cons (ps_expr (pe_bm PySem.F.plainAttrs_list PySem.F.slot_list_append PySem.F.type_list_append mt_append (pe_fld (pv 0) rfl) (pa_cons (C8.pe_mk kE hr (by decide) (by rfl) (pa_cons (pv 3) (pa_cons (pv 2) (pa_cons (pv 1) pa_nil)))) pa_nil)))
    (pss_one (ps_ret (pv 3))))), ?_⟩
    refine ⟨.ref b, rfl, b, CB, dx, _, _, rfl, ob, T.cl, T.nL, fB_tell _ _, tl, es, ts, rfl, sqL_at te, ta, by omega, fun n H1 e1 hn => ?_⟩
    have B1 := B.keep0 e1
    obtain ⟨dx1, ob1⟩ := B1.ob
    have te1 := e1 _ _ (by simp) te
    refine ⟨.ref b, rfl, b, CB, dx1, _, _, rfl, ob1, T.cl, T.nL, fB_tell _ _, .inl ⟨rfl, _, sqL_at te1⟩, ?_⟩
    refine ⟨.int n, rfl, .int ho, rfl, d, rfl, fun x y nx ny nyx => ⟨x, y, .int n, .int ho, d, rfl, upd_same, rfl, ?_⟩⟩
    have e2 : Sm [] H1 _ := made_sm (C := CE) (fs := fE (.int n) (.int ho) d) nx ny nyx
    have te2 := e2 _ _ (by simp) te1
    obtain ⟨e3, B3⟩ := book_grow (t := .ent n ho d) (x := x) (B1.keep0 e2) te2 few (next_ge B.good hn) ⟨x, y, rfl, upd_same⟩
    refine ⟨tl, es, .ref x, rfl, rfl, te2, ?_, ?_⟩
    · have := Paired.length ta
      exact small1000 (by omega)
    · exact ⟨.int n, rfl, q n _ ((e1.of.trans e2.of).trans e3) hn B3⟩
def spBright (CB CE CR CS : Addr) : Sp := fun vs H Q _ => ∃ (b tl : Addr) (h : Hall) (ts : List Told) (n hr : Int) (d : V), vs = [.ref b, .int n, d, .int hr] ∧ BookAt CB CE CR CS H b tl h ts ∧ ts.length < 150 ∧ n ∈ keys (kn ts) ∧
  ∀ H', Sm [tl] H H' → BookAt CB CE CR CS H' b tl h (ts ++ [.rig n hr d]) → Q .non H'
theorem mB_right_ (TE : TxE K mg CE CR CS) (T : TxB K mg CB) : C8.Met P w K mg base 4 CB "put_right" (spBright CB CE CR CS) [] := by
  obtain ⟨f, fd, M, F, b⟩ := T.right
  have mB_look := mB_look_ (P := P) (w := w) (base := base) TE T
  have kR := kE_of (P := P) (w := w) (base := base) TE.cR TE.kR
  refine C8.met0 T.cl M F b sc_Bright (fun vs H Q E z => ?_) (fun cdv A outer s H vs Q E hr z => ?_)
  · obtain ⟨_, _, _, _, _, _, _, rfl, _⟩ := z
    rfl
  · obtain ⟨b, tl, h, ts, n, ho, d, rfl, B, few, hn, q⟩ := z
    have hu := hu_of hr
    obtain ⟨dx, ob⟩ := B.ob
    obtain ⟨es, te, ta⟩ := B.te
    refine ⟨_, (pss_cons (ps_expr (C8.pe_mt mB_look hr (by decide) (pv 0) (pa_cons (pv 1) pa_nil)))
    (pss_one (ps_expr (pe_bm PySem.F.plainAttrs_list PySem.F.slot_list_append PySem.F.type_list_append mt_append (pe_fld (pv 0) rfl) (pa_cons (C8.pe_mk kR hr (by decide) (by rfl) (pa_cons (pv 1) (pa_cons (pv 3) (pa_cons (pv 2) pa_nil)))) pa_nil))))), ?_⟩
    refine ⟨.ref b, rfl, b, dx, _, rfl, ob, fB_no _ _ (by decide +kernel) (by decide +kernel) (by decide +kernel) (by decide +kernel) (by decide +kernel) (by decide +kernel), .int n, rfl, b, tl, h, ts, n, rfl, B, hn, fun H1 e1 => ?_⟩
    have B1 := B.keep0 e1
    obtain ⟨dx1, ob1⟩ := B1.ob
    have te1 := e1 _ _ (by simp) te
    refine ⟨.ref b, rfl, b, CB, dx1, _, _, rfl, ob1, T.cl, T.nL, fB_tell _ _, .inl ⟨rfl, _, sqL_at te1⟩, ?_⟩
    refine ⟨.int n, rfl, .int ho, rfl, d, rfl, fun x y nx ny nyx => ⟨x, y, .int n, .int ho, d, rfl, upd_same, rfl, ?_⟩⟩
    have e2 : Sm [] H1 _ := made_sm (C := CR) (fs := fE (.int n) (.int ho) d) nx ny nyx
    have te2 := e2 _ _ (by simp) te1
    obtain ⟨e3, B3⟩ := book_grow (t := .rig n ho d) (x := x) (B1.keep0 e2) te2 few hn ⟨x, y, rfl, upd_same⟩
    refine ⟨tl, es, .ref x, rfl, rfl, te2, ?_, q _ ((e1.of.trans e2.of).trans e3) B3⟩
    have := Paired.length ta
    exact small1000 (by omega)
def spBstrike (CB CE CR CS : Addr) : Sp := fun vs H Q _ => ∃ (b tl : Addr) (h : Hall) (ts : List Told) (n : Int), vs = [.ref b, .int n] ∧ BookAt CB CE CR CS H b tl h ts ∧ ts.length < 150 ∧ n ∈ keys (kn ts) ∧
  ∀ H', Sm [tl] H H' → BookAt CB CE CR CS H' b tl h (ts ++ [.str n]) → Q .non H'
theorem mB_strike_ (TE : TxE K mg CE CR CS) (T : TxB K mg CB) : C8.Met P w K mg base 4 CB "strike" (spBstrike CB CE CR CS) [] := by
  obtain ⟨f, fd, M, F, b⟩ := T.strike
  have mB_look := mB_look_ (P := P) (w := w) (base := base) TE T
  have kS := kE_of (P := P) (w := w) (base := base) TE.cS TE.kS
  refine C8.met0 T.cl M F b sc_Bstrike (fun vs H Q E z => ?_) (fun cdv A outer s H vs Q E hr z => ?_)
  · obtain ⟨_, _, _, _, _, rfl, _⟩ := z
    rfl
  · obtain ⟨b, tl, h, ts, n, rfl, B, few, hn, q⟩ := z
    have hu := hu_of hr
    obtain ⟨dx, ob⟩ := B.ob
    obtain ⟨es, te, ta⟩ := B.te
    refine ⟨_, (pss_cons (ps_expr (C8.pe_mt mB_look hr (by decide) (pv 0) (pa_cons (pv 1) pa_nil)))
    (pss_one (ps_expr (pe_bm PySem.F.plainAttrs_list PySem.F.slot_list_append PySem.F.type_list_append mt_append (pe_fld (pv 0) rfl) (pa_cons (C8.pe_mk kS hr (by decide) (by rfl) (pa_cons (pv 1) (pa_cons pe_non (pa_cons pe_non pa_nil)))) pa_nil))))), ?_⟩
    refine ⟨.ref b, rfl, b, dx, _, rfl, ob, fB_no _ _ (by decide +kernel) (by decide +kernel) (by decide +kernel) (by decide +kernel) (by decide +kernel) (by decide +kernel), .int n, rfl, b, tl, h, ts, n, rfl, B, hn, fun H1 e1 => ?_⟩
    have B1 := B.keep0 e1
    obtain ⟨dx1, ob1⟩ := B1.ob
    have te1 := e1 _ _ (by simp) te
    refine ⟨.ref b, rfl, b, CB, dx1, _, _, rfl, ob1, T.cl, T.nL, fB_tell _ _, .inl ⟨rfl, _, sqL_at te1⟩, ?_⟩
    refine ⟨.int n, rfl, fun x y nx ny nyx => ⟨x, y, .int n, .non, .non, rfl, upd_same, rfl, ?_⟩⟩
    have e2 : Sm [] H1 _ := made_sm (C := CS) (fs := fE (.int n) .non .non) nx ny nyx
    have te2 := e2 _ _ (by simp) te1
    obtain ⟨e3, B3⟩ := book_grow (t := .str n) (x := x) (B1.keep0 e2) te2 few hn ⟨x, y, rfl, upd_same⟩
    refine ⟨tl, es, .ref x, rfl, rfl, te2, ?_, q _ ((e1.of.trans e2.of).trans e3) B3⟩
    have := Paired.length ta
    exact small1000 (by omega)
def spBundo (CB CE CR CS : Addr) : Sp := fun vs H Q _ => ∃ (b tl : Addr) (h : Hall) (ts : List Told) (t : Told), vs = [.ref b] ∧ BookAt CB CE CR CS H b tl h (ts ++ [t]) ∧
  ∀ H', Sm [tl] H H' → BookAt CB CE CR CS H' b tl h ts → Q (.bl true) H'
theorem paired_last {α β : Type} {F : α → β → Prop} {y : β} : ∀ {l : List α} {m : List β}, Paired F l (m ++ [y]) → ∃ l' x, l = l' ++ [x] ∧ Paired F l' m
  | _, [], .cons r .nil => ⟨[], _, rfl, .nil⟩
  | _, _ :: _, .cons r t => by
    obtain ⟨l', x, rfl, h⟩ := paired_last t
    exact ⟨_ :: l', x, rfl, .cons r h⟩
theorem mB_undo_ (T : TxB K mg CB) : C8.Met P w K mg base 1 CB "undo" (spBundo CB CE CR CS) [] := by
  obtain ⟨f, fd, M, F, b⟩ := T.undo
  refine C8.met0 T.cl M F b sc_Bundo (fun vs H Q E z => ?_) (fun cdv A outer s H vs Q E hr z => ?_)
  · obtain ⟨_, _, _, _, _, rfl, _⟩ := z
    rfl
  · obtain ⟨b, tl, h, ts, t, rfl, B, q⟩ := z
    obtain ⟨dx, ob⟩ := B.ob
    obtain ⟨es, te, ta⟩ := B.te
    obtain ⟨es', x, rfl, ta'⟩ := paired_last ta
    refine ⟨_, (pss_cons (ps_if (pt_cmpR op_eq (pe_callB call_len_seq (by rfl) T.n_len (by decide +kernel) (pa_cons (pe_fld (pv 0) rfl) pa_nil)) pe_int (nomark _)) (pss_one (ps_ret pe_bl)) pss_nil)
    (pss_cons (ps_expr (pe_bm0 PySem.F.plainAttrs_list PySem.F.slot_list_pop PySem.F.type_list_pop mt_pop (pe_fld (pv 0) rfl)))
    (pss_one (ps_ret pe_bl)))), ?_⟩
    refine ⟨.ref b, rfl, b, CB, dx, _, _, rfl, ob, T.cl, T.nL, fB_tell _ _, tl, _, rfl, .inl (sqL_at te), rfl, _, rfl, ?_⟩
    rw [List.length_append, List.length_singleton]
    refine ite2 (fun z => ?_) (fun _ => ?_)
    · have z := V.int.inj (of_decide_eq_true z)
      omega
    · refine ⟨.ref b, rfl, b, CB, dx, _, _, rfl, ob, T.cl, T.nL, fB_tell _ _, .inl ⟨rfl, _, sqL_at te⟩, tl, _, x, rfl, rfl, te, by simp, ?_⟩
      rw [List.dropLast_concat]
      have ni : ∀ a C dx fs, H a = some (.ins C dx fs) → (upd H tl (.lst es')) a = some (.ins C dx fs) := fun a C dx fs z => by
        rw [upd_ne (fun y => by rw [y, te] at z; cases z)]
        exact z
      exact q _ (Sm.at (by simp)) ⟨⟨dx, ni _ _ _ _ ob⟩, ⟨es', upd_same, TsAt.keep ta' ni⟩, B.good.init, by have := B.few; rw [List.length_append] at this; omega⟩
def spBentries (CB CE CR CS : Addr) : Sp := fun vs H Q _ => ∃ (b tl : Addr) (h : Hall) (ts : List Told), vs = [.ref b] ∧ BookAt CB CE CR CS H b tl h ts ∧
  ∀ p ys out H', Sm [] H H' → H p = Option.none → H' p = some (.lst ys) → SrtE out (ents (kn ts)) → Paired (TriAt H') ys out → Q (.ref p) H'
theorem mB_entries_ (TE : TxE K mg CE CR CS) (T : TxB K mg CB) : C8.Met P w K mg base 3 CB "entries" (spBentries CB CE CR CS) [] := by
  obtain ⟨f, fd, M, F, b⟩ := T.entries
  have c_known_by := c_known_ (P := P) (w := w) (base := base) TE
  refine C8.met0 T.cl M F b sc_Bentries (fun vs H Q E z => ?_) (fun cdv A outer s H vs Q E hr z => ?_)
  · obtain ⟨_, _, _, _, rfl, _⟩ := z
    rfl
  · obtain ⟨b, tl, h, ts, rfl, B, q⟩ := z
    have hu := hu_of hr
    obtain ⟨dx, ob⟩ := B.ob
    obtain ⟨es, te, ta⟩ := B.te
    refine ⟨_, (pss_one (ps_ret (pe_callB cr_sortedE (by rfl) T.n_sorted (by decide +kernel) (pa_cons (pe_lc (own := [("number", 1), ("hour", 2), ("deed", 3)]) (g := (gTup _ 2 (gCons (gName 1) (gCons (gTup _ 2 (gCons (gName 2) (gCons (gName 3) gNil))) gNil)))) (tt := tYes) rfl sc_Bentries.nd (pi_items (pe_frz (C8.pe_c c_known_by hr (by decide) (by rfl) (pa_cons (pe_fld (pv 0) rfl) pa_nil)))) (blkOk_by (own := [("number", 1), ("hour", 2), ("deed", 3)]) (N := nm_Bentries) (sc := C8.fnScope s_Bentries) (by decide +kernel)) (fun _ _ _ _ _ => (pg_tup rfl (pgs_cons (pg_name (i := 1) sc_Bentries.nd rfl (Or.inl rfl)) (pgs_cons (pg_tup rfl (pgs_cons (pg_name (i := 2) sc_Bentries.nd rfl (Or.inl rfl)) (pgs_cons (pg_name (i := 3) sc_Bentries.nd rfl (Or.inl rfl)) pgs_nil))) pgs_nil)))) (fun _ _ _ _ _ => pts_nil) (fun _ _ _ _ _ => (pe_tup (pa_cons (pv 2) (pa_cons (pv 1) (pa_cons (pv 3) pa_nil)))))) pa_nil)))), ?_⟩
    refine ⟨.ref b, rfl, b, CB, dx, _, _, rfl, ob, T.cl, T.nL, fB_tell _ _, tl, es, ts, rfl, sqL_at te, ta, B.good, by have := B.few; omega, fun p kvs H1 e1 hp hd hk => ⟨p, _, rfl, hd, True.intro, fun od => ?_⟩⟩
    refine ⟨p, od, kvs, rfl, upd_same, fun c hc => ?_⟩
    have hk1 : KnAt (upd H1 p (.frz od (.dK kvs))) kvs (kn ts) := hk.keep fun t xs z => by
      rw [upd_ne (fun y => by rw [y, hd] at z; cases z)]
      exact z
    have elen : kvs.length = (kn ts).length := Paired.length hk
    have e2 : Sm [] H (upd H1 p (.frz od (.dK kvs))) := e1.mut hp
    have nkl : (kn ts).length ≤ 150 := Nat.le_trans (kn_len ts) B.few
    have npc : p ≠ c := ne_of_none upd_same hc
    refine lc_it walk_items (fun i H2 => Sm [] (upd H1 p (.frz od (.dK kvs))) H2 ∧ ∃ xs, H2 c = some (.lst xs) ∧ Paired (TriAt H2) xs (ents ((kn ts).take i))) ⟨Sm.new hc, [], upd_same, .nil⟩ (fun i H2 _ ⟨z, _⟩ => z _ _ (by simp) upd_same) ?_ ?_
    · rintro i x H2 H3 hi ⟨e3, xs, hx, px⟩ ⟨T1, v1, v2, rfl, nT, rfl, g1, g2⟩
      obtain ⟨y, hy⟩ : ∃ y, kvs[i]? = some y := ⟨kvs[i], List.getElem?_eq_getElem hi⟩
      obtain ⟨⟨n, ho, d⟩, hm, ek, t, ev, ht⟩ := paired_get hk1 hy
      have g1 : kvs[i]?.map (fun kv => kV kv.1) = some v1 := g1
      have g2 : kvs[i]?.map Prod.snd = some v2 := g2
      rw [hy] at g1 g2
      have g1 : some (kV y.1) = some v1 := g1
      have g2 : some y.2 = some v2 := g2
      rw [ek] at g1
      rw [ev] at g2
      cases g1
      cases g2
      have ht2 : (upd H2 T1 (.tup [.int n, .ref t])) t = some (.tup [.int ho, d]) := at_new nT (e3 _ _ (by simp) ht)
      have hx2 : (upd H2 T1 (.tup [.int n, .ref t])) c = some (.lst xs) := at_new nT hx
      refine ⟨T1, _, rfl, sqT_at upd_same, rfl, .int n, _, rfl, .ref t, [], rfl, t, _, rfl, sqT_at ht2, rfl, .int ho, [d], rfl, d, [], rfl, rfl, rfl, rfl, yes_go ?_⟩
      refine ⟨.int ho, rfl, .int n, rfl, d, rfl, by show 3 ≤ sizeLine; decide, fun u hu2 => ⟨xs, at_new hu2 hx2, ?_, ?_⟩⟩
      · have := Paired.length px
        unfold ents at this
        rw [List.length_map, List.length_take] at this
        exact small1000 (by omega)
      · have ncu : u ≠ c := (ne_of_none hx2 hu2).symm
        refine ⟨((e3.trans (Sm.new nT)).trans (Sm.new hu2)).mut hc, _, upd_same, ?_⟩
        rw [List.take_add_one, hm]
        unfold ents
        rw [List.map_append]
        refine paired_snoc (Paired.mapP px fun a e ⟨t', z1, z2⟩ => ⟨t', z1, ?_⟩) ⟨u, rfl, by rw [upd_ne ncu]; exact upd_same⟩
        have z3 := at_new (o := .tup [.int ho, .int n, d]) hu2 (at_new (o := .tup [.int n, .ref t]) nT z2)
        rw [upd_ne (fun y => by rw [y, hx] at z2; cases z2)]
        exact z3
    · rintro H2 ⟨e3, xs, hx, px⟩
      rw [elen, List.take_length] at px
      refine r_sortedE (sqL_at hx) px (ents_nd (kn_nd ts)) fun r ys out hr2 so po => ?_
      have e4 : Sm [] H2 (upd H2 r (.lst ys)) := Sm.new hr2
      refine q r ys out _ ((e2.trans e3).trans e4) ((e2.trans e3).free0 hr2) upd_same so (Paired.mapP po fun a e ⟨t', z1, z2⟩ => ⟨t', z1, e4 _ _ (by simp) z2⟩)
end
end Zz

/-! Rows as texts. -/
namespace Zz
open PySem PySem.Spec PyProof.Rows L2
abbrev s_row : Stmt := topS 13
abbrev nm_row : List Str := ["word", "parts", "part"]
theorem sc_row : FnScope nm_row ["word", "parts"] (C8.fnScope s_row) := C8.fnScope_by (by decide +kernel)
abbrev s_head : Stmt := topS 15
abbrev nm_head : List Str := ["book", "rows", "row", "pot"]
theorem sc_head : FnScope nm_head ["book"] (C8.fnScope s_head) := C8.fnScope_by (by decide +kernel)
abbrev s_btext : Stmt := topS 16
abbrev nm_btext : List Str := ["book", "hour", "number", "deed"]
theorem sc_btext : FnScope nm_btext ["book"] (C8.fnScope s_btext) := C8.fnScope_by (by decide +kernel)
/-- a comprehension whose turns change nothing that stood, each item told ahead -/
theorem lc_pure {J : It} {G : Hp → Prop} {xs ys : List V} {te : TE} {vs : List Nat} {σ : L2.St} {H1 : Hp} {D : Addr} {Qd : Hp → Prop} {j : Nat} (wk : Walk J xs.length G (YAt xs)) (hD : H1 D = Option.none) (hl : ys.length = xs.length) (hz : xs.length ≤ 1000)
    (hw : ∀ x, wipe ((wipe σ vs).set j (some x)) vs = wipe σ vs) (hG : ∀ H2, Sm [] H1 H2 → G H2)
    (el : ∀ (i : Nat) (x y : V) (H2 : Hp), xs[i]? = some x → ys[i]? = some y → Sm [] H1 H2 → ∀ k : VK, (∀ H3, Sm [] H2 H3 → k y H3) → te ((wipe σ vs).set j (some x)) H2 k)
    (q : ∀ H2, Sm [] H1 H2 → H2 D = some (.lst ys) → Qd H2) :
    ∃ Wt : Nat → Nat → Hp → Prop, (∃ m, Wt 0 m (upd H1 D (.lst []))) ∧ ∀ i m Hc, Wt i m Hc →
      (J.stop i Hc ∧ Qd Hc) ∨ (J.go i Hc ∧ ∃ Nx : Hp → Prop, (∀ Hn, Nx Hn → ∃ m', m' < m ∧ Wt (i + 1) m' Hn) ∧ ∀ x Hn, J.yld i Hc x Hn → (gName j) x (wipe σ vs) Hn fun σ2 H2 => wipe σ2 vs = wipe σ vs ∧ tYes σ2 H2 fun b H3 =>
        if b = true then te σ2 H3 fun y H4 => ∃ acc, H4 D = some (.lst acc) ∧ acc.length < sizeLine ∧ Nx (upd H4 D (.lst (acc ++ [y]))) else Nx H3) := by
  refine lc_it wk (fun i H2 => Sm [] H1 H2 ∧ H2 D = some (.lst (ys.take i))) ⟨Sm.new hD, upd_same⟩ (fun i H2 _ z => hG H2 z.1) ?_ ?_
  · rintro i x H2 H2' hi ⟨e, hd⟩ ⟨e0, hx⟩
    obtain rfl : H2' = H2 := e0
    have hy : ys[i]? = some (ys[i]'(by omega)) := List.getElem?_eq_getElem _
    refine ⟨hw x, yes_go (el i x _ _ hx hy e _ fun H3 e3 => ⟨_, e3 _ _ (by simp) hd, ?_, (e.trans e3).mut hD, ?_⟩)⟩
    · rw [List.length_take]
      exact small1000 (by omega)
    · rw [upd_same, List.take_add_one, hy]
      rfl
  · rintro H2 ⟨e, hd⟩
    rw [← hl, List.take_length] at hd
    exact q H2 e hd
structure TxT (K : PySem.W.Frag) (mg : Str → Option Value) : Prop where
  row : DF K mg "row_text" s_row ["word", "parts"]
  head : DF K mg "head_text" s_head ["book"]
  btext : DF K mg "book_text" s_btext ["book"]
  gNEVER : ∃ u, mg "NEVER" = some u ∧ RelV (.str "never") u
  n_str : mg "str" = none
theorem okP_log {i : Int} (h : 0 ≤ i ∧ i < 10 ^ 10) : i.natAbs.log2 < 1920 := by
  by_cases z : i.natAbs = 0
  · rw [z]; decide
  · rw [Nat.log2_lt z]
    have : i.natAbs < 10 ^ 10 := by omega
    exact Nat.lt_of_lt_of_le this (by decide +kernel)
section
variable {P : Program} {w : World} {K : PySem.W.Frag} {mg : Str → Option Value} {base : Heap} {CB CE CR CS : Addr}
def spRow (K : PySem.W.Frag) : Sp := fun vs H Q _ => ∃ (x : Str) (a : Addr) (ps : List V), vs = [.str x, .ref a] ∧ (SqL K H a ps ∨ SqT K H a ps) ∧ x.length ≤ 40 ∧ (∀ p ∈ ps, okP p) ∧ ps.length ≤ 10 ∧ ∀ H', Sm [] H H' → Q (.str (rowT x ps)) H'
/-- the part's text, either writer's -/
theorem part_el {σ : L2.St} {H2 : Hp} {v : V} {tn : TE} (hv : σ[2]? = some (some v)) (ok : okP v) (hn : ∀ k : VK, k (.str "never") H2 → tn σ H2 k) (k : VK) (hk : k (.str (partT v)) H2) :
    tIf (tTest (tOp (fun x y H Q => y = .non ∧ Q (.bl (decide (x = .non))) H) (tVar 2) (tC .non))) tn (tCB (fun xs H Q => (∃ i, xs = [.int i] ∧ i.natAbs.log2 < 1920 ∧ Q (.str (toString i)) H) ∨ ∃ a, xs = [.str a] ∧ Q (.str a) H) (tCons (tVar 2) tNil)) σ H2 k := by
  refine ⟨v, hv, rfl, _, rfl, ?_⟩
  cases v with
  | non => exact ite2 (fun _ => hn k hk) (fun z => absurd rfl z)
  | int i =>
    rw [decide_eq_false (by intro z; cases z)]
    exact iteF ⟨_, hv, .inl ⟨i, rfl, okP_log ok, hk⟩⟩
  | str s =>
    rw [decide_eq_false (by intro z; cases z)]
    exact iteF ⟨_, hv, .inr ⟨s, rfl, hk⟩⟩
  | bl b => exact ok.elim
  | byt b => exact ok.elim
  | flt b => exact ok.elim
  | ref a => exact ok.elim
  | ty n => exact ok.elim
theorem c_row_ (T : TxT K mg) : C8.Cal P w K mg base 1 "row_text" (spRow K) [] := by
  obtain ⟨f, fd, D, b⟩ := T.row
  refine C8.cal0 D b .nil sc_row (fun vs H Q E z => ?_) (fun cdv A outer s H vs Q E hr z => ?_)
  · obtain ⟨_, _, _, rfl, _⟩ := z
    rfl
  · obtain ⟨x, a, ps, rfl, hps, hx, ok, hl, q⟩ := z
    refine ⟨_, (pss_one (ps_ret (pe_join pe_str (pe_op op_cat (pe_lst (pa_cons (pv 0) pa_nil)) (pe_lc (own := [("part", 2)]) (g := (gName 2)) (tt := tYes) rfl sc_row.nd (pi_seq (pv 1)) (blkOk_by (own := [("part", 2)]) (N := nm_row) (sc := C8.fnScope s_row) (by decide +kernel)) (fun _ _ _ _ _ => (pg_name (i := 2) sc_row.nd rfl (Or.inl rfl))) (fun _ _ _ _ _ => pts_nil) (fun _ _ _ _ _ => (pe_ifExp (pt_cmpR op_isN (pv 2) pe_non (nomark _)) (C8.pe_gc (by rfl) T.gNEVER) (pe_callTy call_strA (by rfl) T.n_str (by decide +kernel) (pa_cons (pv 2) pa_nil))))))))), ?_⟩
    refine ⟨⟨_, rfl⟩, .str x, rfl, by show 1 ≤ sizeLine; decide, fun p hp => ?_⟩
    have fin : ∀ c H2, (upd H p (.lst [.str x])) c = Option.none → Sm [] (upd H p (.lst [.str x])) H2 → H2 c = some (.lst (ps.map fun v => V.str (partT v))) →
        ∃ l b xs zs, V.ref p = .ref l ∧ V.ref c = .ref b ∧ H2 l = some (.lst xs) ∧ H2 b = some (.lst zs) ∧ xs.length + zs.length ≤ sizeLine ∧ ∀ r, H2 r = Option.none →
          (fun (y : V) (H2 : Hp) => ∃ a p, ∃ ys : List Str, V.str " " = .str a ∧ [y] = [.ref p] ∧ (SqL K H2 p (ys.map V.str) ∨ SqT K H2 p (ys.map V.str)) ∧ (ys.map (·.length)).sum + ys.length * a.length ≤ 16777216 ∧ Q (.str (Txt.join a ys)) H2) (.ref r) (upd H2 r (.lst (xs ++ zs))) := by
      intro c H2 hc e2 hd
      refine ⟨p, c, [.str x], _, rfl, rfl, e2 _ _ (by simp) upd_same, hd, ?_, fun r hr2 => ⟨" ", r, x :: ps.map partT, rfl, rfl, .inl (sqL_at ?_), rowT_fits hx ok hl, ?_⟩⟩
      · rw [List.length_map, List.length_singleton]
        exact Nat.le_of_lt (small1000 (by omega))
      · rw [upd_same, List.map_cons, List.map_map]
        rfl
      · exact q _ (((Sm.new hp).trans e2).trans (Sm.new hr2))
    have el : ∀ (i : Nat) (y z : V) (H2 : Hp), ps[i]? = some y → (ps.map fun v => V.str (partT v))[i]? = some z → Sm [] (upd H p (.lst [.str x])) H2 → ∀ k : VK, (∀ H3, Sm [] H2 H3 → k z H3) →
        tIf (tTest (tOp (fun x y H Q => y = .non ∧ Q (.bl (decide (x = .non))) H) (tVar 2) (tC .non))) (tC (.str "never")) (tCB (fun xs H Q => (∃ i, xs = [.int i] ∧ i.natAbs.log2 < 1920 ∧ Q (.str (toString i)) H) ∨ ∃ a, xs = [.str a] ∧ Q (.str a) H) (tCons (tVar 2) tNil))
          ((wipe (L2.start nm_row [.str x, .ref a]) [2]).set 2 (some y)) H2 k := by
      intro i y z H2 hy hz e2 k hk
      rw [List.getElem?_map, hy] at hz
      cases hz
      exact part_el (v := y) rfl (ok y (List.mem_of_getElem? hy)) (fun k h => h) k (hk H2 (Sm.refl H2))
    rcases hps with hps | hps
    · exact Or.inl ⟨V.ref a, rfl, a, rfl, ⟨ps, sqL_new hp hps⟩, fun c hc => lc_pure walk_list hc (List.length_map _) (by omega) (fun _ => rfl) (fun H2 e2 => e2.sqL (by simp) (sqL_new hp hps)) el fun H2 e2 hd => fin c H2 hc e2 hd⟩
    · exact Or.inr ⟨V.ref a, rfl, a, rfl, ⟨ps, sqT_new hp hps⟩, fun c hc => lc_pure walk_tup hc (List.length_map _) (by omega) (fun _ => rfl) (fun H2 e2 => e2.sqT (by simp) (sqT_new hp hps)) el fun H2 e2 hd => fin c H2 hc e2 hd⟩
/-- rows of a hall -/
def RowsV (K : PySem.W.Frag) (H : Hp) : List V → List (List V) → Prop := Paired fun x ps => ∃ t, x = .ref t ∧ SqT K H t ps
def okRow (ps : List V) : Prop := (∀ p ∈ ps, okP p) ∧ ps.length ≤ 9
theorem RowsV.keep {H H' : Hp} {xs : List V} {rows : List (List V)} (h : RowsV K H xs rows) (e : Sm [] H H') : RowsV K H' xs rows := Paired.mapP h fun _ _ ⟨t, a, b⟩ => ⟨t, a, e.sqT (by simp) b⟩
theorem rows_el {H1 : Hp} {xs : List V} {rows : List (List V)} {x : Str} {E : XK} (hr : RowsV K H1 xs rows) (ok : ∀ ps ∈ rows, okRow ps) (hx : x.length ≤ 40) (i : Nat) (v y : V) (H2 : Hp) (hv : xs[i]? = some v) (hy : (rows.map fun ps => V.str (rowT x ps))[i]? = some y)
    (e : Sm [] H1 H2) (k : VK) (hk : ∀ H3, Sm [] H2 H3 → k y H3) : spRow K [.str x, v] H2 k E := by
  obtain ⟨ps, hp, t, rfl, ht⟩ := paired_get hr hv
  rw [List.getElem?_map, hp] at hy
  cases hy
  have o := ok ps (List.mem_of_getElem? hp)
  exact ⟨x, t, ps, rfl, .inr (e.sqT (by simp) ht), hx, o.1, by have := o.2; omega, fun H3 e3 => hk H3 e3⟩
structure HallD where
  colours : List (List V)
  washes : List (List V)
  kinds : List (List V)
  teams : List (List V)
  pots : List Str
  slots : Int
structure okHall (d : HallD) : Prop where
  rows : ∀ ps ∈ d.colours ++ d.washes ++ d.kinds ++ d.teams, okRow ps
  few : d.colours.length ≤ 100 ∧ d.washes.length ≤ 100 ∧ d.kinds.length ≤ 100 ∧ d.teams.length ≤ 100 ∧ d.pots.length ≤ 100
  pots : ∀ p ∈ d.pots, p.length ≤ 40
  slots : 0 ≤ d.slots ∧ d.slots < 10 ^ 10
def headT (d : HallD) : List Str := d.colours.map (rowT "colour") ++ d.washes.map (rowT "wash") ++ d.kinds.map (rowT "kind") ++ d.teams.map (rowT "team") ++ d.pots.map (fun p => rowT "pot" [.str p]) ++ [rowT "slots" [.int d.slots]]
/-- what a Book's hall is -/
structure HallAt (K : PySem.W.Frag) (H : Hp) (h : Hall) (d : HallD) : Prop where
  pal : ∃ pc pw xc xw, SqT K H h.pal [.ref pc, .ref pw] ∧ SqT K H pc xc ∧ RowsV K H xc d.colours ∧ SqT K H pw xw ∧ RowsV K H xw d.washes
  kinds : ∃ xs, SqT K H h.kinds xs ∧ RowsV K H xs d.kinds
  teams : ∃ xs, SqT K H h.teams xs ∧ RowsV K H xs d.teams
  pots : SqT K H h.pots (d.pots.map V.str)
  slots : h.slots = d.slots
theorem HallAt.keep {H H' : Hp} {h : Hall} {d : HallD} (a : HallAt K H h d) (e : Sm [] H H') : HallAt K H' h d := by
  obtain ⟨⟨pc, pw, xc, xw, a1, a2, a3, a4, a5⟩, ⟨xk, b1, b2⟩, ⟨xt, c1, c2⟩, d1, s⟩ := a
  have q : ∀ {a : Addr} {xs : List V}, SqT K H a xs → SqT K H' a xs := fun z => e.sqT (by simp) z
  exact ⟨⟨pc, pw, xc, xw, q a1, q a2, a3.keep e, q a4, a5.keep e⟩, ⟨xk, q b1, b2.keep e⟩, ⟨xt, q c1, c2.keep e⟩, q d1, s⟩
def spHead (K : PySem.W.Frag) (CB : Addr) : Sp := fun vs H Q _ => ∃ (b dx tl : Addr) (h : Hall) (d : HallD), vs = [.ref b] ∧ H b = some (.ins CB dx (fB h tl)) ∧ HallAt K H h d ∧ okHall d ∧ ∀ p H', Sm [] H H' → H p = Option.none → H' p = some (.lst ((headT d).map V.str)) → Q (.ref p) H'
theorem map_str (x : Str) (rows : List (List V)) : (rows.map fun ps => V.str (rowT x ps)) = (rows.map (rowT x)).map V.str := by rw [List.map_map]; rfl
theorem c_head_ (T : TxT K mg) (TB : TxB K mg CB) : C8.Cal P w K mg base 2 "head_text" (spHead K CB) [] := by
  obtain ⟨f, fd, D, b⟩ := T.head
  have c_row_text := c_row_ (P := P) (w := w) (base := base) T
  refine C8.cal0 D b .nil sc_head (fun vs H Q E z => ?_) (fun cdv A outer s H vs Q E hr z => ?_)
  · obtain ⟨_, _, _, _, _, rfl, _⟩ := z
    rfl
  · obtain ⟨b, dx, tl, h, d, rfl, ob, hh, ok, q⟩ := z
    obtain ⟨f1, f2, f3, f4, f5⟩ := ok.few
    have o1 : ∀ ps ∈ d.colours, okRow ps := fun ps m => ok.rows ps (by simp [m])
    have o2 : ∀ ps ∈ d.washes, okRow ps := fun ps m => ok.rows ps (by simp [m])
    have o3 : ∀ ps ∈ d.kinds, okRow ps := fun ps m => ok.rows ps (by simp [m])
    have o4 : ∀ ps ∈ d.teams, okRow ps := fun ps m => ok.rows ps (by simp [m])
    refine ⟨_, (pss_cons (ps_set (i := 1) sc_head.nd rfl (Or.inl rfl) (pe_op op_cat (pe_lc (own := [("row", 2)]) (g := (gName 2)) (tt := tYes) rfl sc_head.nd (pi_tup (pe_ix ix_tup (pe_fld (pv 0) rfl) pe_int (fun _ _ => rfl))) (blkOk_by (own := [("row", 2)]) (N := nm_head) (sc := C8.fnScope s_head) (by decide +kernel)) (fun _ _ _ _ _ => (pg_name (i := 2) sc_head.nd rfl (Or.inl rfl))) (fun _ _ _ _ _ => pts_nil) (fun _ _ _ _ _ => (C8.pe_c c_row_text hr (by decide) (by rfl) (pa_cons pe_str (pa_cons (pv 2) pa_nil))))) (pe_lc (own := [("row", 2)]) (g := (gName 2)) (tt := tYes) rfl sc_head.nd (pi_tup (pe_ix ix_tup (pe_fld (pv 0) rfl) pe_int (fun _ _ => rfl))) (blkOk_by (own := [("row", 2)]) (N := nm_head) (sc := C8.fnScope s_head) (by decide +kernel)) (fun _ _ _ _ _ => (pg_name (i := 2) sc_head.nd rfl (Or.inl rfl))) (fun _ _ _ _ _ => pts_nil) (fun _ _ _ _ _ => (C8.pe_c c_row_text hr (by decide) (by rfl) (pa_cons pe_str (pa_cons (pv 2) pa_nil)))))))
    (pss_cons (ps_expr (pe_bm PySem.F.plainAttrs_list PySem.F.slot_list_extend PySem.F.type_list_extend mt_extend (pv 1) (pa_cons (pe_lc (own := [("row", 2)]) (g := (gName 2)) (tt := tYes) rfl sc_head.nd (pi_tup (pe_fld (pv 0) rfl)) (blkOk_by (own := [("row", 2)]) (N := nm_head) (sc := C8.fnScope s_head) (by decide +kernel)) (fun _ _ _ _ _ => (pg_name (i := 2) sc_head.nd rfl (Or.inl rfl))) (fun _ _ _ _ _ => pts_nil) (fun _ _ _ _ _ => (C8.pe_c c_row_text hr (by decide) (by rfl) (pa_cons pe_str (pa_cons (pv 2) pa_nil))))) pa_nil)))
    (pss_cons (ps_expr (pe_bm PySem.F.plainAttrs_list PySem.F.slot_list_extend PySem.F.type_list_extend mt_extend (pv 1) (pa_cons (pe_lc (own := [("row", 2)]) (g := (gName 2)) (tt := tYes) rfl sc_head.nd (pi_tup (pe_fld (pv 0) rfl)) (blkOk_by (own := [("row", 2)]) (N := nm_head) (sc := C8.fnScope s_head) (by decide +kernel)) (fun _ _ _ _ _ => (pg_name (i := 2) sc_head.nd rfl (Or.inl rfl))) (fun _ _ _ _ _ => pts_nil) (fun _ _ _ _ _ => (C8.pe_c c_row_text hr (by decide) (by rfl) (pa_cons pe_str (pa_cons (pv 2) pa_nil))))) pa_nil)))
    (pss_cons (ps_expr (pe_bm PySem.F.plainAttrs_list PySem.F.slot_list_extend PySem.F.type_list_extend mt_extend (pv 1) (pa_cons (pe_lc (own := [("pot", 3)]) (g := (gName 3)) (tt := tYes) rfl sc_head.nd (pi_tup (pe_fld (pv 0) rfl)) (blkOk_by (own := [("pot", 3)]) (N := nm_head) (sc := C8.fnScope s_head) (by decide +kernel)) (fun _ _ _ _ _ => (pg_name (i := 3) sc_head.nd rfl (Or.inl rfl))) (fun _ _ _ _ _ => pts_nil) (fun _ _ _ _ _ => (C8.pe_c c_row_text hr (by decide) (by rfl) (pa_cons pe_str (pa_cons (pe_lst (pa_cons (pv 3) pa_nil)) pa_nil))))) pa_nil)))
    (pss_one (ps_ret (pe_op op_cat (pv 1) (pe_lst (pa_cons (C8.pe_c c_row_text hr (by decide) (by rfl) (pa_cons pe_str (pa_cons (pe_lst (pa_cons (pe_fld (pv 0) rfl) pa_nil)) pa_nil))) pa_nil))))))))), ?_⟩
    -- colours
    obtain ⟨pc, pw, xc, xw, a1, a2, a3, a4, a5⟩ := hh.pal
    have lc := Paired.length a3
    refine ⟨.ref b, rfl, b, CB, dx, _, _, rfl, ob, TB.cl, TB.nP, fB_pal _ _, h.pal, _, 0, .ref pc, rfl, rfl, a1, rfl, pc, rfl, ⟨xc, a2⟩, fun l1 hl1 => ?_⟩
    refine lc_pure (ys := d.colours.map fun ps => V.str (rowT "colour" ps)) walk_tup hl1 (by rw [List.length_map]; exact lc.symm) (by omega) (fun _ => rfl) (fun H2 e2 => e2.sqT (by simp) a2) (fun i v y H2 hv hy e k hk => ⟨v, rfl, rows_el (E := C8.E0) (x := "colour") a3 o1 (by decide) i v y H2 hv hy e k hk⟩) fun H2 e2 hd2 => ?_
    -- washes
    have hh2 := hh.keep e2
    have ob2 := e2 _ _ (by simp) ob
    obtain ⟨pc', pw, xc', xw, a1, _, _, a4, a5⟩ := hh2.pal
    have lw := Paired.length a5
    refine ⟨.ref b, rfl, b, CB, dx, _, _, rfl, ob2, TB.cl, TB.nP, fB_pal _ _, h.pal, _, 1, .ref pw, rfl, rfl, a1, rfl, pw, rfl, ⟨xw, a4⟩, fun l2 hl2 => ?_⟩
    refine lc_pure (ys := d.washes.map fun ps => V.str (rowT "wash" ps)) walk_tup hl2 (by rw [List.length_map]; exact lw.symm) (by omega) (fun _ => rfl) (fun H2 e2 => e2.sqT (by simp) a4) (fun i v y H2 hv hy e k hk => ⟨v, rfl, rows_el (E := C8.E0) (x := "wash") a5 o2 (by decide) i v y H2 hv hy e k hk⟩) fun H3 e3 hd3 => ?_
    refine ⟨l1, l2, _, _, rfl, rfl, e3 _ _ (by simp) hd2, hd3, ?_, fun r hr0 => ?_⟩
    · rw [List.length_map, List.length_map]
      exact Nat.le_of_lt (small1000 (by omega))
    have E3 : Sm [] H H3 := e2.trans e3
    have nr : H r = Option.none := E3.free0 hr0
    -- kinds
    have e4 : Sm [] H (upd H3 r (.lst ((d.colours.map fun ps => V.str (rowT "colour" ps)) ++ d.washes.map fun ps => V.str (rowT "wash" ps)))) := E3.mut nr
    have hh4 := hh.keep e4
    have ob4 := e4 _ _ (by simp) ob
    obtain ⟨xk, b1, b2⟩ := hh4.kinds
    have lk := Paired.length b2
    refine ⟨.ref r, rfl, .inl ⟨rfl, _, sqL_at upd_same⟩, ?_⟩
    refine ⟨.ref b, rfl, b, CB, dx, _, _, rfl, ob4, TB.cl, TB.nK, fB_kinds _ _, h.kinds, rfl, ⟨xk, b1⟩, fun l5 hl5 => ?_⟩
    refine lc_pure (ys := d.kinds.map fun ps => V.str (rowT "kind" ps)) walk_tup hl5 (by rw [List.length_map]; exact lk.symm) (by omega) (fun _ => rfl) (fun H2 e2 => e2.sqT (by simp) b1) (fun i v y H2 hv hy e k hk => ⟨v, rfl, rows_el (E := C8.E0) (x := "kind") b2 o3 (by decide) i v y H2 hv hy e k hk⟩) fun H5 e5 hd5 => ?_
    refine ⟨r, l5, _, _, rfl, rfl, e5 _ _ (by simp) upd_same, hd5, ?_, ?_⟩
    · rw [List.length_append, List.length_map, List.length_map, List.length_map]
      exact Nat.le_of_lt (small1000 (by omega))
    -- teams
    have e6 := (e4.trans e5).mut (o := .lst ((d.colours.map fun ps => V.str (rowT "colour" ps)) ++ (d.washes.map fun ps => V.str (rowT "wash" ps)) ++ d.kinds.map fun ps => V.str (rowT "kind" ps))) nr
    have hh6 := hh.keep e6
    have ob6 := e6 _ _ (by simp) ob
    obtain ⟨xt, c1, c2⟩ := hh6.teams
    have lt := Paired.length c2
    refine ⟨.ref r, rfl, .inl ⟨rfl, _, sqL_at upd_same⟩, ?_⟩
    refine ⟨.ref b, rfl, b, CB, dx, _, _, rfl, ob6, TB.cl, TB.nT, fB_teams _ _, h.teams, rfl, ⟨xt, c1⟩, fun l7 hl7 => ?_⟩
    refine lc_pure (ys := d.teams.map fun ps => V.str (rowT "team" ps)) walk_tup hl7 (by rw [List.length_map]; exact lt.symm) (by omega) (fun _ => rfl) (fun H2 e2 => e2.sqT (by simp) c1) (fun i v y H2 hv hy e k hk => ⟨v, rfl, rows_el (E := C8.E0) (x := "team") c2 o4 (by decide) i v y H2 hv hy e k hk⟩) fun H7 e7 hd7 => ?_
    refine ⟨r, l7, _, _, rfl, rfl, e7 _ _ (by simp) upd_same, hd7, ?_, ?_⟩
    · rw [List.length_append, List.length_append, List.length_map, List.length_map, List.length_map, List.length_map]
      exact Nat.le_of_lt (small1000 (by omega))
    -- pots
    have e8 := (e6.trans e7).mut (o := .lst ((d.colours.map fun ps => V.str (rowT "colour" ps)) ++ (d.washes.map fun ps => V.str (rowT "wash" ps)) ++ (d.kinds.map fun ps => V.str (rowT "kind" ps)) ++ d.teams.map fun ps => V.str (rowT "team" ps))) nr
    have hh8 := hh.keep e8
    have ob8 := e8 _ _ (by simp) ob
    refine ⟨.ref r, rfl, .inl ⟨rfl, _, sqL_at upd_same⟩, ?_⟩
    refine ⟨.ref b, rfl, b, CB, dx, _, _, rfl, ob8, TB.cl, TB.nO, fB_pots _ _, h.pots, rfl, ⟨_, hh8.pots⟩, fun l9 hl9 => ?_⟩
    refine lc_pure (ys := d.pots.map fun p => V.str (rowT "pot" [.str p])) walk_tup hl9 (by rw [List.length_map, List.length_map]) (by rw [List.length_map]; omega) (fun _ => rfl) (fun H2 e2 => e2.sqT (by simp) hh8.pots) (fun i v y H2 hv hy e k hk => ?_) fun H9 e9 hd9 => ?_
    · rw [List.getElem?_map] at hv hy
      cases hp : d.pots[i]? with
      | none => rw [hp] at hv; cases hv
      | some p =>
        rw [hp] at hv hy
        cases hv
        cases hy
        refine ⟨.str p, rfl, by show 1 ≤ sizeLine; decide, fun u hu => ⟨"pot", u, [.str p], rfl, .inl (sqL_at upd_same), by decide, fun z m => ?_, by show 1 ≤ 10; decide, fun H' e' => hk H' ((Sm.new hu).trans e')⟩⟩
        rw [List.mem_singleton.mp m]
        exact ok.pots p (List.mem_of_getElem? hp)
    refine ⟨r, l9, _, _, rfl, rfl, e9 _ _ (by simp) upd_same, hd9, ?_, ?_⟩
    · simp only [List.length_append, List.length_map]
      exact Nat.le_of_lt (small1000 (by omega))
    -- slots
    have e10 := (e8.trans e9).mut (o := .lst ((d.colours.map fun ps => V.str (rowT "colour" ps)) ++ (d.washes.map fun ps => V.str (rowT "wash" ps)) ++ (d.kinds.map fun ps => V.str (rowT "kind" ps)) ++ (d.teams.map fun ps => V.str (rowT "team" ps)) ++ d.pots.map fun p => V.str (rowT "pot" [.str p]))) nr
    have hh10 := hh.keep e10
    have ob10 := e10 _ _ (by simp) ob
    refine ⟨.ref r, rfl, .ref b, rfl, b, CB, dx, _, _, rfl, ob10, TB.cl, TB.nS, fB_slots _ _, by show 1 ≤ sizeLine; decide, fun u hu => ⟨"slots", u, [.int h.slots], rfl, .inl (sqL_at upd_same), by decide, fun z m => ?_, by show 1 ≤ 10; decide, fun H11 e11 => ⟨by show 1 ≤ sizeLine; decide, fun v hv => ?_⟩⟩⟩
    · rw [List.mem_singleton.mp m, hh.slots]
      exact ok.slots
    have e12 : Sm [] _ H11 := (Sm.new hu).trans e11
    have e13 : Sm [] H11 (upd H11 v (.lst [.str (rowT "slots" [.int h.slots])])) := Sm.new hv
    refine ⟨r, v, _, _, rfl, rfl, (e12.trans e13) _ _ (by simp) upd_same, upd_same, ?_, fun g hg => ?_⟩
    · simp only [List.length_append, List.length_map, List.length_singleton]
      exact Nat.le_of_lt (small1000 (by omega))
    have eE := (e10.trans e12).trans e13
    refine q g _ (eE.trans (Sm.new hg)) (eE.free0 hg) ?_
    rw [upd_same, hh.slots]
    unfold headT
    simp only [map_str, List.map_append, List.map_map]
    rfl
end
end Zz

/-! A Book as text. -/
namespace Zz
open PySem PySem.Spec PyProof.Rows L2
/-- as lc_pure, whatever the target -/
theorem lc_pureG {J : It} {G : Hp → Prop} {xs ys : List V} {te : TE} {g : TG} {vs : List Nat} {σ : L2.St} {H1 : Hp} {D : Addr} {Qd : Hp → Prop} (wk : Walk J xs.length G (YAt xs)) (hD : H1 D = Option.none) (hl : ys.length = xs.length) (hz : xs.length ≤ 1000)
    (hG : ∀ H2, Sm [] H1 H2 → G H2)
    (el : ∀ (i : Nat) (x y : V) (H2 : Hp), xs[i]? = some x → ys[i]? = some y → Sm [] H1 H2 → ∀ (k : VK) (Nx : Hp → Prop), (∀ H3, Sm [] H2 H3 → k y H3) → g x (wipe σ vs) H2 fun σ2 H3 => wipe σ2 vs = wipe σ vs ∧ tYes σ2 H3 fun b H4 => if b = true then te σ2 H4 k else Nx H4)
    (q : ∀ H2, Sm [] H1 H2 → H2 D = some (.lst ys) → Qd H2) :
    ∃ Wt : Nat → Nat → Hp → Prop, (∃ m, Wt 0 m (upd H1 D (.lst []))) ∧ ∀ i m Hc, Wt i m Hc →
      (J.stop i Hc ∧ Qd Hc) ∨ (J.go i Hc ∧ ∃ Nx : Hp → Prop, (∀ Hn, Nx Hn → ∃ m', m' < m ∧ Wt (i + 1) m' Hn) ∧ ∀ x Hn, J.yld i Hc x Hn → g x (wipe σ vs) Hn fun σ2 H2 => wipe σ2 vs = wipe σ vs ∧ tYes σ2 H2 fun b H3 =>
        if b = true then te σ2 H3 fun y H4 => ∃ acc, H4 D = some (.lst acc) ∧ acc.length < sizeLine ∧ Nx (upd H4 D (.lst (acc ++ [y]))) else Nx H3) := by
  refine lc_it wk (fun i H2 => Sm [] H1 H2 ∧ H2 D = some (.lst (ys.take i))) ⟨Sm.new hD, upd_same⟩ (fun i H2 _ z => hG H2 z.1) ?_ ?_
  · rintro i x H2 H2' hi ⟨e, hd⟩ ⟨e0, hx⟩
    obtain rfl : H2' = H2 := e0
    have hy : ys[i]? = some (ys[i]'(by omega)) := List.getElem?_eq_getElem _
    refine el i x _ _ hx hy e _ _ fun H3 e3 => ⟨_, e3 _ _ (by simp) hd, ?_, (e.trans e3).mut hD, ?_⟩
    · rw [List.length_take]
      exact small1000 (by omega)
    · rw [upd_same, List.take_add_one, hy]
      rfl
  · rintro H2 ⟨e, hd⟩
    rw [← hl, List.take_length] at hd
    exact q H2 e hd
/-- a text that a deep == may meet -/
def layP : V → Prop
  | .str s => PyData.strOk s = true
  | _ => True
def okD (ps : List V) : Prop := (∀ p ∈ ps, okP p) ∧ ps.length ≤ 8 ∧ ∀ p ∈ ps, layP p
def okHr (h : Int) : Prop := 0 ≤ h ∧ h < 10 ^ 10
/-- an entry's deed stands in the heap -/
def DeedAt (H : Hp) (D : V → List V) (e : Row3) : Prop := okHr e.1 ∧ okD (D e.2.2) ∧ ∃ a, e.2.2 = .ref a ∧ H a = some (.tup (D e.2.2))
theorem DeedAt.keep {H H' : Hp} {D : V → List V} {e : Row3} (h : DeedAt H D e) (s : Sm [] H H') : DeedAt H' D e := ⟨h.1, h.2.1, h.2.2.choose, h.2.2.choose_spec.1, s _ _ (by simp) h.2.2.choose_spec.2⟩
def rowE (D : V → List V) (e : Row3) : Str := rowT "at" (.int e.1 :: D e.2.2)
def bookT (D : V → List V) (d : HallD) (out : List Row3) : Str := Txt.join "\n" (headT d ++ out.map (rowE D))
theorem headT_len {d : HallD} (ok : okHall d) : (headT d).length ≤ 501 ∧ ∀ x ∈ headT d, x.length ≤ 500 := by
  obtain ⟨f1, f2, f3, f4, f5⟩ := ok.few
  constructor
  · unfold headT
    simp only [List.length_append, List.length_map, List.length_singleton]
    omega
  · intro x hx
    have r : ∀ {w : Str} {rows : List (List V)}, w.length ≤ 40 → (∀ ps ∈ rows, okRow ps) → x ∈ rows.map (rowT w) → x.length ≤ 500 := fun hw h m => by
      obtain ⟨ps, hp, rfl⟩ := List.mem_map.mp m
      have o := h ps hp
      exact rowT_len hw o.1 (by have := o.2; omega)
    unfold headT at hx
    simp only [List.mem_append] at hx
    rcases hx with ((((m | m) | m) | m) | m) | m
    · exact r (by decide) (fun ps m => ok.rows ps (by simp [m])) m
    · exact r (by decide) (fun ps m => ok.rows ps (by simp [m])) m
    · exact r (by decide) (fun ps m => ok.rows ps (by simp [m])) m
    · exact r (by decide) (fun ps m => ok.rows ps (by simp [m])) m
    · obtain ⟨p, hp, rfl⟩ := List.mem_map.mp m
      exact rowT_len (by decide) (fun z m => by rw [List.mem_singleton.mp m]; exact ok.pots p hp) (by show 1 ≤ 10; decide)
    · rw [List.mem_singleton.mp m]
      exact rowT_len (by decide) (fun z m => by rw [List.mem_singleton.mp m]; exact ok.slots) (by show 1 ≤ 10; decide)
theorem rowE_len {H : Hp} {D : V → List V} {e : Row3} (h : DeedAt H D e) : (rowE D e).length ≤ 500 := by
  refine rowT_len (by decide) (fun p m => ?_) ?_
  · rcases List.mem_cons.mp m with rfl | m
    · exact h.1
    · exact h.2.1.1 p m
  · have := h.2.1.2.1
    rw [List.length_cons]; omega
theorem bookT_fits {H : Hp} {D : V → List V} {d : HallD} {out : List Row3} (ok : okHall d) (h : ∀ e ∈ out, DeedAt H D e) (hl : out.length ≤ 200) :
    ((headT d ++ out.map (rowE D)).map (·.length)).sum + (headT d ++ out.map (rowE D)).length * ("\n" : Str).length ≤ 16777216 := by
  obtain ⟨a, b⟩ := headT_len ok
  have h1 : ((headT d ++ out.map (rowE D)).map (·.length)).sum ≤ ((headT d ++ out.map (rowE D)).map (·.length)).length * 500 := sum_le fun x m => by
    obtain ⟨y, hy, rfl⟩ := List.mem_map.mp m
    rcases List.mem_append.mp hy with hy | hy
    · exact b y hy
    · obtain ⟨e, he, rfl⟩ := List.mem_map.mp hy
      exact rowE_len (h e he)
  have h2 : ("\n" : Str).length = 1 := by decide
  rw [h2]
  simp only [List.length_map, List.length_append] at h1 ⊢
  omega
section
variable {P : Program} {w : World} {K : PySem.W.Frag} {mg : Str → Option Value} {base : Heap} {CB CE CR CS : Addr}
def spBtext (K : PySem.W.Frag) (CB CE CR CS : Addr) : Sp := fun vs H Q _ => ∃ (b tl : Addr) (h : Hall) (d : HallD) (ts : List Told) (D : V → List V), vs = [.ref b] ∧ BookAt CB CE CR CS H b tl h ts ∧ HallAt K H h d ∧ okHall d ∧ (∀ e ∈ ents (kn ts), DeedAt H D e) ∧
  ∀ out H', Sm [] H H' → SrtE out (ents (kn ts)) → Q (.str (bookT D d out)) H'
theorem c_btext_ (TE : TxE K mg CE CR CS) (TB : TxB K mg CB) (T : TxT K mg) : C8.Cal P w K mg base 4 "book_text" (spBtext K CB CE CR CS) [] := by
  obtain ⟨f, fd, D, b⟩ := T.btext
  have c_row_text := c_row_ (P := P) (w := w) (base := base) T
  have c_head_text := c_head_ (P := P) (w := w) (base := base) T TB
  have mB_entries := mB_entries_ (P := P) (w := w) (base := base) TE TB
  refine C8.cal0 D b .nil sc_btext (fun vs H Q E z => ?_) (fun cdv A outer s H vs Q E hr z => ?_)
  · obtain ⟨_, _, _, _, _, _, rfl, _⟩ := z
    rfl
  · obtain ⟨b, tl, h, d, ts, D, rfl, B, hh, ok, hD, q⟩ := z
    obtain ⟨dx, ob⟩ := B.ob
    refine ⟨_, (pss_one (ps_ret (pe_join pe_str (pe_op op_cat (C8.pe_c c_head_text hr (by decide) (by rfl) (pa_cons (pv 0) pa_nil)) (pe_lc (own := [("hour", 1), ("number", 2), ("deed", 3)]) (g := (gTup _ 3 (gCons (gName 1) (gCons (gName 2) (gCons (gName 3) gNil))))) (tt := tYes) rfl sc_btext.nd (pi_list (C8.pe_mt0 mB_entries hr (by decide) (pv 0))) (blkOk_by (own := [("hour", 1), ("number", 2), ("deed", 3)]) (N := nm_btext) (sc := C8.fnScope s_btext) (by decide +kernel)) (fun _ _ _ _ _ => (pg_tup rfl (pgs_cons (pg_name (i := 1) sc_btext.nd rfl (Or.inl rfl)) (pgs_cons (pg_name (i := 2) sc_btext.nd rfl (Or.inl rfl)) (pgs_cons (pg_name (i := 3) sc_btext.nd rfl (Or.inl rfl)) pgs_nil))))) (fun _ _ _ _ _ => pts_nil) (fun _ _ _ _ _ => (C8.pe_c c_row_text hr (by decide) (by rfl) (pa_cons pe_str (pa_cons (pe_op (show OpR _ _ (rCatA K) from op_catA) (pe_tup (pa_cons (pv 1) pa_nil)) (pv 3)) pa_nil))))))))), ?_⟩
    refine ⟨⟨_, rfl⟩, .ref b, rfl, b, dx, tl, h, d, rfl, ob, hh, ok, fun p H1 e1 hp hpd => ?_⟩
    obtain ⟨dx1, ob1⟩ := (B.keep0 e1).ob
    refine ⟨.ref b, rfl, b, dx1, _, rfl, ob1, fB_no _ _ (by decide +kernel) (by decide +kernel) (by decide +kernel) (by decide +kernel) (by decide +kernel) (by decide +kernel), b, tl, h, ts, rfl, B.keep0 e1, fun r ys out H2 e2 hr0 hr2 so po => ?_⟩
    have mem : ∀ e ∈ out, DeedAt H2 D e := fun e m => ((hD e (so.stb.perm.mem_iff.mp m)).keep e1).keep e2
    have lo : out.length ≤ 150 := by
      have a := so.stb.perm.length_eq
      have b := kn_len ts
      have c := B.few
      unfold ents at a
      rw [List.length_map] at a
      omega
    have ly := Paired.length po
    refine ⟨r, rfl, ⟨ys, sqL_at hr2⟩, fun c hc => ?_⟩
    refine lc_pureG (ys := out.map fun e => V.str (rowE D e)) walk_list hc (by rw [List.length_map]; exact ly.symm) (by omega) (fun H3 e3 => sqL_at (e3 _ _ (by simp) hr2)) (fun i x y H3 hx hy e3 k Nx hk => ?_) fun H3 e3 hd3 => ?_
    · obtain ⟨e, he, t, rfl, ht⟩ := paired_get po hx
      have ht := e3 _ _ (by simp) ht
      obtain ⟨⟨oh1, oh2⟩, od, a, ea, ha⟩ := (mem e (List.mem_of_getElem? he)).keep e3
      rw [List.getElem?_map, he] at hy
      cases hy
      refine ⟨t, _, rfl, sqT_at ht, rfl, .int e.1, _, rfl, .int e.2.1, _, rfl, e.2.2, [], rfl, rfl, rfl, yes_go ?_⟩
      have app : ∀ v H5, Sm [] H3 H5 → SqT K H5 v (.int e.1 :: D e.2.2) → spRow K [.str "at", .ref v] H5 k C8.E0 := fun v H5 e5 hv => by
        refine ⟨"at", v, .int e.1 :: D e.2.2, rfl, .inr hv, by decide, fun p m => ?_, ?_, fun H4 e4 => hk H4 (e5.trans e4)⟩
        · rcases List.mem_cons.mp m with rfl | m
          · exact ⟨oh1, oh2⟩
          · exact od.1 p m
        · have := od.2.1
          rw [List.length_cons]; omega
      refine ⟨.int e.1, rfl, by show 1 ≤ sizeLine; decide, fun u hu => ⟨e.2.2, rfl, u, a, [.int e.1], D e.2.2, rfl, ea, sqT_at upd_same, sqT_new hu (sqT_at ha), ?_, fun z => by (cases z), fun _ z => app u _ (Sm.new hu) (by rw [z]; exact sqT_at upd_same), fun _ _ v hv => app v _ ((Sm.new hu).trans (Sm.new hv)) (sqT_at upd_same)⟩⟩
      have := od.2.1
      exact Nat.le_of_lt (small1000 (by rw [List.length_singleton]; omega))
    · have lh := (headT_len ok).1
      refine ⟨p, c, _, _, rfl, rfl, e3 _ _ (by simp) (e2 _ _ (by simp) hpd), hd3, ?_, fun g hg => ⟨"\n", g, headT d ++ out.map (rowE D), rfl, rfl, .inl (sqL_at ?_), bookT_fits ok mem (by omega), ?_⟩⟩
      · rw [List.length_map, List.length_map]
        exact Nat.le_of_lt (small1000 (by omega))
      · rw [upd_same, List.map_append, List.map_map]
        rfl
      · exact q out _ (((e1.trans e2).trans e3).trans (Sm.new hg)) so
end
end Zz

/-! The law's own draws: the state, a digit, one of some. -/
namespace Zz
open PySem PySem.Spec PyProof.Rows L2
abbrev s_lbegin : Stmt := topS 18
abbrev nm_lbegin : List Str := ["_law_script", "_law_cells"]
theorem sc_lbegin : FnScope nm_lbegin ["_law_script"] (C8.fnScope s_lbegin) := C8.fnScope_by (by decide +kernel)
abbrev s_ltake : Stmt := topS 19
abbrev nm_ltake : List Str := ["_law_state", "_law_many", "_law_turn", "_law_place", "_law_cell", "_law_digit", "_law_mixed"]
theorem sc_ltake : FnScope nm_ltake ["_law_state", "_law_many"] (C8.fnScope s_ltake) := C8.fnScope_by (by decide +kernel)
abbrev s_lsome : Stmt := topS 20
abbrev nm_lsome : List Str := ["_law_state", "_law_things"]
theorem sc_lsome : FnScope nm_lsome ["_law_state", "_law_things"] (C8.fnScope s_lsome) := C8.fnScope_by (by decide +kernel)
abbrev s_lnames : Stmt := topS 21
abbrev nm_lnames : List Str := ["_law_state", "_law_many", "_law_letters", "_law_first", "_law_pairs", "_law_stem", "_law_at", "_law_step", "_law_short", "_law_found", "_law_k", "_law_name", "_law_turn"]
theorem sc_lnames : FnScope nm_lnames ["_law_state", "_law_many"] (C8.fnScope s_lnames) := C8.fnScope_by (by decide +kernel)
abbrev s_lpalette : Stmt := topS 22
abbrev nm_lpalette : List Str := ["_law_state", "_law_names_here", "_law_colours", "_law_washes", "_law_name", "_law_charge", "_law_melt", "_law_other", "_law_way", "_law_hours"]
theorem sc_lpalette : FnScope nm_lpalette ["_law_state", "_law_names_here"] (C8.fnScope s_lpalette) := C8.fnScope_by (by decide +kernel)
abbrev s_lwordy : Stmt := topS 23
abbrev nm_lwordy : List Str := ["_law_state", "_law_names_here", "_law_words", "_law_begin_here", "_law_found", "_law_k", "_law_word"]
theorem sc_lwordy : FnScope nm_lwordy ["_law_state", "_law_names_here"] (C8.fnScope s_lwordy) := C8.fnScope_by (by decide +kernel)
abbrev s_lhall : Stmt := topS 24
abbrev nm_lhall : List Str := ["_law_state", "_law_great", "_law_sizes", "_law_some_here", "_law_colours", "_law_kinds", "_law_teams", "_law_pots", "_law_hall_here", "_law_size", "_law_name"]
theorem sc_lhall : FnScope nm_lhall ["_law_state", "_law_great"] (C8.fnScope s_lhall) := C8.fnScope_by (by decide +kernel)
abbrev s_ldeed : Stmt := topS 25
abbrev nm_ldeed : List Str := ["_law_state", "_law_hall_here", "_law_names_here", "_law_some_here", "_law_pot", "_law_colour", "_law_team", "_law_kind", "_law_hours", "_law_many", "_law_row_here"]
theorem sc_ldeed : FnScope nm_ldeed ["_law_state", "_law_hall_here"] (C8.fnScope s_ldeed) := C8.fnScope_by (by decide +kernel)
abbrev s_lbook : Stmt := topS 26
abbrev nm_lbook : List Str := ["_law_hall_here"]
theorem sc_lbook : FnScope nm_lbook ["_law_hall_here"] (C8.fnScope s_lbook) := C8.fnScope_by (by decide +kernel)
abbrev s_lrow : Stmt := topS 27
abbrev nm_lrow : List Str := ["_law_word", "_law_parts", "_law_part"]
theorem sc_lrow : FnScope nm_lrow ["_law_word", "_law_parts"] (C8.fnScope s_lrow) := C8.fnScope_by (by decide +kernel)
abbrev s_lhead : Stmt := topS 28
abbrev nm_lhead : List Str := ["_law_hall_here", "_law_rows", "_law_row_here", "_law_pot"]
theorem sc_lhead : FnScope nm_lhead ["_law_hall_here"] (C8.fnScope s_lhead) := C8.fnScope_by (by decide +kernel)
abbrev s_lhour : Stmt := topS 29
abbrev nm_lhour : List Str := ["_law_state"]
theorem sc_lhour : FnScope nm_lhour ["_law_state"] (C8.fnScope s_lhour) := C8.fnScope_by (by decide +kernel)
structure TxL (K : PySem.W.Frag) (mg : Str → Option Value) : Prop where
  begin_ : DF K mg "_law_begin" s_lbegin ["_law_script"]
  take : DF K mg "_law_take" s_ltake ["_law_state", "_law_many"]
  some_ : DF K mg "_law_some" s_lsome ["_law_state", "_law_things"]
  names : DF K mg "_law_names" s_lnames ["_law_state", "_law_many"]
  palette : DF K mg "_law_palette" s_lpalette ["_law_state", "_law_names_here"]
  wordy : DF K mg "_law_wordy" s_lwordy ["_law_state", "_law_names_here"]
  hall : DF K mg "_law_hall" s_lhall ["_law_state", "_law_great"]
  deed : DF K mg "_law_deed" s_ldeed ["_law_state", "_law_hall_here"]
  book : DF K mg "_law_book" s_lbook ["_law_hall_here"]
  row : DF K mg "_law_row" s_lrow ["_law_word", "_law_parts"]
  head : DF K mg "_law_head" s_lhead ["_law_hall_here"]
  hour : DF K mg "_law_hour" s_lhour ["_law_state"]
  n_len : mg "len" = none
  n_list : mg "list" = none
  n_divmod : mg "divmod" = none
  n_sorted : mg "sorted" = none
  n_range : mg "range" = none
  n_tuple : mg "tuple" = none
  n_min : mg "min" = none
  n_str : mg "str" = none
def kC : Key := Sum.inr "cells"
def kT : Key := Sum.inr "turn"
def stK (sc : Addr) (t : Int) : List (Key × V) := [(kC, .ref sc), (kT, .int t)]
theorem kCT : ¬ kC = kT := fun z => absurd (Sum.inr.inj z) (by decide +kernel)
theorem stK_c {sc : Addr} {t : Int} : valV (stK sc t) kC = some (.ref sc) := valV_pos rfl
theorem stK_t {sc : Addr} {t : Int} : valV (stK sc t) kT = some (.int t) := by
  unfold stK
  rw [valV_neg kCT, valV_pos rfl]
theorem stK_put {sc : Addr} {t u : Int} : putK (stK sc t) kT (.int u) = stK sc u := by
  have e : decide (kC = kT) = false := decide_eq_false kCT
  simp [putK, stK, e, kCT]
/-- the state: its cells at sc, its turn at most n -/
def StOk (H : Hp) (sd sc : Addr) (n : Nat) : Prop := ∃ (t : Int) (cs : List Int), 0 ≤ t ∧ t ≤ n ∧ H sd = some (.dK (stK sc t)) ∧ H sc = some (.lst (cs.map V.int)) ∧ 1 ≤ cs.length ∧ cs.length ≤ 100
theorem StOk.mono {H : Hp} {sd sc : Addr} {n m : Nat} (h : StOk H sd sc n) (l : n ≤ m) : StOk H sd sc m := by
  obtain ⟨t, cs, a, b, r⟩ := h
  exact ⟨t, cs, a, by omega, r⟩
theorem StOk.keep {H H' : Hp} {S : List Addr} {sd sc : Addr} {n : Nat} (h : StOk H sd sc n) (e : Sm S H H') (n1 : sd ∉ S) (n2 : sc ∉ S) : StOk H' sd sc n := by
  obtain ⟨t, cs, a, b, c, d, r⟩ := h
  exact ⟨t, cs, a, b, e _ _ n1 c, e _ _ n2 d, r⟩
theorem StOk.keep0 {H H' : Hp} {sd sc : Addr} {n : Nat} (h : StOk H sd sc n) (e : Sm [] H H') : StOk H' sd sc n := h.keep e (by simp) (by simp)
/-- what is new lies beside the state -/
theorem StOk.off {H : Hp} {sd sc p : Addr} {n : Nat} (h : StOk H sd sc n) (hp : H p = Option.none) : p ∉ [sd, sc] := fun m => by
  obtain ⟨t, cs, _, _, c, d, _⟩ := h
  rcases List.mem_cons.mp m with rfl | m
  · rw [hp] at c; cases c
  · rw [List.mem_singleton.mp m, d] at hp; cases hp
section
variable {P : Program} {w : World} {K : PySem.W.Frag} {mg : Str → Option Value} {base : Heap} {CB CE CR CS : Addr}
def spTake : Sp := fun vs H Q _ => ∃ (sd sc : Addr) (n : Nat) (m : Int), vs = [.ref sd, .int m] ∧ StOk H sd sc n ∧ n ≤ 1000000 ∧ 0 < m ∧ m < 1073741824 ∧ ∀ i H', 0 ≤ i → i < m → Sm [sd, sc] H H' → StOk H' sd sc (n + 1) → Q (.int i) H'
theorem c_take_ (T : TxL K mg) : C8.Cal P w K mg base 1 "_law_take" spTake [] := by
  obtain ⟨f, fd, D, b⟩ := T.take
  refine C8.cal0 D b .nil sc_ltake (fun vs H Q E z => ?_) (fun cdv A outer s H vs Q E hr z => ?_)
  · obtain ⟨_, _, _, _, rfl, _⟩ := z
    rfl
  · obtain ⟨sd, sc, n, m, rfl, st, hn, m0, m1, q⟩ := z
    obtain ⟨t, cs, t0, tn, hd, hc, l1, l2⟩ := st
    have hu := hu_of hr
    refine ⟨_, (pss_cons (ps_set (i := 2) sc_ltake.nd rfl (Or.inl rfl) (pe_op op_add (pe_dget hu (pv 0) pe_str (fun _ _ => rfl)) pe_int))
    (pss_cons (ps_dput hu (pv 0) pe_str (pv 2) rfl)
    (pss_cons (ps_set (i := 3) sc_ltake.nd rfl (Or.inl rfl) (pe_op op_mod (pv 2) (pe_callB call_len_seq (by rfl) T.n_len (by decide +kernel) (pa_cons (pe_dget hu (pv 0) pe_str (fun _ _ => rfl)) pa_nil))))
    (pss_cons (ps_set (i := 4) sc_ltake.nd rfl (Or.inl rfl) (pe_ix ix_list (pe_dget hu (pv 0) pe_str (fun _ _ => rfl)) (pv 3) (fun _ _ => rfl)))
    (pss_cons (ps_if (pt_cmpR op_ge (pv 4) (pe_op op_pow pe_int pe_int) (nomark _)) (pss_cons (ps_asg (pe_callB call_divmod (by rfl) T.n_divmod (by decide +kernel) (pa_cons (pv 4) (pa_cons (pv 1) pa_nil))) (pg_tup rfl (pgs_cons (pg_sub (pe_dget hu (pv 0) pe_str (fun _ _ => rfl)) (pv 3) set_list) (pgs_cons (pg_name (i := 5) sc_ltake.nd rfl (Or.inl rfl)) pgs_nil))))
    (pss_one (ps_ret (pv 5)))) pss_nil)
    (pss_cons (ps_set (i := 6) sc_ltake.nd rfl (Or.inl rfl) (pe_op op_mod (pe_op op_mul (pe_op op_add (pe_op op_add (pe_op op_mod (pv 4) pe_int) (pe_op op_mul (pe_op op_mul (pv 2) (pv 2)) pe_int)) pe_int) pe_int) pe_int))
    (pss_cons (ps_set (i := 6) sc_ltake.nd rfl (Or.inl rfl) (pe_op op_mod (pe_op op_mul (pv 6) (pv 6)) pe_int))
    (pss_one (ps_ret (pe_op op_mod (pe_op op_fdiv (pe_op op_mod (pe_op op_mul (pe_op op_add (pv 6) (pe_op op_mul (pv 2) pe_int)) pe_int) pe_int) pe_int) (pv 1))))))))))), ?_⟩
    have g : ∀ {H2 : Hp} {u : Int}, H2 sd = some (.dK (stK sc u)) → DGet H2 sd (.str "cells") (some (.ref sc)) := fun h => by
      have z := DGet.k (k := kC) h
      rw [stK_c] at z
      exact z
    refine ⟨.ref sd, rfl, sd, .int t, rfl, ?_, _, _, rfl, rfl, ?_⟩
    · have z := DGet.k (k := kT) hd
      rw [stK_t] at z
      exact z
    refine ⟨.int (t + 1), rfl, .ref sd, rfl, sd, _, rfl, DPut.k (k := kT) hd (by show 2 < sizeLine; decide), ?_⟩
    rw [stK_put]
    have nsc : sc ≠ sd := fun z => by rw [z, hd] at hc; cases hc
    have hd2 : (upd H sd (.dK (stK sc (t + 1)))) sd = some (.dK (stK sc (t + 1))) := upd_same
    have hc2 : (upd H sd (.dK (stK sc (t + 1)))) sc = some (.lst (cs.map V.int)) := by rw [upd_ne nsc]; exact hc
    have e2 : Sm [sd, sc] H (upd H sd (.dK (stK sc (t + 1)))) := Sm.at (by simp)
    refine ⟨.int (t + 1), rfl, .ref sd, rfl, sd, .ref sc, rfl, g hd2, sc, _, rfl, .inl (sqL_at hc2), _, _, rfl, rfl, ?_, ?_⟩
    · rw [List.length_map]; show (0 : Int) < _; omega
    rw [List.length_map]
    have p0 : 0 ≤ (t + 1) % (cs.length : Int) := Int.emod_nonneg _ (by omega)
    have p1 : (t + 1) % (cs.length : Int) < cs.length := Int.emod_lt_of_pos _ (by omega)
    obtain ⟨j, hj⟩ := Int.eq_ofNat_of_zero_le p0
    have jl : j < cs.length := by rw [hj] at p1; omega
    have ix : ixN (cs.map V.int).length ((t + 1) % (cs.length : Int)) = some j := by
      unfold ixN
      rw [if_pos p0, List.length_map, if_pos p1, hj]
      rfl
    have av : atI (cs.map V.int) ((t + 1) % (cs.length : Int)) = some (.int (cs[j]'jl)) := by
      unfold atI
      rw [ix]
      show (cs.map V.int)[j]? = _
      rw [List.getElem?_map, List.getElem?_eq_getElem jl]
      rfl
    refine ⟨.ref sd, rfl, sd, .ref sc, rfl, g hd2, .int ((t + 1) % (cs.length : Int)), rfl, sc, _, _, _, rfl, rfl, sqL_at hc2, av, ?_⟩
    refine ⟨.int (cs[j]'jl), rfl, _, _, rfl, rfl, ⟨by decide, by decide, by decide⟩, _, _, rfl, rfl, ?_⟩
    generalize hce : cs[j]'jl = ce
    refine ⟨_, rfl, ?_⟩
    refine ite2 (fun _ => ?_) (fun _ => ?_)
    · refine ⟨.int ce, rfl, .int m, rfl, ce, m, rfl, ⟨m0, m1⟩, fun p hp => ?_⟩
      have np : p ≠ sd := (ne_of_none hd2 hp).symm
      have np2 : p ≠ sc := (ne_of_none hc2 hp).symm
      have hd3 := at_new (o := .tup [.int (ce / m), .int (ce % m)]) hp hd2
      have hc3 := at_new (o := .tup [.int (ce / m), .int (ce % m)]) hp hc2
      refine ⟨p, _, rfl, sqT_at upd_same, rfl, .int (ce / m), _, rfl, ?_⟩
      refine ⟨.ref sd, rfl, sd, .ref sc, rfl, g hd3, .int ((t + 1) % (cs.length : Int)), rfl, sc, _, _, j, rfl, rfl, hc3, ix, ?_⟩
      refine ⟨.int (ce % m), [], rfl, rfl, .int (ce % m), rfl, ?_⟩
      refine q _ _ (Int.emod_nonneg _ (by omega)) (Int.emod_lt_of_pos _ m0) ((e2.trans (Sm.new hp)).trans (Sm.at (by simp))) ⟨t + 1, cs.set j (ce / m), by omega, by omega, ?_, ?_, by rw [List.length_set]; exact l1, by rw [List.length_set]; exact l2⟩
      · rw [upd_ne nsc.symm]; exact hd3
      · rw [upd_same, List.map_set]
    · have tb : t + 1 ≤ 1000001 := by omega
      refine ⟨.int ce, rfl, _, _, rfl, rfl, (by show (0 : Int) < 2147483629; decide), ?_⟩
      refine ⟨.int (t + 1), rfl, .int (t + 1), rfl, _, _, rfl, rfl, .inl ⟨by omega, by omega⟩, _, _, rfl, rfl, .inr ⟨by decide, by decide⟩, _, _, rfl, rfl, _, _, rfl, rfl, _, _, rfl, rfl, .inr ⟨by decide, by decide⟩, _, _, rfl, rfl, (by show (0 : Int) < 2147483647; decide), ?_⟩
      refine ⟨_, rfl, _, rfl, _, _, rfl, rfl, .inl ⟨Int.lt_of_lt_of_le (show -(2 ^ 64) < (0 : Int) by decide) (Int.emod_nonneg _ (by decide)), Int.lt_trans (Int.emod_lt_of_pos _ (by decide)) (by decide)⟩, _, _, rfl, rfl, (by show (0 : Int) < 2147483579; decide), ?_⟩
      refine ⟨_, rfl, .int (t + 1), rfl, _, _, rfl, rfl, .inr ⟨by decide, by decide⟩, _, _, rfl, rfl, _, _, rfl, rfl, .inr ⟨by decide, by decide⟩, _, _, rfl, rfl, (by show (0 : Int) < 2147483629; decide), _, _, rfl, rfl, ⟨by decide, by decide⟩, .int m, rfl, _, _, rfl, rfl, m0, ?_⟩
      exact q _ _ (Int.emod_nonneg _ (by omega)) (Int.emod_lt_of_pos _ m0) e2 ⟨t + 1, cs, by omega, by omega, hd2, hc2, l1, l2⟩
end
end Zz

/-! The law's small parts: the first state, one of some, a row, an hour. -/
namespace Zz
open PySem PySem.Spec PyProof.Rows L2
theorem can_all : ∀ {l : List PyData}, (∀ x ∈ l, x.canLay0 = true) → PyData.canLayAll0 l = true
  | [], _ => rfl
  | x :: r, h => by
    rw [PyData.canLayAll0, h x (.head _), can_all fun y m => h y (.tail _ m)]
    rfl
theorem depth_all {B : Nat} : ∀ {l : List PyData}, (∀ x ∈ l, x.depth ≤ B) → PyData.depthAll l ≤ B
  | [], _ => Nat.zero_le _
  | x :: r, h => by
    have h1 := h x (.head _)
    have h2 := depth_all fun y m => h y (.tail _ m)
    rw [PyData.depthAll]
    omega
theorem shaped_list {B : Nat} {l : List PyData} (hB : B < 64) (h : ∀ x ∈ l, x.canLay0 = true ∧ x.depth ≤ B) : SeqAt.shaped (.list l) = true := by
  have h1 := can_all fun x m => (h x m).1
  have h2 := depth_all fun x m => (h x m).2
  show (PyData.canLay0 (.list l) && decide (PyData.depth (.list l) ≤ 64)) = true
  rw [Bool.and_eq_true]
  refine ⟨by rw [PyData.canLay0]; exact h1, decide_eq_true ?_⟩
  rw [PyData.depth]
  omega
theorem dp_ints {K : PySem.W.Frag} {H : Hp} : ∀ l : List Int, DpAll K H (l.map V.int) (l.map PyData.int)
  | [] => .nil
  | x :: r => .cons (.int x) (dp_ints r)
theorem at_of {α : Type} {xs : List α} {i : Int} (h0 : 0 ≤ i) (h1 : i < (xs.length : Int)) : ∃ v, atI xs i = some v ∧ v ∈ xs := by
  obtain ⟨j, rfl⟩ := Int.eq_ofNat_of_zero_le h0
  have jl : j < xs.length := by omega
  refine ⟨xs[j]'jl, ?_, List.getElem_mem _⟩
  unfold atI ixN
  rw [if_pos h0, if_pos h1]
  exact List.getElem?_eq_getElem jl
section
variable {P : Program} {w : World} {K : PySem.W.Frag} {mg : Str → Option Value} {base : Heap} {CB CE CR CS : Addr}
def spSome (K : PySem.W.Frag) : Sp := fun vs H Q _ => ∃ (sd sc a : Addr) (n : Nat) (xs : List V), vs = [.ref sd, .ref a] ∧ StOk H sd sc n ∧ n ≤ 900000 ∧ a ∉ [sd, sc] ∧ SqL K H a xs ∧ xs ≠ [] ∧ xs.length ≤ 1000 ∧
  ∀ v H', v ∈ xs → Sm [sd, sc] H H' → StOk H' sd sc (n + 1) → Q v H'
theorem c_some_ (T : TxL K mg) : C8.Cal P w K mg base 2 "_law_some" (spSome K) [] := by
  obtain ⟨f, fd, D, b⟩ := T.some_
  have c_ltake := c_take_ (P := P) (w := w) (base := base) T
  refine C8.cal0 D b .nil sc_lsome (fun vs H Q E z => ?_) (fun cdv A outer s H vs Q E hr z => ?_)
  · obtain ⟨_, _, _, _, _, rfl, _⟩ := z
    rfl
  · obtain ⟨sd, sc, a, n, xs, rfl, st, hn, na, hs, hx, hl, q⟩ := z
    refine ⟨_, (pss_one (ps_ret (pe_ix ix_list (pv 1) (C8.pe_c c_ltake hr (by decide) (by rfl) (pa_cons (pv 0) (pa_cons (pe_callB call_len_seq (by rfl) T.n_len (by decide +kernel) (pa_cons (pv 1) pa_nil)) pa_nil))) (fun _ _ => rfl)))), ?_⟩
    have l0 : 0 < xs.length := List.length_pos_iff.mpr hx
    refine ⟨.ref a, rfl, .ref sd, rfl, .ref a, rfl, a, xs, rfl, .inl hs, sd, sc, n, xs.length, rfl, st, by omega, by omega, by omega, fun i H1 a1 b1 e1 st1 => ?_⟩
    obtain ⟨v, hv, mv⟩ := at_of a1 b1
    exact ⟨a, xs, i, v, rfl, rfl, e1.sqL na hs, hv, q v H1 mv e1 st1⟩
def spHour : Sp := fun vs H Q _ => ∃ (sd sc : Addr) (n : Nat), vs = [.ref sd] ∧ StOk H sd sc n ∧ n ≤ 900000 ∧ ∀ i H', okHr i → Sm [sd, sc] H H' → StOk H' sd sc (n + 4) → Q (.int i) H'
theorem c_hour_ (T : TxL K mg) : C8.Cal P w K mg base 2 "_law_hour" spHour [] := by
  obtain ⟨f, fd, D, b⟩ := T.hour
  have c_ltake := c_take_ (P := P) (w := w) (base := base) T
  refine C8.cal0 D b .nil sc_lhour (fun vs H Q E z => ?_) (fun cdv A outer s H vs Q E hr z => ?_)
  · obtain ⟨_, _, _, rfl, _⟩ := z
    rfl
  · obtain ⟨sd, sc, n, rfl, st, hn, q⟩ := z
    refine ⟨_, (pss_one (ps_ret (pe_ix ix_list (pe_lst (pa_cons (C8.pe_c c_ltake hr (by decide) (by rfl) (pa_cons (pv 0) (pa_cons pe_int pa_nil))) (pa_cons (C8.pe_c c_ltake hr (by decide) (by rfl) (pa_cons (pv 0) (pa_cons pe_int pa_nil))) (pa_cons (pe_ix ix_list (pe_lst (pa_cons pe_int (pa_cons pe_int pa_nil))) (C8.pe_c c_ltake hr (by decide) (by rfl) (pa_cons (pv 0) (pa_cons pe_int pa_nil))) (fun _ _ => rfl)) pa_nil)))) (C8.pe_c c_ltake hr (by decide) (by rfl) (pa_cons (pv 0) (pa_cons pe_int pa_nil))) (fun _ _ => rfl)))), ?_⟩
    refine ⟨.ref sd, rfl, sd, sc, n, 4, rfl, st, by omega, by decide, by decide, fun i1 H1 a1 b1 e1 st1 => ?_⟩
    refine ⟨.ref sd, rfl, sd, sc, n + 1, 100, rfl, st1, by omega, by decide, by decide, fun i2 H2 a2 b2 e2 st2 => ?_⟩
    refine ⟨by show 2 ≤ sizeLine; decide, fun u hu => ?_⟩
    refine ⟨.ref sd, rfl, sd, sc, n + 2, 2, rfl, st2.keep0 (Sm.new hu), by omega, by decide, by decide, fun i3 H3 a3 b3 e3 st3 => ?_⟩
    obtain ⟨v, hv, mv⟩ := at_of (xs := [V.int 0, V.int 9999]) a3 b3
    refine ⟨u, _, i3, v, rfl, rfl, sqL_at (e3 _ _ (st2.off hu) upd_same), hv, ?_⟩
    obtain ⟨z, rfl, oz⟩ : ∃ z, v = .int z ∧ okHr z := by
      rcases List.mem_cons.mp mv with rfl | mv
      · exact ⟨0, rfl, by decide, by decide⟩
      · exact ⟨9999, List.mem_singleton.mp mv, by decide, by decide⟩
    refine ⟨by show 3 ≤ sizeLine; decide, fun p hp => ?_⟩
    refine ⟨.ref sd, rfl, sd, sc, n + 3, 3, rfl, st3.keep0 (Sm.new hp), by omega, by decide, by decide, fun i4 H4 a4 b4 e4 st4 => ?_⟩
    obtain ⟨v, hv, mv⟩ := at_of (xs := [V.int i1, V.int i2, V.int z]) a4 b4
    refine ⟨p, _, i4, v, rfl, rfl, sqL_at (e4 _ _ (st3.off hp) upd_same), hv, ?_⟩
    have fr : Sm [sd, sc] H H4 := ((((e1.trans e2).trans (Sm.new hu)).trans e3).trans (Sm.new hp)).trans e4
    rcases List.mem_cons.mp mv with rfl | mv
    · exact q _ _ ⟨a1, Int.lt_trans b1 (by decide)⟩ fr st4
    rcases List.mem_cons.mp mv with rfl | mv
    · exact q _ _ ⟨a2, Int.lt_trans b2 (by decide)⟩ fr st4
    · rw [List.mem_singleton.mp mv]
      exact q _ _ oz fr st4
def spBegin (K : PySem.W.Frag) : Sp := fun vs H Q _ => ∃ (a : Addr) (xs : List Int), vs = [.ref a] ∧ SqL K H a (xs.map V.int) ∧ xs.length ≤ 64 ∧ ∀ sd sc H', Sm [] H H' → StOk H' sd sc 0 → Q (.ref sd) H'
theorem c_begin_ (T : TxL K mg) : C8.Cal P w K mg base 1 "_law_begin" (spBegin K) [] := by
  obtain ⟨f, fd, D, b⟩ := T.begin_
  refine C8.cal0 D b .nil sc_lbegin (fun vs H Q E z => ?_) (fun cdv A outer s H vs Q E hr z => ?_)
  · obtain ⟨_, _, rfl, _⟩ := z
    rfl
  · obtain ⟨a, xs, rfl, hs, hl, q⟩ := z
    have hu := hu_of hr
    refine ⟨_, (pss_cons (ps_set (i := 1) sc_lbegin.nd rfl (Or.inl rfl) (pe_callTy call_list_of (by rfl) T.n_list (by decide +kernel) (pa_cons (pe_slice sl_list (pv 0) po_none (po_some pe_int)) pa_nil)))
    (pss_cons (ps_if (pt_cmpR (op_eqD hr.units) (pv 1) (pe_lst pa_nil) (nomark _)) (pss_one (ps_set (i := 1) sc_lbegin.nd rfl (Or.inl rfl) (pe_lst (pa_cons pe_int pa_nil)))) pss_nil)
    (pss_one (ps_ret (pe_disp (pps_cons pe_str (pv 1) (pps_cons pe_str pe_int pps_nil)) (by rfl) (by rfl) (fun z => by cases z) (by decide)))))), ?_⟩
    refine ⟨.ref a, rfl, 63, rfl, a, _, rfl, hs, fun p hp => ?_⟩
    have ec : cutV (xs.map V.int) Option.none (some 63) = (xs.take 63).map V.int := by
      unfold cutV
      rw [HT.sIx_none, show (some 63 : Option Int) = some ((63 : Nat) : Int) from rfl, HT.sIx_nat, List.drop_zero, Nat.sub_zero, List.map_take, List.length_map]
      by_cases h : 63 ≤ xs.length
      · rw [Nat.min_eq_left h]
      · rw [Nat.min_eq_right (by omega), List.take_of_length_le (by rw [List.length_map]; exact Nat.le_refl _), List.take_of_length_le (by rw [List.length_map]; omega)]
    rw [ec]
    have l63 : (xs.take 63).length ≤ 63 := by rw [List.length_take]; omega
    generalize xs.take 63 = cs at l63
    refine ⟨p, _, rfl, .inl (sqL_at upd_same), fun c hc => ?_⟩
    have e1 : Sm [] H (upd H p (.lst (cs.map V.int))) := Sm.new hp
    have e2 := e1.trans (Sm.new (o := .lst (cs.map V.int)) hc)
    refine ⟨.ref c, rfl, by show 0 ≤ sizeLine; decide, fun g hg => ?_⟩
    have hc3 : (upd (upd (upd H p (.lst (cs.map V.int))) c (.lst (cs.map V.int))) g (.lst [])) c = some (.lst (cs.map V.int)) := at_new hg upd_same
    have hds : ∀ x ∈ cs.map PyData.int, x.canLay0 = true ∧ x.depth ≤ 0 := fun x m => by
      obtain ⟨i, _, rfl⟩ := List.mem_map.mp m
      exact ⟨rfl, Nat.le_refl _⟩
    refine ⟨.list (cs.map PyData.int), .list [], .lst (sqL_at hc3) (dp_ints cs), .lst (sqL_at upd_same) .nil, shaped_list (B := 0) (by decide) hds, shaped_list (B := 0) (by decide) (fun x m => by cases m), ?_⟩
    have e3 := e2.trans (Sm.new (o := .lst []) hg)
    have fin : ∀ (l : Addr) (H5 : Hp) (ds : List Int), Sm [] H H5 → H5 l = some (.lst (ds.map V.int)) → 1 ≤ ds.length → ds.length ≤ 63 → ∀ r, H5 r = Option.none →
        Sm [] H (upd (upd H5 r (.dK [])) r (.dK (mergeK [] [(kC, .ref l), (kT, .int 0)]))) ∧ StOk (upd (upd H5 r (.dK [])) r (.dK (mergeK [] [(kC, .ref l), (kT, .int 0)]))) r l 0 := by
      intro l H5 ds e5 hl5 d1 d2 r hr5
      have nr := e5.free0 hr5
      refine ⟨(e5.trans (Sm.new hr5)).mut nr, 0, ds, Int.le_refl _, Int.le_refl _, ?_, ?_, d1, by omega⟩
      · rw [upd_same]
        have ek : decide (kC = kT) = false := decide_eq_false kCT
        simp [mergeK, putK, stK, ek]
      · rw [upd_upd]
        exact at_new hr5 hl5
    cases cs with
    | nil =>
      refine ⟨_, rfl, ite2 (fun _ => ?_) (fun z => absurd rfl z)⟩
      refine ⟨by show 1 ≤ sizeLine; decide, fun h hh => fun r hr5 => ?_⟩
      have e4 := e3.trans (Sm.new (o := .lst [V.int 17]) hh)
      obtain ⟨z1, z2⟩ := fin h _ [17] e4 upd_same (by decide) (by decide) r hr5
      exact ⟨.ref h, rfl, upd_same, [(kC, .ref h), (kT, .int 0)], rfl, (by show 2 ≤ 15; decide), q r h _ z1 z2⟩
    | cons x xs' =>
      refine ⟨_, rfl, ite2 (fun z => by cases z) (fun _ => ?_)⟩
      intro r hr5
      obtain ⟨z1, z2⟩ := fin c _ (x :: xs') e3 hc3 (by rw [List.length_cons]; omega) l63 r hr5
      exact ⟨.ref c, rfl, upd_same, [(kC, .ref c), (kT, .int 0)], rfl, (by show 2 ≤ 15; decide), q r c _ z1 z2⟩
theorem c_lrow_ (T : TxL K mg) : C8.Cal P w K mg base 1 "_law_row" (spRow K) [] := by
  obtain ⟨f, fd, D, b⟩ := T.row
  refine C8.cal0 D b .nil sc_lrow (fun vs H Q E z => ?_) (fun cdv A outer s H vs Q E hr z => ?_)
  · obtain ⟨_, _, _, rfl, _⟩ := z
    rfl
  · obtain ⟨x, a, ps, rfl, hps, hx, ok, hl, q⟩ := z
    refine ⟨_, (pss_one (ps_ret (pe_join pe_str (pe_op op_cat (pe_lst (pa_cons (pv 0) pa_nil)) (pe_lc (own := [("_law_part", 2)]) (g := (gName 2)) (tt := tYes) rfl sc_lrow.nd (pi_seq (pv 1)) (blkOk_by (own := [("_law_part", 2)]) (N := nm_lrow) (sc := C8.fnScope s_lrow) (by decide +kernel)) (fun _ _ _ _ _ => (pg_name (i := 2) sc_lrow.nd rfl (Or.inl rfl))) (fun _ _ _ _ _ => pts_nil) (fun _ _ _ _ _ => (pe_ifExp (pt_cmpR op_isN (pv 2) pe_non (nomark _)) pe_str (pe_callTy call_strA (by rfl) T.n_str (by decide +kernel) (pa_cons (pv 2) pa_nil))))))))), ?_⟩
    refine ⟨⟨_, rfl⟩, .str x, rfl, by show 1 ≤ sizeLine; decide, fun p hp => ?_⟩
    have fin : ∀ c H2, (upd H p (.lst [.str x])) c = Option.none → Sm [] (upd H p (.lst [.str x])) H2 → H2 c = some (.lst (ps.map fun v => V.str (partT v))) →
        ∃ l b xs zs, V.ref p = .ref l ∧ V.ref c = .ref b ∧ H2 l = some (.lst xs) ∧ H2 b = some (.lst zs) ∧ xs.length + zs.length ≤ sizeLine ∧ ∀ r, H2 r = Option.none →
          (fun (y : V) (H2 : Hp) => ∃ a p, ∃ ys : List Str, V.str " " = .str a ∧ [y] = [.ref p] ∧ (SqL K H2 p (ys.map V.str) ∨ SqT K H2 p (ys.map V.str)) ∧ (ys.map (·.length)).sum + ys.length * a.length ≤ 16777216 ∧ Q (.str (Txt.join a ys)) H2) (.ref r) (upd H2 r (.lst (xs ++ zs))) := by
      intro c H2 hc e2 hd
      refine ⟨p, c, [.str x], _, rfl, rfl, e2 _ _ (by simp) upd_same, hd, ?_, fun r hr2 => ⟨" ", r, x :: ps.map partT, rfl, rfl, .inl (sqL_at ?_), rowT_fits hx ok hl, ?_⟩⟩
      · rw [List.length_map, List.length_singleton]
        exact Nat.le_of_lt (small1000 (by omega))
      · rw [upd_same, List.map_cons, List.map_map]
        rfl
      · exact q _ (((Sm.new hp).trans e2).trans (Sm.new hr2))
    have el : ∀ (i : Nat) (y z : V) (H2 : Hp), ps[i]? = some y → (ps.map fun v => V.str (partT v))[i]? = some z → Sm [] (upd H p (.lst [.str x])) H2 → ∀ k : VK, (∀ H3, Sm [] H2 H3 → k z H3) →
        tIf (tTest (tOp (fun x y H Q => y = .non ∧ Q (.bl (decide (x = .non))) H) (tVar 2) (tC .non))) (tC (.str "never")) (tCB (fun xs H Q => (∃ i, xs = [.int i] ∧ i.natAbs.log2 < 1920 ∧ Q (.str (toString i)) H) ∨ ∃ a, xs = [.str a] ∧ Q (.str a) H) (tCons (tVar 2) tNil))
          ((wipe (L2.start nm_lrow [.str x, .ref a]) [2]).set 2 (some y)) H2 k := by
      intro i y z H2 hy hz e2 k hk
      rw [List.getElem?_map, hy] at hz
      cases hz
      exact part_el (v := y) rfl (ok y (List.mem_of_getElem? hy)) (fun k h => h) k (hk H2 (Sm.refl H2))
    rcases hps with hps | hps
    · exact Or.inl ⟨V.ref a, rfl, a, rfl, ⟨ps, sqL_new hp hps⟩, fun c hc => lc_pure walk_list hc (List.length_map _) (by omega) (fun _ => rfl) (fun H2 e2 => e2.sqL (by simp) (sqL_new hp hps)) el fun H2 e2 hd => fin c H2 hc e2 hd⟩
    · exact Or.inr ⟨V.ref a, rfl, a, rfl, ⟨ps, sqT_new hp hps⟩, fun c hc => lc_pure walk_tup hc (List.length_map _) (by omega) (fun _ => rfl) (fun H2 e2 => e2.sqT (by simp) (sqT_new hp hps)) el fun H2 e2 hd => fin c H2 hc e2 hd⟩
end
end Zz

/-! Names as the law draws them. -/
namespace Zz
open PySem PySem.Spec PyProof.Rows L2
def okN (B : Nat) (s : Str) : Prop := s.length ≤ B ∧ ∀ c ∈ TL.tl s, c < 0x110000
theorem okN.mono {A B : Nat} {s : Str} (h : okN A s) (l : A ≤ B) : okN B s := ⟨Nat.le_trans h.1 l, h.2⟩
theorem okN.add {A B : Nat} {x y : Str} (h : okN A x) (g : okN B y) : okN (A + B) (x ++ y) := by
  refine ⟨?_, fun c m => ?_⟩
  · rw [← tl_len, TL.tl_append, List.length_append, tl_len, tl_len]
    exact Nat.add_le_add h.1 g.1
  · rw [TL.tl_append] at m
    exact (List.mem_append.mp m).elim (h.2 c) (g.2 c)
theorem okN.cut {A : Nat} {x : Str} (h : okN A x) (lo hi : Option Int) : okN A (cutS x lo hi) :=
  ⟨Nat.le_trans (cutS_length x lo hi) h.1, fun c m => h.2 c (List.mem_of_mem_drop (List.mem_of_mem_take m))⟩
theorem okN.lay {A : Nat} {x : Str} (h : okN A x) : PyData.strOk x = true := by
  unfold PyData.strOk
  rw [Array.all_eq_true_iff_forall_mem]
  intro c m
  exact decide_eq_true (h.2 c (Array.mem_toList_iff.mpr m))
def abc : Str := "abcdefghijklmnopqrstuvwxyz"
theorem abc_len : abc.cps.toList.length = 26 := by decide +kernel
theorem abc_lt : ∀ c ∈ abc.cps.toList, c < 0x110000 := by decide +kernel
theorem okN_sgn {c : Nat} (h : c ∈ abc.cps.toList) : okN 1 ⟨#[c]⟩ := ⟨Nat.le_refl _, fun d m => by
  have : d = c := List.mem_singleton.mp m
  rw [this]; exact abc_lt c h⟩
theorem joinL_mem {S : List Nat} {c : Nat} : ∀ {l : List (List Nat)}, c ∈ TL.joinL S l → c ∈ S ∨ ∃ p ∈ l, c ∈ p
  | [], m => by cases m
  | [p], m => .inr ⟨p, .head _, m⟩
  | p :: q :: r, m => by
    have m : c ∈ p ++ (S ++ TL.joinL S (q :: r)) := m
    rcases List.mem_append.mp m with m | m
    · exact .inr ⟨p, .head _, m⟩
    rcases List.mem_append.mp m with m | m
    · exact .inl m
    · rcases joinL_mem m with m | ⟨x, hx, hm⟩
      · exact .inl m
      · exact .inr ⟨x, .tail _ hx, hm⟩
theorem okN_join {B : Nat} {l : List Str} (h : ∀ x ∈ l, okN 1 x) (hl : l.length ≤ B) : okN B (Txt.join "" l) := by
  refine ⟨?_, fun c m => ?_⟩
  · rw [join_len]
    have h1 : (l.map (·.length)).sum ≤ (l.map (·.length)).length * 1 := sum_le fun x m => by
      obtain ⟨y, hy, rfl⟩ := List.mem_map.mp m
      exact (h y hy).1
    have h2 : ("" : Str).length = 0 := by decide
    rw [h2]
    rw [List.length_map] at h1
    omega
  · rw [TL.join_eq, TL.tl_join] at m
    rcases joinL_mem m with m | ⟨p, hp, hm⟩
    · have e : TL.tl ("" : Str) = [] := by decide
      rw [e] at m; cases m
    · obtain ⟨x, hx, rfl⟩ := List.mem_map.mp hp
      exact (h x hx).2 c hm
theorem fit1 {l : List Str} (h : ∀ x ∈ l, okN 1 x) (hl : l.length ≤ 20) : (l.map (·.length)).sum + l.length * ("" : Str).length ≤ 16777216 := by
  have h1 : (l.map (·.length)).sum ≤ (l.map (·.length)).length * 1 := sum_le fun x m => by
    obtain ⟨y, hy, rfl⟩ := List.mem_map.mp m
    exact (h y hy).1
  have h2 : ("" : Str).length = 0 := by decide
  rw [h2]
  rw [List.length_map] at h1
  omega
theorem okN.line {A : Nat} {x : Str} (h : okN A x) (l : A ≤ 1000) : x.length ≤ sizeLine := Nat.le_of_lt (small1000 (Nat.le_trans h.1 l))
section
variable {P : Program} {w : World} {K : PySem.W.Frag} {mg : Str → Option Value} {base : Heap} {CB CE CR CS : Addr}
/-- a new list of names stands at p -/
def NmAt (H : Hp) (p : Addr) (xs : List Str) : Prop := H p = some (.lst (xs.map V.str)) ∧ ∀ x ∈ xs, okN 40 x
def spNames : Sp := fun vs H Q _ => ∃ (sd sc : Addr) (n : Nat) (m : Int), vs = [.ref sd, .int m] ∧ StOk H sd sc n ∧ n ≤ 900000 ∧ 0 ≤ m ∧ m ≤ 20 ∧
  ∀ p xs H', H p = Option.none → NmAt H' p xs → xs.length = m.toNat → Sm [sd, sc] H H' → StOk H' sd sc (n + 40) → Q (.ref p) H'
theorem c_names_ (T : TxL K mg) : C8.Cal P w K mg base 2 "_law_names" spNames [] := by
  obtain ⟨f, fd, D, b⟩ := T.names
  have c_ltake := c_take_ (P := P) (w := w) (base := base) T
  refine C8.cal0 D b .nil sc_lnames (fun vs H Q E z => ?_) (fun cdv A outer s H vs Q E hr z => ?_)
  · obtain ⟨_, _, _, _, rfl, _⟩ := z
    rfl
  · obtain ⟨sd, sc, n, m, rfl, st, hn, m0, m1, q⟩ := z
    refine ⟨_, (pss_cons (ps_asg (pe_tup (pa_cons pe_str (pa_cons (C8.pe_c c_ltake hr (by decide) (by rfl) (pa_cons (pv 0) (pa_cons pe_int pa_nil))) (pa_cons (C8.pe_c c_ltake hr (by decide) (by rfl) (pa_cons (pv 0) (pa_cons pe_int pa_nil))) pa_nil)))) (pg_tup rfl (pgs_cons (pg_name (i := 2) sc_lnames.nd rfl (Or.inr rfl)) (pgs_cons (pg_name (i := 3) sc_lnames.nd rfl (Or.inl rfl)) (pgs_cons (pg_name (i := 4) sc_lnames.nd rfl (Or.inl rfl)) pgs_nil)))))
    (pss_cons (ps_set (i := 5) sc_lnames.nd rfl (Or.inl rfl) (pe_join pe_str (pe_lc (own := [("_law_turn", 12)]) (g := (gName 12)) (tt := tYes) rfl sc_lnames.nd (pi_range1 (by rfl) T.n_range (pa_cons (C8.pe_c c_ltake hr (by decide) (by rfl) (pa_cons (pv 0) (pa_cons pe_int pa_nil))) pa_nil)) (blkOk_by (own := [("_law_turn", 12)]) (N := nm_lnames) (sc := C8.fnScope s_lnames) (by decide +kernel)) (fun _ _ _ _ _ => (pg_name (i := 12) sc_lnames.nd rfl (Or.inl rfl))) (fun _ _ _ _ _ => pts_nil) (fun _ _ _ _ _ => (pe_ix ix_str (pv 2) (C8.pe_c c_ltake hr (by decide) (by rfl) (pa_cons (pv 0) (pa_cons pe_int pa_nil))) (fun _ _ => rfl))))))
    (pss_cons (ps_par3 (i := 6) (j := 7) (l := 8) rfl sc_lnames.nd rfl rfl rfl (by decide) (by decide) (by decide) rfl rfl rfl (pa_cons (C8.pe_c c_ltake hr (by decide) (by rfl) (pa_cons (pv 0) (pa_cons (pe_op op_add (pe_callB call_len_str (by rfl) T.n_len (by decide +kernel) (pa_cons (pv 5) pa_nil)) pe_int) pa_nil))) (pa_cons (pe_ix ix_list (pe_lst (pa_cons pe_int (pa_cons pe_int (pa_cons pe_int pa_nil)))) (C8.pe_c c_ltake hr (by decide) (by rfl) (pa_cons (pv 0) (pa_cons pe_int pa_nil))) (fun _ _ => rfl)) (pa_cons (C8.pe_c c_ltake hr (by decide) (by rfl) (pa_cons (pv 0) (pa_cons pe_int pa_nil))) pa_nil))) rfl)
    (pss_cons (ps_set (i := 9) sc_lnames.nd rfl (Or.inl rfl) (pe_lst pa_nil))
    (pss_cons (ps_for PassesOwn.never rfl (pi_range1 (by rfl) T.n_range (pa_cons (pv 1) pa_nil)) (pg_name (i := 10) sc_lnames.nd rfl (Or.inl rfl))
    (pss_cons (ps_set (i := 11) sc_lnames.nd rfl (Or.inl rfl) (pe_op op_add_str (pe_slice sl_str (pv 5) po_none (po_some (pv 6))) (pe_ix ix_str (pv 2) (pe_op op_mod (pe_op op_add (pv 3) (pe_op op_mul (pv 7) (pv 10))) pe_int) (fun _ _ => rfl))))
    (pss_cons (ps_set (i := 11) sc_lnames.nd rfl (Or.inl rfl) (pe_op op_add_str (pv 11) (pe_ix ix_list (pe_lst (pa_cons (pe_slice sl_str (pv 5) (po_some (pv 6)) po_none) (pa_cons (pe_slice sl_str (pe_slice sl_str (pv 5) (po_some (pv 6)) po_none) po_none (po_some (pe_op op_mod (pv 10) pe_int))) pa_nil))) (pv 8) (fun _ _ => rfl))))
    (pss_cons (ps_if (PW.pt (pw_and (pt_cmpR op_eq (pv 4) pe_int (nomark _)) (pw_and (pt_cmpR op_eq (pe_op op_mod (pv 10) pe_int) pe_int (nomark _)) (pw_and1 (pt_cmpR op_lt (pe_callB call_len_str (by rfl) T.n_len (by decide +kernel) (pa_cons (pe_ix ix_list (pv 9) (pe_un un_neg pe_int) (fun _ _ => rfl)) pa_nil)) pe_int (nomark _)))))) (pss_one (ps_set (i := 11) sc_lnames.nd rfl (Or.inl rfl) (pe_op op_add_str (pe_ix ix_list (pv 9) (pe_un un_neg pe_int) (fun _ _ => rfl)) (pe_ix ix_str (pv 2) (C8.pe_c c_ltake hr (by decide) (by rfl) (pa_cons (pv 0) (pa_cons pe_int pa_nil))) (fun _ _ => rfl))))) pss_nil)
    (pss_one (ps_expr (pe_bm PySem.F.plainAttrs_list PySem.F.slot_list_append PySem.F.type_list_append mt_append (pv 9) (pa_cons (pv 11) pa_nil))))))))
    (pss_one (ps_ret (pv 9)))))))), ?_⟩
    -- letters, first, pairs
    refine ⟨.ref sd, rfl, sd, sc, n, 26, rfl, st, by omega, by decide, by decide, fun i1 H1 a1 b1 e1 st1 => ?_⟩
    refine ⟨.ref sd, rfl, sd, sc, n + 1, 2, rfl, st1, by omega, by decide, by decide, fun i2 H2 a2 b2 e2 st2 => ?_⟩
    refine ⟨by show 3 ≤ sizeLine; decide, fun u hu => ⟨u, _, rfl, sqT_at upd_same, rfl, .str abc, _, rfl, .int i1, _, rfl, .int i2, [], rfl, rfl, ?_⟩⟩
    -- stem
    have st2' := st2.keep0 (Sm.new (o := .tup [.str abc, .int i1, .int i2]) hu)
    refine ⟨⟨_, rfl⟩, .ref sd, rfl, sd, sc, n + 2, 8, rfl, st2', by omega, by decide, by decide, fun i3 H3 a3 b3 e3 st3 => ?_⟩
    have fr3 : Sm [sd, sc] H H3 := ((e1.trans e2).trans (Sm.new hu)).trans e3
    refine ⟨i3, rfl, by omega, by omega, fun c hc => ?_⟩
    have ncs := st3.off hc
    have ncH : H c = Option.none := fr3.free ncs hc
    refine lc_it walk_range (fun i H4 => i ≤ 8 ∧ Sm [sd, sc] H H4 ∧ StOk H4 sd sc (n + 3 + i) ∧ ∃ l : List Str, H4 c = some (.lst (l.map V.str)) ∧ l.length = i ∧ ∀ x ∈ l, okN 1 x)
      ⟨by decide, fr3.trans (Sm.new hc), st3.keep0 (Sm.new hc), [], upd_same, rfl, fun x m => by cases m⟩ (fun _ _ _ _ => True.intro) ?_ ?_
    · rintro i x H4 H5 hi ⟨i8, e4, st4, l, hl, ll, ol⟩ ⟨rfl, rfl⟩
      refine ⟨rfl, yes_go ?_⟩
      refine ⟨.str abc, rfl, .ref sd, rfl, sd, sc, n + 3 + i, 26, rfl, st4, by omega, by decide, by decide, fun i4 H6 a4 b4 e6 st6 => ?_⟩
      obtain ⟨v, hv, mv⟩ := at_of (xs := abc.cps.toList) a4 (by rw [abc_len]; exact b4)
      refine ⟨abc, i4, v, rfl, rfl, by show 26 ≤ sizeLine; decide, hv, l.map V.str, e6 _ _ ncs hl, ?_, by omega, ?_, (st6.mono (by omega)).keep (Sm.at (S := [c]) (by simp)) ?_ ?_, l ++ [⟨#[v]⟩], ?_, ?_, ?_⟩
      · rw [List.length_map]; exact small1000 (by omega)
      · exact (e4.trans e6).mut ncH
      · exact fun z => ncs (by rw [List.mem_singleton.mp z]; simp)
      · exact fun z => ncs (by rw [List.mem_singleton.mp z]; simp)
      · rw [upd_same, List.map_append]; rfl
      · rw [List.length_append, ll]; rfl
      · intro x m
        rcases List.mem_append.mp m with m | m
        · exact ol x m
        · rw [List.mem_singleton.mp m]; exact okN_sgn mv
    rintro H4 ⟨i8, e4, st4, l, hl, ll, ol⟩
    refine ⟨"", c, l, rfl, rfl, .inl (sqL_at hl), fit1 ol (by omega), ?_⟩
    have os := okN_join ol (B := 8) (by omega)
    generalize Txt.join "" l = stem at os
    have nst : n + 3 + i3.toNat ≤ n + 10 := by omega
    have st4 := st4.mono nst
    have sl : stem.length ≤ 8 := os.1
    -- at, step, short
    refine ⟨.ref sd, rfl, .str stem, rfl, stem, rfl, os.line (by decide), _, _, rfl, rfl, sd, sc, n + 10, _, rfl, st4, by omega, by omega, by omega, fun at_ H5 a5 b5 e5 st5 => ?_⟩
    refine ⟨by show 3 ≤ sizeLine; decide, fun u5 hu5 => ?_⟩
    refine ⟨.ref sd, rfl, sd, sc, n + 11, 3, rfl, st5.keep0 (Sm.new hu5), by omega, by decide, by decide, fun i6 H6 a6 b6 e6 st6 => ?_⟩
    obtain ⟨v6, hv6, mv6⟩ := at_of (xs := [V.int 3, V.int 5, V.int 25]) a6 b6
    refine ⟨u5, _, i6, v6, rfl, rfl, sqL_at (e6 _ _ (st5.off hu5) upd_same), hv6, ?_⟩
    obtain ⟨stp, rfl, p0, p1⟩ : ∃ z, v6 = .int z ∧ 0 ≤ z ∧ z ≤ 25 := by
      rcases List.mem_cons.mp mv6 with rfl | mv6
      · exact ⟨3, rfl, by decide, by decide⟩
      rcases List.mem_cons.mp mv6 with rfl | mv6
      · exact ⟨5, rfl, by decide, by decide⟩
      · exact ⟨25, List.mem_singleton.mp mv6, by decide, by decide⟩
    refine ⟨.ref sd, rfl, sd, sc, n + 12, 2, rfl, st6, by omega, by decide, by decide, fun sh H7 a7 b7 e7 st7 => ?_⟩
    refine ⟨.int at_, .int stp, .int sh, rfl, ?_⟩
    have fr7 : Sm [sd, sc] H H7 := (((e4.trans e5).trans (Sm.new hu5)).trans e6).trans e7
    -- found
    refine ⟨by show 0 ≤ sizeLine; decide, fun p hp => ?_⟩
    have np := st7.off hp
    have npH : H p = Option.none := fr7.free np hp
    refine ⟨.int m, rfl, m, rfl, by omega, by omega, for_range (fun i σ H8 => i ≤ 20 ∧ ∃ (kx nx tx : Option V) (xs : List Str), σ = [some (.ref sd), some (.int m), some (.str abc), some (.int i1), some (.int i2), some (.str stem), some (.int at_), some (.int stp), some (.int sh), some (.ref p), kx, nx, tx] ∧
      Sm [sd, sc] H H8 ∧ StOk H8 sd sc (n + 13 + i) ∧ H8 p = some (.lst (xs.map V.str)) ∧ xs.length = i ∧ ∀ x ∈ xs, okN 18 x) ⟨by decide, none, none, none, [], rfl, fr7.trans (Sm.new hp), st7.keep0 (Sm.new hp), upd_same, rfl, fun x m => by cases m⟩ ?_ ?_⟩
    · rintro i σ H8 hi ⟨i20, kx, nx, tx, xs, rfl, e8, st8, hp8, lx, ox⟩
      -- the name so far
      refine ⟨.str stem, rfl, .int at_, rfl, at_, rfl, stem, rfl, os.line (by decide), .str abc, rfl, .int i1, rfl, .int stp, rfl, _, rfl, _, _, rfl, rfl, .inl ⟨by omega, by omega⟩, _, _, rfl, rfl, _, _, rfl, rfl, (by show (0 : Int) < 26; decide), ?_⟩
      obtain ⟨c1, hc1, mc1⟩ := at_of (xs := abc.cps.toList) (i := (i1 + stp * (0 + (i : Int))) % 26) (Int.emod_nonneg _ (by decide)) (by rw [abc_len]; exact Int.emod_lt_of_pos _ (by decide))
      have ok1 := okN_sgn mc1
      have okc := os.cut Option.none (some at_)
      refine ⟨abc, _, c1, rfl, rfl, by show 26 ≤ sizeLine; decide, hc1, _, _, rfl, rfl, ?_, ?_⟩
      · have := okc.1
        have := ok1.1
        exact Nat.le_of_lt (small1000 (by omega))
      have okn := okc.add ok1
      generalize cutS stem Option.none (some at_) ++ ⟨#[c1]⟩ = nm at okn
      have okt := os.cut (some at_) Option.none
      generalize hts : cutS stem (some at_) Option.none = ts at okt
      refine ⟨.str nm, rfl, .str stem, rfl, .int at_, rfl, at_, rfl, stem, rfl, os.line (by decide), .str stem, rfl, .int at_, rfl, at_, rfl, stem, rfl, os.line (by decide), _, rfl, _, _, rfl, rfl, (by show (0 : Int) < 3; decide), _, rfl, _, rfl, ?_, by show 2 ≤ sizeLine; decide, fun u9 hu9 => ?_⟩
      · rw [hts]; exact okt.line (by decide)
      rw [hts]
      have okt2 := okt.cut Option.none (some ((0 + (i : Int)) % 3))
      generalize cutS ts Option.none (some ((0 + (i : Int)) % 3)) = ts2 at okt2
      obtain ⟨v9, hv9, mv9⟩ := at_of (xs := [V.str ts, V.str ts2]) a7 b7
      obtain ⟨tl, rfl, okl⟩ : ∃ z, v9 = .str z ∧ okN 8 z := by
        rcases List.mem_cons.mp mv9 with rfl | mv9
        · exact ⟨_, rfl, okt⟩
        · exact ⟨_, List.mem_singleton.mp mv9, okt2⟩
      refine ⟨.int sh, rfl, u9, _, sh, .str tl, rfl, rfl, sqL_at upd_same, hv9, nm, tl, rfl, rfl, ?_, ?_⟩
      · have := okn.1
        have := okl.1
        exact Nat.le_of_lt (small1000 (by omega))
      have okf := (okn.add okl).mono (B := 18) (by decide)
      generalize nm ++ tl = nm2 at okf
      have e9 : Sm [sd, sc] H _ := e8.trans (Sm.new (o := .lst [V.str ts, V.str ts2]) hu9)
      have st9 := st8.keep0 (Sm.new (o := .lst [V.str ts, V.str ts2]) hu9)
      have hp9 := at_new (o := .lst [V.str ts, V.str ts2]) hu9 hp8
      generalize upd H8 u9 (.lst [V.str ts, V.str ts2]) = H9 at e9 st9 hp9
      have app : ∀ (s : Str) (H10 : Hp), okN 18 s → Sm [sd, sc] H H10 → StOk H10 sd sc (n + 13 + i + 1) → H10 p = some (.lst (xs.map V.str)) →
          ∃ l ys v, V.ref p = .ref l ∧ [V.str s] = [v] ∧ H10 l = some (.lst ys) ∧ ys.length < sizeLine ∧ i + 1 ≤ 20 ∧ ∃ (k' n' t' : Option V) (zs : List Str), ([some (.ref sd), some (.int m), some (.str abc), some (.int i1), some (.int i2), some (.str stem), some (.int at_), some (.int stp), some (.int sh), some (.ref p), some (.int (0 + (i : Int))), some (.str s), tx] : L2.St) = [some (.ref sd), some (.int m), some (.str abc), some (.int i1), some (.int i2), some (.str stem), some (.int at_), some (.int stp), some (.int sh), some (.ref p), k', n', t'] ∧
            Sm [sd, sc] H (upd H10 l (.lst (ys ++ [v]))) ∧ StOk (upd H10 l (.lst (ys ++ [v]))) sd sc (n + 13 + (i + 1)) ∧ (upd H10 l (.lst (ys ++ [v]))) p = some (.lst (zs.map V.str)) ∧ zs.length = i + 1 ∧ ∀ x ∈ zs, okN 18 x := by
        intro s H10 okS e10 st10 hp10
        refine ⟨p, _, _, rfl, rfl, hp10, ?_, by omega, some (.int (0 + (i : Int))), some (.str s), tx, xs ++ [s], rfl, e10.mut npH, st10.keep (Sm.at (S := [p]) (by simp)) (fun z => np (by rw [List.mem_singleton.mp z]; simp)) (fun z => np (by rw [List.mem_singleton.mp z]; simp)), ?_, by rw [List.length_append, lx]; rfl, ?_⟩
        · rw [List.length_map]; exact small1000 (by omega)
        · rw [upd_same, List.map_append]; rfl
        · intro x m
          rcases List.mem_append.mp m with m | m
          · exact ox x m
          · rw [List.mem_singleton.mp m]; exact okS
      have st9' := st9.mono (show n + 13 + i ≤ n + 13 + i + 1 by omega)
      refine ⟨.int i2, rfl, rfl, _, rfl, ite2 (fun _ => ?_) (fun _ => iteF ⟨.ref p, rfl, .inl ⟨rfl, _, sqL_at hp9⟩, .str nm2, rfl, app nm2 _ okf e9 st9' hp9⟩)⟩
      refine ⟨.int (0 + (i : Int)), rfl, _, _, rfl, rfl, (by show (0 : Int) < 2; decide), rfl, _, rfl, ite2 (fun h2 => ?_) (fun _ => iteF ⟨.ref p, rfl, .inl ⟨rfl, _, sqL_at hp9⟩, .str nm2, rfl, app nm2 _ okf e9 st9' hp9⟩)⟩
      have h3 : (0 + (i : Int)) % 2 = 1 := V.int.inj (of_decide_eq_true h2)
      have nx0 : xs ≠ [] := fun z => by rw [z] at lx; have : i = 0 := lx.symm; rw [this] at h3; exact absurd h3 (by decide)
      obtain ⟨ys, z, rfl⟩ : ∃ ys z, xs = ys ++ [z] := ⟨xs.dropLast, xs.getLast nx0, (List.dropLast_concat_getLast nx0).symm⟩
      have okz := ox z (List.mem_append_right _ (by simp))
      have hat : atI ((ys ++ [z]).map V.str) (-1) = some (.str z) := by
        unfold atI ixN
        rw [List.length_map, List.length_append, List.length_singleton, if_neg (by decide), if_pos (by omega)]
        show ((ys ++ [z]).map V.str)[_]? = _
        rw [show ((-1 : Int) + ((ys.length + 1 : Nat) : Int)).toNat = ys.length by omega, List.map_append, List.getElem?_append_right (by rw [List.length_map]; exact Nat.le_refl _), List.length_map, Nat.sub_self]
        rfl
      refine ⟨.ref p, rfl, 1, rfl, p, _, -1, .str z, rfl, rfl, sqL_at hp9, hat, z, rfl, okz.line (by decide), _, _, rfl, rfl, _, rfl, ite2 (fun h4 => ?_) (fun _ => ⟨.ref p, rfl, .inl ⟨rfl, _, sqL_at hp9⟩, .str nm2, rfl, app nm2 _ okf e9 st9' hp9⟩)⟩
      have h5 : z.length < 8 := by
        have : (z.length : Int) < 8 := of_decide_eq_true h4
        omega
      refine ⟨.ref p, rfl, 1, rfl, p, _, -1, .str z, rfl, rfl, sqL_at hp9, hat, .str abc, rfl, .ref sd, rfl, sd, sc, n + 13 + i, 26, rfl, st9, by omega, by decide, by decide, fun ix H10 a10 b10 e10 st10 => ?_⟩
      obtain ⟨c2, hc2, mc2⟩ := at_of (xs := abc.cps.toList) a10 (by rw [abc_len]; exact b10)
      have ok2 := okN_sgn mc2
      refine ⟨abc, ix, c2, rfl, rfl, by show 26 ≤ sizeLine; decide, hc2, z, _, rfl, rfl, ?_, ?_⟩
      · have := ok2.1
        exact Nat.le_of_lt (small1000 (by omega))
      have okE := (okN.add (A := 8) ⟨by omega, okz.2⟩ ok2).mono (B := 18) (by decide)
      generalize z ++ ⟨#[c2]⟩ = nm3 at okE
      trace_state
      exact ⟨.ref p, rfl, .inl ⟨rfl, _, sqL_at (e10 _ _ np hp9)⟩, .str nm3, rfl, app nm3 H10 okE (e9.trans e10) st10 (e10 _ _ np hp9)⟩
    · rintro σ H8 ⟨i20, kx, nx, tx, xs, rfl, e8, st8, hp8, lx, ox⟩
      exact ⟨.ref p, rfl, q p xs H8 npH ⟨hp8, fun x m => (ox x m).mono (by decide)⟩ lx e8 (st8.mono (by omega))⟩
end
end Zz

/-! Names turned to words; the palette. -/
namespace Zz
open PySem PySem.Spec PyProof.Rows L2
def wordsL : List Str := ["never", "at", "undo", "slots", "done", "wash", "pot", "kind", "colour", "team", "fill", "gather", "new"]
theorem wordsL_ok : ∀ x ∈ wordsL, okN 40 x := by
  have h : ∀ x ∈ wordsL, x.length ≤ 40 ∧ ∀ c ∈ TL.tl x, c < 0x110000 := by decide +kernel
  exact h
theorem map_str_mem {xs : List Str} {v : V} (h : v ∈ xs.map V.str) : ∃ s, v = .str s ∧ s ∈ xs := by
  obtain ⟨s, hs, e⟩ := List.mem_map.mp h
  exact ⟨s, e.symm, hs⟩
theorem flat_strs (xs : List Str) : (xs.map V.str).all flatV = true := by
  rw [List.all_eq_true]
  intro v m
  obtain ⟨s, rfl, _⟩ := map_str_mem m
  rfl
theorem NmAt.keep {H H' : Hp} {p : Addr} {xs : List Str} {S : List Addr} (h : NmAt H p xs) (e : Sm S H H') (n : p ∉ S) : NmAt H' p xs := ⟨e _ _ n h.1, h.2⟩
section
variable {P : Program} {w : World} {K : PySem.W.Frag} {mg : Str → Option Value} {base : Heap} {CB CE CR CS : Addr}
def spWordy : Sp := fun vs H Q _ => ∃ (sd sc a : Addr) (n : Nat) (xs : List Str), vs = [.ref sd, .ref a] ∧ StOk H sd sc n ∧ n ≤ 900000 ∧ a ∉ [sd, sc] ∧ NmAt H a xs ∧ xs.length ≤ 20 ∧
  ∀ p ys H', H p = Option.none → NmAt H' p ys → ys.length = xs.length → Sm [sd, sc] H H' → StOk H' sd sc (n + 16) → Q (.ref p) H'
theorem c_wordy_ (T : TxL K mg) : C8.Cal P w K mg base 2 "_law_wordy" spWordy [] := by
  obtain ⟨f, fd, D, b⟩ := T.wordy
  have c_ltake := c_take_ (P := P) (w := w) (base := base) T
  refine C8.cal0 D b .nil sc_lwordy (fun vs H Q E z => ?_) (fun cdv A outer s H vs Q E hr z => ?_)
  · obtain ⟨_, _, _, _, _, rfl, _⟩ := z
    rfl
  · obtain ⟨sd, sc, a, n, xs, rfl, st, hn, na, hx, lx, q⟩ := z
    refine ⟨_, (pss_cons (ps_set (i := 2) sc_lwordy.nd rfl (Or.inl rfl) (pe_lst (pa_cons pe_str (pa_cons pe_str (pa_cons pe_str (pa_cons pe_str (pa_cons pe_str (pa_cons pe_str (pa_cons pe_str (pa_cons pe_str (pa_cons pe_str (pa_cons pe_str (pa_cons pe_str (pa_cons pe_str (pa_cons pe_str pa_nil)))))))))))))))
    (pss_cons (ps_par (i := 3) (j := 4) rfl sc_lwordy.nd rfl rfl (by decide) rfl rfl (pa_cons (C8.pe_c c_ltake hr (by decide) (by rfl) (pa_cons (pv 0) (pa_cons pe_int pa_nil))) (pa_cons (pe_callTy call_list_of (by rfl) T.n_list (by decide +kernel) (pa_cons (pv 1) pa_nil)) pa_nil)) rfl)
    (pss_cons (ps_if (pt_cmpR op_eq (C8.pe_c c_ltake hr (by decide) (by rfl) (pa_cons (pv 0) (pa_cons pe_int pa_nil))) pe_int (nomark _)) (pss_one (ps_for PassesOwn.never rfl (pi_range1 (by rfl) T.n_range (pa_cons (pe_callB (call_min2 rfl) (by rfl) T.n_min (by decide +kernel) (pa_cons pe_int (pa_cons (pe_callB call_len_seq (by rfl) T.n_len (by decide +kernel) (pa_cons (pv 1) pa_nil)) pa_nil))) pa_nil)) (pg_name (i := 5) sc_lwordy.nd rfl (Or.inl rfl))
    (pss_cons (ps_set (i := 6) sc_lwordy.nd rfl (Or.inl rfl) (pe_ix ix_list (pv 2) (pe_op op_mod (pe_op op_add (pv 3) (pv 5)) pe_int) (fun _ _ => rfl)))
    (pss_one (ps_if (PW.pt (pw_and (pt_cmpR op_eq (C8.pe_c c_ltake hr (by decide) (by rfl) (pa_cons (pv 0) (pa_cons pe_int pa_nil))) pe_int (nomark _)) (pw_and1 (pt_cmpR op_notIn_seq (pv 6) (pv 4) rfl)))) (pss_one (ps_asg (pv 6) (pg_sub (pv 4) (pv 5) set_list))) pss_nil))))) pss_nil)
    (pss_one (ps_ret (pv 4)))))), ?_⟩
    refine ⟨by show 13 ≤ sizeLine; decide, fun u hu => ?_⟩
    have st0 := st.keep0 (Sm.new (o := .lst (wordsL.map V.str)) hu)
    have nu := st.off hu
    refine ⟨.ref sd, rfl, sd, sc, n, 13, rfl, st0, by omega, by decide, by decide, fun b0 H1 a1 b1 e1 st1 => ?_⟩
    have fr1 : Sm [sd, sc] H H1 := (Sm.new hu).trans e1
    have hx1 := hx.keep fr1 na
    have hu1 : H1 u = some (.lst (wordsL.map V.str)) := e1 _ _ nu upd_same
    refine ⟨.ref a, rfl, a, _, rfl, .inl (sqL_at hx1.1), fun p hp => ⟨.int b0, .ref p, rfl, ?_⟩⟩
    have np := st1.off hp
    have npH : H p = Option.none := fr1.free np hp
    have npa : a ≠ p := ne_of_none hx1.1 hp
    have npu : u ≠ p := ne_of_none hu1 hp
    refine ⟨.ref sd, rfl, sd, sc, n + 1, 3, rfl, st1.keep0 (Sm.new hp), by omega, by decide, by decide, fun i2 H2 a2 b2 e2 st2 => ?_⟩
    have fr2 : Sm [sd, sc] H H2 := (fr1.trans (Sm.new hp)).trans e2
    have hp2 : NmAt H2 p xs := ⟨e2 _ _ np upd_same, hx.2⟩
    have hx2 := hx.keep fr2 na
    have hu2 : H2 u = some (.lst (wordsL.map V.str)) := e2 _ _ nu (at_new hp hu1)
    refine ⟨rfl, _, rfl, ite2 (fun _ => ?_) (fun _ => ⟨.ref p, rfl, q p xs H2 npH hp2 rfl fr2 (st2.mono (by omega))⟩)⟩
    refine ⟨.ref a, rfl, a, _, rfl, .inl (sqL_at hx2.1), _, _, rfl, _, rfl, ?_, ?_, ?_⟩
    · split <;> rw [List.length_map] at * <;> omega
    · split <;> rw [List.length_map] at * <;> omega
    rw [List.length_map]
    obtain ⟨mm, em, m13, ml⟩ : ∃ mm : Nat, (if (xs.length : Int) < 13 then (xs.length : Int) else 13).toNat = mm ∧ mm ≤ 13 ∧ mm ≤ xs.length := by
      refine ⟨_, rfl, ?_, ?_⟩
      · split <;> omega
      · split <;> omega
    rw [em]
    refine for_range (fun i σ H3 => ∃ (kx wx : Option V) (ys : List Str), σ = [some (.ref sd), some (.ref a), some (.ref u), some (.int b0), some (.ref p), kx, wx] ∧ Sm [sd, sc] H H3 ∧ StOk H3 sd sc (n + 2 + i) ∧ H3 u = some (.lst (wordsL.map V.str)) ∧ NmAt H3 p ys ∧ ys.length = xs.length)
      ⟨none, none, xs, rfl, fr2, st2, hu2, hp2, rfl⟩ ?_ ?_
    · rintro i σ H3 hi ⟨kx, wx, ys, rfl, fr3, st3, hu3, hp3, ly⟩
      obtain ⟨v, hv, mv⟩ := at_of (xs := wordsL.map V.str) (i := (b0 + (0 + (i : Int))) % 13) (Int.emod_nonneg _ (by decide)) (Int.emod_lt_of_pos _ (by decide))
      obtain ⟨wd, rfl, hwd⟩ := map_str_mem mv
      refine ⟨.ref u, rfl, .int b0, rfl, .int (0 + (i : Int)), rfl, _, _, rfl, rfl, _, _, rfl, rfl, (by show (0 : Int) < 13; decide), u, _, _, .str wd, rfl, rfl, sqL_at hu3, hv, ?_⟩
      refine ⟨.ref sd, rfl, sd, sc, n + 2 + i, 2, rfl, st3, by omega, by decide, by decide, fun i4 H4 a4 b4 e4 st4 => ?_⟩
      have fr4 := fr3.trans e4
      have hp4 := hp3.keep e4 np
      have hu4 := e4 _ _ nu hu3
      refine ⟨rfl, _, rfl, ite2 (fun _ => ?_) (fun _ => iteF ⟨_, _, ys, rfl, fr4, st4, hu4, hp4, ly⟩)⟩
      refine ⟨.str wd, rfl, .ref p, rfl, p, _, rfl, .inl (sqL_at hp4.1), rfl, flat_strs ys, _, rfl, ite2 (fun _ => ?_) (fun _ => ⟨_, _, ys, rfl, fr4, st4, hu4, hp4, ly⟩)⟩
      refine ⟨.str wd, rfl, .ref p, rfl, .int (0 + (i : Int)), rfl, p, _, _, i, rfl, rfl, hp4.1, ?_, ?_⟩
      · unfold ixN
        rw [List.length_map, if_pos (by omega), if_pos (by omega)]
        congr 1; omega
      · have es : (ys.map V.str).set i (.str wd) = (ys.set i wd).map V.str := by rw [List.map_set]
        rw [es]
        refine ⟨_, _, ys.set i wd, rfl, fr4.mut npH, st4.keep (Sm.at (S := [p]) (by simp)) (fun z => np (by rw [List.mem_singleton.mp z]; simp)) (fun z => np (by rw [List.mem_singleton.mp z]; simp)), by rw [upd_ne npu]; exact hu4, ⟨upd_same, fun x m => ?_⟩, by rw [List.length_set]; exact ly⟩
        rcases List.mem_or_eq_of_mem_set m with m | rfl
        · exact hp4.2 x m
        · exact wordsL_ok _ hwd
    · rintro σ H3 ⟨kx, wx, ys, rfl, fr3, st3, hu3, hp3, ly⟩
      exact ⟨.ref p, rfl, q p ys H3 npH hp3 ly fr3 (st3.mono (by omega))⟩
end
end Zz

/-! The palette as the law draws it. -/
namespace Zz
open PySem PySem.Spec PyProof.Rows L2
/-- tuples stay -/
def TK (H H' : Hp) : Prop := ∀ t xs, H t = some (.tup xs) → H' t = some (.tup xs)
theorem TK.trans {H H1 H2 : Hp} (a : TK H H1) (b : TK H1 H2) : TK H H2 := fun t xs h => b t xs (a t xs h)
theorem TK.new {H : Hp} {p : Addr} {o : HO} (h : H p = Option.none) : TK H (upd H p o) := fun t xs z => at_new h z
theorem TK.lst {H : Hp} {p : Addr} {o : HO} {xs : List V} (h : H p = some (.lst xs)) : TK H (upd H p o) := fun t ys z => by
  rw [upd_ne (fun y => by rw [y, h] at z; cases z)]; exact z
theorem TK.dic {H : Hp} {p : Addr} {o : HO} {xs : List (Key × V)} (h : H p = some (.dK xs)) : TK H (upd H p o) := fun t ys z => by
  rw [upd_ne (fun y => by rw [y, h] at z; cases z)]; exact z
theorem StOk.tk {H H' : Hp} {sd sc : Addr} {n : Nat} (st : StOk H sd sc n) (e : Sm [sd, sc] H H') : TK H H' := fun t xs z => by
  obtain ⟨_, cs, _, _, c, d, _⟩ := st
  refine e t _ (fun m => ?_) z
  rcases List.mem_cons.mp m with rfl | m
  · rw [z] at c; cases c
  · rw [List.mem_singleton.mp m, d] at z; cases z
def RowD (H : Hp) : List V → List (List V) → Prop := Paired fun x ps => ∃ t, x = .ref t ∧ H t = some (.tup ps)
theorem RowD.keep {H H' : Hp} {xs : List V} {ds : List (List V)} (h : RowD H xs ds) (k : TK H H') : RowD H' xs ds := Paired.mapP h fun _ _ ⟨t, a, b⟩ => ⟨t, a, k _ _ b⟩
theorem RowD.rows {K : PySem.W.Frag} {H : Hp} {xs : List V} {ds : List (List V)} (h : RowD H xs ds) : RowsV K H xs ds := Paired.mapP h fun _ _ ⟨t, a, b⟩ => ⟨t, a, sqT_at b⟩
theorem RowD.snoc {H : Hp} {t : Addr} {ps : List V} {xs : List V} {ds : List (List V)} (h : RowD H xs ds) (ht : H t = some (.tup ps)) : RowD H (xs ++ [.ref t]) (ds ++ [ps]) := paired_snoc h ⟨t, rfl, ht⟩
theorem okRows_snoc {ds : List (List V)} {ps : List V} (h : ∀ x ∈ ds, okRow x) (g : okRow ps) : ∀ x ∈ ds ++ [ps], okRow x := fun x m => by
  rcases List.mem_append.mp m with m | m
  · exact h x m
  · rw [List.mem_singleton.mp m]; exact g
theorem okN.str {B : Nat} {s : Str} (h : okN B s) (l : B ≤ 40) : okP (.str s) := Nat.le_trans h.1 l
/-- a palette -/
structure PalD (H : Hp) (t : Addr) (dc dw : List (List V)) : Prop where
  at_ : ∃ pc pw xc xw, H t = some (.tup [.ref pc, .ref pw]) ∧ H pc = some (.tup xc) ∧ RowD H xc dc ∧ H pw = some (.tup xw) ∧ RowD H xw dw
  rc : ∀ x ∈ dc, okRow x
  rw_ : ∀ x ∈ dw, okRow x
  lc : dc.length ≤ 100
  lw : dw.length ≤ 100
theorem PalD.keep {H H' : Hp} {t : Addr} {dc dw : List (List V)} (h : PalD H t dc dw) (k : TK H H') : PalD H' t dc dw := by
  obtain ⟨⟨pc, pw, xc, xw, a, b, c, d, e⟩, r1, r2, r3, r4⟩ := h
  exact ⟨⟨pc, pw, xc, xw, k _ _ a, k _ _ b, c.keep k, k _ _ d, e.keep k⟩, r1, r2, r3, r4⟩
section
variable {P : Program} {w : World} {K : PySem.W.Frag} {mg : Str → Option Value} {base : Heap} {CB CE CR CS : Addr} {σ : L2.St} {H : Hp} {Q : VK} {sd sc : Addr} {n : Nat}
theorem take1 {m : Int} (h0 : σ[0]? = some (some (.ref sd))) (st : StOk H sd sc n) (hn : n ≤ 1000000) (m0 : 0 < m) (m1 : m < 1073741824) (k : ∀ i H', 0 ≤ i → i < m → Sm [sd, sc] H H' → StOk H' sd sc (n + 1) → Q (.int i) H') :
    tCall spTake [] C8.E0 (tCons (tVar 0) (tCons (tC (.int m)) tNil)) σ H Q := ⟨.ref sd, h0, sd, sc, n, m, rfl, st, hn, m0, m1, k⟩
theorem take2 {x y B : Int} (h0 : σ[0]? = some (some (.ref sd))) (st : StOk H sd sc n) (hn : n ≤ 900000) (x0 : 0 < x) (y0 : 0 < y) (xB : x ≤ B) (yB : y ≤ B) (hB : B < 1073741824) (k : ∀ i H', 0 ≤ i → i < B → Sm [sd, sc] H H' → StOk H' sd sc (n + 2) → Q (.int i) H') :
    tCall spTake [] C8.E0 (tCons (tVar 0) (tCons (tOp (rIxL K) (tLst (tCons (tC (.int x)) (tCons (tC (.int y)) tNil))) (tCall spTake [] C8.E0 (tCons (tVar 0) (tCons (tC (.int 2)) tNil)))) tNil)) σ H Q := by
  refine ⟨.ref sd, h0, by show 2 ≤ sizeLine; decide, fun u hu => ?_⟩
  refine take1 h0 (st.keep0 (Sm.new hu)) (by omega) (by decide) (by decide) fun i H1 a b e st1 => ?_
  obtain ⟨v, hv, mv⟩ := at_of (xs := [V.int x, V.int y]) a b
  have hl : H1 u = some (.lst [.int x, .int y]) := e _ _ (st.off hu) upd_same
  obtain ⟨z, rfl, z0, z1⟩ : ∃ z, v = .int z ∧ 0 < z ∧ z ≤ B := by
    rcases List.mem_cons.mp mv with rfl | mv
    · exact ⟨x, rfl, x0, xB⟩
    · exact ⟨y, List.mem_singleton.mp mv, y0, yB⟩
  exact ⟨u, _, i, _, rfl, rfl, sqL_at hl, hv, sd, sc, n + 1, z, rfl, st1, by omega, z0, by omega, fun j H2 a2 b2 e2 st2 => k j H2 a2 (by omega) (((Sm.new hu).trans e).trans e2) st2⟩
def spPalette (K : PySem.W.Frag) : Sp := fun vs H Q _ => ∃ (sd sc a : Addr) (n : Nat) (xs : List Str), vs = [.ref sd, .ref a] ∧ StOk H sd sc n ∧ n ≤ 100000 ∧ a ∉ [sd, sc] ∧ NmAt H a xs ∧ xs.length ≤ 20 ∧
  ∀ t dc dw H', PalD H' t dc dw → Sm [sd, sc] H H' → StOk H' sd sc (n + 2000) → Q (.ref t) H'
theorem c_palette_ (T : TxL K mg) : C8.Cal P w K mg base 2 "_law_palette" (spPalette K) [] := by
  obtain ⟨f, fd, D, b⟩ := T.palette
  have c_ltake := c_take_ (P := P) (w := w) (base := base) T
  refine C8.cal0 D b .nil sc_lpalette (fun vs H Q E z => ?_) (fun cdv A outer s H vs Q E hr z => ?_)
  · obtain ⟨_, _, _, _, _, rfl, _⟩ := z
    rfl
  · obtain ⟨sd, sc, a, n, xs, rfl, st, hn, na, hx, lx, q⟩ := z
    refine ⟨_, (pss_cons (ps_par (i := 2) (j := 3) rfl sc_lpalette.nd rfl rfl (by decide) rfl rfl (pa_cons (pe_lst pa_nil) (pa_cons (pe_lst pa_nil) pa_nil)) rfl)
    (pss_cons (ps_for PassesOwn.never rfl (pi_list (pe_callB cr_sortedS (by rfl) T.n_sorted (by decide +kernel) (pa_cons (pv 1) pa_nil))) (pg_name (i := 4) sc_lpalette.nd rfl (Or.inl rfl))
    (pss_cons (ps_par (i := 5) (j := 6) rfl sc_lpalette.nd rfl rfl (by decide) rfl rfl (pa_cons (pe_op op_add pe_int (C8.pe_c c_ltake hr (by decide) (by rfl) (pa_cons (pv 0) (pa_cons pe_int pa_nil)))) (pa_cons (C8.pe_c c_ltake hr (by decide) (by rfl) (pa_cons (pv 0) (pa_cons (pe_ix ix_list (pe_lst (pa_cons pe_int (pa_cons pe_int pa_nil))) (C8.pe_c c_ltake hr (by decide) (by rfl) (pa_cons (pv 0) (pa_cons pe_int pa_nil))) (fun _ _ => rfl)) pa_nil))) pa_nil)) rfl)
    (pss_cons (ps_expr (pe_bm PySem.F.plainAttrs_list PySem.F.slot_list_append PySem.F.type_list_append mt_append (pv 2) (pa_cons (pe_tup (pa_cons (pv 4) (pa_cons (pv 5) (pa_cons (pv 6) (pa_cons (pe_op op_add pe_int (C8.pe_c c_ltake hr (by decide) (by rfl) (pa_cons (pv 0) (pa_cons (pe_ix ix_list (pe_lst (pa_cons pe_int (pa_cons pe_int pa_nil))) (C8.pe_c c_ltake hr (by decide) (by rfl) (pa_cons (pv 0) (pa_cons pe_int pa_nil))) (fun _ _ => rfl)) pa_nil)))) pa_nil))))) pa_nil)))
    (pss_one (ps_for PassesOwn.never rfl (pi_list (pe_callB cr_sortedS (by rfl) T.n_sorted (by decide +kernel) (pa_cons (pv 1) pa_nil))) (pg_name (i := 7) sc_lpalette.nd rfl (Or.inl rfl))
    (pss_cons (ps_set (i := 8) sc_lpalette.nd rfl (Or.inl rfl) (C8.pe_c c_ltake hr (by decide) (by rfl) (pa_cons (pv 0) (pa_cons pe_int pa_nil))))
    (pss_one (ps_if (PW.pt (pw_and (pt_cmpR op_ne (pv 7) (pv 4) (nomark _)) (pw_and (pt_cmpR op_gt (pv 8) pe_int (nomark _)) (pw_and1 (pt_cmpR op_lt (pe_callB call_len_seq (by rfl) T.n_len (by decide +kernel) (pa_cons (pv 3) pa_nil)) pe_int (nomark _)))))) (pss_cons (ps_set (i := 9) sc_lpalette.nd rfl (Or.inl rfl) (pe_ix ix_list (pe_lst (pa_cons (C8.pe_c c_ltake hr (by decide) (by rfl) (pa_cons (pv 0) (pa_cons pe_int pa_nil))) (pa_cons (C8.pe_c c_ltake hr (by decide) (by rfl) (pa_cons (pv 0) (pa_cons pe_int pa_nil))) (pa_cons pe_int (pa_cons pe_non (pa_cons (pe_op op_add pe_int (C8.pe_c c_ltake hr (by decide) (by rfl) (pa_cons (pv 0) (pa_cons pe_int pa_nil)))) pa_nil)))))) (pe_op op_sub (pv 8) pe_int) (fun _ _ => rfl)))
    (pss_one (ps_expr (pe_bm PySem.F.plainAttrs_list PySem.F.slot_list_append PySem.F.type_list_append mt_append (pv 3) (pa_cons (pe_tup (pa_cons (pv 4) (pa_cons (pv 7) (pa_cons (pv 9) pa_nil)))) pa_nil))))) pss_nil))))))))
    (pss_one (ps_ret (pe_tup (pa_cons (pe_callTy call_tuple_of (by rfl) T.n_tuple (by decide +kernel) (pa_cons (pv 2) pa_nil)) (pa_cons (pe_callTy call_tuple_of (by rfl) T.n_tuple (by decide +kernel) (pa_cons (pv 3) pa_nil)) pa_nil))))))), ?_⟩
    refine ⟨by show 0 ≤ sizeLine; decide, fun p hp => ⟨by show 0 ≤ sizeLine; decide, fun r hr0 => ⟨.ref p, .ref r, rfl, ?_⟩⟩⟩
    have np := st.off hp
    have nr : r ∉ [sd, sc] := (st.keep0 (Sm.new hp)).off hr0
    have nrp : p ≠ r := ne_of_none upd_same hr0
    have nrH : H r = Option.none := (Sm.new hp).free0 hr0
    have f0 : Sm [] H (upd (upd H p (.lst [])) r (.lst [])) := (Sm.new hp).trans (Sm.new hr0)
    have hp0 : (upd (upd H p (.lst [])) r (.lst [])) p = some (.lst []) := at_new hr0 upd_same
    have hr1 : (upd (upd H p (.lst [])) r (.lst [])) r = some (.lst []) := upd_same
    generalize upd (upd H p (.lst [])) r (.lst []) = H0 at f0 hp0 hr1
    have st0 := st.keep0 f0
    have hx0 := hx.keep f0 (by simp)
    have nap : a ≠ p := ne_of_none hx.1 hp
    have nar : a ≠ r := ne_of_none hx.1 nrH
    refine ⟨.ref a, rfl, a, xs, rfl, sqL_at hx0.1, by omega, fun ys z perm srt hz => ⟨z, rfl, ⟨_, sqL_at upd_same⟩, ?_⟩⟩
    have f1 : Sm [] H0 (upd H0 z (.lst (ys.map V.str))) := Sm.new hz
    have hz1 : (upd H0 z (.lst (ys.map V.str))) z = some (.lst (ys.map V.str)) := upd_same
    have nz : z ∉ [sd, sc, p, r] := fun m => by
      rcases List.mem_cons.mp m with rfl | m
      · exact st0.off hz (by simp)
      rcases List.mem_cons.mp m with rfl | m
      · exact st0.off hz (by simp)
      rcases List.mem_cons.mp m with rfl | m
      · rw [hz] at hp0; cases hp0
      · rw [List.mem_singleton.mp m, hr1] at hz; cases hz
    generalize upd H0 z (.lst (ys.map V.str)) = Hb at f1 hz1
    have ly : ys.length = xs.length := perm.length_eq
    have oky : ∀ y ∈ ys, okN 40 y := fun y m => hx.2 y (perm.mem_iff.mp m)
    have nS : ∀ {c : Addr}, c ∉ [sd, sc] → c ≠ p → c ≠ r → c ∉ [sd, sc, p, r] := fun h1 h2 h3 m => by
      rcases List.mem_cons.mp m with rfl | m
      · exact h1 (by simp)
      rcases List.mem_cons.mp m with rfl | m
      · exact h1 (by simp)
      rcases List.mem_cons.mp m with rfl | m
      · exact h2 rfl
      · exact h3 (List.mem_singleton.mp m)
    have up4 : ∀ {H1 H2 : Hp}, Sm [sd, sc] H1 H2 → Sm [sd, sc, p, r] H1 H2 := fun e => e.mono fun x m => by
      rcases List.mem_cons.mp m with rfl | m
      · simp
      · rw [List.mem_singleton.mp m]; simp
    refine for_list (K := K) (a := z) (xs := ys.map V.str) (fun i σ H2 => i ≤ 20 ∧ ∃ (v4 v5 v6 v7 v8 v9 : Option V) (xc xw : List V) (dc dw : List (List V)), σ = [some (.ref sd), some (.ref a), some (.ref p), some (.ref r), v4, v5, v6, v7, v8, v9] ∧
      Sm [sd, sc] H H2 ∧ Sm [sd, sc, p, r] Hb H2 ∧ StOk H2 sd sc (n + 90 * i) ∧ H2 p = some (.lst xc) ∧ RowD H2 xc dc ∧ xc.length ≤ i ∧ H2 r = some (.lst xw) ∧ RowD H2 xw dw ∧ xw.length ≤ 60 ∧ (∀ x ∈ dc, okRow x) ∧ ∀ x ∈ dw, okRow x)
      ⟨Nat.zero_le _, none, none, none, none, none, none, [], [], [], [], rfl, (f0.trans f1).of, Sm.refl _, st0.keep0 f1, f1 _ _ (by simp) hp0, .nil, Nat.le_refl _, f1 _ _ (by simp) hr1, .nil, Nat.zero_le _, (fun x m => by cases m), fun x m => by cases m⟩ (fun i σ H2 _ h => ?_) ?_ ?_
    · obtain ⟨_, _, _, _, _, _, _, _, _, _, _, _, _, e, _⟩ := h
      exact sqL_at (e _ _ nz hz1)
    · rintro i x σ H2 hi ⟨i20, v4, v5, v6, v7, v8, v9, xc, xw, dc, dw, rfl, e2, g2, st2, hp2, rc2, lc2, hr2, rw2, lw2, oc, ow⟩
      obtain ⟨nm, rfl, mnm⟩ := map_str_mem (List.mem_of_getElem? hi)
      have oknm := oky nm mnm
      have hil : i < ys.length := by
        have := (List.getElem?_eq_some_iff.mp hi).1
        rw [List.length_map] at this
        exact this
      -- charge, melt
      refine take1 rfl st2 (by omega) (by decide) (by decide) fun i3 H3 a3 b3 e3 st3 => ⟨_, _, rfl, rfl, ?_⟩
      refine take2 (B := 100) rfl st3 (by omega) (by decide) (by decide) (by decide) (by decide) (by decide) fun i4 H4 a4 b4 e4 st4 => ⟨_, _, rfl, ?_⟩
      have e34 := e3.trans e4
      have k34 : TK H2 H4 := st2.tk e34
      have hp4 := e34 _ _ np hp2
      -- the row of a colour
      refine ⟨.ref p, rfl, .inl ⟨rfl, _, sqL_at hp4⟩, .str nm, rfl, .int (1 + i3), rfl, .int i4, rfl, ?_⟩
      refine take2 (B := 999) rfl st4 (by omega) (by decide) (by decide) (by decide) (by decide) (by decide) fun i5 H5 a5 b5 e5 st5 => ⟨_, _, rfl, rfl, by show 4 ≤ sizeLine; decide, fun t ht => ?_⟩
      have e35 := e34.trans e5
      have k35 : TK H2 H5 := st2.tk e35
      have hp5 := e35 _ _ np hp2
      have hr5 := e35 _ _ nr hr2
      have htp : t ≠ p := (ne_of_none hp5 ht).symm
      refine ⟨p, xc, .ref t, rfl, rfl, at_new ht hp5, small1000 (by omega), ?_⟩
      have okr : okRow [.str nm, .int (1 + i3), .int i4, .int (1 + i5)] := ⟨fun v m => by
        rcases List.mem_cons.mp m with rfl | m
        · exact oknm.str (by decide)
        rcases List.mem_cons.mp m with rfl | m
        · exact ⟨by omega, Int.lt_of_lt_of_le (show 1 + i3 < 100 by omega) (by decide)⟩
        rcases List.mem_cons.mp m with rfl | m
        · exact ⟨by omega, Int.lt_of_lt_of_le (show i4 < 100 by omega) (by decide)⟩
        · rw [List.mem_singleton.mp m]
          exact ⟨by omega, Int.lt_of_lt_of_le (show 1 + i5 < 1001 by omega) (by decide)⟩, by show 4 ≤ 9; decide⟩
      have e6 : Sm [sd, sc] H2 (upd H5 t (.tup [.str nm, .int (1 + i3), .int i4, .int (1 + i5)])) := e35.trans (Sm.new ht)
      have k6 := k35.trans (TK.new (o := .tup [.str nm, .int (1 + i3), .int i4, .int (1 + i5)]) ht)
      have hp6 := at_new (o := .tup [.str nm, .int (1 + i3), .int i4, .int (1 + i5)]) ht hp5
      have hr6 := at_new (o := .tup [.str nm, .int (1 + i3), .int i4, .int (1 + i5)]) ht hr5
      have ht6 : (upd H5 t (.tup [.str nm, .int (1 + i3), .int i4, .int (1 + i5)])) t = some (.tup [.str nm, .int (1 + i3), .int i4, .int (1 + i5)]) := upd_same
      have st6 := st5.keep0 (Sm.new (o := .tup [.str nm, .int (1 + i3), .int i4, .int (1 + i5)]) ht)
      generalize upd H5 t (.tup [.str nm, .int (1 + i3), .int i4, .int (1 + i5)]) = H6 at e6 k6 hp6 hr6 ht6 st6
      have k7 := TK.lst (o := .lst (xc ++ [.ref t])) hp6
      have rc7 := ((rc2.keep k6).snoc ht6).keep k7
      have rw7 := (rw2.keep k6).keep k7
      have e7 : Sm [sd, sc] H (upd H6 p (.lst (xc ++ [.ref t]))) := (e2.trans e6).mut hp
      have g7 : Sm [sd, sc, p, r] Hb (upd H6 p (.lst (xc ++ [.ref t]))) := (g2.trans (up4 e6)).trans (Sm.at (by simp))
      have hp7 : (upd H6 p (.lst (xc ++ [.ref t]))) p = some (.lst (xc ++ [.ref t])) := upd_same
      have hr7 : (upd H6 p (.lst (xc ++ [.ref t]))) r = some (.lst xw) := by rw [upd_ne nrp.symm]; exact hr6
      have st7 := st6.keep (Sm.at (S := [p]) (p := p) (o := .lst (xc ++ [.ref t])) (by simp)) (fun z => np (by rw [List.mem_singleton.mp z]; simp)) (fun z => np (by rw [List.mem_singleton.mp z]; simp))
      generalize upd H6 p (.lst (xc ++ [.ref t])) = H7 at e7 g7 hp7 hr7 st7 rc7 rw7
      have oc7 := okRows_snoc oc okr
      have lc7 : (xc ++ [V.ref t]).length ≤ i + 1 := by rw [List.length_append, List.length_singleton]; omega
      generalize xc ++ [V.ref t] = xc7 at hp7 rc7 lc7
      generalize dc ++ [[V.str nm, .int (1 + i3), .int i4, .int (1 + i5)]] = dc7 at rc7 oc7
      -- the other names
      have hx7 := hx.keep e7 na
      refine ⟨.ref a, rfl, a, xs, rfl, sqL_at hx7.1, by omega, fun us zz perm2 srt2 hzz => ⟨zz, rfl, ⟨_, sqL_at upd_same⟩, ?_⟩⟩
      have lu : us.length = xs.length := perm2.length_eq
      have oku : ∀ y ∈ us, okN 40 y := fun y m => hx.2 y (perm2.mem_iff.mp m)
      have f8 : Sm [] H7 (upd H7 zz (.lst (us.map V.str))) := Sm.new hzz
      have nzz : zz ∉ [sd, sc, p, r] := nS (st7.off hzz) (ne_of_none hp7 hzz).symm (ne_of_none hr7 hzz).symm
      have hz8 : (upd H7 zz (.lst (us.map V.str))) zz = some (.lst (us.map V.str)) := upd_same
      have k8 : TK H7 (upd H7 zz (.lst (us.map V.str))) := TK.new hzz
      generalize upd H7 zz (.lst (us.map V.str)) = H8 at f8 hz8 k8
      refine for_list (K := K) (a := zz) (xs := us.map V.str) (fun j σ H9 => j ≤ 20 ∧ ∃ (v7 v8 v9 : Option V) (xw : List V) (dw : List (List V)), σ = [some (.ref sd), some (.ref a), some (.ref p), some (.ref r), some (.str nm), some (.int (1 + i3)), some (.int i4), v7, v8, v9] ∧
        Sm [sd, sc] H H9 ∧ Sm [sd, sc, p, r] H8 H9 ∧ StOk H9 sd sc (n + 90 * i + 5 + 4 * j) ∧ H9 p = some (.lst xc7) ∧ RowD H9 xc7 dc7 ∧ H9 r = some (.lst xw) ∧ RowD H9 xw dw ∧ xw.length ≤ 60 ∧ ∀ x ∈ dw, okRow x)
        ⟨Nat.zero_le _, v7, v8, v9, xw, dw, rfl, e7.trans f8.of, Sm.refl _, (st7.mono (by omega)).keep0 f8, f8 _ _ (by simp) hp7, rc7.keep k8, f8 _ _ (by simp) hr7, rw7.keep k8, lw2, ow⟩ (fun j σ H9 _ h => ?_) ?_ ?_
      · obtain ⟨_, _, _, _, _, _, _, _, e, _⟩ := h
        exact sqL_at (e _ _ nzz hz8)
      · rintro j x σ H9 hj ⟨j20, u7, u8, u9, yw, ew, rfl, e9, g9, st9, hp9, rc9, hr9, rw9, lw9, ow9⟩
        obtain ⟨ot, rfl, mot⟩ := map_str_mem (List.mem_of_getElem? hj)
        have okot := oku ot mot
        have hjl : j < us.length := by
          have := (List.getElem?_eq_some_iff.mp hj).1
          rw [List.length_map] at this
          exact this
        refine take1 rfl st9 (by omega) (by decide) (by decide) fun way H10 a10 b10 e10 st10 => ?_
        have k10 := st9.tk e10
        have done : ∃ (v7 v8 v9 : Option V) (xw : List V) (dw : List (List V)), ([some (.ref sd), some (.ref a), some (.ref p), some (.ref r), some (.str nm), some (.int (1 + i3)), some (.int i4), some (.str ot), some (.int way), u9] : L2.St) = [some (.ref sd), some (.ref a), some (.ref p), some (.ref r), some (.str nm), some (.int (1 + i3)), some (.int i4), v7, v8, v9] ∧
            Sm [sd, sc] H H10 ∧ Sm [sd, sc, p, r] H8 H10 ∧ StOk H10 sd sc (n + 90 * i + 5 + 4 * (j + 1)) ∧ H10 p = some (.lst xc7) ∧ RowD H10 xc7 dc7 ∧ H10 r = some (.lst xw) ∧ RowD H10 xw dw ∧ xw.length ≤ 60 ∧ ∀ x ∈ dw, okRow x :=
          ⟨_, _, _, yw, ew, rfl, e9.trans e10, g9.trans (up4 e10), st10.mono (by omega), e10 _ _ np hp9, rc9.keep k10, e10 _ _ nr hr9, rw9.keep k10, lw9, ow9⟩
        refine ⟨.str ot, rfl, .str nm, rfl, rfl, _, rfl, ite2 (fun _ => ?_) (fun _ => iteF ⟨by omega, done⟩)⟩
        refine ⟨.int way, rfl, _, _, rfl, rfl, _, rfl, ite2 (fun hw => ?_) (fun _ => iteF ⟨by omega, done⟩)⟩
        have hw1 : 1 < way := of_decide_eq_true hw
        have hr10 := e10 _ _ nr hr9
        have hp10 := e10 _ _ np hp9
        refine ⟨.ref r, rfl, r, _, rfl, .inl (sqL_at hr10), _, _, rfl, rfl, _, rfl, ite2 (fun hl => ?_) (fun _ => ⟨by omega, done⟩)⟩
        have hl1 : (yw.length : Int) < 60 := of_decide_eq_true hl
        -- the hours
        refine take1 rfl st10 (by omega) (by decide) (by decide) fun h1 H11 a11 b11 e11 st11 => ?_
        refine take1 rfl st11 (by omega) (by decide) (by decide) fun h2 H12 a12 b12 e12 st12 => ?_
        refine take1 rfl st12 (by omega) (by decide) (by decide) fun h3 H13 a13 b13 e13 st13 => ⟨_, _, rfl, rfl, by show 5 ≤ sizeLine; decide, fun u hu => ?_⟩
        obtain ⟨hv, hhv, mhv⟩ := at_of (xs := [V.int h1, .int h2, .int 0, .non, .int (1 + h3)]) (i := way - 2) (by omega) (by show way - 2 < 5; omega)
        refine ⟨.int way, rfl, _, _, rfl, rfl, u, _, _, hv, rfl, rfl, sqL_at upd_same, hhv, ?_⟩
        have okh : okP hv := by
          rcases List.mem_cons.mp mhv with rfl | m
          · exact ⟨by omega, Int.lt_of_lt_of_le (show h1 < 100 by omega) (by decide)⟩
          rcases List.mem_cons.mp m with rfl | m
          · exact ⟨by omega, Int.lt_of_lt_of_le (show h2 < 100 by omega) (by decide)⟩
          rcases List.mem_cons.mp m with rfl | m
          · exact ⟨by decide, by decide⟩
          rcases List.mem_cons.mp m with rfl | m
          · exact True.intro
          · rw [List.mem_singleton.mp m]
            exact ⟨by omega, Int.lt_of_lt_of_le (show 1 + h3 < 100 by omega) (by decide)⟩
        have e13' := ((e10.trans e11).trans e12).trans e13
        have e14 : Sm [sd, sc] H9 (upd H13 u (.lst [.int h1, .int h2, .int 0, .non, .int (1 + h3)])) := e13'.trans (Sm.new hu)
        have k14 : TK H9 (upd H13 u (.lst [.int h1, .int h2, .int 0, .non, .int (1 + h3)])) := (st9.tk e13').trans (TK.new hu)
        have st14 := st13.keep0 (Sm.new (o := .lst [.int h1, .int h2, .int 0, .non, .int (1 + h3)]) hu)
        generalize upd H13 u (.lst [.int h1, .int h2, .int 0, .non, .int (1 + h3)]) = H14 at e14 k14 st14
        have hr14 := e14 _ _ nr hr9
        have hp14 := e14 _ _ np hp9
        refine ⟨.ref r, rfl, .inl ⟨rfl, _, sqL_at hr14⟩, .str nm, rfl, .str ot, rfl, hv, rfl, by show 3 ≤ sizeLine; decide, fun t2 ht2 => ?_⟩
        have okr2 : okRow [.str nm, .str ot, hv] := ⟨fun v m => by
          rcases List.mem_cons.mp m with rfl | m
          · exact oknm.str (by decide)
          rcases List.mem_cons.mp m with rfl | m
          · exact okot.str (by decide)
          · rw [List.mem_singleton.mp m]; exact okh, by show 3 ≤ 9; decide⟩
        have hr15 := at_new (o := .tup [.str nm, .str ot, hv]) ht2 hr14
        have hp15 := at_new (o := .tup [.str nm, .str ot, hv]) ht2 hp14
        have k15 := k14.trans (TK.new (o := .tup [.str nm, .str ot, hv]) ht2)
        have k16 := k15.trans (TK.lst (o := .lst (yw ++ [.ref t2])) hr15)
        have ht15 : (upd H14 t2 (.tup [.str nm, .str ot, hv])) t2 = some (.tup [.str nm, .str ot, hv]) := upd_same
        refine ⟨r, yw, .ref t2, rfl, rfl, hr15, small1000 (by omega), by omega, _, _, _, yw ++ [.ref t2], ew ++ [[.str nm, .str ot, hv]], rfl, ((e9.trans e14).trans (Sm.new ht2)).mut nrH, ((g9.trans (up4 e14)).trans (Sm.new ht2)).trans (Sm.at (by simp)),
          ((st14.keep0 (Sm.new ht2)).mono (by omega)).keep (Sm.at (S := [r]) (by simp)) (fun z => nr (by rw [List.mem_singleton.mp z]; simp)) (fun z => nr (by rw [List.mem_singleton.mp z]; simp)), by rw [upd_ne nrp]; exact hp15, rc9.keep k16, upd_same, ((rw9.keep k15).snoc ht15).keep (TK.lst hr15), ?_, okRows_snoc ow9 okr2⟩
        rw [List.length_append, List.length_singleton]
        omega
      · rintro σ H9 ⟨j20, u7, u8, u9, yw, ew, rfl, e9, g9, st9, hp9, rc9, hr9, rw9, lw9, ow9⟩
        exact ⟨by omega, _, _, _, _, _, _, xc7, yw, dc7, ew, rfl, e9, (g7.trans f8.of).trans g9, st9.mono (by rw [List.length_map]; omega), hp9, rc9, lc7, hr9, rw9, lw9, oc7, ow9⟩
    · rintro σ H2 ⟨i20, v4, v5, v6, v7, v8, v9, xc, xw, dc, dw, rfl, e2, g2, st2, hp2, rc2, lc2, hr2, rw2, lw2, oc, ow⟩
      refine ⟨.ref p, rfl, p, xc, rfl, .inl ⟨sqL_at hp2, fun q1 hq1 => ?_⟩⟩
      refine ⟨.ref r, rfl, r, xw, rfl, .inl ⟨sqL_at (at_new hq1 hr2), fun q2 hq2 => ?_⟩⟩
      refine ⟨by show 2 ≤ sizeLine; decide, fun t ht => ?_⟩
      have s1 : Sm [] H2 _ := ((Sm.new (o := .tup xc) hq1).trans (Sm.new (o := .tup xw) hq2)).trans (Sm.new (o := .tup [.ref q1, .ref q2]) ht)
      have k1 : TK H2 _ := fun t xs z => s1 _ _ (by simp) z
      have hq1' : _ = some (HO.tup xc) := at_new (o := .tup [.ref q1, .ref q2]) ht (at_new (o := .tup xw) hq2 (show (upd H2 q1 (.tup xc)) q1 = _ from upd_same))
      have hq2' : _ = some (HO.tup xw) := at_new (o := .tup [.ref q1, .ref q2]) ht (show (upd (upd H2 q1 (.tup xc)) q2 (.tup xw)) q2 = _ from upd_same)
      refine q t dc dw _ ⟨⟨q1, q2, xc, xw, upd_same, hq1', rc2.keep k1, hq2', rw2.keep k1⟩, oc, ow, ?_, ?_⟩ (e2.trans s1.of) ((st2.mono (by rw [List.length_map]; omega)).keep0 s1)
      · have := Paired.length rc2
        rw [List.length_map] at lc2
        omega
      · have := Paired.length rw2
        omega
end
end Zz

/-! The hall as the law draws it. -/
namespace Zz
open PySem PySem.Spec PyProof.Rows L2
def hallKs : List Key := [Sum.inr "palette", Sum.inr "slots", Sum.inr "strange", Sum.inr "kinds", Sum.inr "ranks", Sum.inr "colours", Sum.inr "teams", Sum.inr "pots"]
theorem hallKs_nd : hallKs.Nodup := by decide +kernel
theorem val_zip : ∀ {ks : List Key} {vs : List V} {i : Nat} {k : Key} {v : V}, ks.Nodup → ks[i]? = some k → vs[i]? = some v → valV (ks.zip vs) k = some v
  | [], _, i, _, _, _, h, _ => by simp at h
  | _ :: _, [], i, _, _, _, _, h => by simp at h
  | a :: r, b :: s, 0, k, v, _, h, g => by
    have e1 : a = k := by simpa using h
    have e2 : b = v := by simpa using g
    rw [List.zip_cons_cons, valV_pos e1, e2]
  | a :: r, b :: s, i + 1, k, v, nd, h, g => by
    have h : r[i]? = some k := by simpa using h
    have g : s[i]? = some v := by simpa using g
    have ne : ¬ a = k := fun z => (List.nodup_cons.mp nd).1 (by rw [z]; exact List.mem_of_getElem? h)
    rw [List.zip_cons_cons, valV_neg ne]
    exact val_zip (List.nodup_cons.mp nd).2 h g
theorem put_zip {ks : List Key} {vs : List V} {k : Key} {v : V} (h : k ∉ ks) (l : ks.length = vs.length) : putK (ks.zip vs) k v = (ks ++ [k]).zip (vs ++ [v]) := by
  unfold putK
  rw [if_neg, List.zip_append l]
  · rfl
  · intro z
    obtain ⟨p, hp, e⟩ := List.any_eq_true.mp z
    exact h (by rw [← of_decide_eq_true e]; exact (List.of_mem_zip hp).1)
theorem put_hall {i : Nat} {vs : List V} {k : Key} {v : V} (h : hallKs[i]? = some k) (l : vs.length = i) : putK ((hallKs.take i).zip vs) k v = (hallKs.take (i + 1)).zip (vs ++ [v]) := by
  have hi : i < hallKs.length := (List.getElem?_eq_some_iff.mp h).1
  have nk : k ∉ hallKs.take i := fun m => by
    obtain ⟨j, hj, e⟩ := List.mem_iff_getElem.mp m
    rw [List.getElem_take] at e
    have e2 := (List.getElem?_eq_some_iff.mp h).2
    have z := (List.getElem_inj hallKs_nd).mp (e.trans e2.symm)
    rw [List.length_take] at hj
    omega
  rw [put_zip nk (by rw [List.length_take, l]; omega), List.take_add_one, h]
  rfl
theorem merge_self : ∀ {more acc : List (Key × V)}, ((acc ++ more).map (·.1)).Nodup → mergeK acc more = acc ++ more
  | [], acc, _ => by rw [List.append_nil]; rfl
  | p :: r, acc, h => by
    have e : putK acc p.1 p.2 = acc ++ [p] := by
      unfold putK
      rw [if_neg]
      intro z
      obtain ⟨x, hx, e⟩ := List.any_eq_true.mp z
      rw [List.map_append, List.nodup_append] at h
      exact h.2.2 x.1 (List.mem_map.mpr ⟨x, hx, rfl⟩) p.1 (List.mem_map.mpr ⟨p, .head _, rfl⟩) (of_decide_eq_true e)
    have e2 : mergeK acc (p :: r) = mergeK (acc ++ [p]) r := by rw [← e]; rfl
    rw [e2, merge_self (by rw [List.append_assoc]; exact h), List.append_assoc]
    rfl
structure HG where
  pal : Addr
  st : Addr
  ks : Addr
  rs : Addr
  co : Addr
  te : Addr
  ps : Addr
def HG.vals (g : HG) (s : Int) : List V := [.ref g.pal, .int s, .ref g.st, .ref g.ks, .ref g.rs, .ref g.co, .ref g.te, .ref g.ps]
def HG.all (g : HG) (hd : Addr) : List Addr := [hd, g.st, g.ks, g.rs, g.co, g.te, g.ps]
structure HallG (H : Hp) (hd : Addr) (g : HG) (d : HallD) : Prop where
  dict : H hd = some (.dK (hallKs.zip (g.vals d.slots)))
  pal : PalD H g.pal d.colours d.washes
  st : ∃ xs, NmAt H g.st xs ∧ xs.length = 2
  ks : ∃ xs, H g.ks = some (.lst xs) ∧ RowD H xs d.kinds
  kn : ∀ r ∈ d.kinds, ∃ s t, r = .str s :: t ∧ okN 40 s
  rs : ∃ xs, H g.rs = some (.lst xs) ∧ RowD H xs d.teams
  co : ∃ xs, NmAt H g.co xs ∧ xs.length ≤ 20
  te : ∃ xs, NmAt H g.te xs ∧ xs.length ≤ 20
  ps : NmAt H g.ps d.pots
theorem HallG.keep {H H' : Hp} {S : List Addr} {hd : Addr} {g : HG} {d : HallD} (h : HallG H hd g d) (e : Sm S H H') (k : TK H H') (n : ∀ x ∈ g.all hd, x ∉ S) : HallG H' hd g d := by
  obtain ⟨a1, a2, ⟨sx, s1, s2⟩, ⟨kx, k1, k2⟩, kn, ⟨rx, r1, r2⟩, ⟨cx, c1, c2⟩, ⟨tx, t1, t2⟩, p1⟩ := h
  have m : ∀ {x}, x ∈ g.all hd → x ∉ S := fun z => n _ z
  exact ⟨e _ _ (m (by simp [HG.all])) a1, a2.keep k, ⟨sx, s1.keep e (m (by simp [HG.all])), s2⟩, ⟨kx, e _ _ (m (by simp [HG.all])) k1, k2.keep k⟩, kn, ⟨rx, e _ _ (m (by simp [HG.all])) r1, r2.keep k⟩,
    ⟨cx, c1.keep e (m (by simp [HG.all])), c2⟩, ⟨tx, t1.keep e (m (by simp [HG.all])), t2⟩, p1.keep e (m (by simp [HG.all]))⟩
section
variable {P : Program} {w : World} {K : PySem.W.Frag} {mg : Str → Option Value} {base : Heap} {CB CE CR CS : Addr}
theorem paired4 {α β : Type} {F : α → β → Prop} {vs : List α} {a b c d : β} : Paired F vs [a, b, c, d] → ∃ v0 v1 v2 v3, vs = [v0, v1, v2, v3] ∧ F v0 a ∧ F v1 b ∧ F v2 c ∧ F v3 d
  | .cons r0 (.cons r1 (.cons r2 (.cons r3 .nil))) => ⟨_, _, _, _, rfl, r0, r1, r2, r3⟩
theorem cut_take (ys : List V) (k : Nat) : cutV ys Option.none (some ((k : Nat) : Int)) = ys.take k := by
  unfold cutV
  rw [HT.sIx_none, HT.sIx_nat, List.drop_zero, Nat.sub_zero]
  by_cases h : k ≤ ys.length
  · rw [Nat.min_eq_left h]
  · rw [Nat.min_eq_right (by omega), List.take_of_length_le (Nat.le_refl _), List.take_of_length_le (by omega)]
theorem sizes_go {σ : L2.St} {H : Hp} {Q : VK} {sd sc : Addr} {n : Nat} {gr : Bool} (h0 : σ[0]? = some (some (.ref sd))) (h1 : σ[1]? = some (some (.bl gr))) (st : StOk H sd sc n) (hn : n ≤ 50000)
    (k : ∀ l (zs : List Int) H', StOk H' sd sc (n + 2) → Sm [sd, sc] H H' → H' l = some (.lst (zs.map V.int)) → (∀ z ∈ zs, 0 ≤ z ∧ z ≤ 20) → (2 ≤ zs.length ∧ zs.length ≤ 4) → l ∉ [sd, sc] → Q (.ref l) H') :
    tIf (tB (tVar 1)) (tLst (tCons (tC (V.int 12)) (tCons (tC (V.int 20)) (tCons (tC (V.int 10)) (tCons (tC (V.int 8)) tNil)))))
      (tLst (tCons (tOp (rI0 fun i j => V.int (i + j)) (tC (V.int 1)) (tCall spTake [] C8.E0 (tCons (tVar 0) (tCons (tC (V.int 5)) tNil)))) (tCons (tOp (rI0 fun i j => V.int (i + j)) (tC (V.int 1)) (tCall spTake [] C8.E0 (tCons (tVar 0) (tCons (tC (V.int 4)) tNil)))) tNil))) σ H Q := by
  refine ⟨.bl gr, h1, gr, rfl, ite2 (fun _ => ?_) (fun _ => ?_)⟩
  · refine ⟨by show 4 ≤ sizeLine; decide, fun u hu => ?_⟩
    refine k u [12, 20, 10, 8] _ ((st.mono (by omega)).keep0 (Sm.new hu)) (Sm.new hu) upd_same (by decide) (by decide) (st.off hu)
  · refine take1 h0 st (by omega) (by decide) (by decide) fun c2 H2 a2 b2 e2 st2 => ⟨_, _, rfl, rfl, ?_⟩
    refine take1 h0 st2 (by omega) (by decide) (by decide) fun c3 H3 a3 b3 e3 st3 => ⟨_, _, rfl, rfl, by show 2 ≤ sizeLine; decide, fun u hu => ?_⟩
    refine k u [1 + c2, 1 + c3] _ (st3.keep0 (Sm.new hu)) ((e2.trans e3).trans (Sm.new hu)) upd_same (fun z m => ?_) ⟨Nat.le_refl 2, (by show 2 ≤ 4; decide)⟩ (st3.off hu)
    rcases List.mem_cons.mp m with rfl | m
    · omega
    · rw [List.mem_singleton.mp m]; omega
/-- lists of names, each new -/
def NmL (sd sc : Addr) (H0 H : Hp) (D : Addr) : List V → List (List Str) → Prop := Paired fun v xs => ∃ p, v = .ref p ∧ p ∉ [sd, sc, D] ∧ H0 p = Option.none ∧ NmAt H p xs ∧ xs.length ≤ 20
theorem NmL.keep {sd sc : Addr} {H0 H H' : Hp} {D : Addr} {vs : List V} {ls : List (List Str)} (h : NmL sd sc H0 H D vs ls) (e : Sm [sd, sc] H H') : NmL sd sc H0 H' D vs ls := Paired.mapP h fun _ _ ⟨p, a, b, c, d, l⟩ => ⟨p, a, b, c, d.keep e (fun m => b (by
  rcases List.mem_cons.mp m with rfl | m
  · simp
  · rw [List.mem_singleton.mp m]; simp)), l⟩
theorem NmL.keepN {sd sc : Addr} {H0 H : Hp} {D p : Addr} {o : HO} {vs : List V} {ls : List (List Str)} (h : NmL sd sc H0 H D vs ls) (hp : H p = Option.none) : NmL sd sc H0 (upd H p o) D vs ls := h.keep (Sm.new hp)
theorem NmL.keepD {sd sc : Addr} {H0 H : Hp} {D : Addr} {o : HO} {vs : List V} {ls : List (List Str)} (h : NmL sd sc H0 H D vs ls) : NmL sd sc H0 (upd H D o) D vs ls := Paired.mapP h fun _ _ ⟨p, a, b, c, d, l⟩ => ⟨p, a, b, c, d.keep (Sm.at (S := [D]) (p := D) (by simp)) (fun m => b (by rw [List.mem_singleton.mp m]; simp)), l⟩
def spHallL : Sp := fun vs H Q _ => ∃ (sd sc : Addr) (n : Nat) (gr : Bool), vs = [.ref sd, .bl gr] ∧ StOk H sd sc n ∧ n ≤ 50000 ∧
  ∀ hd g d H', HallG H' hd g d → okHall d → (∀ x ∈ g.all hd, H x = Option.none) → Sm [sd, sc] H H' → StOk H' sd sc (n + 3000) → Q (.ref hd) H'
theorem c_hall_ (T : TxL K mg) : C8.Cal P w K mg base 3 "_law_hall" spHallL [] := by
  obtain ⟨f, fd, D, b⟩ := T.hall
  have c_ltake := c_take_ (P := P) (w := w) (base := base) T
  have c_lnames := c_names_ (P := P) (w := w) (base := base) T
  have c_lwordy := c_wordy_ (P := P) (w := w) (base := base) T
  have c_lpalette := c_palette_ (P := P) (w := w) (base := base) T
  refine C8.cal0 D b .nil sc_lhall (fun vs H Q E z => ?_) (fun cdv A outer s H vs Q E hr z => ?_)
  · obtain ⟨_, _, _, _, rfl, _⟩ := z
    rfl
  · obtain ⟨sd, sc, n, gr, rfl, st, hn, q⟩ := z
    have hu := hu_of hr
    refine ⟨_, (pss_cons (ps_set (i := 2) sc_lhall.nd rfl (Or.inl rfl) (pe_ifExp (pt_val (pv 1)) (pe_lst (pa_cons pe_int (pa_cons pe_int (pa_cons pe_int (pa_cons pe_int pa_nil))))) (pe_lst (pa_cons (pe_op op_add pe_int (C8.pe_c c_ltake hr (by decide) (by rfl) (pa_cons (pv 0) (pa_cons pe_int pa_nil)))) (pa_cons (pe_op op_add pe_int (C8.pe_c c_ltake hr (by decide) (by rfl) (pa_cons (pv 0) (pa_cons pe_int pa_nil)))) pa_nil)))))
    (pss_cons (ps_set (i := 2) sc_lhall.nd rfl (Or.inl rfl) (pe_slice sl_list (pe_op op_cat (pv 2) (pe_lst (pa_cons (C8.pe_c c_ltake hr (by decide) (by rfl) (pa_cons (pv 0) (pa_cons pe_int pa_nil))) (pa_cons (C8.pe_c c_ltake hr (by decide) (by rfl) (pa_cons (pv 0) (pa_cons pe_int pa_nil))) pa_nil)))) po_none (po_some pe_int)))
    (pss_cons (ps_setLc (i := 3) (own := [("_law_size", 9)]) (g := (gName 9)) (tt := tYes) rfl sc_lhall.nd rfl rfl (sw_true rfl rfl rfl (by decide +kernel)) (pi_list (pv 2)) (blkOk_by (own := [("_law_size", 9)]) (N := nm_lhall) (sc := C8.fnScope s_lhall) (by decide +kernel)) (fun _ _ _ _ _ => (pg_name (i := 9) sc_lhall.nd rfl (Or.inl rfl))) (fun _ _ _ _ _ => pts_nil) (fun _ _ _ _ _ => (pe_callB (show CallR _ _ (rSortedS K) from cr_sortedS) (by rfl) T.n_sorted (by decide +kernel) (pa_cons (C8.pe_c c_lwordy hr (by decide) (by rfl) (pa_cons (pv 0) (pa_cons (C8.pe_c c_lnames hr (by decide) (by rfl) (pa_cons (pv 0) (pa_cons (pv 9) pa_nil))) pa_nil))) pa_nil))))
    (pss_cons (ps_asg (pv 3) (pg_unl rfl (pgs_cons (pg_name (i := 4) sc_lhall.nd rfl (Or.inl rfl)) (pgs_cons (pg_name (i := 5) sc_lhall.nd rfl (Or.inl rfl)) (pgs_cons (pg_name (i := 6) sc_lhall.nd rfl (Or.inl rfl)) (pgs_cons (pg_name (i := 7) sc_lhall.nd rfl (Or.inl rfl)) pgs_nil))))))
    (pss_cons (ps_set (i := 8) sc_lhall.nd rfl (Or.inl rfl) (pe_disp (pps_cons pe_str (C8.pe_c c_lpalette hr (by decide) (by rfl) (pa_cons (pv 0) (pa_cons (pv 4) pa_nil))) (pps_cons pe_str (C8.pe_c c_ltake hr (by decide) (by rfl) (pa_cons (pv 0) (pa_cons pe_int pa_nil))) pps_nil)) (by rfl) (by rfl) (fun z => by cases z) (by decide)))
    (pss_cons (ps_dput hu (pv 8) pe_str (C8.pe_c c_lwordy hr (by decide) (by rfl) (pa_cons (pv 0) (pa_cons (C8.pe_c c_lnames hr (by decide) (by rfl) (pa_cons (pv 0) (pa_cons pe_int pa_nil))) pa_nil))) rfl)
    (pss_cons (ps_dput hu (pv 8) pe_str (pe_lc (own := [("_law_name", 10)]) (g := (gName 10)) (tt := tYes) rfl sc_lhall.nd (pi_list (pv 5)) (blkOk_by (own := [("_law_name", 10)]) (N := nm_lhall) (sc := C8.fnScope s_lhall) (by decide +kernel)) (fun _ _ _ _ _ => (pg_name (i := 10) sc_lhall.nd rfl (Or.inl rfl))) (fun _ _ _ _ _ => pts_nil) (fun _ _ _ _ _ => (pe_tup (pa_cons (pv 10) (pa_cons (pe_op op_add pe_int (C8.pe_c c_ltake hr (by decide) (by rfl) (pa_cons (pv 0) (pa_cons pe_int pa_nil)))) (pa_cons (pe_op op_add pe_int (C8.pe_c c_ltake hr (by decide) (by rfl) (pa_cons (pv 0) (pa_cons pe_int pa_nil)))) pa_nil)))))) rfl)
    (pss_cons (ps_dput hu (pv 8) pe_str (pe_lc (own := [("_law_name", 10)]) (g := (gName 10)) (tt := tYes) rfl sc_lhall.nd (pi_list (pv 6)) (blkOk_by (own := [("_law_name", 10)]) (N := nm_lhall) (sc := C8.fnScope s_lhall) (by decide +kernel)) (fun _ _ _ _ _ => (pg_name (i := 10) sc_lhall.nd rfl (Or.inl rfl))) (fun _ _ _ _ _ => pts_nil) (fun _ _ _ _ _ => (pe_tup (pa_cons (pv 10) (pa_cons (pe_op op_add pe_int (C8.pe_c c_ltake hr (by decide) (by rfl) (pa_cons (pv 0) (pa_cons pe_int pa_nil)))) pa_nil))))) rfl)
    (pss_cons (ps_expr (pe_bm PySem.F.plainAttrs_dict PySem.F.slot_dict_update PySem.F.type_dict_update mt_update (pv 8) (pa_cons (pe_disp (pps_cons pe_str (pv 4) (pps_cons pe_str (pv 6) (pps_cons pe_str (pv 7) pps_nil))) (by rfl) (by rfl) (fun z => by cases z) (by decide)) pa_nil)))
    (pss_one (ps_ret (pv 8)))))))))))), ?_⟩
    refine sizes_go rfl rfl st hn fun l zs0 H1 st1 e1 hl1 hz1 lz1 nl1 => ?_
    -- four sizes
    refine ⟨.ref l, rfl, ?_⟩
    refine take1 rfl st1 (by omega) (by decide) (by decide) fun c2 H2 a2 b2 e2 st2 => ?_
    refine take1 rfl st2 (by omega) (by decide) (by decide) fun c3 H3 a3 b3 e3 st3 => ?_
    refine ⟨by show 2 ≤ sizeLine; decide, fun u hu => ?_⟩
    have hl3 : H3 l = some (.lst (zs0.map V.int)) := e3 _ _ nl1 (e2 _ _ nl1 hl1)
    refine ⟨l, u, _, _, rfl, rfl, at_new hu hl3, upd_same, ?_, fun v hv => ?_⟩
    · rw [List.length_map]
      exact Nat.le_of_lt (small1000 (show zs0.length + 2 ≤ 1000 by omega))
    refine ⟨4, rfl, v, _, rfl, sqL_at upd_same, fun z hz => ?_⟩
    have ez : cutV (zs0.map V.int ++ [.int c2, .int c3]) Option.none (some 4) = ((zs0 ++ [c2, c3]).take 4).map V.int := by
      rw [show (some 4 : Option Int) = some ((4 : Nat) : Int) from rfl, cut_take, List.map_take, List.map_append]
      rfl
    rw [ez]
    have lz : ((zs0 ++ [c2, c3]).take 4).length = 4 := by
      rw [List.length_take, List.length_append]
      show min 4 (zs0.length + 2) = 4
      omega
    have bz : ∀ x ∈ (zs0 ++ [c2, c3]).take 4, 0 ≤ x ∧ x ≤ 20 := fun x m => by
      rcases List.mem_append.mp (List.mem_of_mem_take m) with m | m
      · exact hz1 x m
      rcases List.mem_cons.mp m with rfl | m
      · omega
      · rw [List.mem_singleton.mp m]; omega
    generalize (zs0 ++ [c2, c3]).take 4 = zs at lz bz
    have e4 : Sm [sd, sc] H _ := ((((e1.trans e2).trans e3).trans (Sm.new (o := .lst [.int c2, .int c3]) hu)).trans (Sm.new (o := .lst (zs0.map V.int ++ [.int c2, .int c3])) hv)).trans (Sm.new (o := .lst (zs.map V.int)) hz)
    have st4 := ((st3.keep0 (Sm.new (o := .lst [.int c2, .int c3]) hu)).keep0 (Sm.new (o := .lst (zs0.map V.int ++ [.int c2, .int c3])) hv)).keep0 (Sm.new (o := .lst (zs.map V.int)) hz)
    have nz : z ∉ [sd, sc] := (st3.keep0 ((Sm.new (o := .lst [.int c2, .int c3]) hu).trans (Sm.new (o := .lst (zs0.map V.int ++ [.int c2, .int c3])) hv))).off hz
    have hz4 : (upd (upd (upd H3 u (.lst [.int c2, .int c3])) v (.lst (zs0.map V.int ++ [.int c2, .int c3]))) z (.lst (zs.map V.int))) z = some (.lst (zs.map V.int)) := upd_same
    generalize (upd (upd (upd H3 u (.lst [.int c2, .int c3])) v (.lst (zs0.map V.int ++ [.int c2, .int c3]))) z (.lst (zs.map V.int))) = H4 at e4 st4 hz4
    -- four lists of names
    refine ⟨.ref z, rfl, z, rfl, ⟨_, sqL_at hz4⟩, fun D hD => ?_⟩
    have nD := st4.off hD
    have nDH : H D = Option.none := e4.free nD hD
    have nzD : z ≠ D := ne_of_none hz4 hD
    refine lc_list (K := K) (a := z) (xs := zs.map V.int) (fun i H5 => i ≤ 4 ∧ Sm [sd, sc] H H5 ∧ H5 z = some (.lst (zs.map V.int)) ∧ StOk H5 sd sc (n + 4 + 60 * i) ∧ ∃ vs ls, H5 D = some (.lst vs) ∧ NmL sd sc H H5 D vs ls ∧ ls.length = i)
      ⟨Nat.zero_le _, e4.trans (Sm.new hD), at_new hD hz4, st4.keep0 (Sm.new hD), [], [], upd_same, .nil, rfl⟩ (fun i H5 _ h => sqL_at h.2.2.1) ?_ ?_
    · rintro i x H5 hi ⟨i4, e5, hz5, st5, vs, ls, hD5, nl, ll⟩
      obtain ⟨zi, hzi, rfl⟩ : ∃ zi, zi ∈ zs ∧ x = .int zi := by
        obtain ⟨y, hy, e⟩ := List.mem_map.mp (List.mem_of_getElem? hi)
        exact ⟨y, hy, e.symm⟩
      have i3 : i < 4 := by
        have := (List.getElem?_eq_some_iff.mp hi).1
        rw [List.length_map, lz] at this
        exact this
      obtain ⟨zi0, zi1⟩ := bz zi hzi
      refine ⟨rfl, yes_go ?_⟩
      refine ⟨.ref sd, rfl, .ref sd, rfl, .int zi, rfl, sd, sc, _, zi, rfl, st5, by omega, zi0, zi1, fun p xs H6 hp nm6 lx6 e6 st6 => ?_⟩
      have np : p ∉ [sd, sc] := st5.off hp
      refine ⟨sd, sc, p, _, xs, rfl, st6, by omega, np, nm6, by omega, fun r ys H7 hr7 nm7 ly7 e7 st7 => ?_⟩
      refine ⟨r, ys, rfl, sqL_at nm7.1, by omega, fun us k perm srt hk => ?_⟩
      have e57 := e6.trans e7
      have hD7 := e57 _ _ nD hD5
      have nk : k ∉ [sd, sc] := st7.off hk
      have nkD : k ≠ D := (ne_of_none hD7 hk).symm
      have nkH : H k = Option.none := (e5.trans e57).free nk hk
      refine ⟨vs, at_new hk hD7, ?_, by omega, ((e5.trans e57).trans (Sm.new hk)).mut nDH, ?_, ?_, vs ++ [.ref k], ls ++ [us], upd_same, paired_snoc ((nl.keep e57).keepN hk |>.keepD) ⟨k, rfl, ?_, nkH, ⟨?_, fun y m => nm7.2 y (perm.mem_iff.mp m)⟩, ?_⟩, by rw [List.length_append, ll]; rfl⟩
      · have := Paired.length nl
        exact small1000 (by omega)
      · rw [upd_ne nzD]
        exact at_new hk (e57 _ _ nz hz5)
      · exact ((st7.mono (by omega)).keep0 (Sm.new hk)).keep (Sm.at (S := [D]) (p := D) (by simp)) (fun z => nD (by rw [List.mem_singleton.mp z]; simp)) (fun z => nD (by rw [List.mem_singleton.mp z]; simp))
      · intro m
        rcases List.mem_cons.mp m with rfl | m
        · exact nk (by simp)
        rcases List.mem_cons.mp m with rfl | m
        · exact nk (by simp)
        · exact nkD (List.mem_singleton.mp m)
      · rw [upd_ne nkD]; exact upd_same
      · rw [perm.length_eq]; omega
    rintro H5 ⟨i4, e5, hz5, st5, vs, ls, hD5, nl, ll⟩
    rw [List.length_map, lz] at st5 ll
    obtain ⟨l0, l1, l2, l3, rfl⟩ : ∃ a b c d, ls = [a, b, c, d] := match ls, ll with
      | [a, b, c, d], _ => ⟨a, b, c, d, rfl⟩
    obtain ⟨v0, v1, v2, v3, rfl, r0, r1, r2, r3⟩ := paired4 nl
    obtain ⟨p0, rfl, n0, f0, m0, g0⟩ := r0
    obtain ⟨p1, rfl, n1, f1, m1, g1⟩ := r1
    obtain ⟨p2, rfl, n2, f2, m2, g2⟩ := r2
    obtain ⟨p3, rfl, n3, f3, m3, g3⟩ := r3
    have off2 : ∀ {p : Addr}, p ∉ [sd, sc, D] → p ∉ [sd, sc] := fun h m => h (by
      rcases List.mem_cons.mp m with rfl | m
      · simp
      · rw [List.mem_singleton.mp m]; simp)
    have n0 := off2 n0
    have n1 := off2 n1
    have n2 := off2 n2
    have n3 := off2 n3
    refine ⟨.ref D, rfl, D, _, rfl, sqL_at hD5, rfl, .ref p0, _, rfl, .ref p1, _, rfl, .ref p2, _, rfl, .ref p3, [], rfl, rfl, ?_⟩
    have zs4 := e5
    have hst : StOk H5 sd sc (n + 244) := st5
    clear hz5 nz nzD
    -- the dict: the palette, the slots
    intro hd hhd
    have nhd := st5.off hhd
    have nhdH : H hd = Option.none := e5.free nhd hhd
    refine ⟨.ref sd, rfl, .ref p0, rfl, sd, sc, p0, _, l0, rfl, hst.keep0 (Sm.new hhd), by omega, n0, m0.keep (Sm.new (S := []) hhd) (by simp), g0, fun t dc dw H6 pd e6 st6 => ?_⟩
    refine take1 rfl st6 (by omega) (by decide) (by decide) fun sl H7 a7 b7 e7 st7 => ?_
    have h7 : H7 hd = some (.dK []) := e7 _ _ nhd (e6 _ _ nhd upd_same)
    refine ⟨h7, [(Sum.inr "palette", .ref t), (Sum.inr "slots", .int sl)], rfl, (by show 2 ≤ 15; decide), ?_⟩
    have em1 : mergeK [] [((Sum.inr "palette" : Key), V.ref t), (Sum.inr "slots", .int sl)] = (hallKs.take 2).zip [.ref t, .int sl] := by
      have a : putK ([] : List (Key × V)) (Sum.inr "palette") (.ref t) = (hallKs.take 1).zip [.ref t] := put_hall (i := 0) (vs := []) rfl rfl
      have b : putK ((hallKs.take 1).zip [.ref t]) (Sum.inr "slots") (.int sl) = (hallKs.take 2).zip [.ref t, .int sl] := put_hall (i := 1) rfl rfl
      unfold mergeK
      simp only [List.foldl]
      rw [a, b]
    rw [em1]
    have e8 : Sm [sd, sc] H5 (upd H7 hd (.dK ((hallKs.take 2).zip [.ref t, .int sl]))) := (((Sm.new hhd).trans e6).trans e7).mut hhd
    have pd8 := (pd.keep (st6.tk e7)).keep (TK.dic (o := .dK ((hallKs.take 2).zip [.ref t, .int sl])) h7)
    have nhs : sd ∉ [hd] ∧ sc ∉ [hd] := ⟨fun z => nhd (by rw [List.mem_singleton.mp z]; simp), fun z => nhd (by rw [List.mem_singleton.mp z]; simp)⟩
    have st8 : StOk (upd H7 hd (.dK ((hallKs.take 2).zip [.ref t, .int sl]))) sd sc (n + 2245) := (st7.mono (by omega)).keep (Sm.at (S := [hd]) (p := hd) (by simp)) nhs.1 nhs.2
    have h8 : (upd H7 hd (.dK ((hallKs.take 2).zip [.ref t, .int sl]))) hd = some (.dK ((hallKs.take 2).zip [.ref t, .int sl])) := upd_same
    generalize upd H7 hd (.dK ((hallKs.take 2).zip [.ref t, .int sl])) = H8 at e8 pd8 st8 h8
    -- strange
    refine ⟨.ref sd, rfl, .ref sd, rfl, sd, sc, _, 2, rfl, st8, by omega, by decide, by decide, fun y xs9 H9 hy nm9 lx9 e9 st9 => ?_⟩
    refine ⟨sd, sc, y, _, xs9, rfl, st9, by omega, st8.off hy, nm9, (by rw [lx9]; decide), fun q2 sx H10 hq2 nm10 lx10 e10 st10 => ?_⟩
    have h10 : H10 hd = _ := e10 _ _ nhd (e9 _ _ nhd h8)
    have nq2 := st9.off hq2
    have fq2 : H q2 = Option.none := (((e5.trans e8).trans e9)).free nq2 hq2
    have nq2h : q2 ≠ hd := (ne_of_none (e9 _ _ nhd h8) hq2).symm
    refine ⟨.ref hd, rfl, hd, _, rfl, DPut.k (k := Sum.inr "strange") h10 (by show 2 < sizeLine; decide), ?_⟩
    have ep2 : putK ((hallKs.take 2).zip [.ref t, .int sl]) (Sum.inr "strange") (.ref q2) = (hallKs.take 3).zip [.ref t, .int sl, .ref q2] := put_hall (i := 2) rfl rfl
    rw [ep2]
    have lst0 : sx.length = 2 := by rw [lx10, lx9]; rfl
    have e11 : Sm [sd, sc] H5 (upd H10 hd (.dK ((hallKs.take 3).zip [.ref t, .int sl, .ref q2]))) := ((e8.trans e9).trans e10).mut hhd
    have pd11 := (pd8.keep ((st8.tk (e9.trans e10)))).keep (TK.dic (o := .dK ((hallKs.take 3).zip [.ref t, .int sl, .ref q2])) h10)
    have st11 : StOk (upd H10 hd (.dK ((hallKs.take 3).zip [.ref t, .int sl, .ref q2]))) sd sc (n + 2301) := (st10.mono (by omega)).keep (Sm.at (S := [hd]) (p := hd) (by simp)) nhs.1 nhs.2
    have nm11 : NmAt (upd H10 hd (.dK ((hallKs.take 3).zip [.ref t, .int sl, .ref q2]))) q2 sx := nm10.keep (Sm.at (S := [hd]) (p := hd) (by simp)) (fun z => nq2h (List.mem_singleton.mp z))
    have h11 : (upd H10 hd (.dK ((hallKs.take 3).zip [.ref t, .int sl, .ref q2]))) hd = some (.dK ((hallKs.take 3).zip [.ref t, .int sl, .ref q2])) := upd_same
    generalize upd H10 hd (.dK ((hallKs.take 3).zip [.ref t, .int sl, .ref q2])) = H11 at e11 pd11 st11 nm11 h11
    have m1' := m1.keep e11 n1
    -- kinds
    refine ⟨.ref p1, rfl, p1, rfl, ⟨_, sqL_at m1'.1⟩, fun c hc => ?_⟩
    have nc := st11.off hc
    have nc5 : H5 c = Option.none := e11.free nc hc
    have ncp1 : p1 ≠ c := ne_of_none m1'.1 hc
    refine lc_list (K := K) (a := p1) (xs := l1.map V.str) (fun i H12 => i ≤ 20 ∧ Sm [sd, sc] H11 H12 ∧ H12 p1 = some (.lst (l1.map V.str)) ∧ StOk H12 sd sc (n + 2301 + 2 * i) ∧ ∃ vs ds, H12 c = some (.lst vs) ∧ RowD H12 vs ds ∧ ds.length = i ∧ (∀ x ∈ ds, okRow x) ∧ ∀ r ∈ ds, ∃ s t, r = V.str s :: t ∧ okN 40 s)
      ⟨Nat.zero_le _, Sm.new hc, at_new hc m1'.1, st11.keep0 (Sm.new hc), [], [], upd_same, .nil, rfl, (fun x m => by cases m), fun x m => by cases m⟩ (fun i H5 _ h => sqL_at h.2.2.1) ?_ ?_
    · rintro i x H12 hi ⟨i20, e12, hp12, st12, vs, ds, hc12, rd12, ld, ok12, kn12⟩
      obtain ⟨nm, rfl, hnm⟩ := map_str_mem (List.mem_of_getElem? hi)
      have i19 : i < 20 := by
        have := (List.getElem?_eq_some_iff.mp hi).1
        rw [List.length_map] at this
        omega
      have oknm := m1.2 nm hnm
      refine ⟨rfl, yes_go ?_⟩
      refine ⟨.str nm, rfl, ?_⟩
      refine take1 rfl st12 (by omega) (by decide) (by decide) fun j1 H13 a13 b13 e13 st13 => ⟨_, _, rfl, rfl, ?_⟩
      refine take1 rfl st13 (by omega) (by decide) (by decide) fun j2 H14 a14 b14 e14 st14 => ⟨_, _, rfl, rfl, by show 3 ≤ sizeLine; decide, fun w hw => ?_⟩
      have e124 := e13.trans e14
      have k124 := (st12.tk e124).trans (TK.new (o := .tup [.str nm, .int (1 + j1), .int (1 + j2)]) hw)
      have hc14 := at_new (o := .tup [.str nm, .int (1 + j1), .int (1 + j2)]) hw (e124 _ _ nc hc12)
      refine ⟨vs, hc14, ?_, by omega, ((e12.trans e124).trans (Sm.new hw)).mut hc, ?_, ?_, vs ++ [.ref w], ds ++ [[.str nm, .int (1 + j1), .int (1 + j2)]], upd_same, ((rd12.keep k124).snoc upd_same).keep (TK.lst hc14), by rw [List.length_append, ld]; rfl, okRows_snoc ok12 ⟨fun v m => ?_, by show 3 ≤ 9; decide⟩, fun r m => ?_⟩
      · have := Paired.length rd12
        exact small1000 (by omega)
      · rw [upd_ne ncp1]
        exact at_new hw (e124 _ _ n1 hp12)
      · exact ((st14.mono (by omega)).keep0 (Sm.new hw)).keep (Sm.at (S := [c]) (p := c) (by simp)) (fun z => nc (by rw [List.mem_singleton.mp z]; simp)) (fun z => nc (by rw [List.mem_singleton.mp z]; simp))
      · rcases List.mem_cons.mp m with rfl | m
        · exact oknm.str (by decide)
        rcases List.mem_cons.mp m with rfl | m
        · exact ⟨by omega, Int.lt_of_lt_of_le (show 1 + j1 < 100 by omega) (by decide)⟩
        · rw [List.mem_singleton.mp m]
          exact ⟨by omega, Int.lt_of_lt_of_le (show 1 + j2 < 1000 by omega) (by decide)⟩
      · rcases List.mem_append.mp m with m | m
        · exact kn12 r m
        · exact ⟨nm, _, List.mem_singleton.mp m, oknm⟩
    rintro H12 ⟨i20, e12, _, st12, vk, dk, hc12, rd12, ld12, ok12, kn12⟩
    have h12 : H12 hd = _ := e12 _ _ nhd h11
    have nchd : c ≠ hd := (ne_of_none h11 hc).symm
    refine ⟨.ref hd, rfl, hd, _, rfl, DPut.k (k := Sum.inr "kinds") h12 (by show 3 < sizeLine; decide), ?_⟩
    have ep3 : putK ((hallKs.take 3).zip [.ref t, .int sl, .ref q2]) (Sum.inr "kinds") (.ref c) = (hallKs.take 4).zip [.ref t, .int sl, .ref q2, .ref c] := put_hall (i := 3) rfl rfl
    rw [ep3]
    have e13 : Sm [sd, sc] H5 (upd H12 hd (.dK ((hallKs.take 4).zip [.ref t, .int sl, .ref q2, .ref c]))) := (e11.trans e12).mut hhd
    have k13 := TK.dic (o := .dK ((hallKs.take 4).zip [.ref t, .int sl, .ref q2, .ref c])) h12
    have pd13 := (pd11.keep (st11.tk e12)).keep k13
    have rd13 := rd12.keep k13
    have st13 : StOk (upd H12 hd (.dK ((hallKs.take 4).zip [.ref t, .int sl, .ref q2, .ref c]))) sd sc (n + 2341) := (st12.mono (by rw [List.length_map]; omega)).keep (Sm.at (S := [hd]) (p := hd) (by simp)) nhs.1 nhs.2
    have nm13 : NmAt (upd H12 hd (.dK ((hallKs.take 4).zip [.ref t, .int sl, .ref q2, .ref c]))) q2 sx := (nm11.keep e12 nq2).keep (Sm.at (S := [hd]) (p := hd) (by simp)) (fun z => nq2h (List.mem_singleton.mp z))
    have hc13 : (upd H12 hd (.dK ((hallKs.take 4).zip [.ref t, .int sl, .ref q2, .ref c]))) c = some (.lst vk) := by rw [upd_ne nchd]; exact hc12
    have h13 : (upd H12 hd (.dK ((hallKs.take 4).zip [.ref t, .int sl, .ref q2, .ref c]))) hd = some (.dK ((hallKs.take 4).zip [.ref t, .int sl, .ref q2, .ref c])) := upd_same
    generalize upd H12 hd (.dK ((hallKs.take 4).zip [.ref t, .int sl, .ref q2, .ref c])) = H13 at e13 pd13 rd13 st13 nm13 hc13 h13
    -- ranks
    have m2' := m2.keep e13 n2
    refine ⟨.ref p2, rfl, p2, rfl, ⟨_, sqL_at m2'.1⟩, fun g hg => ?_⟩
    have ng := st13.off hg
    have ng5 : H5 g = Option.none := e13.free ng hg
    have ngp2 : p2 ≠ g := ne_of_none m2'.1 hg
    refine lc_list (K := K) (a := p2) (xs := l2.map V.str) (fun i H14 => i ≤ 20 ∧ Sm [sd, sc] H13 H14 ∧ H14 p2 = some (.lst (l2.map V.str)) ∧ StOk H14 sd sc (n + 2341 + i) ∧ ∃ vs ds, H14 g = some (.lst vs) ∧ RowD H14 vs ds ∧ ds.length = i ∧ (∀ x ∈ ds, okRow x))
      ⟨Nat.zero_le _, Sm.new hg, at_new hg m2'.1, st13.keep0 (Sm.new hg), [], [], upd_same, .nil, rfl, (fun x m => by cases m)⟩ (fun i H5 _ h => sqL_at h.2.2.1) ?_ ?_
    · rintro i x H14 hi ⟨i20, e14, hp14, st14, vs, ds, hg14, rd14, ld, ok14⟩
      obtain ⟨nm, rfl, hnm⟩ := map_str_mem (List.mem_of_getElem? hi)
      have i19 : i < 20 := by
        have := (List.getElem?_eq_some_iff.mp hi).1
        rw [List.length_map] at this
        omega
      have oknm := m2.2 nm hnm
      refine ⟨rfl, yes_go ?_⟩
      refine ⟨.str nm, rfl, ?_⟩
      refine take1 rfl st14 (by omega) (by decide) (by decide) fun j1 H15 a15 b15 e15 st15 => ⟨_, _, rfl, rfl, by show 2 ≤ sizeLine; decide, fun w hw => ?_⟩
      have k124 := (st14.tk e15).trans (TK.new (o := .tup [.str nm, .int (1 + j1)]) hw)
      have hg15 := at_new (o := .tup [.str nm, .int (1 + j1)]) hw (e15 _ _ ng hg14)
      refine ⟨vs, hg15, ?_, by omega, ((e14.trans e15).trans (Sm.new hw)).mut hg, ?_, ?_, vs ++ [.ref w], ds ++ [[.str nm, .int (1 + j1)]], upd_same, ((rd14.keep k124).snoc upd_same).keep (TK.lst hg15), by rw [List.length_append, ld]; rfl, okRows_snoc ok14 ⟨fun v m => ?_, by show 2 ≤ 9; decide⟩⟩
      · have := Paired.length rd14
        exact small1000 (by omega)
      · rw [upd_ne ngp2]
        exact at_new hw (e15 _ _ n2 hp14)
      · exact ((st15.mono (by omega)).keep0 (Sm.new hw)).keep (Sm.at (S := [g]) (p := g) (by simp)) (fun z => ng (by rw [List.mem_singleton.mp z]; simp)) (fun z => ng (by rw [List.mem_singleton.mp z]; simp))
      · rcases List.mem_cons.mp m with rfl | m
        · exact oknm.str (by decide)
        · rw [List.mem_singleton.mp m]
          exact ⟨by omega, Int.lt_of_lt_of_le (show 1 + j1 < 100 by omega) (by decide)⟩
    rintro H14 ⟨i20', e14, _, st14, vg, dg, hg14, rd14, ld14, ok14⟩
    have h14 : H14 hd = _ := e14 _ _ nhd h13
    have nghd : g ≠ hd := (ne_of_none h13 hg).symm
    refine ⟨.ref hd, rfl, hd, _, rfl, DPut.k (k := Sum.inr "ranks") h14 (by show 4 < sizeLine; decide), ?_⟩
    have ep4 : putK ((hallKs.take 4).zip [.ref t, .int sl, .ref q2, .ref c]) (Sum.inr "ranks") (.ref g) = (hallKs.take 5).zip [.ref t, .int sl, .ref q2, .ref c, .ref g] := put_hall (i := 4) rfl rfl
    rw [ep4]
    have e15 : Sm [sd, sc] H5 (upd H14 hd (.dK ((hallKs.take 5).zip [.ref t, .int sl, .ref q2, .ref c, .ref g]))) := (e13.trans e14).mut hhd
    have k15 := TK.dic (o := .dK ((hallKs.take 5).zip [.ref t, .int sl, .ref q2, .ref c, .ref g])) h14
    have pd15 := (pd13.keep (st13.tk e14)).keep k15
    have rdk15 := (rd13.keep (st13.tk e14)).keep k15
    have rdg15 := rd14.keep k15
    have st15 : StOk (upd H14 hd (.dK ((hallKs.take 5).zip [.ref t, .int sl, .ref q2, .ref c, .ref g]))) sd sc (n + 2361) := (st14.mono (by rw [List.length_map]; omega)).keep (Sm.at (S := [hd]) (p := hd) (by simp)) nhs.1 nhs.2
    have nm15 : NmAt (upd H14 hd (.dK ((hallKs.take 5).zip [.ref t, .int sl, .ref q2, .ref c, .ref g]))) q2 sx := (nm13.keep e14 nq2).keep (Sm.at (S := [hd]) (p := hd) (by simp)) (fun z => nq2h (List.mem_singleton.mp z))
    have hc15 : (upd H14 hd (.dK ((hallKs.take 5).zip [.ref t, .int sl, .ref q2, .ref c, .ref g]))) c = some (.lst vk) := by rw [upd_ne nchd]; exact e14 _ _ nc hc13
    have hg15 : (upd H14 hd (.dK ((hallKs.take 5).zip [.ref t, .int sl, .ref q2, .ref c, .ref g]))) g = some (.lst vg) := by rw [upd_ne nghd]; exact hg14
    have h15 : (upd H14 hd (.dK ((hallKs.take 5).zip [.ref t, .int sl, .ref q2, .ref c, .ref g]))) hd = some (.dK ((hallKs.take 5).zip [.ref t, .int sl, .ref q2, .ref c, .ref g])) := upd_same
    generalize upd H14 hd (.dK ((hallKs.take 5).zip [.ref t, .int sl, .ref q2, .ref c, .ref g])) = H15 at e15 pd15 rdk15 rdg15 st15 nm15 hc15 hg15 h15
    -- the last three
    refine ⟨.ref hd, rfl, .inr (.inr (.inl ⟨rfl, .inl ⟨_, h15⟩⟩)), fun ee hee => ?_⟩
    refine ⟨.ref p0, rfl, .ref p2, rfl, .ref p3, rfl, upd_same, [(Sum.inr "colours", V.ref p0), (Sum.inr "teams", V.ref p2), (Sum.inr "pots", V.ref p3)], rfl, (by show 3 ≤ 15; decide), ?_⟩
    rw [upd_upd]
    have nk3 : ([Sum.inr "colours", Sum.inr "teams", Sum.inr "pots"] : List Key).Nodup := by decide +kernel
    have em3 : mergeK [] [((Sum.inr "colours" : Key), V.ref p0), (Sum.inr "teams", V.ref p2), (Sum.inr "pots", V.ref p3)] = [((Sum.inr "colours" : Key), V.ref p0), (Sum.inr "teams", V.ref p2), (Sum.inr "pots", V.ref p3)] := by
      rw [merge_self]
      · rfl
      · exact nk3
    rw [em3]
    have h16 := at_new (o := .dK [((Sum.inr "colours" : Key), V.ref p0), (Sum.inr "teams", V.ref p2), (Sum.inr "pots", V.ref p3)]) hee h15
    refine ⟨hd, ee, _, _, rfl, rfl, h16, upd_same, ne_of_none h15 hee, (by show 5 + 3 ≤ sizeLine; decide), ?_⟩
    have em8 : mergeK ((hallKs.take 5).zip [.ref t, .int sl, .ref q2, .ref c, .ref g]) [((Sum.inr "colours" : Key), V.ref p0), (Sum.inr "teams", V.ref p2), (Sum.inr "pots", V.ref p3)] = hallKs.zip [V.ref t, .int sl, .ref q2, .ref c, .ref g, .ref p0, .ref p2, .ref p3] := by
      rw [merge_self]
      · rfl
      · exact hallKs_nd
    rw [em8]
    have s16 : Sm [] H15 (upd H15 ee (.dK [((Sum.inr "colours" : Key), V.ref p0), (Sum.inr "teams", V.ref p2), (Sum.inr "pots", V.ref p3)])) := Sm.new hee
    have k16 : TK H15 (upd H15 ee (.dK [((Sum.inr "colours" : Key), V.ref p0), (Sum.inr "teams", V.ref p2), (Sum.inr "pots", V.ref p3)])) := TK.new hee
    have e16 : Sm [sd, sc] H5 _ := e15.trans s16.of
    have st16 := st15.keep0 s16
    generalize upd H15 ee (.dK [((Sum.inr "colours" : Key), V.ref p0), (Sum.inr "teams", V.ref p2), (Sum.inr "pots", V.ref p3)]) = H16 at h16 s16 k16 e16 st16
    have k17 : TK H16 (upd H16 hd (.dK (hallKs.zip [V.ref t, .int sl, .ref q2, .ref c, .ref g, .ref p0, .ref p2, .ref p3]))) := TK.dic h16
    have kk := k16.trans k17
    have s17 : Sm [hd] H16 (upd H16 hd (.dK (hallKs.zip [V.ref t, .int sl, .ref q2, .ref c, .ref g, .ref p0, .ref p2, .ref p3]))) := Sm.at (by simp)
    have one : ∀ {x : Addr}, x ≠ hd → x ∉ [hd] := fun h z => h (List.mem_singleton.mp z)
    have m0' := (m0.keep e16 n0).keep s17 (one (ne_of_none m0.1 hhd))
    have m2' := (m2.keep e16 n2).keep s17 (one (ne_of_none m2.1 hhd))
    have m3' := (m3.keep e16 n3).keep s17 (one (ne_of_none m3.1 hhd))
    refine ⟨.ref hd, rfl, q hd ⟨t, q2, c, g, p0, p2, p3⟩ ⟨dc, dw, dk, dg, l3, sl⟩ _ ⟨upd_same, pd15.keep kk, ⟨sx, (nm15.keep s16 (by simp)).keep s17 (one nq2h), lst0⟩, ⟨vk, s17 _ _ (one nchd) (s16 _ _ (by simp) hc15), rdk15.keep kk⟩, kn12, ⟨vg, s17 _ _ (one nghd) (s16 _ _ (by simp) hg15), rdg15.keep kk⟩, ⟨l0, m0', g0⟩, ⟨l2, m2', g2⟩, m3'⟩ ?_ ?_ ?_ ?_⟩
    · refine ⟨fun ps m => ?_, ⟨pd.lc, pd.lw, ?_, ?_, ?_⟩, fun p m => (m3.2 p m).1, ⟨a7, Int.lt_trans b7 (by decide)⟩⟩
      · simp only [List.mem_append] at m
        rcases m with ((m | m) | m) | m
        · exact pd.rc ps m
        · exact pd.rw_ ps m
        · exact ok12 ps m
        · exact ok14 ps m
      · show dk.length ≤ 100
        rw [ld12, List.length_map]; omega
      · show dg.length ≤ 100
        rw [ld14, List.length_map]; omega
      · show l3.length ≤ 100
        omega
    · intro x m
      have m : x ∈ [hd, q2, c, g, p0, p2, p3] := m
      simp only [List.mem_cons, List.not_mem_nil, or_false] at m
      rcases m with rfl | rfl | rfl | rfl | rfl | rfl | rfl
      · exact nhdH
      · exact fq2
      · exact e5.free nc nc5
      · exact e5.free ng ng5
      · exact f0
      · exact f2
      · exact f3
    · exact (e5.trans e16).mut nhdH
    · exact (st16.mono (by omega)).keep s17 nhs.1 nhs.2
end
end Zz

/-! The law's Book and its head's rows. -/
namespace Zz
open PySem PySem.Spec PyProof.Rows L2
theorem HallG.get {H : Hp} {hd : Addr} {g : HG} {d : HallD} {i : Nat} {k : Str} {v : V} (h : HallG H hd g d) (hk : hallKs[i]? = some (Sum.inr k)) (hv : (g.vals d.slots)[i]? = some v) : DGet H hd (.str k) (some v) := by
  have z := DGet.k (k := Sum.inr k) h.dict
  rw [val_zip hallKs_nd hk hv] at z
  exact z
/-- a Book's hall, its things made in the run -/
structure HallB (H : Hp) (h : Hall) (d : HallD) : Prop where
  pal : PalD H h.pal d.colours d.washes
  kinds : ∃ xs, H h.kinds = some (.tup xs) ∧ RowD H xs d.kinds
  teams : ∃ xs, H h.teams = some (.tup xs) ∧ RowD H xs d.teams
  pots : H h.pots = some (.tup (d.pots.map V.str))
  slots : h.slots = d.slots
theorem HallB.keep {H H' : Hp} {h : Hall} {d : HallD} (b : HallB H h d) (k : TK H H') : HallB H' h d := by
  obtain ⟨a, ⟨xk, b1, b2⟩, ⟨xt, c1, c2⟩, p, s⟩ := b
  exact ⟨a.keep k, ⟨xk, k _ _ b1, b2.keep k⟩, ⟨xt, k _ _ c1, c2.keep k⟩, k _ _ p, s⟩
theorem HallB.at {K : PySem.W.Frag} {H : Hp} {h : Hall} {d : HallD} (b : HallB H h d) : HallAt K H h d := by
  obtain ⟨⟨⟨pc, pw, xc, xw, a1, a2, a3, a4, a5⟩, _, _, _, _⟩, ⟨xk, b1, b2⟩, ⟨xt, c1, c2⟩, p, s⟩ := b
  exact ⟨⟨pc, pw, xc, xw, sqT_at a1, sqT_at a2, a3.rows, sqT_at a4, a5.rows⟩, ⟨xk, sqT_at b1, b2.rows⟩, ⟨xt, sqT_at c1, c2.rows⟩, sqT_at p, s⟩
theorem TK.sm {H H' : Hp} (e : Sm [] H H') : TK H H' := fun t xs z => e _ _ (by simp) z
theorem HallG.keep0 {H H' : Hp} {hd : Addr} {g : HG} {d : HallD} (h : HallG H hd g d) (e : Sm [] H H') : HallG H' hd g d := h.keep e (TK.sm e) (fun _ _ => by simp)
section
variable {P : Program} {w : World} {K : PySem.W.Frag} {mg : Str → Option Value} {base : Heap} {CB CE CR CS : Addr}
def spBookL (CB CE CR CS : Addr) : Sp := fun vs H Q _ => ∃ (hd : Addr) (g : HG) (d : HallD), vs = [.ref hd] ∧ HallG H hd g d ∧
  ∀ b tl h H', Sm [] H H' → BookAt CB CE CR CS H' b tl h [] → HallB H' h d → H tl = Option.none → Q (.ref b) H'
theorem c_book_ (T : TxL K mg) (TB : TxB K mg CB) : C8.Cal P w K mg base 3 "_law_book" (spBookL CB CE CR CS) [] := by
  obtain ⟨f, fd, D, b⟩ := T.book
  have kB := kB_ (P := P) (w := w) (base := base) TB
  refine C8.cal0 D b .nil sc_lbook (fun vs H Q E z => ?_) (fun cdv A outer s H vs Q E hr z => ?_)
  · obtain ⟨_, _, _, rfl, _⟩ := z
    rfl
  · obtain ⟨hd, g, d, rfl, hg, q⟩ := z
    have hu := hu_of hr
    refine ⟨_, (pss_one (ps_ret (C8.pe_mk kB hr (by decide) (by rfl) (pa_cons (pe_dget hu (pv 0) pe_str (fun _ _ => rfl)) (pa_cons (pe_callTy call_tuple_of (by rfl) T.n_tuple (by decide +kernel) (pa_cons (pe_dget hu (pv 0) pe_str (fun _ _ => rfl)) pa_nil)) (pa_cons (pe_callTy call_tuple_of (by rfl) T.n_tuple (by decide +kernel) (pa_cons (pe_dget hu (pv 0) pe_str (fun _ _ => rfl)) pa_nil)) (pa_cons (pe_callTy call_tuple_of (by rfl) T.n_tuple (by decide +kernel) (pa_cons (pe_dget hu (pv 0) pe_str (fun _ _ => rfl)) pa_nil)) (pa_cons (pe_dget hu (pv 0) pe_str (fun _ _ => rfl)) pa_nil)))))))), ?_⟩
    obtain ⟨xk, k1, k2⟩ := hg.ks
    obtain ⟨xr, r1, r2⟩ := hg.rs
    refine ⟨.ref hd, rfl, hd, .ref g.pal, rfl, hg.get (i := 0) rfl rfl, ?_⟩
    refine ⟨.ref hd, rfl, hd, .ref g.ks, rfl, hg.get (i := 3) rfl rfl, g.ks, _, rfl, .inl ⟨sqL_at k1, fun q1 h1 => ?_⟩⟩
    have s1 : Sm [] H (upd H q1 (.tup xk)) := Sm.new h1
    have t1 : (upd H q1 (.tup xk)) q1 = some (.tup xk) := upd_same
    generalize upd H q1 (.tup xk) = H1 at s1 t1
    have hg1 := hg.keep0 s1
    refine ⟨.ref hd, rfl, hd, .ref g.rs, rfl, hg1.get (i := 4) rfl rfl, g.rs, _, rfl, .inl ⟨sqL_at (s1 _ _ (by simp) r1), fun q2 h2 => ?_⟩⟩
    have s2 : Sm [] H1 (upd H1 q2 (.tup xr)) := Sm.new h2
    have t2 : (upd H1 q2 (.tup xr)) q2 = some (.tup xr) := upd_same
    generalize upd H1 q2 (.tup xr) = H2 at s2 t2
    have hg2 := hg1.keep0 s2
    refine ⟨.ref hd, rfl, hd, .ref g.ps, rfl, hg2.get (i := 7) rfl rfl, g.ps, _, rfl, .inl ⟨sqL_at hg2.ps.1, fun q3 h3 => ?_⟩⟩
    have s3 : Sm [] H2 (upd H2 q3 (.tup (d.pots.map V.str))) := Sm.new h3
    have t3 : (upd H2 q3 (.tup (d.pots.map V.str))) q3 = some (.tup (d.pots.map V.str)) := upd_same
    generalize upd H2 q3 (.tup (d.pots.map V.str)) = H3 at s3 t3
    have hg3 := hg2.keep0 s3
    refine ⟨.ref hd, rfl, hd, .int d.slots, rfl, hg3.get (i := 1) rfl rfl, ?_⟩
    intro x y nx ny nyx
    refine ⟨x, y, ⟨g.pal, q1, q2, q3, d.slots⟩, rfl, upd_same, fun tl H5 ntl ox otl oth => ⟨rfl, ?_⟩⟩
    have s5 : Sm [] H3 H5 := fun c o _ hc => oth c o (ne_of_none hc nx) (by rw [upd_ne (ne_of_none hc nx), upd_ne (ne_of_none hc ny)]; exact hc)
    have s13 := s2.trans s3
    have sH := (s1.trans s13).trans s5
    have s05 := s13.trans s5
    have ntlx : tl ≠ x := fun z => by rw [z, upd_same] at ntl; cases ntl
    have ntly : tl ≠ y := fun z => by rw [z, upd_ne nyx, upd_same] at ntl; cases ntl
    have ntl3 : H3 tl = Option.none := by rw [upd_ne ntlx, upd_ne ntly] at ntl; exact ntl
    refine q x tl ⟨g.pal, q1, q2, q3, d.slots⟩ H5 sH ⟨⟨y, ox⟩, ⟨[], otl, .nil⟩, Good.nil, by decide⟩ ⟨hg.pal.keep (TK.sm sH), ⟨xk, s05 _ _ (by simp) t1, k2.keep (TK.sm sH)⟩, ⟨xr, (s3.trans s5) _ _ (by simp) t2, r2.keep (TK.sm sH)⟩, s5 _ _ (by simp) t3, rfl⟩ ((s1.trans s13).free0 ntl3)
def spHeadL : Sp := fun vs H Q _ => ∃ (hd : Addr) (g : HG) (d : HallD), vs = [.ref hd] ∧ HallG H hd g d ∧ okHall d ∧ ∀ p H', Sm [] H H' → H' p = some (.lst ((headT d).map V.str)) → Q (.ref p) H'
theorem c_lhead_ (T : TxL K mg) : C8.Cal P w K mg base 2 "_law_head" spHeadL [] := by
  obtain ⟨f, fd, D, b⟩ := T.head
  have c_lrow := c_lrow_ (P := P) (w := w) (base := base) T
  refine C8.cal0 D b .nil sc_lhead (fun vs H Q E z => ?_) (fun cdv A outer s H vs Q E hr z => ?_)
  · obtain ⟨_, _, _, rfl, _⟩ := z
    rfl
  · obtain ⟨hd, g, d, rfl, hg, ok, q⟩ := z
    have hu := hu_of hr
    obtain ⟨f1, f2, f3, f4, f5⟩ := ok.few
    have o1 : ∀ ps ∈ d.colours, okRow ps := fun ps m => ok.rows ps (by simp [m])
    have o2 : ∀ ps ∈ d.washes, okRow ps := fun ps m => ok.rows ps (by simp [m])
    have o3 : ∀ ps ∈ d.kinds, okRow ps := fun ps m => ok.rows ps (by simp [m])
    have o4 : ∀ ps ∈ d.teams, okRow ps := fun ps m => ok.rows ps (by simp [m])
    refine ⟨_, (pss_cons (ps_setLc (i := 1) (own := [("_law_row_here", 2)]) (g := (gName 2)) (tt := tYes) rfl sc_lhead.nd rfl rfl (sw_true rfl rfl rfl (by decide +kernel)) (pi_tup (pe_ix ix_tup (pe_dget hu (pv 0) pe_str (fun _ _ => rfl)) pe_int (fun _ _ => rfl))) (blkOk_by (own := [("_law_row_here", 2)]) (N := nm_lhead) (sc := C8.fnScope s_lhead) (by decide +kernel)) (fun _ _ _ _ _ => (pg_name (i := 2) sc_lhead.nd rfl (Or.inl rfl))) (fun _ _ _ _ _ => pts_nil) (fun _ _ _ _ _ => (C8.pe_c c_lrow hr (by decide) (by rfl) (pa_cons pe_str (pa_cons (pv 2) pa_nil)))))
    (pss_cons (ps_set (i := 1) sc_lhead.nd rfl (Or.inl rfl) (pe_op op_cat (pv 1) (pe_lc (own := [("_law_row_here", 2)]) (g := (gName 2)) (tt := tYes) rfl sc_lhead.nd (pi_tup (pe_ix ix_tup (pe_dget hu (pv 0) pe_str (fun _ _ => rfl)) pe_int (fun _ _ => rfl))) (blkOk_by (own := [("_law_row_here", 2)]) (N := nm_lhead) (sc := C8.fnScope s_lhead) (by decide +kernel)) (fun _ _ _ _ _ => (pg_name (i := 2) sc_lhead.nd rfl (Or.inl rfl))) (fun _ _ _ _ _ => pts_nil) (fun _ _ _ _ _ => (C8.pe_c c_lrow hr (by decide) (by rfl) (pa_cons pe_str (pa_cons (pv 2) pa_nil)))))))
    (pss_cons (ps_set (i := 1) sc_lhead.nd rfl (Or.inl rfl) (pe_op op_cat (pe_op op_cat (pv 1) (pe_lc (own := [("_law_row_here", 2)]) (g := (gName 2)) (tt := tYes) rfl sc_lhead.nd (pi_list (pe_dget hu (pv 0) pe_str (fun _ _ => rfl))) (blkOk_by (own := [("_law_row_here", 2)]) (N := nm_lhead) (sc := C8.fnScope s_lhead) (by decide +kernel)) (fun _ _ _ _ _ => (pg_name (i := 2) sc_lhead.nd rfl (Or.inl rfl))) (fun _ _ _ _ _ => pts_nil) (fun _ _ _ _ _ => (C8.pe_c c_lrow hr (by decide) (by rfl) (pa_cons pe_str (pa_cons (pv 2) pa_nil)))))) (pe_lc (own := [("_law_row_here", 2)]) (g := (gName 2)) (tt := tYes) rfl sc_lhead.nd (pi_list (pe_dget hu (pv 0) pe_str (fun _ _ => rfl))) (blkOk_by (own := [("_law_row_here", 2)]) (N := nm_lhead) (sc := C8.fnScope s_lhead) (by decide +kernel)) (fun _ _ _ _ _ => (pg_name (i := 2) sc_lhead.nd rfl (Or.inl rfl))) (fun _ _ _ _ _ => pts_nil) (fun _ _ _ _ _ => (C8.pe_c c_lrow hr (by decide) (by rfl) (pa_cons pe_str (pa_cons (pv 2) pa_nil)))))))
    (pss_one (ps_ret (pe_op op_cat (pe_op op_cat (pv 1) (pe_lc (own := [("_law_pot", 3)]) (g := (gName 3)) (tt := tYes) rfl sc_lhead.nd (pi_list (pe_dget hu (pv 0) pe_str (fun _ _ => rfl))) (blkOk_by (own := [("_law_pot", 3)]) (N := nm_lhead) (sc := C8.fnScope s_lhead) (by decide +kernel)) (fun _ _ _ _ _ => (pg_name (i := 3) sc_lhead.nd rfl (Or.inl rfl))) (fun _ _ _ _ _ => pts_nil) (fun _ _ _ _ _ => (C8.pe_c c_lrow hr (by decide) (by rfl) (pa_cons pe_str (pa_cons (pe_lst (pa_cons (pv 3) pa_nil)) pa_nil)))))) (pe_lst (pa_cons (C8.pe_c c_lrow hr (by decide) (by rfl) (pa_cons pe_str (pa_cons (pe_lst (pa_cons (pe_dget hu (pv 0) pe_str (fun _ _ => rfl)) pa_nil)) pa_nil))) pa_nil)))))))), ?_⟩
    -- colours
    obtain ⟨pc, pw, xc, xw, a1, a2, a3, a4, a5⟩ := hg.pal.at_
    have lc := Paired.length a3
    have lw := Paired.length a5
    refine ⟨.ref hd, rfl, hd, .ref g.pal, rfl, hg.get (i := 0) rfl rfl, g.pal, _, 0, .ref pc, rfl, rfl, sqT_at a1, rfl, pc, rfl, ⟨xc, sqT_at a2⟩, fun l1 hl1 => ?_⟩
    refine lc_pure (ys := d.colours.map fun ps => V.str (rowT "colour" ps)) walk_tup hl1 (by rw [List.length_map]; exact lc.symm) (by omega) (fun _ => rfl) (fun H2 e2 => sqT_at (e2 _ _ (by simp) a2)) (fun i v y H2 hv hy e k hk => ⟨v, rfl, rows_el (E := C8.E0) (x := "colour") (a3.rows (K := K)) o1 (by decide) i v y H2 hv hy e k hk⟩) fun H2 e2 hd2 => ?_
    -- washes
    have hg2 := hg.keep0 e2
    have a5' := a5.keep (TK.sm e2)
    have a4' := e2 _ _ (by simp) a4
    refine ⟨.ref l1, rfl, .ref hd, rfl, hd, .ref g.pal, rfl, hg2.get (i := 0) rfl rfl, g.pal, _, 1, .ref pw, rfl, rfl, sqT_at (e2 _ _ (by simp) a1), rfl, pw, rfl, ⟨xw, sqT_at a4'⟩, fun l2 hl2 => ?_⟩
    refine lc_pure (ys := d.washes.map fun ps => V.str (rowT "wash" ps)) walk_tup hl2 (by rw [List.length_map]; exact lw.symm) (by omega) (fun _ => rfl) (fun H2 e2 => sqT_at (e2 _ _ (by simp) a4')) (fun i v y H2 hv hy e k hk => ⟨v, rfl, rows_el (E := C8.E0) (x := "wash") (a5'.rows (K := K)) o2 (by decide) i v y H2 hv hy e k hk⟩) fun H3 e3 hd3 => ?_
    refine ⟨l1, l2, _, _, rfl, rfl, e3 _ _ (by simp) hd2, hd3, ?_, fun r hr0 => ?_⟩
    · rw [List.length_map, List.length_map]
      exact Nat.le_of_lt (small1000 (by omega))
    have E4 := (e2.trans e3).trans (Sm.new (o := .lst ((d.colours.map fun ps => V.str (rowT "colour" ps)) ++ d.washes.map fun ps => V.str (rowT "wash" ps))) hr0)
    have h4 : (upd H3 r (.lst ((d.colours.map fun ps => V.str (rowT "colour" ps)) ++ d.washes.map fun ps => V.str (rowT "wash" ps)))) r = _ := upd_same
    generalize upd H3 r (.lst ((d.colours.map fun ps => V.str (rowT "colour" ps)) ++ d.washes.map fun ps => V.str (rowT "wash" ps))) = H4 at E4 h4
    -- kinds
    have hg4 := hg.keep0 E4
    obtain ⟨xk, b1, b2⟩ := hg4.ks
    have lk := Paired.length b2
    refine ⟨.ref r, rfl, .ref hd, rfl, hd, .ref g.ks, rfl, hg4.get (i := 3) rfl rfl, g.ks, rfl, ⟨xk, sqL_at b1⟩, fun l5 hl5 => ?_⟩
    refine lc_pure (ys := d.kinds.map fun ps => V.str (rowT "kind" ps)) walk_list hl5 (by rw [List.length_map]; exact lk.symm) (by omega) (fun _ => rfl) (fun H2 e2 => sqL_at (e2 _ _ (by simp) b1)) (fun i v y H2 hv hy e k hk => ⟨v, rfl, rows_el (E := C8.E0) (x := "kind") (b2.rows (K := K)) o3 (by decide) i v y H2 hv hy e k hk⟩) fun H5 e5 hd5 => ?_
    refine ⟨r, l5, _, _, rfl, rfl, e5 _ _ (by simp) h4, hd5, ?_, fun r6 hr6 => ?_⟩
    · simp only [List.length_append, List.length_map]
      exact Nat.le_of_lt (small1000 (by omega))
    have E6 := (E4.trans e5).trans (Sm.new (o := .lst ((d.colours.map fun ps => V.str (rowT "colour" ps)) ++ (d.washes.map fun ps => V.str (rowT "wash" ps)) ++ d.kinds.map fun ps => V.str (rowT "kind" ps))) hr6)
    have h6 : (upd H5 r6 (.lst ((d.colours.map fun ps => V.str (rowT "colour" ps)) ++ (d.washes.map fun ps => V.str (rowT "wash" ps)) ++ d.kinds.map fun ps => V.str (rowT "kind" ps)))) r6 = _ := upd_same
    generalize upd H5 r6 (.lst ((d.colours.map fun ps => V.str (rowT "colour" ps)) ++ (d.washes.map fun ps => V.str (rowT "wash" ps)) ++ d.kinds.map fun ps => V.str (rowT "kind" ps))) = H6 at E6 h6
    -- teams
    have hg6 := hg.keep0 E6
    obtain ⟨xt, c1, c2⟩ := hg6.rs
    have lt := Paired.length c2
    refine ⟨.ref hd, rfl, hd, .ref g.rs, rfl, hg6.get (i := 4) rfl rfl, g.rs, rfl, ⟨xt, sqL_at c1⟩, fun l7 hl7 => ?_⟩
    refine lc_pure (ys := d.teams.map fun ps => V.str (rowT "team" ps)) walk_list hl7 (by rw [List.length_map]; exact lt.symm) (by omega) (fun _ => rfl) (fun H2 e2 => sqL_at (e2 _ _ (by simp) c1)) (fun i v y H2 hv hy e k hk => ⟨v, rfl, rows_el (E := C8.E0) (x := "team") (c2.rows (K := K)) o4 (by decide) i v y H2 hv hy e k hk⟩) fun H7 e7 hd7 => ?_
    refine ⟨r6, l7, _, _, rfl, rfl, e7 _ _ (by simp) h6, hd7, ?_, fun r8 hr8 => ?_⟩
    · simp only [List.length_append, List.length_map]
      exact Nat.le_of_lt (small1000 (by omega))
    have E8 := (E6.trans e7).trans (Sm.new (o := .lst ((d.colours.map fun ps => V.str (rowT "colour" ps)) ++ (d.washes.map fun ps => V.str (rowT "wash" ps)) ++ (d.kinds.map fun ps => V.str (rowT "kind" ps)) ++ d.teams.map fun ps => V.str (rowT "team" ps))) hr8)
    have h8 : (upd H7 r8 (.lst ((d.colours.map fun ps => V.str (rowT "colour" ps)) ++ (d.washes.map fun ps => V.str (rowT "wash" ps)) ++ (d.kinds.map fun ps => V.str (rowT "kind" ps)) ++ d.teams.map fun ps => V.str (rowT "team" ps)))) r8 = _ := upd_same
    generalize upd H7 r8 (.lst ((d.colours.map fun ps => V.str (rowT "colour" ps)) ++ (d.washes.map fun ps => V.str (rowT "wash" ps)) ++ (d.kinds.map fun ps => V.str (rowT "kind" ps)) ++ d.teams.map fun ps => V.str (rowT "team" ps))) = H8 at E8 h8
    -- pots
    have hg8 := hg.keep0 E8
    refine ⟨.ref r8, rfl, .ref hd, rfl, hd, .ref g.ps, rfl, hg8.get (i := 7) rfl rfl, g.ps, rfl, ⟨_, sqL_at hg8.ps.1⟩, fun l9 hl9 => ?_⟩
    refine lc_pure (ys := d.pots.map fun p => V.str (rowT "pot" [.str p])) walk_list hl9 (by rw [List.length_map, List.length_map]) (by rw [List.length_map]; omega) (fun _ => rfl) (fun H2 e2 => sqL_at (e2 _ _ (by simp) hg8.ps.1)) (fun i v y H2 hv hy e k hk => ?_) fun H9 e9 hd9 => ?_
    · rw [List.getElem?_map] at hv hy
      cases hp : d.pots[i]? with
      | none => rw [hp] at hv; cases hv
      | some p =>
        rw [hp] at hv hy
        cases hv
        cases hy
        refine ⟨.str p, rfl, by show 1 ≤ sizeLine; decide, fun u hu => ⟨"pot", u, [.str p], rfl, .inl (sqL_at upd_same), by decide, fun z m => ?_, by show 1 ≤ 10; decide, fun H' e' => hk H' ((Sm.new hu).trans e')⟩⟩
        rw [List.mem_singleton.mp m]
        exact ok.pots p (List.mem_of_getElem? hp)
    refine ⟨r8, l9, _, _, rfl, rfl, e9 _ _ (by simp) h8, hd9, ?_, fun r10 hr10 => ?_⟩
    · simp only [List.length_append, List.length_map]
      exact Nat.le_of_lt (small1000 (by omega))
    have E10 := (E8.trans e9).trans (Sm.new (o := .lst ((d.colours.map fun ps => V.str (rowT "colour" ps)) ++ (d.washes.map fun ps => V.str (rowT "wash" ps)) ++ (d.kinds.map fun ps => V.str (rowT "kind" ps)) ++ (d.teams.map fun ps => V.str (rowT "team" ps)) ++ d.pots.map fun p => V.str (rowT "pot" [.str p]))) hr10)
    have h10 : (upd H9 r10 (.lst ((d.colours.map fun ps => V.str (rowT "colour" ps)) ++ (d.washes.map fun ps => V.str (rowT "wash" ps)) ++ (d.kinds.map fun ps => V.str (rowT "kind" ps)) ++ (d.teams.map fun ps => V.str (rowT "team" ps)) ++ d.pots.map fun p => V.str (rowT "pot" [.str p])))) r10 = _ := upd_same
    generalize upd H9 r10 (.lst ((d.colours.map fun ps => V.str (rowT "colour" ps)) ++ (d.washes.map fun ps => V.str (rowT "wash" ps)) ++ (d.kinds.map fun ps => V.str (rowT "kind" ps)) ++ (d.teams.map fun ps => V.str (rowT "team" ps)) ++ d.pots.map fun p => V.str (rowT "pot" [.str p]))) = H10 at E10 h10
    -- slots
    have hg10 := hg.keep0 E10
    refine ⟨.ref hd, rfl, hd, .int d.slots, rfl, hg10.get (i := 1) rfl rfl, by show 1 ≤ sizeLine; decide, fun u hu => ⟨"slots", u, [.int d.slots], rfl, .inl (sqL_at upd_same), by decide, fun z m => ?_, by show 1 ≤ 10; decide, fun H11 e11 => ⟨by show 1 ≤ sizeLine; decide, fun v hv => ?_⟩⟩⟩
    · rw [List.mem_singleton.mp m]
      exact ok.slots
    have e13 : Sm [] H10 (upd H11 v (.lst [.str (rowT "slots" [.int d.slots])])) := ((Sm.new hu).trans e11).trans (Sm.new hv)
    refine ⟨r10, v, _, _, rfl, rfl, e13 _ _ (by simp) h10, upd_same, ?_, fun g' hg' => ?_⟩
    · simp only [List.length_append, List.length_map, List.length_singleton]
      exact Nat.le_of_lt (small1000 (by omega))
    refine q g' _ ((E10.trans e13).trans (Sm.new hg')) ?_
    rw [upd_same]
    unfold headT
    simp only [map_str, List.map_append, List.map_map]
    rfl
end
end Zz

/-! A deed as the law draws it. -/
namespace Zz
open PySem PySem.Spec PyProof.Rows L2
theorem atI_zero {v : V} {t : List V} : atI (v :: t) 0 = some v := by
  unfold atI ixN
  rw [if_pos (Int.le_refl _), if_pos (by rw [List.length_cons]; omega)]
  rfl
/-- lists of names to draw one of -/
def Pick (H : Hp) (sd sc : Addr) (v : V) : Prop := ∃ p xs, v = .ref p ∧ p ∉ [sd, sc] ∧ NmAt H p xs ∧ xs ≠ [] ∧ xs.length ≤ 1000
theorem Pick.keep {H H' : Hp} {sd sc : Addr} {v : V} (h : Pick H sd sc v) (e : Sm [sd, sc] H H') : Pick H' sd sc v := by
  obtain ⟨p, xs, a, b, c, r⟩ := h
  exact ⟨p, xs, a, b, c.keep e b, r⟩
theorem dp_strs {K : PySem.W.Frag} {H : Hp} : ∀ l : List Str, DpAll K H (l.map V.str) (l.map PyData.str)
  | [] => .nil
  | x :: r => .cons (.str x) (dp_strs r)
theorem sh_strs {l : List Str} (h : ∀ x ∈ l, okN 40 x) : SeqAt.shaped (.list (l.map PyData.str)) = true := shaped_list (B := 0) (by decide) fun x m => by
  obtain ⟨s, hs, rfl⟩ := List.mem_map.mp m
  exact ⟨(h s hs).lay, Nat.le_refl _⟩
theorem mem4 {x a b c d : V} (h : x ∈ [a, b, c, d]) : x = a ∨ x = b ∨ x = c ∨ x = d := by simpa using h
section
variable {P : Program} {w : World} {K : PySem.W.Frag} {mg : Str → Option Value} {base : Heap} {CB CE CR CS : Addr}
def spDeedL : Sp := fun vs H Q _ => ∃ (sd sc hd : Addr) (n : Nat) (g : HG) (d : HallD), vs = [.ref sd, .ref hd] ∧ StOk H sd sc n ∧ n ≤ 90000 ∧ HallG H hd g d ∧ okHall d ∧ (∀ x ∈ g.all hd, x ∉ [sd, sc]) ∧
  ∀ t ps H', H t = Option.none → H' t = some (.tup ps) → okD ps → Sm [sd, sc] H H' → StOk H' sd sc (n + 20) → Q (.ref t) H'
theorem c_deed_ (T : TxL K mg) : C8.Cal P w K mg base 3 "_law_deed" spDeedL [] := by
  obtain ⟨f, fd, D, b⟩ := T.deed
  have c_ltake := c_take_ (P := P) (w := w) (base := base) T
  have c_lsome := c_some_ (P := P) (w := w) (base := base) T
  refine C8.cal0 D b .nil sc_ldeed (fun vs H Q E z => ?_) (fun cdv A outer s H vs Q E hr z => ?_)
  · obtain ⟨_, _, _, _, _, _, rfl, _⟩ := z
    rfl
  · obtain ⟨sd, sc, hd, n, g, d, rfl, st, hn, hg, ok, no, q⟩ := z
    have hu := hu_of hr
    refine ⟨_, (pss_cons (ps_set (i := 2) sc_ldeed.nd rfl (Or.inl rfl) (pe_lst (pa_cons (pe_dget hu (pv 1) pe_str (fun _ _ => rfl)) (pa_cons (pe_dget hu (pv 1) pe_str (fun _ _ => rfl)) (pa_cons (pe_dget hu (pv 1) pe_str (fun _ _ => rfl)) (pa_cons (pe_lc (own := [("_law_row_here", 10)]) (g := (gName 10)) (tt := tYes) rfl sc_ldeed.nd (pi_list (pe_dget hu (pv 1) pe_str (fun _ _ => rfl))) (blkOk_by (own := [("_law_row_here", 10)]) (N := nm_ldeed) (sc := C8.fnScope s_ldeed) (by decide +kernel)) (fun _ _ _ _ _ => (pg_name (i := 10) sc_ldeed.nd rfl (Or.inl rfl))) (fun _ _ _ _ _ => pts_nil) (fun _ _ _ _ _ => (pe_ix (show IxR _ (rIxT K) from ix_tup) (pv 10) pe_int (fun _ _ => rfl)))) pa_nil))))))
    (pss_cons (ps_setLc (i := 2) (own := [("_law_some_here", 3)]) (g := (gName 3)) (tt := tYes) rfl sc_ldeed.nd rfl rfl (sw_true rfl rfl rfl (by decide +kernel)) (pi_list (pv 2)) (blkOk_by (own := [("_law_some_here", 3)]) (N := nm_ldeed) (sc := C8.fnScope s_ldeed) (by decide +kernel)) (fun _ _ _ _ _ => (pg_name (i := 3) sc_ldeed.nd rfl (Or.inl rfl))) (fun _ _ _ _ _ => pts_nil) (fun _ _ _ _ _ => (pe_ifExp (PW.pt (pw_and (pt_cmpR (show OpR _ _ (rNeD K) from op_neD hr.units) (pv 3) (pe_lst pa_nil) (nomark _)) (pw_and1 (pt_cmpR op_gt (C8.pe_c c_ltake hr (by decide) (by rfl) (pa_cons (pv 0) (pa_cons pe_int pa_nil))) pe_int (nomark _))))) (pv 3) (pe_dget hu (pv 1) pe_str (fun _ _ => rfl)))))
    (pss_cons (ps_asg (pe_lc (own := [("_law_some_here", 3)]) (g := (gName 3)) (tt := tYes) rfl sc_ldeed.nd (pi_list (pv 2)) (blkOk_by (own := [("_law_some_here", 3)]) (N := nm_ldeed) (sc := C8.fnScope s_ldeed) (by decide +kernel)) (fun _ _ _ _ _ => (pg_name (i := 3) sc_ldeed.nd rfl (Or.inl rfl))) (fun _ _ _ _ _ => pts_nil) (fun _ _ _ _ _ => (C8.pe_c c_lsome hr (by decide) (by rfl) (pa_cons (pv 0) (pa_cons (pv 3) pa_nil))))) (pg_unl rfl (pgs_cons (pg_name (i := 4) sc_ldeed.nd rfl (Or.inl rfl)) (pgs_cons (pg_name (i := 5) sc_ldeed.nd rfl (Or.inl rfl)) (pgs_cons (pg_name (i := 6) sc_ldeed.nd rfl (Or.inl rfl)) (pgs_cons (pg_name (i := 7) sc_ldeed.nd rfl (Or.inl rfl)) pgs_nil))))))
    (pss_cons (ps_par (i := 8) (j := 9) rfl sc_ldeed.nd rfl rfl (by decide) rfl rfl (pa_cons (pe_lst (pa_cons (C8.pe_c c_ltake hr (by decide) (by rfl) (pa_cons (pv 0) (pa_cons pe_int pa_nil))) (pa_cons (C8.pe_c c_ltake hr (by decide) (by rfl) (pa_cons (pv 0) (pa_cons pe_int pa_nil))) pa_nil))) (pa_cons (pe_lst (pa_cons (pe_op op_add pe_int (C8.pe_c c_ltake hr (by decide) (by rfl) (pa_cons (pv 0) (pa_cons pe_int pa_nil)))) (pa_cons (pe_op op_add pe_int (C8.pe_c c_ltake hr (by decide) (by rfl) (pa_cons (pv 0) (pa_cons pe_int pa_nil)))) pa_nil))) pa_nil)) rfl)
    (pss_cons (ps_par (i := 8) (j := 9) rfl sc_ldeed.nd rfl rfl (by decide) rfl rfl (pa_cons (pe_ix ix_list (pv 8) (C8.pe_c c_ltake hr (by decide) (by rfl) (pa_cons (pv 0) (pa_cons pe_int pa_nil))) (fun _ _ => rfl)) (pa_cons (pe_ix ix_list (pv 9) (C8.pe_c c_ltake hr (by decide) (by rfl) (pa_cons (pv 0) (pa_cons pe_int pa_nil))) (fun _ _ => rfl)) pa_nil)) rfl)
    (pss_cons (ps_set (i := 3) sc_ldeed.nd rfl (Or.inl rfl) (pe_lst (pa_cons (pe_tup (pa_cons pe_str (pa_cons (pv 4) (pa_cons (pv 5) pa_nil)))) (pa_cons (pe_tup (pa_cons pe_str (pa_cons (pv 4) (pa_cons (pv 8) pa_nil)))) (pa_cons (pe_tup (pa_cons pe_str (pa_cons (pv 4) pa_nil))) (pa_cons (pe_tup (pa_cons pe_str (pa_cons (pv 6) (pa_cons (pv 4) (pa_cons (pv 7) (pa_cons (pv 9) pa_nil)))))) pa_nil))))))
    (pss_one (ps_ret (pe_ix ix_list (pe_op op_cat (pv 3) (pe_lst (pa_cons (pe_tup (pa_cons pe_str (pa_cons (pv 4) pa_nil))) (pa_cons (pe_tup (pa_cons pe_str (pa_cons (pv 4) (pa_cons (pv 8) pa_nil)))) pa_nil)))) (C8.pe_c c_ltake hr (by decide) (by rfl) (pa_cons (pv 0) (pa_cons pe_int pa_nil))) (fun _ _ => rfl)))))))))), ?_⟩
    -- the names that there are
    obtain ⟨xk, k1, k2⟩ := hg.ks
    have lk := Paired.length k2
    have lkd := ok.few.2.2.1
    have mall : ∀ {x}, x ∈ g.all hd → x ∉ [sd, sc] := fun h => no _ h
    refine ⟨.ref hd, rfl, hd, .ref g.ps, rfl, hg.get (i := 7) rfl rfl, .ref hd, rfl, hd, .ref g.co, rfl, hg.get (i := 5) rfl rfl, .ref hd, rfl, hd, .ref g.te, rfl, hg.get (i := 6) rfl rfl, .ref hd, rfl, hd, .ref g.ks, rfl, hg.get (i := 3) rfl rfl, g.ks, rfl, ⟨xk, sqL_at k1⟩, fun c hc => ?_⟩
    obtain ⟨kn, ekn, okn, lkn⟩ : ∃ kn : List Str, (∀ (i : Nat) (r : List V), d.kinds[i]? = some r → ∃ s t, r = .str s :: t ∧ kn[i]? = some s) ∧ (∀ x ∈ kn, okN 40 x) ∧ kn.length = d.kinds.length := by
      have go : ∀ l : List (List V), (∀ r ∈ l, ∃ s t, r = V.str s :: t ∧ okN 40 s) → ∃ kn : List Str, (∀ (i : Nat) (r : List V), l[i]? = some r → ∃ s t, r = .str s :: t ∧ kn[i]? = some s) ∧ (∀ x ∈ kn, okN 40 x) ∧ kn.length = l.length := by
        intro l
        induction l with
        | nil => exact fun _ => ⟨[], (fun i r h => by simp at h), (fun x m => by cases m), rfl⟩
        | cons r l ih =>
          intro h
          obtain ⟨s, t, e, o⟩ := h r (.head _)
          obtain ⟨kn, h1, h2, h3⟩ := ih fun r m => h r (.tail _ m)
          refine ⟨s :: kn, fun i r' hi => ?_, fun x m => ?_, by rw [List.length_cons, List.length_cons, h3]⟩
          · cases i with
            | zero => exact ⟨s, t, by have : r = r' := by simpa using hi
                                      rw [← this]; exact e, rfl⟩
            | succ i =>
              obtain ⟨s', t', e1, e2⟩ := h1 i r' (by simpa using hi)
              exact ⟨s', t', e1, by simpa using e2⟩
          · rcases List.mem_cons.mp m with rfl | m
            · exact o
            · exact h2 x m
      exact go _ hg.kn
    refine lc_pure (ys := kn.map V.str) walk_list hc (by rw [List.length_map, lkn]; exact lk.symm) (by omega) (fun _ => rfl) (fun H2 e2 => sqL_at (e2 _ _ (by simp) k1)) (fun i v y H2 hv hy e k hk => ?_) fun H1 e1 hc1 => ?_
    · obtain ⟨r, hr', t, rfl, ht⟩ := paired_get k2 hv
      obtain ⟨s', t', e1, e2⟩ := ekn i r hr'
      rw [List.getElem?_map, e2] at hy
      cases hy
      subst e1
      exact ⟨.ref t, rfl, t, _, 0, _, rfl, rfl, sqT_at (e _ _ (by simp) ht), atI_zero, hk H2 (Sm.refl _)⟩
    refine ⟨by show 4 ≤ sizeLine; decide, fun u hu0 => ?_⟩
    have s1 : Sm [] H (upd H1 u (.lst [.ref g.ps, .ref g.co, .ref g.te, .ref c])) := e1.trans (Sm.new hu0)
    have hu1 : (upd H1 u (.lst [.ref g.ps, .ref g.co, .ref g.te, .ref c])) u = some (.lst [.ref g.ps, .ref g.co, .ref g.te, .ref c]) := upd_same
    have hc2 := at_new (o := .lst [.ref g.ps, .ref g.co, .ref g.te, .ref c]) hu0 hc1
    have nu : u ∉ [sd, sc] := (st.keep0 e1).off hu0
    generalize upd H1 u (.lst [.ref g.ps, .ref g.co, .ref g.te, .ref c]) = H2 at s1 hu1 hc2
    have st2 := st.keep0 s1
    have hg2 := hg.keep0 s1
    have nc : c ∉ [sd, sc] := st.off hc
    obtain ⟨cx, cx1, cx2⟩ := hg2.co
    obtain ⟨tx, tx1, tx2⟩ := hg2.te
    obtain ⟨sx, sx1, sx2⟩ := hg2.st
    have nmc : NmAt H2 c kn := ⟨hc2, okn⟩
    have src : ∀ v ∈ [V.ref g.ps, .ref g.co, .ref g.te, .ref c], ∃ p xs, v = .ref p ∧ p ∉ [sd, sc] ∧ NmAt H2 p xs ∧ xs.length ≤ 1000 := fun v m => by
      rcases mem4 m with rfl | rfl | rfl | rfl
      · exact ⟨_, _, rfl, mall (by simp [HG.all]), hg2.ps, by have := ok.few.2.2.2.2; omega⟩
      · exact ⟨_, _, rfl, mall (by simp [HG.all]), cx1, by omega⟩
      · exact ⟨_, _, rfl, mall (by simp [HG.all]), tx1, by omega⟩
      · exact ⟨_, _, rfl, nc, nmc, by omega⟩
    -- those that are not empty, or the strange ones
    refine ⟨.ref u, rfl, u, rfl, ⟨_, sqL_at hu1⟩, fun D1 hD1 => ?_⟩
    have nD1 := st2.off hD1
    have nuD1 : u ≠ D1 := ne_of_none hu1 hD1
    refine lc_list (K := K) (a := u) (xs := [V.ref g.ps, .ref g.co, .ref g.te, .ref c]) (fun i H3 => i ≤ 4 ∧ Sm [sd, sc] H2 H3 ∧ H3 u = some (.lst [V.ref g.ps, .ref g.co, .ref g.te, .ref c]) ∧ StOk H3 sd sc (n + i) ∧ ∃ vs, H3 D1 = some (.lst vs) ∧ vs.length = i ∧ ∀ v ∈ vs, Pick H2 sd sc v)
      ⟨Nat.zero_le _, Sm.new hD1, at_new hD1 hu1, st2.keep0 (Sm.new hD1), [], upd_same, rfl, fun v m => by cases m⟩ (fun i H5 _ h => sqL_at h.2.2.1) ?_ ?_
    · rintro i x H3 hi ⟨i4, e3, hu3, st3, vs, hD3, lv, pv3⟩
      obtain ⟨p, xs, rfl, np, nmp, lxs⟩ := src x (List.mem_of_getElem? hi)
      have i3 : i < 4 := (List.getElem?_eq_some_iff.mp hi).1
      refine ⟨rfl, yes_go ?_⟩
      have nm3 := nmp.keep e3 np
      have add : ∀ (v : V) (H4 : Hp), Pick H2 sd sc v → Sm [sd, sc] H2 H4 → StOk H4 sd sc (n + i + 1) → H4 u = some (.lst [V.ref g.ps, .ref g.co, .ref g.te, .ref c]) → H4 D1 = some (.lst vs) →
          ∃ acc, H4 D1 = some (.lst acc) ∧ acc.length < sizeLine ∧ i + 1 ≤ 4 ∧ Sm [sd, sc] H2 (upd H4 D1 (.lst (acc ++ [v]))) ∧ (upd H4 D1 (.lst (acc ++ [v]))) u = some (.lst [V.ref g.ps, .ref g.co, .ref g.te, .ref c]) ∧ StOk (upd H4 D1 (.lst (acc ++ [v]))) sd sc (n + (i + 1)) ∧
            ∃ vs, (upd H4 D1 (.lst (acc ++ [v]))) D1 = some (.lst vs) ∧ vs.length = i + 1 ∧ ∀ v ∈ vs, Pick H2 sd sc v := by
        intro v H4 hv e4 st4 hu4 hD4
        refine ⟨vs, hD4, small1000 (by omega), by omega, e4.mut hD1, by rw [upd_ne nuD1]; exact hu4, (st4.mono (by omega)).keep (Sm.at (S := [D1]) (p := D1) (by simp)) (fun z => nD1 (by rw [List.mem_singleton.mp z]; simp)) (fun z => nD1 (by rw [List.mem_singleton.mp z]; simp)), vs ++ [v], upd_same, by rw [List.length_append, lv]; rfl, fun y m => ?_⟩
        rcases List.mem_append.mp m with m | m
        · exact pv3 y m
        · rw [List.mem_singleton.mp m]; exact hv
      have strange : ∀ (H4 : Hp), Sm [sd, sc] H2 H4 → StOk H4 sd sc (n + i + 1) → DGet H4 hd (.str "strange") (some (.ref g.st)) := fun H4 e4 st4 =>
        (hg2.keep e4 (st2.tk e4) (fun x m => no x m)).get (i := 2) rfl rfl
      have pst : Pick H2 sd sc (.ref g.st) := ⟨_, sx, rfl, mall (by simp [HG.all]), sx1, (fun z => by rw [z] at sx2; cases sx2), by omega⟩
      refine ⟨.ref p, rfl, by show 0 ≤ sizeLine; decide, fun ee hee => ?_⟩
      have s4 : Sm [] H3 (upd H3 ee (.lst [])) := Sm.new hee
      have hee4 : (upd H3 ee (.lst [])) ee = some (.lst []) := upd_same
      generalize upd H3 ee (.lst []) = H4 at s4 hee4
      have e4 : Sm [sd, sc] H2 H4 := e3.trans s4.of
      have st4 := st3.keep0 s4
      refine ⟨.list (xs.map PyData.str), .list [], .lst (sqL_at (s4 _ _ (by simp) nm3.1)) (dp_strs xs), .lst (sqL_at hee4) .nil, sh_strs nmp.2, shaped_list (B := 0) (by decide) (fun x m => by cases m), ?_⟩
      have hu4 := s4 _ _ (by simp) hu3
      have hD4 := s4 _ _ (by simp) hD3
      cases xs with
      | nil =>
        refine ⟨_, rfl, ite2 (fun z => by cases z) (fun _ => iteF ?_)⟩
        exact ⟨.ref hd, rfl, hd, .ref g.st, rfl, strange H4 e4 (st4.mono (by omega)), add _ H4 pst e4 (st4.mono (by omega)) hu4 hD4⟩
      | cons x0 xr =>
        refine ⟨_, rfl, ite2 (fun _ => ?_) (fun z => absurd rfl z)⟩
        refine take1 rfl st4 (by omega) (by decide) (by decide) fun i5 H5 a5 b5 e5 st5 => ⟨_, _, rfl, rfl, _, rfl, ite2 (fun _ => ?_) (fun _ => ?_)⟩
        · exact ⟨.ref p, rfl, add _ H5 ⟨p, _, rfl, np, nmp, by simp, lxs⟩ (e4.trans e5) st5 (e5 _ _ nu hu4) (e5 _ _ nD1 hD4)⟩
        · exact ⟨.ref hd, rfl, hd, .ref g.st, rfl, strange H5 (e4.trans e5) st5, add _ H5 pst (e4.trans e5) st5 (e5 _ _ nu hu4) (e5 _ _ nD1 hD4)⟩
    rintro H3 ⟨i4, e3, hu3, st3, vs, hD3, lv, pv3⟩
    have lv : vs.length = 4 := lv
    have st3 : StOk H3 sd sc (n + 4) := st3
    -- one of each
    refine ⟨.ref D1, rfl, D1, rfl, ⟨_, sqL_at hD3⟩, fun D2 hD2 => ?_⟩
    have nD2 := st3.off hD2
    have nD12 : D1 ≠ D2 := ne_of_none hD3 hD2
    refine lc_list (K := K) (a := D1) (xs := vs) (fun i H4 => i ≤ 4 ∧ Sm [sd, sc] H3 H4 ∧ H4 D1 = some (.lst vs) ∧ StOk H4 sd sc (n + 4 + i) ∧ ∃ ns : List Str, H4 D2 = some (.lst (ns.map V.str)) ∧ ns.length = i ∧ ∀ x ∈ ns, okN 40 x)
      ⟨Nat.zero_le _, Sm.new hD2, at_new hD2 hD3, st3.keep0 (Sm.new hD2), [], upd_same, rfl, fun v m => by cases m⟩ (fun i H5 _ h => sqL_at h.2.2.1) ?_ ?_
    · rintro i x H4 hi ⟨i4, e4, hD14, st4, ns, hD24, ln, on⟩
      obtain ⟨p, xs, rfl, np, nmp, nex, lxs⟩ := (pv3 x (List.mem_of_getElem? hi)).keep (e3.trans e4)
      have i3 : i < 4 := by have := (List.getElem?_eq_some_iff.mp hi).1; omega
      refine ⟨rfl, yes_go ?_⟩
      refine ⟨.ref sd, rfl, .ref p, rfl, sd, sc, p, _, _, rfl, st4, by omega, np, sqL_at nmp.1, fun z => nex (List.map_eq_nil_iff.mp z), by rw [List.length_map]; exact lxs, fun v H5 mv e5 st5 => ?_⟩
      obtain ⟨s0, rfl, ms⟩ := map_str_mem mv
      refine ⟨_, e5 _ _ nD2 hD24, ?_, by omega, (e4.trans e5).mut hD2, by rw [upd_ne nD12]; exact e5 _ _ nD1 hD14, (st5.mono (by omega)).keep (Sm.at (S := [D2]) (p := D2) (by simp)) (fun z => nD2 (by rw [List.mem_singleton.mp z]; simp)) (fun z => nD2 (by rw [List.mem_singleton.mp z]; simp)), ns ++ [s0], by rw [upd_same, List.map_append]; rfl, by rw [List.length_append, ln]; rfl, fun y m => ?_⟩
      · rw [List.length_map]; exact small1000 (by omega)
      · rcases List.mem_append.mp m with m | m
        · exact on y m
        · rw [List.mem_singleton.mp m]; exact nmp.2 s0 ms
    rintro H4 ⟨i4', e4, hD14, st4, ns, hD24, ln, on⟩
    rw [lv] at st4 ln
    obtain ⟨pt, co, te, ki, rfl⟩ : ∃ a b c d, ns = [a, b, c, d] := match ns, ln with
      | [a, b, c, d], _ => ⟨a, b, c, d, rfl⟩
    have opt := on pt (by simp)
    have oco := on co (by simp)
    have ote := on te (by simp)
    have oki := on ki (by simp)
    refine ⟨D2, _, rfl, sqL_at hD24, rfl, .str pt, _, rfl, .str co, _, rfl, .str te, _, rfl, .str ki, [], rfl, rfl, ?_⟩
    -- hours, many
    refine take1 rfl st4 (by omega) (by decide) (by decide) fun h1 H5 a5 b5 e5 st5 => ?_
    refine take1 rfl st5 (by omega) (by decide) (by decide) fun h2 H6 a6 b6 e6 st6 => ⟨by show 2 ≤ sizeLine; decide, fun lh hlh => ?_⟩
    have st6' := st6.keep0 (Sm.new (o := .lst [.int h1, .int h2]) hlh)
    have nlh := st6.off hlh
    refine take1 rfl st6' (by omega) (by decide) (by decide) fun m1 H7 a7 b7 e7 st7 => ⟨_, _, rfl, rfl, ?_⟩
    refine take1 rfl st7 (by omega) (by decide) (by decide) fun m2 H8 a8 b8 e8 st8 => ⟨_, _, rfl, rfl, by show 2 ≤ sizeLine; decide, fun lm hlm => ⟨.ref lh, .ref lm, rfl, ?_⟩⟩
    have st8' := st8.keep0 (Sm.new (o := .lst [.int (1 + m1), .int (1 + m2)]) hlm)
    have nlm := st8.off hlm
    have hlh8 : H8 lh = some (.lst [.int h1, .int h2]) := e8 _ _ nlh (e7 _ _ nlh upd_same)
    refine ⟨.ref lh, rfl, ?_⟩
    refine take1 rfl st8' (by omega) (by decide) (by decide) fun i9 H9 a9 b9 e9 st9 => ?_
    have hlh9 : H9 lh = some (.lst [.int h1, .int h2]) := e9 _ _ nlh (at_new hlm hlh8)
    have hlm9 : H9 lm = some (.lst [.int (1 + m1), .int (1 + m2)]) := e9 _ _ nlm upd_same
    obtain ⟨v9, hv9, mv9⟩ := at_of (xs := [V.int h1, .int h2]) a9 b9
    refine ⟨lh, _, _, _, rfl, rfl, sqL_at hlh9, hv9, .ref lm, rfl, ?_⟩
    refine take1 rfl st9 (by omega) (by decide) (by decide) fun i10 H10 a10 b10 e10 st10 => ?_
    obtain ⟨v10, hv10, mv10⟩ := at_of (xs := [V.int (1 + m1), .int (1 + m2)]) a10 b10
    refine ⟨lm, _, _, _, rfl, rfl, sqL_at (e10 _ _ nlm hlm9), hv10, v9, v10, rfl, ?_⟩
    obtain ⟨ho, rfl, oho⟩ : ∃ z, v9 = .int z ∧ okP (.int z) := by
      rcases List.mem_cons.mp mv9 with rfl | m
      · exact ⟨_, rfl, by omega, Int.lt_of_lt_of_le (show h1 < 1000 by omega) (by decide)⟩
      · exact ⟨_, List.mem_singleton.mp m, by omega, Int.lt_of_lt_of_le (show h2 < 1000 by omega) (by decide)⟩
    obtain ⟨ma, rfl, oma⟩ : ∃ z, v10 = .int z ∧ okP (.int z) := by
      rcases List.mem_cons.mp mv10 with rfl | m
      · exact ⟨_, rfl, by omega, Int.lt_of_lt_of_le (show 1 + m1 < 10000 by omega) (by decide)⟩
      · exact ⟨_, List.mem_singleton.mp m, by omega, Int.lt_of_lt_of_le (show 1 + m2 < 10000 by omega) (by decide)⟩
    have F : Sm [sd, sc] H H10 := ((((((((s1.of.trans e3).trans e4).trans e5).trans e6).trans (Sm.new hlh)).trans e7).trans e8).trans (Sm.new hlm)).trans (e9.trans e10)
    have stF : StOk H10 sd sc (n + 14) := st10.mono (by omega)
    -- six deeds
    refine ⟨.str pt, rfl, .str co, rfl, by show 3 ≤ sizeLine; decide, fun t1 g1 => ?_⟩
    refine ⟨.str pt, rfl, .int ho, rfl, by show 3 ≤ sizeLine; decide, fun t2 g2 => ?_⟩
    refine ⟨.str pt, rfl, by show 2 ≤ sizeLine; decide, fun t3 g3 => ?_⟩
    refine ⟨.str te, rfl, .str pt, rfl, .str ki, rfl, .int ma, rfl, by show 5 ≤ sizeLine; decide, fun t4 g4 => ⟨by show 4 ≤ sizeLine; decide, fun l5 g5 => ?_⟩⟩
    refine ⟨.ref l5, rfl, .str pt, rfl, by show 2 ≤ sizeLine; decide, fun t6 g6 => ?_⟩
    refine ⟨.str pt, rfl, .int ho, rfl, by show 3 ≤ sizeLine; decide, fun t7 g7 => ⟨by show 2 ≤ sizeLine; decide, fun l8 g8 => ?_⟩⟩
    have x1 := Sm.new (S := []) (o := .tup [.str "fill", .str pt, .str co]) g1
    have y1 : (upd H10 t1 (.tup [.str "fill", .str pt, .str co])) t1 = some (.tup [.str "fill", .str pt, .str co]) := upd_same
    generalize upd H10 t1 (.tup [.str "fill", .str pt, .str co]) = G1 at *
    have x2 := Sm.new (S := []) (o := .tup [.str "wash", .str pt, .int ho]) g2
    have y2 : (upd G1 t2 (.tup [.str "wash", .str pt, .int ho])) t2 = some (.tup [.str "wash", .str pt, .int ho]) := upd_same
    generalize upd G1 t2 (.tup [.str "wash", .str pt, .int ho]) = G2 at *
    have x3 := Sm.new (S := []) (o := .tup [.str "empty", .str pt]) g3
    have y3 : (upd G2 t3 (.tup [.str "empty", .str pt])) t3 = some (.tup [.str "empty", .str pt]) := upd_same
    generalize upd G2 t3 (.tup [.str "empty", .str pt]) = G3 at *
    have x4 := Sm.new (S := []) (o := .tup [.str "gather", .str te, .str pt, .str ki, .int ma]) g4
    have y4 : (upd G3 t4 (.tup [.str "gather", .str te, .str pt, .str ki, .int ma])) t4 = some (.tup [.str "gather", .str te, .str pt, .str ki, .int ma]) := upd_same
    generalize upd G3 t4 (.tup [.str "gather", .str te, .str pt, .str ki, .int ma]) = G4 at *
    have x5 := Sm.new (S := []) (o := .lst [.ref t1, .ref t2, .ref t3, .ref t4]) g5
    have y5 : (upd G4 l5 (.lst [.ref t1, .ref t2, .ref t3, .ref t4])) l5 = some (.lst [.ref t1, .ref t2, .ref t3, .ref t4]) := upd_same
    generalize upd G4 l5 (.lst [.ref t1, .ref t2, .ref t3, .ref t4]) = G5 at *
    have x6 := Sm.new (S := []) (o := .tup [.str "break", .str pt]) g6
    have y6 : (upd G5 t6 (.tup [.str "break", .str pt])) t6 = some (.tup [.str "break", .str pt]) := upd_same
    generalize upd G5 t6 (.tup [.str "break", .str pt]) = G6 at *
    have x7 := Sm.new (S := []) (o := .tup [.str "new", .str pt, .int ho]) g7
    have y7 : (upd G6 t7 (.tup [.str "new", .str pt, .int ho])) t7 = some (.tup [.str "new", .str pt, .int ho]) := upd_same
    generalize upd G6 t7 (.tup [.str "new", .str pt, .int ho]) = G7 at *
    have x8 := Sm.new (S := []) (o := .lst [.ref t6, .ref t7]) g8
    have y8 : (upd G7 l8 (.lst [.ref t6, .ref t7])) l8 = some (.lst [.ref t6, .ref t7]) := upd_same
    generalize upd G7 l8 (.lst [.ref t6, .ref t7]) = G8 at *
    have X78 := x7.trans x8
    have X68 := x6.trans X78
    have X58 := x5.trans X68
    have X48 := x4.trans X58
    have X38 := x3.trans X48
    have X28 := x2.trans X38
    have X18 := x1.trans X28
    refine ⟨l5, l8, _, _, rfl, rfl, X68 _ _ (by simp) y5, y8, by show 6 ≤ sizeLine; decide, fun l9 g9 => ?_⟩
    have x9 := Sm.new (S := []) (o := .lst [.ref t1, .ref t2, .ref t3, .ref t4, .ref t6, .ref t7]) g9
    have y9 : (upd G8 l9 (.lst ([.ref t1, .ref t2, .ref t3, .ref t4] ++ [.ref t6, .ref t7]))) l9 = some (.lst [.ref t1, .ref t2, .ref t3, .ref t4, .ref t6, .ref t7]) := upd_same
    generalize hG9 : upd G8 l9 (.lst ([.ref t1, .ref t2, .ref t3, .ref t4] ++ [.ref t6, .ref t7])) = G9 at *
    have x9 : Sm [] G8 G9 := by rw [← hG9]; exact x9
    have stG := ((stF.keep0 X18).keep0 x9)
    have n9 := (stF.keep0 X18).off g9
    refine take1 rfl stG (by omega) (by decide) (by decide) fun iz HZ az bz eZ stZ => ?_
    obtain ⟨vz, hvz, mvz⟩ := at_of (xs := [V.ref t1, .ref t2, .ref t3, .ref t4, .ref t6, .ref t7]) az bz
    refine ⟨l9, _, _, vz, rfl, rfl, sqL_at (eZ _ _ n9 y9), hvz, ?_⟩
    have FZ : Sm [sd, sc] H HZ := ((F.trans X18.of).trans x9.of).trans eZ
    have tZ : TK G9 HZ := stG.tk eZ
    have out : ∀ t ps Gx, Gx t = some (.tup ps) → Sm [] Gx G8 → H t = Option.none → okD ps → Q (.ref t) HZ := fun t ps Gx h1 h2 h3 h4 => q t ps HZ h3 (tZ _ _ (x9 _ _ (by simp) (h2 _ _ (by simp) h1))) h4 FZ (stZ.mono (by omega))
    have o2 : ∀ {a b : V}, okP a → okP b → layP a → layP b → okD [a, b] := fun h1 h2 h3 h4 => ⟨fun p m => by
      rcases List.mem_cons.mp m with rfl | m
      · exact h1
      · rw [List.mem_singleton.mp m]; exact h2, by show 2 ≤ 8; decide, fun p m => by
      rcases List.mem_cons.mp m with rfl | m
      · exact h3
      · rw [List.mem_singleton.mp m]; exact h4⟩
    have o3 : ∀ {a b c : V}, okP a → okP b → okP c → layP a → layP b → layP c → okD [a, b, c] := fun h1 h2 h5 h3 h4 h6 => ⟨fun p m => by
      rcases List.mem_cons.mp m with rfl | m
      · exact h1
      rcases List.mem_cons.mp m with rfl | m
      · exact h2
      · rw [List.mem_singleton.mp m]; exact h5, by show 3 ≤ 8; decide, fun p m => by
      rcases List.mem_cons.mp m with rfl | m
      · exact h3
      rcases List.mem_cons.mp m with rfl | m
      · exact h4
      · rw [List.mem_singleton.mp m]; exact h6⟩
    have fr : ∀ {t : Addr} {Gx : Hp}, Gx t = Option.none → Sm [] H10 Gx → H t = Option.none := fun {t Gx} h1 h2 => by
      have h3 := h2.free0 h1
      exact F.free (stF.off h3) h3
    have lit : ∀ {s : Str}, okN 40 s → okP (.str s) ∧ layP (.str s) := fun h => ⟨h.str (by decide), h.lay⟩
    have w1 : okN 40 "fill" := by
      have h : ("fill" : Str).length ≤ 40 ∧ ∀ c ∈ TL.tl ("fill" : Str), c < 0x110000 := by decide +kernel
      exact h
    have w2 : okN 40 "wash" := by
      have h : ("wash" : Str).length ≤ 40 ∧ ∀ c ∈ TL.tl ("wash" : Str), c < 0x110000 := by decide +kernel
      exact h
    have w3 : okN 40 "empty" := by
      have h : ("empty" : Str).length ≤ 40 ∧ ∀ c ∈ TL.tl ("empty" : Str), c < 0x110000 := by decide +kernel
      exact h
    have w4 : okN 40 "gather" := by
      have h : ("gather" : Str).length ≤ 40 ∧ ∀ c ∈ TL.tl ("gather" : Str), c < 0x110000 := by decide +kernel
      exact h
    have w6 : okN 40 "break" := by
      have h : ("break" : Str).length ≤ 40 ∧ ∀ c ∈ TL.tl ("break" : Str), c < 0x110000 := by decide +kernel
      exact h
    have w7 : okN 40 "new" := by
      have h : ("new" : Str).length ≤ 40 ∧ ∀ c ∈ TL.tl ("new" : Str), c < 0x110000 := by decide +kernel
      exact h
    rcases List.mem_cons.mp mvz with rfl | mvz
    · exact out _ _ _ y1 X28 (fr g1 (Sm.refl _)) (o3 (lit w1).1 (lit opt).1 (lit oco).1 (lit w1).2 (lit opt).2 (lit oco).2)
    rcases List.mem_cons.mp mvz with rfl | mvz
    · exact out _ _ _ y2 X38 (fr g2 x1) (o3 (lit w2).1 (lit opt).1 oho (lit w2).2 (lit opt).2 True.intro)
    rcases List.mem_cons.mp mvz with rfl | mvz
    · exact out _ _ _ y3 X48 (fr g3 (x1.trans x2)) (o2 (lit w3).1 (lit opt).1 (lit w3).2 (lit opt).2)
    rcases List.mem_cons.mp mvz with rfl | mvz
    · refine out _ _ _ y4 X58 (fr g4 ((x1.trans x2).trans x3)) ⟨fun p m => ?_, by show 5 ≤ 8; decide, fun p m => ?_⟩
      · simp only [List.mem_cons, List.not_mem_nil, or_false] at m
        rcases m with rfl | rfl | rfl | rfl | rfl
        · exact (lit w4).1
        · exact (lit ote).1
        · exact (lit opt).1
        · exact (lit oki).1
        · exact oma
      · simp only [List.mem_cons, List.not_mem_nil, or_false] at m
        rcases m with rfl | rfl | rfl | rfl | rfl
        · exact (lit w4).2
        · exact (lit ote).2
        · exact (lit opt).2
        · exact (lit oki).2
        · exact True.intro
    rcases List.mem_cons.mp mvz with rfl | mvz
    · exact out _ _ _ y6 X78 (fr g6 (((((x1.trans x2).trans x3).trans x4).trans x5))) (o2 (lit w6).1 (lit opt).1 (lit w6).2 (lit opt).2)
    · rw [List.mem_singleton.mp mvz]
      exact out _ _ _ y7 x8 (fr g7 ((((((x1.trans x2).trans x3).trans x4).trans x5)).trans x6)) (o3 (lit w7).1 (lit opt).1 oho (lit w7).2 (lit opt).2 True.intro)
end
end Zz

/-! len of an own instance. -/
namespace Zz
open PySem PySem.Spec PyProof.Rows L2
section
variable {X : Cx}
/-- len(o), o of a class with a __len__ of the text -/
def rLenOwn (C : Addr) (sp : Sp) : List V → Hp → VK → Prop := fun xs H Q => ∃ a dx fs, xs = [.ref a] ∧ H a = some (.ins C dx fs) ∧ sp [.ref a] H (fun v H' => ∃ m : Nat, v = .int m ∧ m ≤ 1000000 ∧ Q (.int m) H') C8.E0
theorem call_lenOwn {C : Addr} {k j : Nat} {sp : Sp} (c : C8.Met X.prog X.w X.K X.mg X.base k C "__len__" sp []) (hr : Room j X.A) (hk : k + 1 ≤ j) : CallR X (.builtin "len") (rLenOwn C sp) := by
  intro pins s σ H xs us Q I rv h
  obtain ⟨a, dx, fs, rfl, ha, hs⟩ := h
  obtain ⟨u, rfl, ru⟩ := rv.one
  cases ru
  obtain ⟨f, fd, ps, ds, cl, me, F, b, d⟩ := c.ex
  cases d
  obtain ⟨h1, h2, h3⟩ := me
  obtain ⟨mA, J, _⟩ := ins_get I.hok ha
  obtain ⟨od, J, _⟩ := J.look
  have sb : L2.Sub X k X.A.in1 := L2.Sub.in1 (⟨hr.mono hk, rfl⟩ : L2.Sub X (k + 1) X.A)
  have e0 : Env0 X.prog X.w X.K X.mg X.base X.A.in1 X.stack s H := by
    have e := I.env0
    exact ⟨by rw [sb.fr]; exact e.frames, e.mod, e.bs, e.bsz, e.funs, e.frf, e.hok, e.bare⟩
  have hl := F.len _ _ _ _ hs
  have r2 : Vals [V.ref a] [Value.ref a] := .cons rfl .nil
  refine Calls.call_function_entry kind_len plain_len entry_len (args_len1 _) ?_
  unfold Builtin.«len»
  refine wpAny_bind (m := oneArg "len" _) (wpAny_pure ?_)
  refine wpAny_bind (m := callSpecial? (.ref a) (PySem.Str.ofString "__len__")) (PySem.W.special_fn (name := "__len__") (args := []) I.kIn J h1 (beq_iff_eq.mp h2) ?_)
  refine wpAny_call (codeAny_mono (F.run X.A.in1 X.stack s H ⟨[.ref a], []⟩ [.ref a] [.ref a] _ C8.E0 sb.room e0 (by
    have := b s [.ref a] I.kIn (by simpa using hl)
    simpa using this) r2 hs) fun r s' hq' => ?_)
  cases r with
  | error e => exact C8.pass0 (E := C8.E0) pins σ H s e s' I hq'
  | ok fl =>
    cases fl with
    | next => exact False.elim hq'
    | brk => exact False.elim hq'
    | cont => exact False.elim hq'
    | ret u =>
      obtain ⟨v, H', I', rv', m, rfl, hm, q⟩ := I.after hq'
      obtain ⟨t, rfl⟩ := rv'
      refine wpAny_bind (wpAny_holding (wpAny_pure ?_))
      refine wpAny_bind (wpAny_letGo ?_)
      show wpAny _ _ (if ((m : Nat) : Int) < 0 then _ else _) _ _ _
      rw [if_neg (by omega)]
      show wpAny _ _ (if ((m : Nat) : Int) ≥ 2 ^ 63 then _ else _) _ _ _
      rw [if_neg (by omega)]
      exact wpAny_bind (wpAny_mkInt (wpAny_pure ⟨_, rfl, .int m, H', I'.tok _, ⟨_, rfl⟩, q⟩))
end
section
variable {P : Program} {w : World} {K : PySem.W.Frag} {mg : Str → Option Value} {base : Heap} {CB CE CR CS : Addr}
def spBlen (CB CE CR CS : Addr) : Sp := fun vs H Q _ => ∃ (b tl : Addr) (h : Hall) (ts : List Told), vs = [.ref b] ∧ BookAt CB CE CR CS H b tl h ts ∧ ∀ H', Sm [] H H' → Q (.int (kn ts).length) H'
theorem mB_len_ (TE : TxE K mg CE CR CS) (T : TxB K mg CB) : C8.Met P w K mg base 3 CB "__len__" (spBlen CB CE CR CS) [] := by
  obtain ⟨f, fd, M, F, b⟩ := T.lenB
  have c_known_by := c_known_ (P := P) (w := w) (base := base) TE
  refine C8.met0 T.cl M F b sc_Blen (fun vs H Q E z => ?_) (fun cdv A outer s H vs Q E hr z => ?_)
  · obtain ⟨_, _, _, _, rfl, _⟩ := z
    rfl
  · obtain ⟨b, tl, h, ts, rfl, B, q⟩ := z
    obtain ⟨dx, ob⟩ := B.ob
    obtain ⟨es, te, ta⟩ := B.te
    refine ⟨_, (pss_one (ps_ret (pe_callB call_lenD (by rfl) T.n_len (by decide +kernel) (pa_cons (C8.pe_c c_known_by hr (by decide) (by rfl) (pa_cons (pe_fld (pv 0) rfl) pa_nil)) pa_nil)))), ?_⟩
    refine ⟨.ref b, rfl, b, CB, dx, _, _, rfl, ob, T.cl, T.nL, fB_tell _ _, tl, es, ts, rfl, sqL_at te, ta, B.good, by have := B.few; omega, fun p kvs H1 e1 hp hd hk => ?_⟩
    have e := Paired.length hk
    refine ⟨p, kvs, rfl, hd, ?_⟩
    rw [e]
    exact q H1 e1
end
end Zz

/-! The law. -/
namespace Zz
open PySem PySem.Spec PyProof.Rows L2
abbrev s_law : Stmt := topS 30
abbrev nm_law : List Str := ["_law_script", "_law_state", "_law_hall_here", "_law_book_here", "_law_known", "_law_turn", "_law_way", "_law_deed_here", "_law_hour_here", "_law_number", "_law_rows", "_law_due", "_law_text"]
theorem sc_law : FnScope nm_law ["_law_script"] (C8.fnScope s_law) := C8.fnScope_by (by decide +kernel)
structure TxV (K : PySem.W.Frag) (mg : Str → Option Value) : Prop where
  n_range : mg "range" = none
  n_sorted : mg "sorted" = none
  n_isinstance : mg "isinstance" = none
  n_len : mg "len" = none
  n_str : mg "str" = none
theorem StOk.noins {H H' : Hp} {sd sc : Addr} {n : Nat} (st : StOk H sd sc n) (_ : Sm [sd, sc] H H') : ∀ a ∈ [sd, sc], ∀ C dx fs, H a ≠ some (.ins C dx fs) := fun a m C dx fs z => by
  obtain ⟨_, cs, _, _, c, d, _⟩ := st
  rcases List.mem_cons.mp m with rfl | m
  · rw [z] at c; cases c
  · rw [List.mem_singleton.mp m, d] at z; cases z
/-- an entry whose deed stands -/
def EntOk (H : Hp) (e : Ent) : Prop := okHr e.2.1 ∧ ∃ a ps, e.2.2 = .ref a ∧ H a = some (.tup ps) ∧ okD ps
theorem EntOk.keep {H H' : Hp} {e : Ent} (h : EntOk H e) (k : TK H H') : EntOk H' e := by
  obtain ⟨a, t, ps, b, c, d⟩ := h
  exact ⟨a, t, ps, b, k _ _ c, d⟩
/-- what a deed's tuple holds -/
def deedOf (H : Hp) : V → List V
  | .ref a => match H a with
    | some (.tup ps) => ps
    | _ => []
  | _ => []
theorem EntOk.deed {H : Hp} {m : List Ent} (h : ∀ e ∈ m, EntOk H e) : ∀ e ∈ ents m, DeedAt H (deedOf H) e := fun e m => by
  obtain ⟨x, hx, rfl⟩ := List.mem_map.mp m
  obtain ⟨a, t, ps, b, c, d⟩ := h x hx
  have e1 : deedOf H x.2.2 = ps := by
    rw [b]
    show (match H t with | some (.tup ps) => ps | _ => []) = ps
    rw [c]
  show DeedAt H (deedOf H) (x.2.1, x.1, x.2.2)
  refine ⟨a, ?_, t, b, ?_⟩
  · show okD (deedOf H x.2.2)
    rw [e1]; exact d
  · show H t = some (.tup (deedOf H x.2.2))
    rw [e1]; exact c
theorem kput_all {p : Ent → Prop} {m : List Ent} {e : Ent} (h : ∀ x ∈ m, p x) (g : p e) : ∀ x ∈ kput m e, p x := fun x hx => by
  unfold kput at hx
  split at hx
  · obtain ⟨y, hy, rfl⟩ := List.mem_map.mp hx
    split
    · exact g
    · exact h y hy
  · rcases List.mem_append.mp hx with hx | hx
    · exact h x hx
    · rw [List.mem_singleton.mp hx]; exact g
theorem kdel_all {p : Ent → Prop} {m : List Ent} {n : Int} (h : ∀ x ∈ m, p x) : ∀ x ∈ kdel m n, p x := fun x hx => h x (List.mem_filter.mp hx).1
theorem kn_keys {H : Hp} {kvs : List (Key × V)} {m : List Ent} (h : KnAt H kvs m) : kvs.map (·.1) = (keys m).map Sum.inl := by
  induction h with
  | nil => rfl
  | cons r t ih => rw [List.map_cons, keys, List.map_cons, List.map_cons, r.1, ih]; rfl
/-! the two lists, deep -/
def pd : V → PyData
  | .non => .none
  | .int i => .int i
  | .str s => .str s
  | _ => .none
theorem dp_vals {K : PySem.W.Frag} {H : Hp} : ∀ {ps : List V}, (∀ p ∈ ps, okP p) → DpAll K H ps (ps.map pd)
  | [], _ => .nil
  | p :: r, h => by
    refine .cons ?_ (dp_vals fun x m => h x (.tail _ m))
    have o := h p (.head _)
    cases p with
    | non => exact .non
    | int i => exact .int i
    | str s => exact .str s
    | bl b => exact o.elim
    | byt b => exact o.elim
    | flt b => exact o.elim
    | ref a => exact o.elim
    | ty n => exact o.elim
theorem pd_lay {p : V} (h : layP p) : (pd p).canLay0 = true ∧ (pd p).depth ≤ 0 := by
  cases p with
  | str s => exact ⟨h, Nat.le_refl _⟩
  | _ => exact ⟨rfl, Nat.le_refl _⟩
def rowDat (D : V → List V) (e : Row3) : PyData := .tuple [.int e.1, .int e.2.1, .tuple ((D e.2.2).map pd)]
theorem row_dp {K : PySem.W.Frag} {H : Hp} {D : V → List V} : ∀ {ys : List V} {out : List Row3}, Paired (TriAt H) ys out → (∀ e ∈ out, DeedAt H D e) → DpAll K H ys (out.map (rowDat D))
  | _, _, .nil, _ => .nil
  | _, _, .cons (b := e) r t, h => by
    obtain ⟨o1, o2, a, ea, ha⟩ := h e (.head _)
    obtain ⟨x, rfl, hx⟩ := r
    refine .cons (.tup (sqT_at hx) (.cons (.int _) (.cons (.int _) (.cons ?_ .nil)))) (row_dp t fun z m => h z (.tail _ m))
    rw [ea]
    rw [ea] at ha
    exact .tup (sqT_at ha) (dp_vals (by rw [ea] at o2; exact o2.1))
theorem row_lay {D : V → List V} {e : Row3} (o : okD (D e.2.2)) : (rowDat D e).canLay0 = true ∧ (rowDat D e).depth ≤ 2 := by
  have h1 := can_all (l := (D e.2.2).map pd) fun x m => by
    obtain ⟨p, hp, rfl⟩ := List.mem_map.mp m
    exact (pd_lay (o.2.2 p hp)).1
  have h2 := depth_all (B := 0) (l := (D e.2.2).map pd) fun x m => by
    obtain ⟨p, hp, rfl⟩ := List.mem_map.mp m
    exact (pd_lay (o.2.2 p hp)).2
  constructor
  · unfold rowDat
    simp only [PyData.canLay0, PyData.canLayAll0, h1, Bool.and_self]
  · unfold rowDat
    simp only [PyData.depth, PyData.depthAll]
    omega
theorem rows_sh {D : V → List V} {out : List Row3} (h : ∀ e ∈ out, okD (D e.2.2)) : SeqAt.shaped (.list (out.map (rowDat D))) = true := shaped_list (B := 2) (by decide) fun x m => by
  obtain ⟨e, he, rfl⟩ := List.mem_map.mp m
  exact row_lay (h e he)
theorem rows_self {D : V → List V} {out : List Row3} (h : ∀ e ∈ out, okD (D e.2.2)) : PyData.eqv (.list (out.map (rowDat D))) (.list (out.map (rowDat D))) = true :=
  SeqAt.eqv_refl _ (SeqAt.canLay_of_shaped (rows_sh h))
/-! one entry more: a longer text -/
theorem sum_perm {l m : List Nat} (h : l.Perm m) : l.sum = m.sum := h.sum_nat
theorem bookT_len (D : V → List V) (d : HallD) (out : List Row3) : (bookT D d out).length = ((headT d).map (·.length)).sum + (out.map fun e => (rowE D e).length).sum + ((headT d).length + out.length - 1) * ("\n" : Str).length := by
  unfold bookT
  rw [join_len]
  simp only [List.map_append, List.sum_append, List.length_append, List.length_map, List.map_map]
  rfl
theorem bookT_more {D : V → List V} {d : HallD} {o1 o2 : List Row3} {m : List Ent} {e : Ent} (h1 : SrtE o1 (ents m)) (h2 : SrtE o2 (ents (m ++ [e]))) : bookT D d o1 ≠ bookT D d o2 := fun z => by
  have z := congrArg Str.length z
  rw [bookT_len, bookT_len] at z
  have p1 := (h1.stb.perm.map fun e => (rowE D e).length).sum_nat
  have p2 := (h2.stb.perm.map fun e => (rowE D e).length).sum_nat
  have l1 := h1.stb.perm.length_eq
  have l2 := h2.stb.perm.length_eq
  have ee : ents (m ++ [e]) = ents m ++ ents [e] := by unfold ents; rw [List.map_append]
  rw [ee] at p2 l2
  rw [List.map_append, List.sum_append] at p2
  rw [List.length_append, show (ents [e]).length = 1 from rfl] at l2
  have hh : 1 ≤ (headT d).length := by
    unfold headT
    simp only [List.length_append, List.length_singleton]
    omega
  have nl : ("\n" : Str).length = 1 := by decide
  rw [nl] at z
  omega
theorem bookT_congr {D D' : V → List V} {d : HallD} {out : List Row3} (h : ∀ e ∈ out, D e.2.2 = D' e.2.2) : bookT D d out = bookT D' d out := by
  unfold bookT
  congr 2
  exact List.map_congr_left fun e m => by unfold rowE; rw [h e m]
end Zz

/-! The law walked. -/
namespace Zz
open PySem PySem.Spec PyProof.Rows L2
section
variable {P : Program} {w : World} {K : PySem.W.Frag} {mg : Str → Option Value} {base : Heap} {CB CE CR CS : Addr}
def spLaw (K : PySem.W.Frag) : Sp := fun vs H Q _ => ∃ (a : Addr) (ns : List Int), vs = [.ref a] ∧ SqL K H a (ns.map V.int) ∧ ns.length ≤ 64 ∧ ∀ H', Q (.bl true) H'
theorem Sm.off {S : List Addr} {H H' : Hp} {x : Addr} (h : x ∉ S) : x ∉ S := h
theorem r_sortedE_arg {σ : L2.St} {H : Hp} {Q : VK} {a : Addr} {xs : List V} {es : List Row3} (hs : SqL K H a xs) (hp : Paired (TriAt H) xs es) (nd : (es.map fun e => (e.1, e.2.1)).Nodup)
    (q : ∀ (p : Addr) (ys : List V) (out : List Row3), H p = Option.none → SrtE out es → Paired (TriAt H) ys out → Q (.ref p) (upd H p (.lst ys))) : tNil σ H fun xs H2 => (fun vs H1 => rSortedE K vs H1 Q) (V.ref a :: xs) H2 := r_sortedE hs hp nd q
theorem valV_get : ∀ {kvs : List (Key × V)} {i : Nat} {k : Key} {v : V}, (kvs.map (·.1)).Nodup → kvs[i]? = some (k, v) → valV kvs k = some v
  | [], i, _, _, _, h => by simp at h
  | p :: r, 0, k, v, _, h => by
    have e : p = (k, v) := by simpa using h
    rw [valV_pos (by rw [e]), e]
  | p :: r, i + 1, k, v, nd, h => by
    have h : r[i]? = some (k, v) := by simpa using h
    rw [List.map_cons, List.nodup_cons] at nd
    rw [valV_neg fun z => nd.1 (by rw [z]; exact List.mem_map.mpr ⟨(k, v), List.mem_of_getElem? h, rfl⟩)]
    exact valV_get nd.2 h
theorem nd_map_inl : ∀ {l : List Int}, l.Nodup → (l.map (Sum.inl : Int → Key)).Nodup
  | [], _ => List.nodup_nil
  | x :: r, h => by
    rw [List.nodup_cons] at h
    rw [List.map_cons, List.nodup_cons]
    refine ⟨fun m => ?_, nd_map_inl h.2⟩
    obtain ⟨y, hy, e⟩ := List.mem_map.mp m
    rw [← Sum.inl.inj e] at h
    exact h.1 hy
theorem DeedAt.keepT {H H' : Hp} {D : V → List V} {e : Row3} (h : DeedAt H D e) (k : TK H H') : DeedAt H' D e := ⟨h.1, h.2.1, h.2.2.choose, h.2.2.choose_spec.1, k _ _ h.2.2.choose_spec.2⟩
theorem nod {m : List Ent} {kvs : List (Key × V)} {H : Hp} (h : KnAt H kvs m) (n : (keys m).Nodup) : (kvs.map (·.1)).Nodup := by
  rw [kn_keys h]
  exact nd_map_inl n
theorem law_ok {f : Addr} {fd : FuncData} (F : C8.Fun K "law" "law" s_law f fd) (b : Binds K fd ["_law_script"] []) (TE : TxE K mg CE CR CS) (TB : TxB K mg CB) (TT : TxT K mg) (TL : TxL K mg) (T : TxV K mg) : FnOk P w K mg base C8.CX0 6 f fd ["_law_script"] (spLaw K) := by
  have c_lbegin := c_begin_ (P := P) (w := w) (base := base) TL
  have c_ltake := c_take_ (P := P) (w := w) (base := base) TL
  have c_lsome := c_some_ (P := P) (w := w) (base := base) TL
  have c_lhall := c_hall_ (P := P) (w := w) (base := base) TL
  have c_lbook := c_book_ (P := P) (w := w) (base := base) (CE := CE) (CR := CR) (CS := CS) TL TB
  have c_ldeed := c_deed_ (P := P) (w := w) (base := base) TL
  have c_lhour := c_hour_ (P := P) (w := w) (base := base) TL
  have c_lhead := c_lhead_ (P := P) (w := w) (base := base) TL
  have c_lrow := c_lrow_ (P := P) (w := w) (base := base) TL
  have c_book_text := c_btext_ (P := P) (w := w) (base := base) TE TB TT
  have mB_enter := mB_enter_ (P := P) (w := w) (base := base) TE TB
  have mB_right := mB_right_ (P := P) (w := w) (base := base) TE TB
  have mB_strike := mB_strike_ (P := P) (w := w) (base := base) TE TB
  have mB_undo := mB_undo_ (P := P) (w := w) (base := base) (CE := CE) (CR := CR) (CS := CS) TB
  have mB_entries := mB_entries_ (P := P) (w := w) (base := base) TE TB
  have mB_len := mB_len_ (P := P) (w := w) (base := base) TE TB
  refine C8.fn0 F sc_law (fun vs H Q E z => ?_) (fun cdv A outer s H vs Q E hr z => ?_)
  · obtain ⟨_, _, rfl, _⟩ := z
    rfl
  · obtain ⟨a, ns, rfl, hs, hl, q⟩ := z
    have hu := hu_of hr
    refine ⟨_, (pss_cons (ps_set (i := 1) sc_law.nd rfl (Or.inl rfl) (C8.pe_c c_lbegin hr (by decide) (by rfl) (pa_cons (pv 0) pa_nil)))
    (pss_cons (ps_set (i := 2) sc_law.nd rfl (Or.inl rfl) (C8.pe_c c_lhall hr (by decide) (by rfl) (pa_cons (pv 1) (pa_cons (pe_cmpR op_eq (C8.pe_c c_ltake hr (by decide) (by rfl) (pa_cons (pv 1) (pa_cons pe_int pa_nil))) pe_int (nomark _)) pa_nil))))
    (pss_cons (ps_asg (pe_tup (pa_cons (C8.pe_c c_lbook hr (by decide) (by rfl) (pa_cons (pv 2) pa_nil)) (pa_cons pe_dnewK pa_nil))) (pg_tup rfl (pgs_cons (pg_name (i := 3) sc_law.nd rfl (Or.inl rfl)) (pgs_cons (pg_name (i := 4) sc_law.nd rfl (Or.inr rfl)) pgs_nil))))
    (pss_cons (ps_for PassesOwn.never rfl (pi_range1 (by rfl) T.n_range (pa_cons (C8.pe_c c_ltake hr (by decide) (by rfl) (pa_cons (pv 1) (pa_cons pe_int pa_nil))) pa_nil)) (pg_name (i := 5) sc_law.nd rfl (Or.inl rfl))
    (pss_cons (ps_par3 (i := 6) (j := 7) (l := 8) rfl sc_law.nd rfl rfl rfl (by decide) (by decide) (by decide) rfl rfl rfl (pa_cons (C8.pe_c c_ltake hr (by decide) (by rfl) (pa_cons (pv 1) (pa_cons pe_int pa_nil))) (pa_cons (C8.pe_c c_ldeed hr (by decide) (by rfl) (pa_cons (pv 1) (pa_cons (pv 2) pa_nil))) (pa_cons (C8.pe_c c_lhour hr (by decide) (by rfl) (pa_cons (pv 1) pa_nil)) pa_nil))) rfl)
    (pss_one (ps_if (PW.pt (pw_and (pt_cmpR op_lt (pv 6) pe_int (nomark _)) (pw_and1 (pt_cmpR (op_neDict hr.units0) (pv 4) pe_dnewK (nomark _))))) (pss_cons (ps_set (i := 9) sc_law.nd rfl (Or.inl rfl) (C8.pe_c c_lsome hr (by decide) (by rfl) (pa_cons (pv 1) (pa_cons (pe_callB (call_sortedDI rfl) (by rfl) T.n_sorted (by decide +kernel) (pa_cons (pv 4) pa_nil)) pa_nil))))
    (pss_one (ps_if (pt_cmpR op_eq (pv 6) pe_int (nomark _)) (pss_cons (ps_expr (C8.pe_mt mB_right hr (by decide) (pv 3) (pa_cons (pv 9) (pa_cons (pv 7) (pa_cons (pv 8) pa_nil)))))
    (pss_one (ps_dput hu (pv 4) (pv 9) (pe_tup (pa_cons (pv 8) (pa_cons (pv 7) pa_nil))) rfl))) (pss_cons (ps_expr (C8.pe_mt mB_strike hr (by decide) (pv 3) (pa_cons (pv 9) pa_nil)))
    (pss_one (ps_expr (pe_dpop1 (pv 4) (pv 9) ⟨rfl, rfl, rfl, rfl⟩))))))) (pss_one (ps_dput hu (pv 4) (C8.pe_mt mB_enter hr (by decide) (pv 3) (pa_cons (pv 7) (pa_cons (pv 8) pa_nil))) (pe_tup (pa_cons (pv 8) (pa_cons (pv 7) pa_nil))) rfl))))))
    (pss_cons (ps_set (i := 10) sc_law.nd rfl (Or.inl rfl) (pe_callB cr_sortedE (by rfl) T.n_sorted (by decide +kernel) (pa_cons (pe_lc (own := [("_law_number", 9)]) (g := (gName 9)) (tt := tYes) rfl sc_law.nd (pi_keys (pe_frz (pv 4))) (blkOk_by (own := [("_law_number", 9)]) (N := nm_law) (sc := C8.fnScope s_law) (by decide +kernel)) (fun _ _ _ _ _ => (pg_name (i := 9) sc_law.nd rfl (Or.inl rfl))) (fun _ _ _ _ _ => pts_nil) (fun _ _ _ _ _ => (pe_op (show OpR _ _ (rCatA K) from op_catA) (pe_slice (show SlR _ (rSlA K) from sl_tupA) (pe_dget hu (pv 4) (pv 9) (fun _ _ => rfl)) po_none (po_some pe_int)) (pe_tup (pa_cons (pv 9) (pa_cons (pe_ix (show IxR _ (rIxT K) from ix_tup) (pe_dget hu (pv 4) (pv 9) (fun _ _ => rfl)) pe_int (fun _ _ => rfl)) pa_nil)))))) pa_nil)))
    (pss_cons (ps_set (i := 11) sc_law.nd rfl (Or.inl rfl) (pe_join pe_str (pe_op op_cat (C8.pe_c c_lhead hr (by decide) (by rfl) (pa_cons (pv 2) pa_nil)) (pe_lc (own := [("_law_hour_here", 8), ("_law_number", 9), ("_law_deed_here", 7)]) (g := (gTup _ 3 (gCons (gName 8) (gCons (gName 9) (gCons (gName 7) gNil))))) (tt := tYes) rfl sc_law.nd (pi_list (pv 10)) (blkOk_by (own := [("_law_hour_here", 8), ("_law_number", 9), ("_law_deed_here", 7)]) (N := nm_law) (sc := C8.fnScope s_law) (by decide +kernel)) (fun _ _ _ _ _ => (pg_tup rfl (pgs_cons (pg_name (i := 8) sc_law.nd rfl (Or.inl rfl)) (pgs_cons (pg_name (i := 9) sc_law.nd rfl (Or.inl rfl)) (pgs_cons (pg_name (i := 7) sc_law.nd rfl (Or.inl rfl)) pgs_nil))))) (fun _ _ _ _ _ => pts_nil) (fun _ _ _ _ _ => (C8.pe_c c_lrow hr (by decide) (by rfl) (pa_cons pe_str (pa_cons (pe_op (show OpR _ _ (rCatA K) from op_catA) (pe_tup (pa_cons (pv 8) pa_nil)) (pv 7)) pa_nil))))))))
    (pss_cons (ps_if (PW.pt (pw_or (pt_cmpR op_ne (C8.pe_c c_book_text hr (by decide) (by rfl) (pa_cons (pv 3) pa_nil)) (pv 11) (nomark _)) (pw_or1 (pt_cmpR (op_neD hr.units) (C8.pe_mt0 mB_entries hr (by decide) (pv 3)) (pv 10) (nomark _))))) (pss_one (ps_ret pe_bl)) pss_nil)
    (pss_cons (ps_expr (C8.pe_mt mB_enter hr (by decide) (pv 3) (pa_cons (C8.pe_c c_ldeed hr (by decide) (by rfl) (pa_cons (pv 1) (pa_cons (pv 2) pa_nil))) (pa_cons pe_int pa_nil))))
    (pss_cons (ps_set (i := 12) sc_law.nd rfl (Or.inl rfl) (C8.pe_c c_book_text hr (by decide) (by rfl) (pa_cons (pv 3) pa_nil)))
    (pss_cons (ps_expr (C8.pe_mt0 mB_undo hr (by decide) (pv 3)))
    (pss_one (ps_ret (pe_and (pe_cmpR op_ne (pv 12) (pv 11) (nomark _)) (pe_and (pe_callB call_isi (by rfl) T.n_isinstance (by decide +kernel) (pa_cons (C8.pe_c c_book_text hr (by decide) (by rfl) (pa_cons (pv 3) pa_nil)) (pa_cons (pe_bltn (v := .ty "str") (u := .type "str") (by rfl) T.n_str (by decide +kernel) rfl) pa_nil))) (pe_and (pe_cmpR op_eq (C8.pe_c c_book_text hr (by decide) (by rfl) (pa_cons (pv 3) pa_nil)) (pv 11) (nomark _)) (pe_one (pe_cmpR op_eq (pe_callB (call_lenOwn mB_len hr (by decide)) (by rfl) T.n_len (by decide +kernel) (pa_cons (pv 3) pa_nil)) (pe_callB call_len_seq (by rfl) T.n_len (by decide +kernel) (pa_cons (pv 10) pa_nil)) (nomark _)))))))))))))))))), ?_⟩
    -- the state, the hall, the Book
    refine ⟨.ref a, rfl, a, ns, rfl, hs, hl, fun sd sc H1 e1 st1 => ?_⟩
    refine ⟨.ref sd, rfl, .ref sd, rfl, sd, sc, 0, 8, rfl, st1, by omega, by decide, by decide, fun i2 H2 a2 b2 e2 st2 => ?_⟩
    refine ⟨rfl, sd, sc, 1, _, rfl, st2, by omega, fun hd g d H3 hg3 ok nw3 e3 st3 => ?_⟩
    have no : ∀ x ∈ g.all hd, x ∉ [sd, sc] := fun x m => st2.off (nw3 x m)
    refine ⟨.ref hd, rfl, hd, g, d, rfl, hg3, fun bk tl h H4 e4 B4 HB4 ntl => ?_⟩
    intro kd hkd
    refine ⟨by show 2 ≤ sizeLine; decide, fun u hu0 => ⟨u, _, rfl, sqT_at upd_same, rfl, .ref bk, _, rfl, .ref kd, [], rfl, rfl, ?_⟩⟩
    have st4 := st3.keep0 e4
    have hg4 := hg3.keep0 e4
    have ntlS := st3.off ntl
    have nkdS := st4.off hkd
    have s5 : Sm [] H4 (upd (upd H4 kd (.dK [])) u (.tup [.ref bk, .ref kd])) := (Sm.new hkd).trans (Sm.new hu0)
    have hk5 : (upd (upd H4 kd (.dK [])) u (.tup [.ref bk, .ref kd])) kd = some (.dK []) := at_new hu0 upd_same
    generalize upd (upd H4 kd (.dK [])) u (.tup [.ref bk, .ref kd]) = H5 at s5 hk5
    have st5 := st4.keep0 s5
    have hg5 := hg4.keep0 s5
    have B5 := B4.keep0 s5
    have HB5 := HB4.keep (TK.sm s5)
    have gtl : ∀ x ∈ g.all hd, x ≠ tl := fun x m z => by
      subst z
      obtain ⟨z1, ⟨_, z2, _⟩, ⟨_, z3, _⟩, _⟩ : (∃ o, H3 hd = some o) ∧ (∃ xs, NmAt H3 g.st xs ∧ xs.length = 2) ∧ (∃ xs, H3 g.ks = some (.lst xs) ∧ RowD H3 xs d.kinds) ∧ True := ⟨⟨_, hg3.dict⟩, hg3.st, hg3.ks, True.intro⟩
      obtain ⟨_, r1, _⟩ := hg3.rs
      obtain ⟨_, c1, _⟩ := hg3.co
      obtain ⟨_, t1, _⟩ := hg3.te
      have p1 := hg3.ps
      simp only [HG.all, List.mem_cons, List.not_mem_nil, or_false] at m
      rcases m with rfl | rfl | rfl | rfl | rfl | rfl | rfl
      · rw [hg3.dict] at ntl; cases ntl
      · rw [z2.1] at ntl; cases ntl
      · rw [z3] at ntl; cases ntl
      · rw [r1] at ntl; cases ntl
      · rw [c1.1] at ntl; cases ntl
      · rw [t1.1] at ntl; cases ntl
      · rw [p1.1] at ntl; cases ntl
    have gkd : ∀ x ∈ g.all hd, x ≠ kd := fun x m z => by
      subst z
      obtain ⟨_, z2, _⟩ := hg4.st
      obtain ⟨_, z3, _⟩ := hg4.ks
      obtain ⟨_, r1, _⟩ := hg4.rs
      obtain ⟨_, c1, _⟩ := hg4.co
      obtain ⟨_, t1, _⟩ := hg4.te
      have p1 := hg4.ps
      simp only [HG.all, List.mem_cons, List.not_mem_nil, or_false] at m
      rcases m with rfl | rfl | rfl | rfl | rfl | rfl | rfl
      · rw [hg4.dict] at hkd; cases hkd
      · rw [z2.1] at hkd; cases hkd
      · rw [z3] at hkd; cases hkd
      · rw [r1] at hkd; cases hkd
      · rw [c1.1] at hkd; cases hkd
      · rw [t1.1] at hkd; cases hkd
      · rw [p1.1] at hkd; cases hkd
    have ntk : tl ≠ kd := fun z => by
      subst z
      obtain ⟨es, z, _⟩ := B4.te
      rw [z] at hkd; cases hkd
    have nS4 : ∀ x ∈ g.all hd, x ∉ [sd, sc, tl, kd] := fun x m z => by
      rcases List.mem_cons.mp z with rfl | z
      · exact no _ m (by simp)
      rcases List.mem_cons.mp z with rfl | z
      · exact no _ m (by simp)
      rcases List.mem_cons.mp z with rfl | z
      · exact gtl _ m rfl
      · exact gkd _ m (List.mem_singleton.mp z)
    clear gtl gkd
    have w2 : ∀ {Ha Hb : Hp}, Sm [sd, sc] Ha Hb → Sm [sd, sc, tl, kd] Ha Hb := fun e => e.mono fun x m => by
      rcases List.mem_cons.mp m with rfl | m
      · simp
      · rw [List.mem_singleton.mp m]; simp
    have w1 : ∀ {Ha Hb : Hp}, Sm [tl] Ha Hb → Sm [sd, sc, tl, kd] Ha Hb := fun e => e.mono fun x m => by
      rw [List.mem_singleton.mp m]; simp
    have stl : sd ∉ [tl] ∧ sc ∉ [tl] := ⟨fun z => ntlS (by rw [← List.mem_singleton.mp z]; simp), fun z => ntlS (by rw [← List.mem_singleton.mp z]; simp)⟩
    have skd : sd ∉ [kd] ∧ sc ∉ [kd] := ⟨fun z => nkdS (by rw [← List.mem_singleton.mp z]; simp), fun z => nkdS (by rw [← List.mem_singleton.mp z]; simp)⟩
    -- what holds before each turn
    let Pv : Nat → L2.St → Hp → Prop := fun i σ H6 => ∃ (v5 v6 v7 v8 v9 v10 v11 v12 : Option V) (ts : List Told) (kvs : List (Key × V)), σ = [some (.ref a), some (.ref sd), some (.ref hd), some (.ref bk), some (.ref kd), v5, v6, v7, v8, v9, v10, v11, v12] ∧
      i ≤ 31 ∧ Sm [sd, sc, tl, kd] H5 H6 ∧ TK H5 H6 ∧ StOk H6 sd sc (3010 + 30 * i) ∧ BookAt CB CE CR CS H6 bk tl h ts ∧ ts.length ≤ i ∧ H6 kd = some (.dK kvs) ∧ KnAt H6 kvs (kn ts) ∧ ∀ e ∈ kn ts, EntOk H6 e
    refine ⟨.ref sd, rfl, sd, sc, 3001, 31, rfl, st5, by omega, by decide, by decide, fun N H6 a6 b6 e6 st6 => ?_⟩
    refine ⟨N, rfl, by omega, by omega, for_range Pv ⟨none, none, none, none, none, none, none, none, [], [], rfl, by omega, w2 e6, st5.tk e6, st6.mono (by omega), B5.keep e6 ntlS (st5.noins e6), Nat.zero_le _, e6 _ _ nkdS hk5, .nil, fun e m => by cases m⟩ ?_ ?_⟩
    · rintro i σ H7 hi ⟨v5, v6, v7, v8, v9, v10, v11, v12, ts, kvs, rfl, i31, F7, k7, st7, B7, lt7, hk7, kn7, en7⟩
      have i30 : i < 31 := by omega
      have hg7 := hg5.keep F7 k7 nS4
      refine ⟨.ref sd, rfl, sd, sc, _, 8, rfl, st7, by omega, by decide, by decide, fun way H8 a8 b8 e8 st8 => ?_⟩
      have hg8 := hg7.keep e8 (st7.tk e8) no
      refine ⟨.ref sd, rfl, .ref hd, rfl, sd, sc, hd, _, g, d, rfl, st8, by omega, hg8, ok, no, fun t ps H9 ht8 ht9 okd e9 st9 => ?_⟩
      refine ⟨.ref sd, rfl, sd, sc, _, rfl, st9, by omega, fun ho H10 oho e10 st10 => ⟨.int way, .ref t, .int ho, rfl, ?_⟩⟩
      have E10 : Sm [sd, sc] H7 H10 := (e8.trans e9).trans e10
      have K10 : TK H7 H10 := st7.tk E10
      have F10 := F7.trans (w2 E10)
      have k10 := k7.trans K10
      have B10 := B7.keep E10 ntlS (st7.noins E10)
      have hk10 := E10 _ _ nkdS hk7
      have kn10 : KnAt H10 kvs (kn ts) := kn7.keep K10
      have en10 : ∀ e ∈ kn ts, EntOk H10 e := fun e m => (en7 e m).keep K10
      have ht10 : H10 t = some (.tup ps) := st9.tk e10 _ _ ht9
      have st10 := st10.mono (show 3010 + 30 * i + 1 + 20 + 4 ≤ 3010 + 30 * i + 25 by omega)
      have lk10 := Paired.length kn10
      have lkn := kn_len ts
      clear E10 K10 e8 e9 e10 st8 st9 ht8 ht9 hg8 F7 k7 B7 hk7 kn7 en7 st7
      refine ⟨.int way, rfl, _, _, rfl, rfl, _, rfl, ite2 (fun hw2 => ?_) (fun _ => iteF ?_)⟩
      · refine ⟨.ref kd, rfl, fun ee hee => ⟨kd, ee, kvs, rfl, rfl, at_new hee hk10, upd_same, _, rfl, ?_⟩⟩
        have s10 : Sm [] H10 (upd H10 ee (.dK [])) := Sm.new hee
        generalize upd H10 ee (.dK []) = H10b at s10
        have t10 := TK.sm s10
        have F10 := F10.trans s10.of
        have k10 := k10.trans t10
        have st10 := st10.keep0 s10
        have B10 := B10.keep0 s10
        have hk10 := s10 _ _ (by simp) hk10
        have kn10 : KnAt H10b kvs (kn ts) := kn10.keep t10
        have en10 : ∀ e ∈ kn ts, EntOk H10b e := fun e m => (en10 e m).keep t10
        have ht10 := t10 _ _ ht10
        clear t10 s10
        refine ite2 (fun hne => ?_) (fun _ => ?_)
        · have kne : kvs ≠ [] := fun z => by rw [z] at hne; cases hne
          have kpos := List.length_pos_iff.mpr kne
          refine ⟨.ref sd, rfl, .ref kd, rfl, kd, kvs, keys (kn ts), rfl, .inl hk10, kn_keys kn10, by unfold keys; rw [List.length_map]; omega, fun ys z perm srt hz => ?_⟩
          have lys : ys.length = kvs.length := by
            rw [perm.length_eq]
            unfold keys
            rw [List.length_map]; exact lk10.symm
          refine ⟨sd, sc, z, _, ys.map V.int, rfl, st10.keep0 (Sm.new hz), by omega, st10.off hz, sqL_at upd_same, fun e => by rw [List.map_eq_nil_iff.mp e] at lys; have : 0 = kvs.length := lys; omega, by rw [List.length_map]; omega, fun v H12 mv e12 st12 => ?_⟩
          obtain ⟨nn, hnn, rfl⟩ : ∃ nn, nn ∈ keys (kn ts) ∧ v = .int nn := by
            obtain ⟨y, hy, e⟩ := List.mem_map.mp mv
            exact ⟨y, perm.mem_iff.mp hy, e.symm⟩
          have E12 : Sm [sd, sc] H10b H12 := (Sm.new hz).trans e12
          have K12 : TK H10b H12 := st10.tk E12
          have B12 := B10.keep E12 ntlS (st10.noins E12)
          have hk12 := E12 _ _ nkdS hk10
          have F12 := F10.trans (w2 E12)
          have k12 := k10.trans K12
          have kn12 : KnAt H12 kvs (kn ts) := kn10.keep K12
          obtain ⟨dx12, ob12⟩ := B12.ob
          obtain ⟨es12, te12, _⟩ := B12.te
          refine ⟨.int way, rfl, rfl, _, rfl, ite2 (fun _ => ?_) (fun _ => ?_)⟩
          · refine ⟨.ref bk, rfl, bk, dx12, _, rfl, ob12, fB_no _ _ (by decide +kernel) (by decide +kernel) (by decide +kernel) (by decide +kernel) (by decide +kernel) (by decide +kernel), .int nn, rfl, .ref t, rfl, .int ho, rfl, bk, tl, h, ts, nn, ho, .ref t, rfl, B12, by omega, hnn, fun H13 e13 B13 => ?_⟩
            have kT : TK H12 H13 := fun t xs z => e13 _ _ (fun m => by rw [List.mem_singleton.mp m, te12] at z; cases z) z
            have hk13 := e13 _ _ (fun m => ntk (List.mem_singleton.mp m).symm) hk12
            refine ⟨.int ho, rfl, .ref t, rfl, by show 2 ≤ sizeLine; decide, fun u hu2 => ⟨.ref kd, rfl, .int nn, rfl, ?_⟩⟩
            have hkU := at_new (o := .tup [.int ho, .ref t]) hu2 hk13
            refine ⟨kd, _, rfl, DPut.k (k := Sum.inl nn) hkU (small1000 (by omega)), ?_⟩
            have kk := kT.trans ((TK.new (o := .tup [.int ho, .ref t]) hu2).trans (TK.dic (o := .dK (putK kvs (Sum.inl nn) (.ref u))) hkU))
            have st13 := (((st12.keep e13 stl.1 stl.2).keep0 (Sm.new (o := .tup [.int ho, .ref t]) hu2)).keep (Sm.at (S := [kd]) (p := kd) (o := .dK (putK kvs (Sum.inl nn) (.ref u))) (by simp)) skd.1 skd.2).mono (show 3010 + 30 * i + 25 + 1 ≤ 3010 + 30 * (i + 1) by omega)
            refine ⟨some (.int (0 + (i : Int))), some (.int way), some (.ref t), some (.int ho), some (.int nn), v10, v11, v12, ts ++ [.rig nn ho (.ref t)], putK kvs (Sum.inl nn) (.ref u), rfl, by omega, ((F12.trans (w1 e13)).trans (Sm.new hu2)).trans (Sm.at (by simp)), k12.trans kk,
              st13, (B13.keep0 (Sm.new hu2)).keep (Sm.at (S := [kd]) (p := kd) (by simp)) (fun m => ntk (List.mem_singleton.mp m)) (fun x m C dx fs z => by rw [List.mem_singleton.mp m, hkU] at z; cases z), by rw [List.length_append, List.length_singleton]; omega, upd_same, ?_, ?_⟩
            · rw [kn_snoc]
              exact KnAt.put ((TK.dic hkU) _ _ upd_same) (kn12.keep kk)
            · rw [kn_snoc]
              exact kput_all (fun e m => ((en10 e m).keep K12).keep kk) ⟨oho, t, ps, rfl, kk _ _ (K12 _ _ ht10), okd⟩
          · refine ⟨.ref bk, rfl, bk, dx12, _, rfl, ob12, fB_no _ _ (by decide +kernel) (by decide +kernel) (by decide +kernel) (by decide +kernel) (by decide +kernel) (by decide +kernel), .int nn, rfl, bk, tl, h, ts, nn, rfl, B12, by omega, hnn, fun H13 e13 B13 => ?_⟩
            have kT : TK H12 H13 := fun t xs z => e13 _ _ (fun m => by rw [List.mem_singleton.mp m, te12] at z; cases z) z
            have hk13 := e13 _ _ (fun m => ntk (List.mem_singleton.mp m).symm) hk12
            obtain ⟨vv, hvv⟩ := kn12.val hnn
            refine ⟨.ref kd, rfl, kd, rfl, .inl ⟨kvs, .inl hk13⟩, .int nn, rfl, kvs, Sum.inl nn, vv, hk13, rfl, hvv, ?_⟩
            have kk := kT.trans (TK.dic (o := .dK (dropK kvs (Sum.inl nn))) hk13)
            have st13 := ((st12.keep e13 stl.1 stl.2).keep (Sm.at (S := [kd]) (p := kd) (o := .dK (dropK kvs (Sum.inl nn))) (by simp)) skd.1 skd.2).mono (show 3010 + 30 * i + 25 + 1 ≤ 3010 + 30 * (i + 1) by omega)
            refine ⟨some (.int (0 + (i : Int))), some (.int way), some (.ref t), some (.int ho), some (.int nn), v10, v11, v12, ts ++ [.str nn], dropK kvs (Sum.inl nn), rfl, by omega, (F12.trans (w1 e13)).trans (Sm.at (by simp)), k12.trans kk,
              st13, B13.keep (Sm.at (S := [kd]) (p := kd) (by simp)) (fun m => ntk (List.mem_singleton.mp m)) (fun x m C dx fs z => by rw [List.mem_singleton.mp m, hk13] at z; cases z), by rw [List.length_append, List.length_singleton]; omega, upd_same, ?_, ?_⟩
            · rw [kn_snoc]
              exact (kn12.keep kk).del
            · rw [kn_snoc]
              exact kdel_all fun e m => ((en10 e m).keep K12).keep kk
        · refine ⟨.int ho, rfl, .ref t, rfl, by show 2 ≤ sizeLine; decide, fun u hu2 => ?_⟩
          have sU : Sm [] H10b (upd H10b u (.tup [.int ho, .ref t])) := Sm.new hu2
          have hU : (upd H10b u (.tup [.int ho, .ref t])) u = some (.tup [.int ho, .ref t]) := upd_same
          generalize upd H10b u (.tup [.int ho, .ref t]) = HU at sU hU
          have BU := B10.keep0 sU
          obtain ⟨dxU, obU⟩ := BU.ob
          obtain ⟨esU, teU, _⟩ := BU.te
          refine ⟨.ref kd, rfl, .ref bk, rfl, bk, dxU, _, rfl, obU, fB_no _ _ (by decide +kernel) (by decide +kernel) (by decide +kernel) (by decide +kernel) (by decide +kernel) (by decide +kernel), .ref t, rfl, .int ho, rfl, bk, tl, h, ts, ho, .ref t, rfl, BU, by omega, fun nn H11 e11 isn B11 => ?_⟩
          have kT : TK HU H11 := fun t xs z => e11 _ _ (fun m => by rw [List.mem_singleton.mp m, teU] at z; cases z) z
          have hk11 := e11 _ _ (fun m => ntk (List.mem_singleton.mp m).symm) (sU _ _ (by simp) hk10)
          refine ⟨kd, _, rfl, DPut.k (k := Sum.inl nn) hk11 (small1000 (by omega)), ?_⟩
          have kk := (TK.sm sU).trans (kT.trans (TK.dic (o := .dK (putK kvs (Sum.inl nn) (.ref u))) hk11))
          refine ⟨some (.int (0 + (i : Int))), some (.int way), some (.ref t), some (.int ho), v9, v10, v11, v12, ts ++ [.ent nn ho (.ref t)], putK kvs (Sum.inl nn) (.ref u), rfl, by omega, ((F10.trans sU.of).trans (w1 e11)).trans (Sm.at (by simp)), k10.trans kk,
            (((st10.keep0 sU).keep e11 stl.1 stl.2).keep (Sm.at (S := [kd]) (p := kd) (by simp)) skd.1 skd.2).mono (by omega), B11.keep (Sm.at (S := [kd]) (p := kd) (by simp)) (fun m => ntk (List.mem_singleton.mp m)) (fun x m C dx fs z => by rw [List.mem_singleton.mp m, hk11] at z; cases z), by rw [List.length_append, List.length_singleton]; omega, upd_same, ?_, ?_⟩
          · rw [kn_snoc]
            exact KnAt.put ((kT.trans (TK.dic hk11)) _ _ hU) (kn10.keep kk)
          · rw [kn_snoc]
            exact kput_all (fun e m => (en10 e m).keep kk) ⟨oho, t, ps, rfl, kk _ _ ht10, okd⟩
      · refine ⟨.int ho, rfl, .ref t, rfl, by show 2 ≤ sizeLine; decide, fun u hu2 => ?_⟩
        have sU : Sm [] H10 (upd H10 u (.tup [.int ho, .ref t])) := Sm.new hu2
        have hU : (upd H10 u (.tup [.int ho, .ref t])) u = some (.tup [.int ho, .ref t]) := upd_same
        generalize upd H10 u (.tup [.int ho, .ref t]) = HU at sU hU
        have BU := B10.keep0 sU
        obtain ⟨dxU, obU⟩ := BU.ob
        obtain ⟨esU, teU, _⟩ := BU.te
        refine ⟨.ref kd, rfl, .ref bk, rfl, bk, dxU, _, rfl, obU, fB_no _ _ (by decide +kernel) (by decide +kernel) (by decide +kernel) (by decide +kernel) (by decide +kernel) (by decide +kernel), .ref t, rfl, .int ho, rfl, bk, tl, h, ts, ho, .ref t, rfl, BU, by omega, fun nn H11 e11 isn B11 => ?_⟩
        have kT : TK HU H11 := fun t xs z => e11 _ _ (fun m => by rw [List.mem_singleton.mp m, teU] at z; cases z) z
        have hk11 := e11 _ _ (fun m => ntk (List.mem_singleton.mp m).symm) (sU _ _ (by simp) hk10)
        refine ⟨kd, _, rfl, DPut.k (k := Sum.inl nn) hk11 (small1000 (by omega)), ?_⟩
        have kk := (TK.sm sU).trans (kT.trans (TK.dic (o := .dK (putK kvs (Sum.inl nn) (.ref u))) hk11))
        refine ⟨some (.int (0 + (i : Int))), some (.int way), some (.ref t), some (.int ho), v9, v10, v11, v12, ts ++ [.ent nn ho (.ref t)], putK kvs (Sum.inl nn) (.ref u), rfl, by omega, ((F10.trans sU.of).trans (w1 e11)).trans (Sm.at (by simp)), k10.trans kk,
          (((st10.keep0 sU).keep e11 stl.1 stl.2).keep (Sm.at (S := [kd]) (p := kd) (by simp)) skd.1 skd.2).mono (by omega), B11.keep (Sm.at (S := [kd]) (p := kd) (by simp)) (fun m => ntk (List.mem_singleton.mp m)) (fun x m C dx fs z => by rw [List.mem_singleton.mp m, hk11] at z; cases z), by rw [List.length_append, List.length_singleton]; omega, upd_same, ?_, ?_⟩
        · rw [kn_snoc]
          exact KnAt.put ((kT.trans (TK.dic hk11)) _ _ hU) (kn10.keep kk)
        · rw [kn_snoc]
          exact kput_all (fun e m => (en10 e m).keep kk) ⟨oho, t, ps, rfl, kk _ _ ht10, okd⟩
    · rintro σ H7 ⟨v5, v6, v7, v8, v9, v10, v11, v12, ts, kvs, rfl, N31, F7, k7, st7, B7, lt7, hk7, kn7, en7⟩
      have hg7 := hg5.keep F7 k7 nS4
      have HB7 := HB5.keep k7
      have dd7 := EntOk.deed en7
      generalize deedOf H7 = D at dd7
      have st7 := st7.mono (show 3010 + 30 * N.toNat ≤ 4000 by omega)
      have lt31 : ts.length ≤ 31 := by omega
      have lk7 := Paired.length kn7
      have nd7 := nod kn7 (kn_nd ts)
      clear F7 k7 en7
      -- the own rows
      refine ⟨.ref kd, rfl, kd, _, rfl, hk7, True.intro, fun od => ⟨kd, od, rfl, .inl ⟨kvs, upd_same, fun c hc => ?_⟩⟩⟩
      have kF : TK H7 (upd H7 kd (.frz od (.dK kvs))) := TK.dic hk7
      have sF : Sm [kd] H7 (upd H7 kd (.frz od (.dK kvs))) := Sm.at (by simp)
      have hkF : (upd H7 kd (.frz od (.dK kvs))) kd = some (.frz od (.dK kvs)) := upd_same
      have stF := st7.keep sF skd.1 skd.2
      have BF := B7.keep sF (fun m => ntk (List.mem_singleton.mp m)) (fun x m C dx fs z => by rw [List.mem_singleton.mp m, hk7] at z; cases z)
      have knF : KnAt (upd H7 kd (.frz od (.dK kvs))) kvs (kn ts) := kn7.keep kF
      have hgF := hg7.keep sF kF (fun x m z => nS4 x m (by rw [List.mem_singleton.mp z]; simp))
      have HBF := HB7.keep kF
      have ddF : ∀ e ∈ ents (kn ts), DeedAt (upd H7 kd (.frz od (.dK kvs))) D e := fun e m => (dd7 e m).keepT kF
      generalize upd H7 kd (.frz od (.dK kvs)) = HF at hc hkF stF BF knF hgF HBF ddF
      have nkc : kd ≠ c := ne_of_none hkF hc
      refine lc_it walk_keys (fun i H2 => Sm [] HF H2 ∧ ∃ xs, H2 c = some (.lst xs) ∧ Paired (TriAt H2) xs (ents ((kn ts).take i))) ⟨Sm.new hc, [], upd_same, .nil⟩ (fun i H2 _ ⟨z, _⟩ => z _ _ (by simp) hkF) ?_ ?_
      · rintro i x H2 H3 hi ⟨e3, xs, hx, px⟩ ⟨e0, k, v, hkv, rfl⟩
        obtain rfl : H3 = H2 := e0
        obtain ⟨⟨n, ho, dd⟩, hm, ek, t, ev, ht⟩ := paired_get knF hkv
        have ek : k = Sum.inl n := ek
        have ev : v = .ref t := ev
        subst ek
        subst ev
        have hv := valV_get nd7 hkv
        have ht2 := e3 _ _ (by simp) ht
        have get : ∀ {Hy : Hp}, Sm [] HF Hy → DGet Hy kd (.int n) (some (.ref t)) := fun {Hy} ey => .inl ⟨kvs, Sum.inl n, .inr ⟨od, ey _ _ (by simp) hkF⟩, rfl, hv.symm⟩
        refine ⟨rfl, yes_go ?_⟩
        have ec : cutV [V.int ho, dd] Option.none (some 1) = [.int ho] := by
          rw [show (some 1 : Option Int) = some ((1 : Nat) : Int) from rfl, cut_take]
          rfl
        refine ⟨.ref kd, rfl, .int n, rfl, kd, .ref t, rfl, get e3, 1, rfl, t, [.int ho, dd], rfl, sqT_at ht2, fun z => absurd z.2 (by show ¬ (1 = 2); decide), fun _ p hp => ?_⟩
        rw [ec]
        have e4 := e3.trans (Sm.new (o := .tup [.int ho]) hp)
        have ht3 := at_new (o := .tup [.int ho]) hp ht2
        have hx3 := at_new (o := .tup [.int ho]) hp hx
        have hp3 : (upd H3 p (.tup [.int ho])) p = some (.tup [.int ho]) := upd_same
        refine ⟨.int n, rfl, .ref kd, rfl, .int n, rfl, kd, .ref t, rfl, get e4, t, _, 1, dd, rfl, rfl, sqT_at ht3, rfl, by show 2 ≤ sizeLine; decide, fun u hu2 => ?_⟩
        refine ⟨p, u, [.int ho], [.int n, dd], rfl, rfl, sqT_at (at_new hu2 hp3), sqT_at upd_same, by show 3 ≤ sizeLine; decide, fun z => (by cases z), fun _ z => (by cases z), fun _ _ r hr2 => ?_⟩
        have hx5 := at_new (o := .tup [.int ho, .int n, dd]) hr2 (at_new (o := .tup [.int n, dd]) hu2 hx3)
        have k5 : TK H3 (upd (upd (upd H3 p (.tup [.int ho])) u (.tup [.int n, dd])) r (.tup [.int ho, .int n, dd])) := ((TK.new hp).trans (TK.new hu2)).trans (TK.new hr2)
        have ncr : r ≠ c := (ne_of_none (at_new (o := .tup [.int n, dd]) hu2 hx3) hr2).symm
        refine ⟨xs, hx5, ?_, ((e4.trans (Sm.new hu2)).trans (Sm.new hr2)).mut hc, _, upd_same, ?_⟩
        · have := Paired.length px
          have := kn_len ts
          unfold ents at *
          rw [List.length_map, List.length_take] at *
          exact small1000 (by omega)
        · rw [List.take_add_one, hm]
          unfold ents
          rw [List.map_append]
          refine paired_snoc (Paired.mapP px fun a e ⟨t', z1, z2⟩ => ⟨t', z1, ((k5.trans (TK.lst hx5)) _ _ z2)⟩) ⟨r, rfl, by rw [upd_ne ncr]; exact upd_same⟩
      rintro H8 ⟨e8, xs, hx8, px8⟩
      rw [lk7, List.take_length] at px8
      refine r_sortedE_arg (K := K) (sqL_at hx8) px8 (ents_nd (kn_nd ts)) fun r ys out hr0 so po => ?_
      have nrS := (stF.keep0 e8).off hr0
      have nrt : r ∉ [tl] := fun m => by
        obtain ⟨es8, te8, _⟩ := (BF.keep0 e8).te
        rw [← List.mem_singleton.mp m, hr0] at te8
        cases te8
      have e9 := e8.trans (Sm.new (o := .lst ys) hr0)
      have hr9 : (upd H8 r (.lst ys)) r = some (.lst ys) := upd_same
      have po9 : Paired (TriAt (upd H8 r (.lst ys))) ys out := Paired.mapP po fun a e ⟨t', z1, z2⟩ => ⟨t', z1, at_new hr0 z2⟩
      generalize upd H8 r (.lst ys) = H9 at e9 hr9 po9
      clear e8 hx8 px8 po hr0
      have st9 := stF.keep0 e9
      have B9 := BF.keep0 e9
      have hg9 := hgF.keep0 e9
      have HB9 := HBF.keep (TK.sm e9)
      have dd9 : ∀ e ∈ ents (kn ts), DeedAt H9 D e := fun e m => (ddF e m).keep e9
      have mem9 : ∀ e ∈ out, DeedAt H9 D e := fun e m => dd9 e (so.stb.perm.mem_iff.mp m)
      clear hc hkF stF BF knF hgF HBF ddF e9
      have lo : out.length = (kn ts).length := by
        have a := so.stb.perm.length_eq
        unfold ents at a
        rw [List.length_map] at a
        exact a
      have lkn := kn_len ts
      have ly := Paired.length po9
      -- the due text
      refine ⟨⟨_, rfl⟩, .ref hd, rfl, hd, g, d, rfl, hg9, ok, fun p10 H10 e10 hp10 => ?_⟩
      refine ⟨.ref r, rfl, r, rfl, ⟨ys, sqL_at (e10 _ _ (by simp) hr9)⟩, fun c2 hc2 => ?_⟩
      have po10 : Paired (TriAt H10) ys out := Paired.mapP po9 fun a e ⟨t', z1, z2⟩ => ⟨t', z1, e10 _ _ (by simp) z2⟩
      refine lc_pureG (ys := out.map fun e => V.str (rowE D e)) walk_list hc2 (by rw [List.length_map]; exact ly.symm) (by omega) (fun H3 e3 => sqL_at (e3 _ _ (by simp) (e10 _ _ (by simp) hr9))) (fun i x y H3 hx hy e3 k Nx hk => ?_) fun H11 e11 hd11 => ?_
      · obtain ⟨e, he, t, rfl, ht⟩ := paired_get po10 hx
        have ht := e3 _ _ (by simp) ht
        obtain ⟨⟨oh1, oh2⟩, od, a, ea, ha⟩ := ((mem9 e (List.mem_of_getElem? he)).keep e10).keep e3
        rw [List.getElem?_map, he] at hy
        cases hy
        refine ⟨t, _, rfl, sqT_at ht, rfl, .int e.1, _, rfl, .int e.2.1, _, rfl, e.2.2, [], rfl, rfl, rfl, yes_go ?_⟩
        have app : ∀ v H5, Sm [] H3 H5 → SqT K H5 v (.int e.1 :: D e.2.2) → spRow K [.str "at", .ref v] H5 k C8.E0 := fun v H5 e5 hv => by
          refine ⟨"at", v, .int e.1 :: D e.2.2, rfl, .inr hv, by decide, fun p m => ?_, ?_, fun H4 e4 => hk H4 (e5.trans e4)⟩
          · rcases List.mem_cons.mp m with rfl | m
            · exact ⟨oh1, oh2⟩
            · exact od.1 p m
          · have := od.2.1
            rw [List.length_cons]; omega
        refine ⟨.int e.1, rfl, by show 1 ≤ sizeLine; decide, fun u hu => ⟨e.2.2, rfl, u, a, [.int e.1], D e.2.2, rfl, ea, sqT_at upd_same, sqT_new hu (sqT_at ha), ?_, fun z => by (cases z), fun _ z => app u _ (Sm.new hu) (by rw [z]; exact sqT_at upd_same), fun _ _ v hv => app v _ ((Sm.new hu).trans (Sm.new hv)) (sqT_at upd_same)⟩⟩
        have := od.2.1
        exact Nat.le_of_lt (small1000 (by rw [List.length_singleton]; omega))
      have lh := (headT_len ok).1
      refine ⟨p10, c2, _, _, rfl, rfl, e11 _ _ (by simp) hp10, hd11, ?_, fun g2 hg2 => ⟨"\n", g2, headT d ++ out.map (rowE D), rfl, rfl, .inl (sqL_at ?_), bookT_fits ok mem9 (by omega), ?_⟩⟩
      · rw [List.length_map, List.length_map]
        exact Nat.le_of_lt (small1000 (by omega))
      · rw [upd_same, List.map_append, List.map_map]
        rfl
      have e12 : Sm [] H9 _ := (e10.trans e11).trans (Sm.new (o := .lst ((headT d).map V.str ++ out.map fun e => V.str (rowE D e))) hg2)
      generalize upd H11 g2 (.lst ((headT d).map V.str ++ out.map fun e => V.str (rowE D e))) = H12 at e12
      show gName 11 (.str (bookT D d out)) _ H12 _
      clear hd11 e11 hc2 hp10 po10 e10
      have t12 := TK.sm e12
      have st12 := st9.keep0 e12
      have B12 := B9.keep0 e12
      have hg12 := hg9.keep0 e12
      have HB12 := HB9.keep t12
      have dd12 : ∀ e ∈ ents (kn ts), DeedAt H12 D e := fun e m => (dd9 e m).keep e12
      have hr12 := e12 _ _ (by simp) hr9
      have po12 : Paired (TriAt H12) ys out := Paired.mapP po9 fun a e ⟨t', z1, z2⟩ => ⟨t', z1, e12 _ _ (by simp) z2⟩
      clear st9 B9 hg9 HB9 dd9 hr9 po9 e12 t12
      -- the Book's text and entries
      refine ⟨.ref bk, rfl, bk, tl, h, d, ts, D, rfl, B12, HB12.at, ok, dd12, fun o1 H13 e13 so1 => ?_⟩
      obtain rfl : o1 = out := so1.uniq so
      refine ⟨.str (bookT D d o1), rfl, rfl, _, rfl, ?_⟩
      rw [decide_eq_true rfl]
      have B13 := B12.keep0 e13
      obtain ⟨dx13, ob13⟩ := B13.ob
      refine ⟨.ref bk, rfl, bk, dx13, _, rfl, ob13, fB_no _ _ (by decide +kernel) (by decide +kernel) (by decide +kernel) (by decide +kernel) (by decide +kernel) (by decide +kernel), bk, tl, h, ts, rfl, B13, fun p2 ys2 o2 H14 e14 hp2 hp14 so2 po14 => ?_⟩
      obtain rfl : o2 = o1 := so2.uniq so
      have e24 := e13.trans e14
      have mem14 : ∀ e ∈ o2, DeedAt H14 D e := fun e m => (dd12 e (so.stb.perm.mem_iff.mp m)).keep e24
      have okd14 : ∀ e ∈ o2, okD (D e.2.2) := fun e m => (mem14 e m).2.1
      have po14b : Paired (TriAt H14) ys o2 := Paired.mapP po12 fun a e ⟨t', z1, z2⟩ => ⟨t', z1, e24 _ _ (by simp) z2⟩
      have hr14 := e24 _ _ (by simp) hr12
      refine ⟨.ref r, rfl, .list (o2.map (rowDat D)), .list (o2.map (rowDat D)), .lst (sqL_at hp14) (row_dp po14 mem14), .lst (sqL_at hr14) (row_dp po14b mem14), rows_sh okd14, rows_sh okd14, _, rfl, ?_⟩
      rw [rows_self okd14]
      refine iteF ?_
      -- one entry more
      have st14 := st12.keep0 e24
      have B14 := B12.keep0 e24
      have hg14 := hg12.keep0 e24
      have HB14 := HB12.keep (TK.sm e24)
      have dd14 : ∀ e ∈ ents (kn ts), DeedAt H14 D e := fun e m => (dd12 e m).keep e24
      clear st12 B12 hg12 HB12 dd12 po12 hr12 e24 e13 e14 B13 po14 hp14 hp2
      obtain ⟨dx14, ob14⟩ := B14.ob
      refine ⟨.ref bk, rfl, bk, dx14, _, rfl, ob14, fB_no _ _ (by decide +kernel) (by decide +kernel) (by decide +kernel) (by decide +kernel) (by decide +kernel) (by decide +kernel), .ref sd, rfl, .ref hd, rfl, sd, sc, hd, 4000, g, d, rfl, st14, by omega, hg14, ok, no, fun t ps H15 ht0 ht15 okd e15 st15 => ?_⟩
      have k15 := st14.tk e15
      have B15 := B14.keep e15 ntlS (st14.noins e15)
      obtain ⟨es15, te15, _⟩ := B15.te
      refine ⟨bk, tl, h, ts, 5, .ref t, rfl, B15, by omega, fun nn H16 e16 isn B16 => ?_⟩
      have k16 : TK H15 H16 := fun t xs z => e16 _ _ (fun m => by rw [List.mem_singleton.mp m, te15] at z; cases z) z
      have k1416 := k15.trans k16
      have fr := next_fresh B14.good isn
      have ekn : kn (ts ++ [.ent nn 5 (.ref t)]) = kn ts ++ [(nn, 5, .ref t)] := by
        rw [kn_snoc]
        exact kput_new fr
      have HB16 := HB14.keep k1416
      have hr16 := e16 _ _ nrt (e15 _ _ nrS hr14)
      have en16 : ∀ x ∈ kn (ts ++ [.ent nn 5 (.ref t)]), EntOk H16 x := fun x m => by
        rw [ekn] at m
        rcases List.mem_append.mp m with m | m
        · obtain ⟨oh, od, a2, ea, ha⟩ := dd14 (x.2.1, x.1, x.2.2) (List.mem_map.mpr ⟨x, m, rfl⟩)
          exact ⟨oh, a2, D x.2.2, ea, k1416 _ _ ha, od⟩
        · rw [List.mem_singleton.mp m]
          exact ⟨(by show (0 : Int) ≤ 5 ∧ (5 : Int) < 10 ^ 10; decide), t, ps, rfl, k16 _ _ ht15, okd⟩
      have dd16 := EntOk.deed en16
      have same : bookT D d o2 = bookT (deedOf H16) d o2 := bookT_congr fun e m => by
        have m2 := so.stb.perm.mem_iff.mp m
        obtain ⟨_, _, a2, ea, ha⟩ := (dd14 e m2).keepT k1416
        obtain ⟨_, _, a3, ea3, ha3⟩ := dd16 e (by rw [ekn]; unfold ents at m2 ⊢; rw [List.map_append]; exact List.mem_append_left _ m2)
        rw [ea] at ea3
        cases ea3
        rw [ha] at ha3
        exact HO.tup.inj (Option.some.inj ha3)
      refine ⟨.ref bk, rfl, bk, tl, h, d, ts ++ [.ent nn 5 (.ref t)], deedOf H16, rfl, B16, HB16.at, ok, dd16, fun o3 H17 e17 so3 => ?_⟩
      rw [ekn] at so3
      have neq : bookT (deedOf H16) d o3 ≠ bookT D d o2 := fun z => bookT_more so so3 (by rw [z, ← same])
      generalize bookT (deedOf H16) d o3 = text at neq
      have B17 := B16.keep0 e17
      obtain ⟨dx17, ob17⟩ := B17.ob
      obtain ⟨es17, te17, _⟩ := B17.te
      refine ⟨.ref bk, rfl, bk, dx17, _, rfl, ob17, fB_no _ _ (by decide +kernel) (by decide +kernel) (by decide +kernel) (by decide +kernel) (by decide +kernel) (by decide +kernel), bk, tl, h, ts, .ent nn 5 (.ref t), rfl, B17, fun H18 e18 B18 => ?_⟩
      have k18 : TK H17 H18 := fun t xs z => e18 _ _ (fun m => by rw [List.mem_singleton.mp m, te17] at z; cases z) z
      have k1418 := k1416.trans ((TK.sm e17).trans k18)
      have HB18 := HB14.keep k1418
      have dd18 : ∀ e ∈ ents (kn ts), DeedAt H18 D e := fun e m => (dd14 e m).keepT k1418
      have hr18 := e18 _ _ nrt (e17 _ _ (by simp) hr16)
      clear B17 B16 B15 B14 HB14 HB16 dd14 dd16 en16 k16 k15 k18 k1416 k1418 e15 e16 e17 e18
      -- the answers
      refine ⟨.str text, rfl, .str (bookT D d o2), rfl, rfl, _, rfl, ?_⟩
      rw [decide_eq_false fun z => neq (V.str.inj z)]
      refine ⟨.ref bk, rfl, bk, tl, h, d, ts, D, rfl, B18, HB18.at, ok, dd18, fun o4 H19 e19 so4 => ⟨.str _, .ty "str", .type "str", .type "str", true, rfl, .ty "str", .base (.str _), rfl, true, rfl, ?_⟩⟩
      have B19 := B18.keep0 e19
      have dd19 : ∀ e ∈ ents (kn ts), DeedAt H19 D e := fun e m => (dd18 e m).keep e19
      refine ⟨.ref bk, rfl, bk, tl, h, d, ts, D, rfl, B19, (HB18.keep (TK.sm e19)).at, ok, dd19, fun o5 H20 e20 so5 => ⟨.str (bookT D d o2), rfl, rfl, _, rfl, ?_⟩⟩
      obtain rfl : o5 = o2 := so5.uniq so
      rw [decide_eq_true rfl]
      have B20 := B19.keep0 e20
      obtain ⟨dx20, ob20⟩ := B20.ob
      refine ⟨.ref bk, rfl, bk, dx20, _, rfl, ob20, bk, tl, h, ts, rfl, B20, fun H21 e21 => ⟨(kn ts).length, rfl, by omega, ?_⟩⟩
      have hr21 := e21 _ _ (by simp) (e20 _ _ (by simp) (e19 _ _ (by simp) hr18))
      refine ⟨.ref r, rfl, r, ys, rfl, .inl (sqL_at hr21), rfl, ?_⟩
      rw [decide_eq_true (by rw [ly, lo])]
      exact q H21
end
end Zz

/-! The end: what the top has left, the walk joined. -/
namespace Zz
open PySem PySem.Spec PyProof.Rows L2
theorem all_mk {l : PySem.W.OpenLaw} {w : World} {K : PySem.W.Frag} {h : Heap} {mg : Str → Option Value} {fa : Addr} (X : K.In h) (G : h.Ns mainGlobals mg) (hfa : mg "law" = some (.ref fa))
    {CE : Addr}
    {CR : Addr}
    {CS : Addr}
    {CB : Addr}
    {fTEknown : Addr} {odTEknown anTEknown : Option Addr} {slTEknown : Array (Option Value)} {ocTEknown kVTEknown dcTEknown pmTEknown cdTEknown ctTEknown : Value}
    {fTEnext : Addr} {odTEnext anTEnext : Option Addr} {slTEnext : Array (Option Value)} {ocTEnext kVTEnext dcTEnext pmTEnext cdTEnext ctTEnext : Value}
    {fTTrow : Addr} {odTTrow anTTrow : Option Addr} {slTTrow : Array (Option Value)} {ocTTrow kVTTrow dcTTrow pmTTrow cdTTrow ctTTrow : Value}
    {fTThead : Addr} {odTThead anTThead : Option Addr} {slTThead : Array (Option Value)} {ocTThead kVTThead dcTThead pmTThead cdTThead ctTThead : Value}
    {fTTbtext : Addr} {odTTbtext anTTbtext : Option Addr} {slTTbtext : Array (Option Value)} {ocTTbtext kVTTbtext dcTTbtext pmTTbtext cdTTbtext ctTTbtext : Value}
    {fTLbegin_ : Addr} {odTLbegin_ anTLbegin_ : Option Addr} {slTLbegin_ : Array (Option Value)} {ocTLbegin_ kVTLbegin_ dcTLbegin_ pmTLbegin_ cdTLbegin_ ctTLbegin_ : Value}
    {fTLtake : Addr} {odTLtake anTLtake : Option Addr} {slTLtake : Array (Option Value)} {ocTLtake kVTLtake dcTLtake pmTLtake cdTLtake ctTLtake : Value}
    {fTLsome_ : Addr} {odTLsome_ anTLsome_ : Option Addr} {slTLsome_ : Array (Option Value)} {ocTLsome_ kVTLsome_ dcTLsome_ pmTLsome_ cdTLsome_ ctTLsome_ : Value}
    {fTLnames : Addr} {odTLnames anTLnames : Option Addr} {slTLnames : Array (Option Value)} {ocTLnames kVTLnames dcTLnames pmTLnames cdTLnames ctTLnames : Value}
    {fTLpalette : Addr} {odTLpalette anTLpalette : Option Addr} {slTLpalette : Array (Option Value)} {ocTLpalette kVTLpalette dcTLpalette pmTLpalette cdTLpalette ctTLpalette : Value}
    {fTLwordy : Addr} {odTLwordy anTLwordy : Option Addr} {slTLwordy : Array (Option Value)} {ocTLwordy kVTLwordy dcTLwordy pmTLwordy cdTLwordy ctTLwordy : Value}
    {fTLhall : Addr} {odTLhall anTLhall : Option Addr} {slTLhall : Array (Option Value)} {ocTLhall kVTLhall dcTLhall pmTLhall cdTLhall ctTLhall : Value}
    {fTLdeed : Addr} {odTLdeed anTLdeed : Option Addr} {slTLdeed : Array (Option Value)} {ocTLdeed kVTLdeed dcTLdeed pmTLdeed cdTLdeed ctTLdeed : Value}
    {fTLbook : Addr} {odTLbook anTLbook : Option Addr} {slTLbook : Array (Option Value)} {ocTLbook kVTLbook dcTLbook pmTLbook cdTLbook ctTLbook : Value}
    {fTLrow : Addr} {odTLrow anTLrow : Option Addr} {slTLrow : Array (Option Value)} {ocTLrow kVTLrow dcTLrow pmTLrow cdTLrow ctTLrow : Value}
    {fTLhead : Addr} {odTLhead anTLhead : Option Addr} {slTLhead : Array (Option Value)} {ocTLhead kVTLhead dcTLhead pmTLhead cdTLhead ctTLhead : Value}
    {fTLhour : Addr} {odTLhour anTLhour : Option Addr} {slTLhour : Array (Option Value)} {ocTLhour kVTLhour dcTLhour pmTLhour cdTLhour ctTLhour : Value}
    {fTEoE : Addr} {odTEoE anTEoE : Option Addr} {slTEoE : Array (Option Value)} {ocTEoE kVTEoE dcTEoE pmTEoE cdTEoE ctTEoE : Value}
    {fTEoR : Addr} {odTEoR anTEoR : Option Addr} {slTEoR : Array (Option Value)} {ocTEoR kVTEoR dcTEoR pmTEoR cdTEoR ctTEoR : Value}
    {fTEoS : Addr} {odTEoS anTEoS : Option Addr} {slTEoS : Array (Option Value)} {ocTEoS kVTEoS dcTEoS pmTEoS cdTEoS ctTEoS : Value}
    {fTEpE : Addr} {odTEpE anTEpE : Option Addr} {slTEpE : Array (Option Value)} {ocTEpE kVTEpE dcTEpE pmTEpE cdTEpE ctTEpE : Value}
    {fTEpR : Addr} {odTEpR anTEpR : Option Addr} {slTEpR : Array (Option Value)} {ocTEpR kVTEpR dcTEpR pmTEpR cdTEpR ctTEpR : Value}
    {fTEpS : Addr} {odTEpS anTEpS : Option Addr} {slTEpS : Array (Option Value)} {ocTEpS kVTEpS dcTEpS pmTEpS cdTEpS ctTEpS : Value}
    {fTBlook : Addr} {odTBlook anTBlook : Option Addr} {slTBlook : Array (Option Value)} {ocTBlook kVTBlook dcTBlook pmTBlook cdTBlook ctTBlook : Value}
    {fTBenter : Addr} {odTBenter anTBenter : Option Addr} {slTBenter : Array (Option Value)} {ocTBenter kVTBenter dcTBenter pmTBenter cdTBenter ctTBenter : Value}
    {TTBenter : Addr} {tcTBenter : Value} {tdTBenter : Option Addr} {tnTBenter : Nat} {tsTBenter : Array (Option Value)} {dvTBenter : Value}
    {fTBright : Addr} {odTBright anTBright : Option Addr} {slTBright : Array (Option Value)} {ocTBright kVTBright dcTBright pmTBright cdTBright ctTBright : Value}
    {fTBstrike : Addr} {odTBstrike anTBstrike : Option Addr} {slTBstrike : Array (Option Value)} {ocTBstrike kVTBstrike dcTBstrike pmTBstrike cdTBstrike ctTBstrike : Value}
    {fTBundo : Addr} {odTBundo anTBundo : Option Addr} {slTBundo : Array (Option Value)} {ocTBundo kVTBundo dcTBundo pmTBundo cdTBundo ctTBundo : Value}
    {fTBentries : Addr} {odTBentries anTBentries : Option Addr} {slTBentries : Array (Option Value)} {ocTBentries kVTBentries dcTBentries pmTBentries cdTBentries ctTBentries : Value}
    {fTBlenB : Addr} {odTBlenB anTBlenB : Option Addr} {slTBlenB : Array (Option Value)} {ocTBlenB kVTBlenB dcTBlenB pmTBlenB cdTBlenB ctTBlenB : Value}
    {fTEkE : Addr} {odTEkE anTEkE : Option Addr} {slTEkE : Array (Option Value)} {ocTEkE kVTEkE dcTEkE pmTEkE cdTEkE ctTEkE : Value}
    {fTEkR : Addr} {odTEkR anTEkR : Option Addr} {slTEkR : Array (Option Value)} {ocTEkR kVTEkR dcTEkR pmTEkR cdTEkR ctTEkR : Value}
    {fTEkS : Addr} {odTEkS anTEkS : Option Addr} {slTEkS : Array (Option Value)} {ocTEkS kVTEkS dcTEkS pmTEkS cdTEkS ctTEkS : Value}
    {fTBkB : Addr} {odTBkB anTBkB : Option Addr} {slTBkB : Array (Option Value)} {ocTBkB kVTBkB dcTBkB pmTBkB cdTBkB ctTBkB : Value}
    {TTBkB : Addr} {tcTBkB : Value} {tdTBkB : Option Addr} {tnTBkB : Nat} {tsTBkB : Array (Option Value)} {dvTBkB : Value}
    {tN : Tok}
    {flaw : Addr} {odlaw anlaw : Option Addr} {sllaw : Array (Option Value)} {oclaw kVlaw dclaw pmlaw cdlaw ctlaw : Value}
    (aCE : PySem.W.nsIn K mainGlobals "Entered" = some (some (.ref CE)))
    (pgCE : PySem.W.plainGet K CE Str.empty = true)
    (hdCE : PySem.W.hasDictIn K CE = true)
    (poCE : PySem.W.plainOver K CE = true)
    (saCE : PySem.W.findIn K (.ref CE) "__setattr__" = some (some (.builtin "object.__setattr__")))
    (mkCE : PySem.W.makesIn K CE = true)
    (kcCE : PySem.W.keepIn K (.ref CE) = true)
    (nCEnumber : PySem.W.findIn K (.ref CE) "number" = some none)
    (nCEhour : PySem.W.findIn K (.ref CE) "hour" = some none)
    (nCEdeed : PySem.W.findIn K (.ref CE) "deed" = some none)
    (aCR : PySem.W.nsIn K mainGlobals "Righted" = some (some (.ref CR)))
    (pgCR : PySem.W.plainGet K CR Str.empty = true)
    (hdCR : PySem.W.hasDictIn K CR = true)
    (poCR : PySem.W.plainOver K CR = true)
    (saCR : PySem.W.findIn K (.ref CR) "__setattr__" = some (some (.builtin "object.__setattr__")))
    (mkCR : PySem.W.makesIn K CR = true)
    (kcCR : PySem.W.keepIn K (.ref CR) = true)
    (nCRnumber : PySem.W.findIn K (.ref CR) "number" = some none)
    (nCRhour : PySem.W.findIn K (.ref CR) "hour" = some none)
    (nCRdeed : PySem.W.findIn K (.ref CR) "deed" = some none)
    (aCS : PySem.W.nsIn K mainGlobals "Struck" = some (some (.ref CS)))
    (pgCS : PySem.W.plainGet K CS Str.empty = true)
    (hdCS : PySem.W.hasDictIn K CS = true)
    (poCS : PySem.W.plainOver K CS = true)
    (saCS : PySem.W.findIn K (.ref CS) "__setattr__" = some (some (.builtin "object.__setattr__")))
    (mkCS : PySem.W.makesIn K CS = true)
    (kcCS : PySem.W.keepIn K (.ref CS) = true)
    (nCSnumber : PySem.W.findIn K (.ref CS) "number" = some none)
    (nCShour : PySem.W.findIn K (.ref CS) "hour" = some none)
    (nCSdeed : PySem.W.findIn K (.ref CS) "deed" = some none)
    (aCB : PySem.W.nsIn K mainGlobals "Book" = some (some (.ref CB)))
    (pgCB : PySem.W.plainGet K CB Str.empty = true)
    (hdCB : PySem.W.hasDictIn K CB = true)
    (poCB : PySem.W.plainOver K CB = true)
    (saCB : PySem.W.findIn K (.ref CB) "__setattr__" = some (some (.builtin "object.__setattr__")))
    (mkCB : PySem.W.makesIn K CB = true)
    (kcCB : PySem.W.keepIn K (.ref CB) = true)
    (nCBpalette : PySem.W.findIn K (.ref CB) "palette" = some none)
    (nCBkinds : PySem.W.findIn K (.ref CB) "kinds" = some none)
    (nCBteams : PySem.W.findIn K (.ref CB) "teams" = some none)
    (nCBpots : PySem.W.findIn K (.ref CB) "pots" = some none)
    (nCBslots : PySem.W.findIn K (.ref CB) "slots" = some none)
    (nCBtelling : PySem.W.findIn K (.ref CB) "telling" = some none)
    (aTEknown : PySem.W.nsIn K mainGlobals "known_by" = some (some (.ref fTEknown)))
    (lTEknown : K.lookup fTEknown = some ⟨ocTEknown, odTEknown, .func (PySem.W.fnOf "known_by" "known_by" (C8.fnArgs s_known) (C8.fnBody s_known) (C8.fnScope s_known) .none kVTEknown dcTEknown pmTEknown anTEknown cdTEknown ctTEknown), slTEknown⟩)
    (cTEknown : PySem.W.codeIn K cdTEknown "known_by" = true)
    (kTEknown : PySem.W.keepIn K (.ref fTEknown) = true)
    (aTEnext : PySem.W.nsIn K mainGlobals "next_number" = some (some (.ref fTEnext)))
    (lTEnext : K.lookup fTEnext = some ⟨ocTEnext, odTEnext, .func (PySem.W.fnOf "next_number" "next_number" (C8.fnArgs s_next) (C8.fnBody s_next) (C8.fnScope s_next) .none kVTEnext dcTEnext pmTEnext anTEnext cdTEnext ctTEnext), slTEnext⟩)
    (cTEnext : PySem.W.codeIn K cdTEnext "next_number" = true)
    (kTEnext : PySem.W.keepIn K (.ref fTEnext) = true)
    (aTTrow : PySem.W.nsIn K mainGlobals "row_text" = some (some (.ref fTTrow)))
    (lTTrow : K.lookup fTTrow = some ⟨ocTTrow, odTTrow, .func (PySem.W.fnOf "row_text" "row_text" (C8.fnArgs s_row) (C8.fnBody s_row) (C8.fnScope s_row) .none kVTTrow dcTTrow pmTTrow anTTrow cdTTrow ctTTrow), slTTrow⟩)
    (cTTrow : PySem.W.codeIn K cdTTrow "row_text" = true)
    (kTTrow : PySem.W.keepIn K (.ref fTTrow) = true)
    (aTThead : PySem.W.nsIn K mainGlobals "head_text" = some (some (.ref fTThead)))
    (lTThead : K.lookup fTThead = some ⟨ocTThead, odTThead, .func (PySem.W.fnOf "head_text" "head_text" (C8.fnArgs s_head) (C8.fnBody s_head) (C8.fnScope s_head) .none kVTThead dcTThead pmTThead anTThead cdTThead ctTThead), slTThead⟩)
    (cTThead : PySem.W.codeIn K cdTThead "head_text" = true)
    (kTThead : PySem.W.keepIn K (.ref fTThead) = true)
    (aTTbtext : PySem.W.nsIn K mainGlobals "book_text" = some (some (.ref fTTbtext)))
    (lTTbtext : K.lookup fTTbtext = some ⟨ocTTbtext, odTTbtext, .func (PySem.W.fnOf "book_text" "book_text" (C8.fnArgs s_btext) (C8.fnBody s_btext) (C8.fnScope s_btext) .none kVTTbtext dcTTbtext pmTTbtext anTTbtext cdTTbtext ctTTbtext), slTTbtext⟩)
    (cTTbtext : PySem.W.codeIn K cdTTbtext "book_text" = true)
    (kTTbtext : PySem.W.keepIn K (.ref fTTbtext) = true)
    (aTLbegin_ : PySem.W.nsIn K mainGlobals "_law_begin" = some (some (.ref fTLbegin_)))
    (lTLbegin_ : K.lookup fTLbegin_ = some ⟨ocTLbegin_, odTLbegin_, .func (PySem.W.fnOf "_law_begin" "_law_begin" (C8.fnArgs s_lbegin) (C8.fnBody s_lbegin) (C8.fnScope s_lbegin) .none kVTLbegin_ dcTLbegin_ pmTLbegin_ anTLbegin_ cdTLbegin_ ctTLbegin_), slTLbegin_⟩)
    (cTLbegin_ : PySem.W.codeIn K cdTLbegin_ "_law_begin" = true)
    (kTLbegin_ : PySem.W.keepIn K (.ref fTLbegin_) = true)
    (aTLtake : PySem.W.nsIn K mainGlobals "_law_take" = some (some (.ref fTLtake)))
    (lTLtake : K.lookup fTLtake = some ⟨ocTLtake, odTLtake, .func (PySem.W.fnOf "_law_take" "_law_take" (C8.fnArgs s_ltake) (C8.fnBody s_ltake) (C8.fnScope s_ltake) .none kVTLtake dcTLtake pmTLtake anTLtake cdTLtake ctTLtake), slTLtake⟩)
    (cTLtake : PySem.W.codeIn K cdTLtake "_law_take" = true)
    (kTLtake : PySem.W.keepIn K (.ref fTLtake) = true)
    (aTLsome_ : PySem.W.nsIn K mainGlobals "_law_some" = some (some (.ref fTLsome_)))
    (lTLsome_ : K.lookup fTLsome_ = some ⟨ocTLsome_, odTLsome_, .func (PySem.W.fnOf "_law_some" "_law_some" (C8.fnArgs s_lsome) (C8.fnBody s_lsome) (C8.fnScope s_lsome) .none kVTLsome_ dcTLsome_ pmTLsome_ anTLsome_ cdTLsome_ ctTLsome_), slTLsome_⟩)
    (cTLsome_ : PySem.W.codeIn K cdTLsome_ "_law_some" = true)
    (kTLsome_ : PySem.W.keepIn K (.ref fTLsome_) = true)
    (aTLnames : PySem.W.nsIn K mainGlobals "_law_names" = some (some (.ref fTLnames)))
    (lTLnames : K.lookup fTLnames = some ⟨ocTLnames, odTLnames, .func (PySem.W.fnOf "_law_names" "_law_names" (C8.fnArgs s_lnames) (C8.fnBody s_lnames) (C8.fnScope s_lnames) .none kVTLnames dcTLnames pmTLnames anTLnames cdTLnames ctTLnames), slTLnames⟩)
    (cTLnames : PySem.W.codeIn K cdTLnames "_law_names" = true)
    (kTLnames : PySem.W.keepIn K (.ref fTLnames) = true)
    (aTLpalette : PySem.W.nsIn K mainGlobals "_law_palette" = some (some (.ref fTLpalette)))
    (lTLpalette : K.lookup fTLpalette = some ⟨ocTLpalette, odTLpalette, .func (PySem.W.fnOf "_law_palette" "_law_palette" (C8.fnArgs s_lpalette) (C8.fnBody s_lpalette) (C8.fnScope s_lpalette) .none kVTLpalette dcTLpalette pmTLpalette anTLpalette cdTLpalette ctTLpalette), slTLpalette⟩)
    (cTLpalette : PySem.W.codeIn K cdTLpalette "_law_palette" = true)
    (kTLpalette : PySem.W.keepIn K (.ref fTLpalette) = true)
    (aTLwordy : PySem.W.nsIn K mainGlobals "_law_wordy" = some (some (.ref fTLwordy)))
    (lTLwordy : K.lookup fTLwordy = some ⟨ocTLwordy, odTLwordy, .func (PySem.W.fnOf "_law_wordy" "_law_wordy" (C8.fnArgs s_lwordy) (C8.fnBody s_lwordy) (C8.fnScope s_lwordy) .none kVTLwordy dcTLwordy pmTLwordy anTLwordy cdTLwordy ctTLwordy), slTLwordy⟩)
    (cTLwordy : PySem.W.codeIn K cdTLwordy "_law_wordy" = true)
    (kTLwordy : PySem.W.keepIn K (.ref fTLwordy) = true)
    (aTLhall : PySem.W.nsIn K mainGlobals "_law_hall" = some (some (.ref fTLhall)))
    (lTLhall : K.lookup fTLhall = some ⟨ocTLhall, odTLhall, .func (PySem.W.fnOf "_law_hall" "_law_hall" (C8.fnArgs s_lhall) (C8.fnBody s_lhall) (C8.fnScope s_lhall) .none kVTLhall dcTLhall pmTLhall anTLhall cdTLhall ctTLhall), slTLhall⟩)
    (cTLhall : PySem.W.codeIn K cdTLhall "_law_hall" = true)
    (kTLhall : PySem.W.keepIn K (.ref fTLhall) = true)
    (aTLdeed : PySem.W.nsIn K mainGlobals "_law_deed" = some (some (.ref fTLdeed)))
    (lTLdeed : K.lookup fTLdeed = some ⟨ocTLdeed, odTLdeed, .func (PySem.W.fnOf "_law_deed" "_law_deed" (C8.fnArgs s_ldeed) (C8.fnBody s_ldeed) (C8.fnScope s_ldeed) .none kVTLdeed dcTLdeed pmTLdeed anTLdeed cdTLdeed ctTLdeed), slTLdeed⟩)
    (cTLdeed : PySem.W.codeIn K cdTLdeed "_law_deed" = true)
    (kTLdeed : PySem.W.keepIn K (.ref fTLdeed) = true)
    (aTLbook : PySem.W.nsIn K mainGlobals "_law_book" = some (some (.ref fTLbook)))
    (lTLbook : K.lookup fTLbook = some ⟨ocTLbook, odTLbook, .func (PySem.W.fnOf "_law_book" "_law_book" (C8.fnArgs s_lbook) (C8.fnBody s_lbook) (C8.fnScope s_lbook) .none kVTLbook dcTLbook pmTLbook anTLbook cdTLbook ctTLbook), slTLbook⟩)
    (cTLbook : PySem.W.codeIn K cdTLbook "_law_book" = true)
    (kTLbook : PySem.W.keepIn K (.ref fTLbook) = true)
    (aTLrow : PySem.W.nsIn K mainGlobals "_law_row" = some (some (.ref fTLrow)))
    (lTLrow : K.lookup fTLrow = some ⟨ocTLrow, odTLrow, .func (PySem.W.fnOf "_law_row" "_law_row" (C8.fnArgs s_lrow) (C8.fnBody s_lrow) (C8.fnScope s_lrow) .none kVTLrow dcTLrow pmTLrow anTLrow cdTLrow ctTLrow), slTLrow⟩)
    (cTLrow : PySem.W.codeIn K cdTLrow "_law_row" = true)
    (kTLrow : PySem.W.keepIn K (.ref fTLrow) = true)
    (aTLhead : PySem.W.nsIn K mainGlobals "_law_head" = some (some (.ref fTLhead)))
    (lTLhead : K.lookup fTLhead = some ⟨ocTLhead, odTLhead, .func (PySem.W.fnOf "_law_head" "_law_head" (C8.fnArgs s_lhead) (C8.fnBody s_lhead) (C8.fnScope s_lhead) .none kVTLhead dcTLhead pmTLhead anTLhead cdTLhead ctTLhead), slTLhead⟩)
    (cTLhead : PySem.W.codeIn K cdTLhead "_law_head" = true)
    (kTLhead : PySem.W.keepIn K (.ref fTLhead) = true)
    (aTLhour : PySem.W.nsIn K mainGlobals "_law_hour" = some (some (.ref fTLhour)))
    (lTLhour : K.lookup fTLhour = some ⟨ocTLhour, odTLhour, .func (PySem.W.fnOf "_law_hour" "_law_hour" (C8.fnArgs s_lhour) (C8.fnBody s_lhour) (C8.fnScope s_lhour) .none kVTLhour dcTLhour pmTLhour anTLhour cdTLhour ctTLhour), slTLhour⟩)
    (cTLhour : PySem.W.codeIn K cdTLhour "_law_hour" = true)
    (kTLhour : PySem.W.keepIn K (.ref fTLhour) = true)
    (aTEoE : PySem.W.findIn K (.ref CE) "own_number" = some (some (.ref fTEoE)))
    (iTEoE : PySem.W.isFn K (.ref fTEoE) = true)
    (lTEoE : K.lookup fTEoE = some ⟨ocTEoE, odTEoE, .func (PySem.W.fnOf "own_number" "Entered.own_number" (C8.fnArgs s_Eown) (C8.fnBody s_Eown) (C8.fnScope s_Eown) .none kVTEoE dcTEoE pmTEoE anTEoE cdTEoE ctTEoE), slTEoE⟩)
    (cTEoE : PySem.W.codeIn K cdTEoE "Entered.own_number" = true)
    (kTEoE : PySem.W.keepIn K (.ref fTEoE) = true)
    (aTEoR : PySem.W.findIn K (.ref CR) "own_number" = some (some (.ref fTEoR)))
    (iTEoR : PySem.W.isFn K (.ref fTEoR) = true)
    (lTEoR : K.lookup fTEoR = some ⟨ocTEoR, odTEoR, .func (PySem.W.fnOf "own_number" "Righted.own_number" (C8.fnArgs s_Rown) (C8.fnBody s_Rown) (C8.fnScope s_Rown) .none kVTEoR dcTEoR pmTEoR anTEoR cdTEoR ctTEoR), slTEoR⟩)
    (cTEoR : PySem.W.codeIn K cdTEoR "Righted.own_number" = true)
    (kTEoR : PySem.W.keepIn K (.ref fTEoR) = true)
    (aTEoS : PySem.W.findIn K (.ref CS) "own_number" = some (some (.ref fTEoS)))
    (iTEoS : PySem.W.isFn K (.ref fTEoS) = true)
    (lTEoS : K.lookup fTEoS = some ⟨ocTEoS, odTEoS, .func (PySem.W.fnOf "own_number" "Righted.own_number" (C8.fnArgs s_Rown) (C8.fnBody s_Rown) (C8.fnScope s_Rown) .none kVTEoS dcTEoS pmTEoS anTEoS cdTEoS ctTEoS), slTEoS⟩)
    (cTEoS : PySem.W.codeIn K cdTEoS "Righted.own_number" = true)
    (kTEoS : PySem.W.keepIn K (.ref fTEoS) = true)
    (aTEpE : PySem.W.findIn K (.ref CE) "put_into" = some (some (.ref fTEpE)))
    (iTEpE : PySem.W.isFn K (.ref fTEpE) = true)
    (lTEpE : K.lookup fTEpE = some ⟨ocTEpE, odTEpE, .func (PySem.W.fnOf "put_into" "Entered.put_into" (C8.fnArgs s_Eput) (C8.fnBody s_Eput) (C8.fnScope s_Eput) .none kVTEpE dcTEpE pmTEpE anTEpE cdTEpE ctTEpE), slTEpE⟩)
    (cTEpE : PySem.W.codeIn K cdTEpE "Entered.put_into" = true)
    (kTEpE : PySem.W.keepIn K (.ref fTEpE) = true)
    (aTEpR : PySem.W.findIn K (.ref CR) "put_into" = some (some (.ref fTEpR)))
    (iTEpR : PySem.W.isFn K (.ref fTEpR) = true)
    (lTEpR : K.lookup fTEpR = some ⟨ocTEpR, odTEpR, .func (PySem.W.fnOf "put_into" "Entered.put_into" (C8.fnArgs s_Eput) (C8.fnBody s_Eput) (C8.fnScope s_Eput) .none kVTEpR dcTEpR pmTEpR anTEpR cdTEpR ctTEpR), slTEpR⟩)
    (cTEpR : PySem.W.codeIn K cdTEpR "Entered.put_into" = true)
    (kTEpR : PySem.W.keepIn K (.ref fTEpR) = true)
    (aTEpS : PySem.W.findIn K (.ref CS) "put_into" = some (some (.ref fTEpS)))
    (iTEpS : PySem.W.isFn K (.ref fTEpS) = true)
    (lTEpS : K.lookup fTEpS = some ⟨ocTEpS, odTEpS, .func (PySem.W.fnOf "put_into" "Struck.put_into" (C8.fnArgs s_Sput) (C8.fnBody s_Sput) (C8.fnScope s_Sput) .none kVTEpS dcTEpS pmTEpS anTEpS cdTEpS ctTEpS), slTEpS⟩)
    (cTEpS : PySem.W.codeIn K cdTEpS "Struck.put_into" = true)
    (kTEpS : PySem.W.keepIn K (.ref fTEpS) = true)
    (aTBlook : PySem.W.findIn K (.ref CB) "look_number" = some (some (.ref fTBlook)))
    (iTBlook : PySem.W.isFn K (.ref fTBlook) = true)
    (lTBlook : K.lookup fTBlook = some ⟨ocTBlook, odTBlook, .func (PySem.W.fnOf "look_number" "Book.look_number" (C8.fnArgs s_Blook) (C8.fnBody s_Blook) (C8.fnScope s_Blook) .none kVTBlook dcTBlook pmTBlook anTBlook cdTBlook ctTBlook), slTBlook⟩)
    (cTBlook : PySem.W.codeIn K cdTBlook "Book.look_number" = true)
    (kTBlook : PySem.W.keepIn K (.ref fTBlook) = true)
    (aTBenter : PySem.W.findIn K (.ref CB) "enter" = some (some (.ref fTBenter)))
    (iTBenter : PySem.W.isFn K (.ref fTBenter) = true)
    (lTBenter : K.lookup fTBenter = some ⟨ocTBenter, odTBenter, .func (PySem.W.fnOf "enter" "Book.enter" (C8.fnArgs s_Benter) (C8.fnBody s_Benter) (C8.fnScope s_Benter) (.ref TTBenter) kVTBenter dcTBenter pmTBenter anTBenter cdTBenter ctTBenter), slTBenter⟩)
    (cTBenter : PySem.W.codeIn K cdTBenter "Book.enter" = true)
    (tTBenter : K.lookup TTBenter = some ⟨tcTBenter, tdTBenter, .seq #[dvTBenter] tnTBenter, tsTBenter⟩)
    (kTBenter : PySem.W.keepIn K (.ref fTBenter) = true)
    (rvTBenter : ∃ v : V, RelV v dvTBenter)
    (aTBright : PySem.W.findIn K (.ref CB) "put_right" = some (some (.ref fTBright)))
    (iTBright : PySem.W.isFn K (.ref fTBright) = true)
    (lTBright : K.lookup fTBright = some ⟨ocTBright, odTBright, .func (PySem.W.fnOf "put_right" "Book.put_right" (C8.fnArgs s_Bright) (C8.fnBody s_Bright) (C8.fnScope s_Bright) .none kVTBright dcTBright pmTBright anTBright cdTBright ctTBright), slTBright⟩)
    (cTBright : PySem.W.codeIn K cdTBright "Book.put_right" = true)
    (kTBright : PySem.W.keepIn K (.ref fTBright) = true)
    (aTBstrike : PySem.W.findIn K (.ref CB) "strike" = some (some (.ref fTBstrike)))
    (iTBstrike : PySem.W.isFn K (.ref fTBstrike) = true)
    (lTBstrike : K.lookup fTBstrike = some ⟨ocTBstrike, odTBstrike, .func (PySem.W.fnOf "strike" "Book.strike" (C8.fnArgs s_Bstrike) (C8.fnBody s_Bstrike) (C8.fnScope s_Bstrike) .none kVTBstrike dcTBstrike pmTBstrike anTBstrike cdTBstrike ctTBstrike), slTBstrike⟩)
    (cTBstrike : PySem.W.codeIn K cdTBstrike "Book.strike" = true)
    (kTBstrike : PySem.W.keepIn K (.ref fTBstrike) = true)
    (aTBundo : PySem.W.findIn K (.ref CB) "undo" = some (some (.ref fTBundo)))
    (iTBundo : PySem.W.isFn K (.ref fTBundo) = true)
    (lTBundo : K.lookup fTBundo = some ⟨ocTBundo, odTBundo, .func (PySem.W.fnOf "undo" "Book.undo" (C8.fnArgs s_Bundo) (C8.fnBody s_Bundo) (C8.fnScope s_Bundo) .none kVTBundo dcTBundo pmTBundo anTBundo cdTBundo ctTBundo), slTBundo⟩)
    (cTBundo : PySem.W.codeIn K cdTBundo "Book.undo" = true)
    (kTBundo : PySem.W.keepIn K (.ref fTBundo) = true)
    (aTBentries : PySem.W.findIn K (.ref CB) "entries" = some (some (.ref fTBentries)))
    (iTBentries : PySem.W.isFn K (.ref fTBentries) = true)
    (lTBentries : K.lookup fTBentries = some ⟨ocTBentries, odTBentries, .func (PySem.W.fnOf "entries" "Book.entries" (C8.fnArgs s_Bentries) (C8.fnBody s_Bentries) (C8.fnScope s_Bentries) .none kVTBentries dcTBentries pmTBentries anTBentries cdTBentries ctTBentries), slTBentries⟩)
    (cTBentries : PySem.W.codeIn K cdTBentries "Book.entries" = true)
    (kTBentries : PySem.W.keepIn K (.ref fTBentries) = true)
    (aTBlenB : PySem.W.findIn K (.ref CB) "__len__" = some (some (.ref fTBlenB)))
    (iTBlenB : PySem.W.isFn K (.ref fTBlenB) = true)
    (lTBlenB : K.lookup fTBlenB = some ⟨ocTBlenB, odTBlenB, .func (PySem.W.fnOf "__len__" "Book.__len__" (C8.fnArgs s_Blen) (C8.fnBody s_Blen) (C8.fnScope s_Blen) .none kVTBlenB dcTBlenB pmTBlenB anTBlenB cdTBlenB ctTBlenB), slTBlenB⟩)
    (cTBlenB : PySem.W.codeIn K cdTBlenB "Book.__len__" = true)
    (kTBlenB : PySem.W.keepIn K (.ref fTBlenB) = true)
    (aTEkE : PySem.W.findIn K (.ref CE) "__init__" = some (some (.ref fTEkE)))
    (iTEkE : PySem.W.isFn K (.ref fTEkE) = true)
    (lTEkE : K.lookup fTEkE = some ⟨ocTEkE, odTEkE, .func (PySem.W.fnOf "__init__" "Entered.__init__" (C8.fnArgs s_Einit) (C8.fnBody s_Einit) (C8.fnScope s_Einit) .none kVTEkE dcTEkE pmTEkE anTEkE cdTEkE ctTEkE), slTEkE⟩)
    (cTEkE : PySem.W.codeIn K cdTEkE "Entered.__init__" = true)
    (aTEkR : PySem.W.findIn K (.ref CR) "__init__" = some (some (.ref fTEkR)))
    (iTEkR : PySem.W.isFn K (.ref fTEkR) = true)
    (lTEkR : K.lookup fTEkR = some ⟨ocTEkR, odTEkR, .func (PySem.W.fnOf "__init__" "Entered.__init__" (C8.fnArgs s_Einit) (C8.fnBody s_Einit) (C8.fnScope s_Einit) .none kVTEkR dcTEkR pmTEkR anTEkR cdTEkR ctTEkR), slTEkR⟩)
    (cTEkR : PySem.W.codeIn K cdTEkR "Entered.__init__" = true)
    (aTEkS : PySem.W.findIn K (.ref CS) "__init__" = some (some (.ref fTEkS)))
    (iTEkS : PySem.W.isFn K (.ref fTEkS) = true)
    (lTEkS : K.lookup fTEkS = some ⟨ocTEkS, odTEkS, .func (PySem.W.fnOf "__init__" "Entered.__init__" (C8.fnArgs s_Einit) (C8.fnBody s_Einit) (C8.fnScope s_Einit) .none kVTEkS dcTEkS pmTEkS anTEkS cdTEkS ctTEkS), slTEkS⟩)
    (cTEkS : PySem.W.codeIn K cdTEkS "Entered.__init__" = true)
    (aTBkB : PySem.W.findIn K (.ref CB) "__init__" = some (some (.ref fTBkB)))
    (iTBkB : PySem.W.isFn K (.ref fTBkB) = true)
    (lTBkB : K.lookup fTBkB = some ⟨ocTBkB, odTBkB, .func (PySem.W.fnOf "__init__" "Book.__init__" (C8.fnArgs s_Binit) (C8.fnBody s_Binit) (C8.fnScope s_Binit) (.ref TTBkB) kVTBkB dcTBkB pmTBkB anTBkB cdTBkB ctTBkB), slTBkB⟩)
    (cTBkB : PySem.W.codeIn K cdTBkB "Book.__init__" = true)
    (tTBkB : K.lookup TTBkB = some ⟨tcTBkB, tdTBkB, .seq #[dvTBkB] tnTBkB, tsTBkB⟩)
    (kTBkB : PySem.W.keepIn K (.ref fTBkB) = true)
    (rvTBkB : ∃ v : V, RelV v dvTBkB)
    (z_divmod : PySem.W.nsIn K mainGlobals "divmod" = some none)
    (z_isinstance : PySem.W.nsIn K mainGlobals "isinstance" = some none)
    (z_len : PySem.W.nsIn K mainGlobals "len" = some none)
    (z_list : PySem.W.nsIn K mainGlobals "list" = some none)
    (z_max : PySem.W.nsIn K mainGlobals "max" = some none)
    (z_min : PySem.W.nsIn K mainGlobals "min" = some none)
    (z_range : PySem.W.nsIn K mainGlobals "range" = some none)
    (z_sorted : PySem.W.nsIn K mainGlobals "sorted" = some none)
    (z_str : PySem.W.nsIn K mainGlobals "str" = some none)
    (z_tuple : PySem.W.nsIn K mainGlobals "tuple" = some none)
    (aNEVER : PySem.W.nsIn K mainGlobals "NEVER" = some (some (.str "never" tN)))
    (alaw : PySem.W.nsIn K mainGlobals "law" = some (some (.ref flaw)))
    (llaw : K.lookup flaw = some ⟨oclaw, odlaw, .func (PySem.W.fnOf "law" "law" (C8.fnArgs s_law) (C8.fnBody s_law) (C8.fnScope s_law) .none kVlaw dclaw pmlaw anlaw cdlaw ctlaw), sllaw⟩)
    (claw : PySem.W.codeIn K cdlaw "law" = true)
    (ne : CE ≠ CR ∧ CE ≠ CS ∧ CR ≠ CS) :
    ∃ fd : FuncData, (∀ (s : Shared) (v : Value), BindsTo s fd ⟨[v], []⟩ [("_law_script", v)]) ∧ ∀ base : Heap, K.In base → base.Ns mainGlobals mg → FnOk l.prog w K mg base C8.CX0 6 fa fd ["_law_script"] (spLaw K) := by
  have e := hfa.symm.trans (PySem.W.mg_of X G alaw)
  cases e
  have clCE : Cls K CE := ⟨pgCE, hdCE, poCE, saCE⟩
  have clCR : Cls K CR := ⟨pgCR, hdCR, poCR, saCR⟩
  have clCS : Cls K CS := ⟨pgCS, hdCS, poCS, saCS⟩
  have clCB : Cls K CB := ⟨pgCB, hdCB, poCB, saCB⟩
  have FTEknown : C8.Fun K "known_by" "known_by" s_known fTEknown (PySem.W.fnOf "known_by" "known_by" (C8.fnArgs s_known) (C8.fnBody s_known) (C8.fnScope s_known) .none kVTEknown dcTEknown pmTEknown anTEknown cdTEknown ctTEknown) := ⟨⟨ocTEknown, odTEknown, _, kVTEknown, dcTEknown, pmTEknown, anTEknown, cdTEknown, ctTEknown, slTEknown, rfl, lTEknown, cTEknown⟩⟩
  have FTEnext : C8.Fun K "next_number" "next_number" s_next fTEnext (PySem.W.fnOf "next_number" "next_number" (C8.fnArgs s_next) (C8.fnBody s_next) (C8.fnScope s_next) .none kVTEnext dcTEnext pmTEnext anTEnext cdTEnext ctTEnext) := ⟨⟨ocTEnext, odTEnext, _, kVTEnext, dcTEnext, pmTEnext, anTEnext, cdTEnext, ctTEnext, slTEnext, rfl, lTEnext, cTEnext⟩⟩
  have FTTrow : C8.Fun K "row_text" "row_text" s_row fTTrow (PySem.W.fnOf "row_text" "row_text" (C8.fnArgs s_row) (C8.fnBody s_row) (C8.fnScope s_row) .none kVTTrow dcTTrow pmTTrow anTTrow cdTTrow ctTTrow) := ⟨⟨ocTTrow, odTTrow, _, kVTTrow, dcTTrow, pmTTrow, anTTrow, cdTTrow, ctTTrow, slTTrow, rfl, lTTrow, cTTrow⟩⟩
  have FTThead : C8.Fun K "head_text" "head_text" s_head fTThead (PySem.W.fnOf "head_text" "head_text" (C8.fnArgs s_head) (C8.fnBody s_head) (C8.fnScope s_head) .none kVTThead dcTThead pmTThead anTThead cdTThead ctTThead) := ⟨⟨ocTThead, odTThead, _, kVTThead, dcTThead, pmTThead, anTThead, cdTThead, ctTThead, slTThead, rfl, lTThead, cTThead⟩⟩
  have FTTbtext : C8.Fun K "book_text" "book_text" s_btext fTTbtext (PySem.W.fnOf "book_text" "book_text" (C8.fnArgs s_btext) (C8.fnBody s_btext) (C8.fnScope s_btext) .none kVTTbtext dcTTbtext pmTTbtext anTTbtext cdTTbtext ctTTbtext) := ⟨⟨ocTTbtext, odTTbtext, _, kVTTbtext, dcTTbtext, pmTTbtext, anTTbtext, cdTTbtext, ctTTbtext, slTTbtext, rfl, lTTbtext, cTTbtext⟩⟩
  have FTLbegin_ : C8.Fun K "_law_begin" "_law_begin" s_lbegin fTLbegin_ (PySem.W.fnOf "_law_begin" "_law_begin" (C8.fnArgs s_lbegin) (C8.fnBody s_lbegin) (C8.fnScope s_lbegin) .none kVTLbegin_ dcTLbegin_ pmTLbegin_ anTLbegin_ cdTLbegin_ ctTLbegin_) := ⟨⟨ocTLbegin_, odTLbegin_, _, kVTLbegin_, dcTLbegin_, pmTLbegin_, anTLbegin_, cdTLbegin_, ctTLbegin_, slTLbegin_, rfl, lTLbegin_, cTLbegin_⟩⟩
  have FTLtake : C8.Fun K "_law_take" "_law_take" s_ltake fTLtake (PySem.W.fnOf "_law_take" "_law_take" (C8.fnArgs s_ltake) (C8.fnBody s_ltake) (C8.fnScope s_ltake) .none kVTLtake dcTLtake pmTLtake anTLtake cdTLtake ctTLtake) := ⟨⟨ocTLtake, odTLtake, _, kVTLtake, dcTLtake, pmTLtake, anTLtake, cdTLtake, ctTLtake, slTLtake, rfl, lTLtake, cTLtake⟩⟩
  have FTLsome_ : C8.Fun K "_law_some" "_law_some" s_lsome fTLsome_ (PySem.W.fnOf "_law_some" "_law_some" (C8.fnArgs s_lsome) (C8.fnBody s_lsome) (C8.fnScope s_lsome) .none kVTLsome_ dcTLsome_ pmTLsome_ anTLsome_ cdTLsome_ ctTLsome_) := ⟨⟨ocTLsome_, odTLsome_, _, kVTLsome_, dcTLsome_, pmTLsome_, anTLsome_, cdTLsome_, ctTLsome_, slTLsome_, rfl, lTLsome_, cTLsome_⟩⟩
  have FTLnames : C8.Fun K "_law_names" "_law_names" s_lnames fTLnames (PySem.W.fnOf "_law_names" "_law_names" (C8.fnArgs s_lnames) (C8.fnBody s_lnames) (C8.fnScope s_lnames) .none kVTLnames dcTLnames pmTLnames anTLnames cdTLnames ctTLnames) := ⟨⟨ocTLnames, odTLnames, _, kVTLnames, dcTLnames, pmTLnames, anTLnames, cdTLnames, ctTLnames, slTLnames, rfl, lTLnames, cTLnames⟩⟩
  have FTLpalette : C8.Fun K "_law_palette" "_law_palette" s_lpalette fTLpalette (PySem.W.fnOf "_law_palette" "_law_palette" (C8.fnArgs s_lpalette) (C8.fnBody s_lpalette) (C8.fnScope s_lpalette) .none kVTLpalette dcTLpalette pmTLpalette anTLpalette cdTLpalette ctTLpalette) := ⟨⟨ocTLpalette, odTLpalette, _, kVTLpalette, dcTLpalette, pmTLpalette, anTLpalette, cdTLpalette, ctTLpalette, slTLpalette, rfl, lTLpalette, cTLpalette⟩⟩
  have FTLwordy : C8.Fun K "_law_wordy" "_law_wordy" s_lwordy fTLwordy (PySem.W.fnOf "_law_wordy" "_law_wordy" (C8.fnArgs s_lwordy) (C8.fnBody s_lwordy) (C8.fnScope s_lwordy) .none kVTLwordy dcTLwordy pmTLwordy anTLwordy cdTLwordy ctTLwordy) := ⟨⟨ocTLwordy, odTLwordy, _, kVTLwordy, dcTLwordy, pmTLwordy, anTLwordy, cdTLwordy, ctTLwordy, slTLwordy, rfl, lTLwordy, cTLwordy⟩⟩
  have FTLhall : C8.Fun K "_law_hall" "_law_hall" s_lhall fTLhall (PySem.W.fnOf "_law_hall" "_law_hall" (C8.fnArgs s_lhall) (C8.fnBody s_lhall) (C8.fnScope s_lhall) .none kVTLhall dcTLhall pmTLhall anTLhall cdTLhall ctTLhall) := ⟨⟨ocTLhall, odTLhall, _, kVTLhall, dcTLhall, pmTLhall, anTLhall, cdTLhall, ctTLhall, slTLhall, rfl, lTLhall, cTLhall⟩⟩
  have FTLdeed : C8.Fun K "_law_deed" "_law_deed" s_ldeed fTLdeed (PySem.W.fnOf "_law_deed" "_law_deed" (C8.fnArgs s_ldeed) (C8.fnBody s_ldeed) (C8.fnScope s_ldeed) .none kVTLdeed dcTLdeed pmTLdeed anTLdeed cdTLdeed ctTLdeed) := ⟨⟨ocTLdeed, odTLdeed, _, kVTLdeed, dcTLdeed, pmTLdeed, anTLdeed, cdTLdeed, ctTLdeed, slTLdeed, rfl, lTLdeed, cTLdeed⟩⟩
  have FTLbook : C8.Fun K "_law_book" "_law_book" s_lbook fTLbook (PySem.W.fnOf "_law_book" "_law_book" (C8.fnArgs s_lbook) (C8.fnBody s_lbook) (C8.fnScope s_lbook) .none kVTLbook dcTLbook pmTLbook anTLbook cdTLbook ctTLbook) := ⟨⟨ocTLbook, odTLbook, _, kVTLbook, dcTLbook, pmTLbook, anTLbook, cdTLbook, ctTLbook, slTLbook, rfl, lTLbook, cTLbook⟩⟩
  have FTLrow : C8.Fun K "_law_row" "_law_row" s_lrow fTLrow (PySem.W.fnOf "_law_row" "_law_row" (C8.fnArgs s_lrow) (C8.fnBody s_lrow) (C8.fnScope s_lrow) .none kVTLrow dcTLrow pmTLrow anTLrow cdTLrow ctTLrow) := ⟨⟨ocTLrow, odTLrow, _, kVTLrow, dcTLrow, pmTLrow, anTLrow, cdTLrow, ctTLrow, slTLrow, rfl, lTLrow, cTLrow⟩⟩
  have FTLhead : C8.Fun K "_law_head" "_law_head" s_lhead fTLhead (PySem.W.fnOf "_law_head" "_law_head" (C8.fnArgs s_lhead) (C8.fnBody s_lhead) (C8.fnScope s_lhead) .none kVTLhead dcTLhead pmTLhead anTLhead cdTLhead ctTLhead) := ⟨⟨ocTLhead, odTLhead, _, kVTLhead, dcTLhead, pmTLhead, anTLhead, cdTLhead, ctTLhead, slTLhead, rfl, lTLhead, cTLhead⟩⟩
  have FTLhour : C8.Fun K "_law_hour" "_law_hour" s_lhour fTLhour (PySem.W.fnOf "_law_hour" "_law_hour" (C8.fnArgs s_lhour) (C8.fnBody s_lhour) (C8.fnScope s_lhour) .none kVTLhour dcTLhour pmTLhour anTLhour cdTLhour ctTLhour) := ⟨⟨ocTLhour, odTLhour, _, kVTLhour, dcTLhour, pmTLhour, anTLhour, cdTLhour, ctTLhour, slTLhour, rfl, lTLhour, cTLhour⟩⟩
  have FTEoE : C8.Fun K "own_number" "Entered.own_number" s_Eown fTEoE (PySem.W.fnOf "own_number" "Entered.own_number" (C8.fnArgs s_Eown) (C8.fnBody s_Eown) (C8.fnScope s_Eown) .none kVTEoE dcTEoE pmTEoE anTEoE cdTEoE ctTEoE) := ⟨⟨ocTEoE, odTEoE, _, kVTEoE, dcTEoE, pmTEoE, anTEoE, cdTEoE, ctTEoE, slTEoE, rfl, lTEoE, cTEoE⟩⟩
  have FTEoR : C8.Fun K "own_number" "Righted.own_number" s_Rown fTEoR (PySem.W.fnOf "own_number" "Righted.own_number" (C8.fnArgs s_Rown) (C8.fnBody s_Rown) (C8.fnScope s_Rown) .none kVTEoR dcTEoR pmTEoR anTEoR cdTEoR ctTEoR) := ⟨⟨ocTEoR, odTEoR, _, kVTEoR, dcTEoR, pmTEoR, anTEoR, cdTEoR, ctTEoR, slTEoR, rfl, lTEoR, cTEoR⟩⟩
  have FTEoS : C8.Fun K "own_number" "Righted.own_number" s_Rown fTEoS (PySem.W.fnOf "own_number" "Righted.own_number" (C8.fnArgs s_Rown) (C8.fnBody s_Rown) (C8.fnScope s_Rown) .none kVTEoS dcTEoS pmTEoS anTEoS cdTEoS ctTEoS) := ⟨⟨ocTEoS, odTEoS, _, kVTEoS, dcTEoS, pmTEoS, anTEoS, cdTEoS, ctTEoS, slTEoS, rfl, lTEoS, cTEoS⟩⟩
  have FTEpE : C8.Fun K "put_into" "Entered.put_into" s_Eput fTEpE (PySem.W.fnOf "put_into" "Entered.put_into" (C8.fnArgs s_Eput) (C8.fnBody s_Eput) (C8.fnScope s_Eput) .none kVTEpE dcTEpE pmTEpE anTEpE cdTEpE ctTEpE) := ⟨⟨ocTEpE, odTEpE, _, kVTEpE, dcTEpE, pmTEpE, anTEpE, cdTEpE, ctTEpE, slTEpE, rfl, lTEpE, cTEpE⟩⟩
  have FTEpR : C8.Fun K "put_into" "Entered.put_into" s_Eput fTEpR (PySem.W.fnOf "put_into" "Entered.put_into" (C8.fnArgs s_Eput) (C8.fnBody s_Eput) (C8.fnScope s_Eput) .none kVTEpR dcTEpR pmTEpR anTEpR cdTEpR ctTEpR) := ⟨⟨ocTEpR, odTEpR, _, kVTEpR, dcTEpR, pmTEpR, anTEpR, cdTEpR, ctTEpR, slTEpR, rfl, lTEpR, cTEpR⟩⟩
  have FTEpS : C8.Fun K "put_into" "Struck.put_into" s_Sput fTEpS (PySem.W.fnOf "put_into" "Struck.put_into" (C8.fnArgs s_Sput) (C8.fnBody s_Sput) (C8.fnScope s_Sput) .none kVTEpS dcTEpS pmTEpS anTEpS cdTEpS ctTEpS) := ⟨⟨ocTEpS, odTEpS, _, kVTEpS, dcTEpS, pmTEpS, anTEpS, cdTEpS, ctTEpS, slTEpS, rfl, lTEpS, cTEpS⟩⟩
  have FTBlook : C8.Fun K "look_number" "Book.look_number" s_Blook fTBlook (PySem.W.fnOf "look_number" "Book.look_number" (C8.fnArgs s_Blook) (C8.fnBody s_Blook) (C8.fnScope s_Blook) .none kVTBlook dcTBlook pmTBlook anTBlook cdTBlook ctTBlook) := ⟨⟨ocTBlook, odTBlook, _, kVTBlook, dcTBlook, pmTBlook, anTBlook, cdTBlook, ctTBlook, slTBlook, rfl, lTBlook, cTBlook⟩⟩
  have FTBenter : C8.Fun K "enter" "Book.enter" s_Benter fTBenter (PySem.W.fnOf "enter" "Book.enter" (C8.fnArgs s_Benter) (C8.fnBody s_Benter) (C8.fnScope s_Benter) (.ref TTBenter) kVTBenter dcTBenter pmTBenter anTBenter cdTBenter ctTBenter) := ⟨⟨ocTBenter, odTBenter, _, kVTBenter, dcTBenter, pmTBenter, anTBenter, cdTBenter, ctTBenter, slTBenter, rfl, lTBenter, cTBenter⟩⟩
  have DTBenter : FunD K "enter" "Book.enter" (C8.fnArgs s_Benter) (C8.fnBody s_Benter) (C8.fnScope s_Benter) [rvTBenter.choose] [] fTBenter (PySem.W.fnOf "enter" "Book.enter" (C8.fnArgs s_Benter) (C8.fnBody s_Benter) (C8.fnScope s_Benter) (.ref TTBenter) kVTBenter dcTBenter pmTBenter anTBenter cdTBenter ctTBenter) := ⟨⟨ocTBenter, odTBenter, _, kVTBenter, dcTBenter, pmTBenter, anTBenter, cdTBenter, ctTBenter, slTBenter, rfl, lTBenter, cTBenter, .inr ⟨by simp, TTBenter, _, [dvTBenter], tnTBenter, rfl, tTBenter, rfl, .cons rvTBenter.choose_spec .nil⟩, .inl rfl⟩, kTBenter⟩
  have bdTBenter : Binds K (PySem.W.fnOf "enter" "Book.enter" (C8.fnArgs s_Benter) (C8.fnBody s_Benter) (C8.fnScope s_Benter) (.ref TTBenter) kVTBenter dcTBenter pmTBenter anTBenter cdTBenter ctTBenter) ["self", "deed", "hour"] [] := by
    obtain ⟨ds, h1, h2⟩ := FunD.binds1 (ps := ["self", "deed", "hour"]) DTBenter 3 1 (by simp) rfl (fun _ _ _ _ _ _ _ us its hl hi => match us, its, hl, hi with | [_, _, _], [_], _, _ => ⟨_, rfl, rfl⟩)
    cases h1
    exact h2
  have FTBright : C8.Fun K "put_right" "Book.put_right" s_Bright fTBright (PySem.W.fnOf "put_right" "Book.put_right" (C8.fnArgs s_Bright) (C8.fnBody s_Bright) (C8.fnScope s_Bright) .none kVTBright dcTBright pmTBright anTBright cdTBright ctTBright) := ⟨⟨ocTBright, odTBright, _, kVTBright, dcTBright, pmTBright, anTBright, cdTBright, ctTBright, slTBright, rfl, lTBright, cTBright⟩⟩
  have FTBstrike : C8.Fun K "strike" "Book.strike" s_Bstrike fTBstrike (PySem.W.fnOf "strike" "Book.strike" (C8.fnArgs s_Bstrike) (C8.fnBody s_Bstrike) (C8.fnScope s_Bstrike) .none kVTBstrike dcTBstrike pmTBstrike anTBstrike cdTBstrike ctTBstrike) := ⟨⟨ocTBstrike, odTBstrike, _, kVTBstrike, dcTBstrike, pmTBstrike, anTBstrike, cdTBstrike, ctTBstrike, slTBstrike, rfl, lTBstrike, cTBstrike⟩⟩
  have FTBundo : C8.Fun K "undo" "Book.undo" s_Bundo fTBundo (PySem.W.fnOf "undo" "Book.undo" (C8.fnArgs s_Bundo) (C8.fnBody s_Bundo) (C8.fnScope s_Bundo) .none kVTBundo dcTBundo pmTBundo anTBundo cdTBundo ctTBundo) := ⟨⟨ocTBundo, odTBundo, _, kVTBundo, dcTBundo, pmTBundo, anTBundo, cdTBundo, ctTBundo, slTBundo, rfl, lTBundo, cTBundo⟩⟩
  have FTBentries : C8.Fun K "entries" "Book.entries" s_Bentries fTBentries (PySem.W.fnOf "entries" "Book.entries" (C8.fnArgs s_Bentries) (C8.fnBody s_Bentries) (C8.fnScope s_Bentries) .none kVTBentries dcTBentries pmTBentries anTBentries cdTBentries ctTBentries) := ⟨⟨ocTBentries, odTBentries, _, kVTBentries, dcTBentries, pmTBentries, anTBentries, cdTBentries, ctTBentries, slTBentries, rfl, lTBentries, cTBentries⟩⟩
  have FTBlenB : C8.Fun K "__len__" "Book.__len__" s_Blen fTBlenB (PySem.W.fnOf "__len__" "Book.__len__" (C8.fnArgs s_Blen) (C8.fnBody s_Blen) (C8.fnScope s_Blen) .none kVTBlenB dcTBlenB pmTBlenB anTBlenB cdTBlenB ctTBlenB) := ⟨⟨ocTBlenB, odTBlenB, _, kVTBlenB, dcTBlenB, pmTBlenB, anTBlenB, cdTBlenB, ctTBlenB, slTBlenB, rfl, lTBlenB, cTBlenB⟩⟩
  have FTEkE : C8.Fun K "__init__" "Entered.__init__" s_Einit fTEkE (PySem.W.fnOf "__init__" "Entered.__init__" (C8.fnArgs s_Einit) (C8.fnBody s_Einit) (C8.fnScope s_Einit) .none kVTEkE dcTEkE pmTEkE anTEkE cdTEkE ctTEkE) := ⟨⟨ocTEkE, odTEkE, _, kVTEkE, dcTEkE, pmTEkE, anTEkE, cdTEkE, ctTEkE, slTEkE, rfl, lTEkE, cTEkE⟩⟩
  have FTEkR : C8.Fun K "__init__" "Entered.__init__" s_Einit fTEkR (PySem.W.fnOf "__init__" "Entered.__init__" (C8.fnArgs s_Einit) (C8.fnBody s_Einit) (C8.fnScope s_Einit) .none kVTEkR dcTEkR pmTEkR anTEkR cdTEkR ctTEkR) := ⟨⟨ocTEkR, odTEkR, _, kVTEkR, dcTEkR, pmTEkR, anTEkR, cdTEkR, ctTEkR, slTEkR, rfl, lTEkR, cTEkR⟩⟩
  have FTEkS : C8.Fun K "__init__" "Entered.__init__" s_Einit fTEkS (PySem.W.fnOf "__init__" "Entered.__init__" (C8.fnArgs s_Einit) (C8.fnBody s_Einit) (C8.fnScope s_Einit) .none kVTEkS dcTEkS pmTEkS anTEkS cdTEkS ctTEkS) := ⟨⟨ocTEkS, odTEkS, _, kVTEkS, dcTEkS, pmTEkS, anTEkS, cdTEkS, ctTEkS, slTEkS, rfl, lTEkS, cTEkS⟩⟩
  have FTBkB : C8.Fun K "__init__" "Book.__init__" s_Binit fTBkB (PySem.W.fnOf "__init__" "Book.__init__" (C8.fnArgs s_Binit) (C8.fnBody s_Binit) (C8.fnScope s_Binit) (.ref TTBkB) kVTBkB dcTBkB pmTBkB anTBkB cdTBkB ctTBkB) := ⟨⟨ocTBkB, odTBkB, _, kVTBkB, dcTBkB, pmTBkB, anTBkB, cdTBkB, ctTBkB, slTBkB, rfl, lTBkB, cTBkB⟩⟩
  have DTBkB : FunD K "__init__" "Book.__init__" (C8.fnArgs s_Binit) (C8.fnBody s_Binit) (C8.fnScope s_Binit) [rvTBkB.choose] [] fTBkB (PySem.W.fnOf "__init__" "Book.__init__" (C8.fnArgs s_Binit) (C8.fnBody s_Binit) (C8.fnScope s_Binit) (.ref TTBkB) kVTBkB dcTBkB pmTBkB anTBkB cdTBkB ctTBkB) := ⟨⟨ocTBkB, odTBkB, _, kVTBkB, dcTBkB, pmTBkB, anTBkB, cdTBkB, ctTBkB, slTBkB, rfl, lTBkB, cTBkB, .inr ⟨by simp, TTBkB, _, [dvTBkB], tnTBkB, rfl, tTBkB, rfl, .cons rvTBkB.choose_spec .nil⟩, .inl rfl⟩, kTBkB⟩
  have bdTBkB : Binds K (PySem.W.fnOf "__init__" "Book.__init__" (C8.fnArgs s_Binit) (C8.fnBody s_Binit) (C8.fnScope s_Binit) (.ref TTBkB) kVTBkB dcTBkB pmTBkB anTBkB cdTBkB ctTBkB) ["self", "palette", "kinds", "teams", "pots", "slots"] [] := by
    obtain ⟨ds, h1, h2⟩ := FunD.binds1 (ps := ["self", "palette", "kinds", "teams", "pots", "slots"]) DTBkB 6 1 (by simp) rfl (fun _ _ _ _ _ _ _ us its hl hi => match us, its, hl, hi with | [_, _, _, _, _, _], [_], _, _ => ⟨_, rfl, rfl⟩)
    cases h1
    exact h2
  have Flaw : C8.Fun K "law" "law" s_law fa (PySem.W.fnOf "law" "law" (C8.fnArgs s_law) (C8.fnBody s_law) (C8.fnScope s_law) .none kVlaw dclaw pmlaw anlaw cdlaw ctlaw) := ⟨⟨oclaw, odlaw, _, kVlaw, dclaw, pmlaw, anlaw, cdlaw, ctlaw, sllaw, rfl, llaw, claw⟩⟩
  have TE : TxE K mg CE CR CS := ⟨⟨clCE, nCEnumber, nCEhour, nCEdeed⟩, ⟨clCR, nCRnumber, nCRhour, nCRdeed⟩, ⟨clCS, nCSnumber, nCShour, nCSdeed⟩, ⟨fTEkE, _, ⟨mkCE, aTEkE, iTEkE, kcCE⟩, PySem.W.mg_of X G aCE, FTEkE, (C8.Fun.binds (ps := ["self", "number", "hour", "deed"]) FTEkE rfl fun _ _ _ _ _ _ us hl => match us, hl with | [_, _, _, _], _ => rfl)⟩, ⟨fTEkR, _, ⟨mkCR, aTEkR, iTEkR, kcCR⟩, PySem.W.mg_of X G aCR, FTEkR, (C8.Fun.binds (ps := ["self", "number", "hour", "deed"]) FTEkR rfl fun _ _ _ _ _ _ us hl => match us, hl with | [_, _, _, _], _ => rfl)⟩, ⟨fTEkS, _, ⟨mkCS, aTEkS, iTEkS, kcCS⟩, PySem.W.mg_of X G aCS, FTEkS, (C8.Fun.binds (ps := ["self", "number", "hour", "deed"]) FTEkS rfl fun _ _ _ _ _ _ us hl => match us, hl with | [_, _, _, _], _ => rfl)⟩, ⟨fTEoE, _, ⟨aTEoE, iTEoE, kTEoE⟩, FTEoE, (C8.Fun.binds (ps := ["self"]) FTEoE rfl fun _ _ _ _ _ _ us hl => match us, hl with | [_], _ => rfl)⟩, ⟨fTEoR, _, ⟨aTEoR, iTEoR, kTEoR⟩, FTEoR, (C8.Fun.binds (ps := ["self"]) FTEoR rfl fun _ _ _ _ _ _ us hl => match us, hl with | [_], _ => rfl)⟩, ⟨fTEoS, _, ⟨aTEoS, iTEoS, kTEoS⟩, FTEoS, (C8.Fun.binds (ps := ["self"]) FTEoS rfl fun _ _ _ _ _ _ us hl => match us, hl with | [_], _ => rfl)⟩, ⟨fTEpE, _, ⟨aTEpE, iTEpE, kTEpE⟩, FTEpE, (C8.Fun.binds (ps := ["self", "known"]) FTEpE rfl fun _ _ _ _ _ _ us hl => match us, hl with | [_, _], _ => rfl)⟩, ⟨fTEpR, _, ⟨aTEpR, iTEpR, kTEpR⟩, FTEpR, (C8.Fun.binds (ps := ["self", "known"]) FTEpR rfl fun _ _ _ _ _ _ us hl => match us, hl with | [_, _], _ => rfl)⟩, ⟨fTEpS, _, ⟨aTEpS, iTEpS, kTEpS⟩, FTEpS, (C8.Fun.binds (ps := ["self", "known"]) FTEpS rfl fun _ _ _ _ _ _ us hl => match us, hl with | [_, _], _ => rfl)⟩, ⟨fTEknown, _, ⟨FTEknown, PySem.W.mg_of X G aTEknown, kTEknown⟩, (C8.Fun.binds (ps := ["some"]) FTEknown rfl fun _ _ _ _ _ _ us hl => match us, hl with | [_], _ => rfl)⟩, ⟨fTEnext, _, ⟨FTEnext, PySem.W.mg_of X G aTEnext, kTEnext⟩, (C8.Fun.binds (ps := ["some"]) FTEnext rfl fun _ _ _ _ _ _ us hl => match us, hl with | [_], _ => rfl)⟩, PySem.W.mg_none_of X G z_max, ne⟩
  have TB : TxB K mg CB := ⟨clCB, nCBpalette, nCBkinds, nCBteams, nCBpots, nCBslots, nCBtelling, ⟨fTBkB, _, ⟨mkCB, aTBkB, iTBkB, kcCB⟩, PySem.W.mg_of X G aCB, FTBkB, bdTBkB⟩, ⟨fTBlook, _, ⟨aTBlook, iTBlook, kTBlook⟩, FTBlook, (C8.Fun.binds (ps := ["self", "number"]) FTBlook rfl fun _ _ _ _ _ _ us hl => match us, hl with | [_, _], _ => rfl)⟩, ⟨fTBenter, _, ⟨aTBenter, iTBenter, kTBenter⟩, FTBenter, bdTBenter⟩, ⟨fTBright, _, ⟨aTBright, iTBright, kTBright⟩, FTBright, (C8.Fun.binds (ps := ["self", "number", "deed", "hour"]) FTBright rfl fun _ _ _ _ _ _ us hl => match us, hl with | [_, _, _, _], _ => rfl)⟩, ⟨fTBstrike, _, ⟨aTBstrike, iTBstrike, kTBstrike⟩, FTBstrike, (C8.Fun.binds (ps := ["self", "number"]) FTBstrike rfl fun _ _ _ _ _ _ us hl => match us, hl with | [_, _], _ => rfl)⟩, ⟨fTBundo, _, ⟨aTBundo, iTBundo, kTBundo⟩, FTBundo, (C8.Fun.binds (ps := ["self"]) FTBundo rfl fun _ _ _ _ _ _ us hl => match us, hl with | [_], _ => rfl)⟩, ⟨fTBentries, _, ⟨aTBentries, iTBentries, kTBentries⟩, FTBentries, (C8.Fun.binds (ps := ["self"]) FTBentries rfl fun _ _ _ _ _ _ us hl => match us, hl with | [_], _ => rfl)⟩, ⟨fTBlenB, _, ⟨aTBlenB, iTBlenB, kTBlenB⟩, FTBlenB, (C8.Fun.binds (ps := ["self"]) FTBlenB rfl fun _ _ _ _ _ _ us hl => match us, hl with | [_], _ => rfl)⟩, PySem.W.mg_none_of X G z_len, PySem.W.mg_none_of X G z_sorted⟩
  have TT : TxT K mg := ⟨⟨fTTrow, _, ⟨FTTrow, PySem.W.mg_of X G aTTrow, kTTrow⟩, (C8.Fun.binds (ps := ["word", "parts"]) FTTrow rfl fun _ _ _ _ _ _ us hl => match us, hl with | [_, _], _ => rfl)⟩, ⟨fTThead, _, ⟨FTThead, PySem.W.mg_of X G aTThead, kTThead⟩, (C8.Fun.binds (ps := ["book"]) FTThead rfl fun _ _ _ _ _ _ us hl => match us, hl with | [_], _ => rfl)⟩, ⟨fTTbtext, _, ⟨FTTbtext, PySem.W.mg_of X G aTTbtext, kTTbtext⟩, (C8.Fun.binds (ps := ["book"]) FTTbtext rfl fun _ _ _ _ _ _ us hl => match us, hl with | [_], _ => rfl)⟩, ⟨_, PySem.W.mg_of X G aNEVER, ⟨_, rfl⟩⟩, PySem.W.mg_none_of X G z_str⟩
  have TL : TxL K mg := ⟨⟨fTLbegin_, _, ⟨FTLbegin_, PySem.W.mg_of X G aTLbegin_, kTLbegin_⟩, (C8.Fun.binds (ps := ["_law_script"]) FTLbegin_ rfl fun _ _ _ _ _ _ us hl => match us, hl with | [_], _ => rfl)⟩, ⟨fTLtake, _, ⟨FTLtake, PySem.W.mg_of X G aTLtake, kTLtake⟩, (C8.Fun.binds (ps := ["_law_state", "_law_many"]) FTLtake rfl fun _ _ _ _ _ _ us hl => match us, hl with | [_, _], _ => rfl)⟩, ⟨fTLsome_, _, ⟨FTLsome_, PySem.W.mg_of X G aTLsome_, kTLsome_⟩, (C8.Fun.binds (ps := ["_law_state", "_law_things"]) FTLsome_ rfl fun _ _ _ _ _ _ us hl => match us, hl with | [_, _], _ => rfl)⟩, ⟨fTLnames, _, ⟨FTLnames, PySem.W.mg_of X G aTLnames, kTLnames⟩, (C8.Fun.binds (ps := ["_law_state", "_law_many"]) FTLnames rfl fun _ _ _ _ _ _ us hl => match us, hl with | [_, _], _ => rfl)⟩, ⟨fTLpalette, _, ⟨FTLpalette, PySem.W.mg_of X G aTLpalette, kTLpalette⟩, (C8.Fun.binds (ps := ["_law_state", "_law_names_here"]) FTLpalette rfl fun _ _ _ _ _ _ us hl => match us, hl with | [_, _], _ => rfl)⟩, ⟨fTLwordy, _, ⟨FTLwordy, PySem.W.mg_of X G aTLwordy, kTLwordy⟩, (C8.Fun.binds (ps := ["_law_state", "_law_names_here"]) FTLwordy rfl fun _ _ _ _ _ _ us hl => match us, hl with | [_, _], _ => rfl)⟩, ⟨fTLhall, _, ⟨FTLhall, PySem.W.mg_of X G aTLhall, kTLhall⟩, (C8.Fun.binds (ps := ["_law_state", "_law_great"]) FTLhall rfl fun _ _ _ _ _ _ us hl => match us, hl with | [_, _], _ => rfl)⟩, ⟨fTLdeed, _, ⟨FTLdeed, PySem.W.mg_of X G aTLdeed, kTLdeed⟩, (C8.Fun.binds (ps := ["_law_state", "_law_hall_here"]) FTLdeed rfl fun _ _ _ _ _ _ us hl => match us, hl with | [_, _], _ => rfl)⟩, ⟨fTLbook, _, ⟨FTLbook, PySem.W.mg_of X G aTLbook, kTLbook⟩, (C8.Fun.binds (ps := ["_law_hall_here"]) FTLbook rfl fun _ _ _ _ _ _ us hl => match us, hl with | [_], _ => rfl)⟩, ⟨fTLrow, _, ⟨FTLrow, PySem.W.mg_of X G aTLrow, kTLrow⟩, (C8.Fun.binds (ps := ["_law_word", "_law_parts"]) FTLrow rfl fun _ _ _ _ _ _ us hl => match us, hl with | [_, _], _ => rfl)⟩, ⟨fTLhead, _, ⟨FTLhead, PySem.W.mg_of X G aTLhead, kTLhead⟩, (C8.Fun.binds (ps := ["_law_hall_here"]) FTLhead rfl fun _ _ _ _ _ _ us hl => match us, hl with | [_], _ => rfl)⟩, ⟨fTLhour, _, ⟨FTLhour, PySem.W.mg_of X G aTLhour, kTLhour⟩, (C8.Fun.binds (ps := ["_law_state"]) FTLhour rfl fun _ _ _ _ _ _ us hl => match us, hl with | [_], _ => rfl)⟩, PySem.W.mg_none_of X G z_len, PySem.W.mg_none_of X G z_list, PySem.W.mg_none_of X G z_divmod, PySem.W.mg_none_of X G z_sorted, PySem.W.mg_none_of X G z_range, PySem.W.mg_none_of X G z_tuple, PySem.W.mg_none_of X G z_min, PySem.W.mg_none_of X G z_str⟩
  have TV : TxV K mg := ⟨PySem.W.mg_none_of X G z_range, PySem.W.mg_none_of X G z_sorted, PySem.W.mg_none_of X G z_isinstance, PySem.W.mg_none_of X G z_len, PySem.W.mg_none_of X G z_str⟩
  exact ⟨_, fun s v => .of_eq rfl, fun base _ _ => law_ok Flaw (C8.Fun.binds (ps := ["_law_script"]) Flaw rfl fun _ _ _ _ _ _ us hl => match us, hl with | [_], _ => rfl) TE TB TT TL TV⟩
theorem walk {l : PySem.W.OpenLaw} {q : Program} {loose : List Str} {XP : (Str → Option Value) → Heap → Prop} {YP : World → Heap → Prop} {d : DefRec} {K : Params → PySem.W.Frag} (hn : l.most = some 63) (hdf : d.params.defaults = [])
    (hY : ∀ (w : World) (h : Heap), YP w h → (K w.params).In h)
    (F : ∀ (w : World) (mg : Str → Option Value) (fa : Addr) (h : Heap), (K w.params).In h → h.Ns mainGlobals mg → mg d.name = some (.ref fa) →
      ∃ fd : FuncData, (∀ (s : Shared) (u : Value), BindsTo s fd ⟨[u], []⟩ [("_law_script", u)]) ∧ ∀ base : Heap, (K w.params).In base → base.Ns mainGlobals mg → FnOk l.prog w (K w.params) mg base C8.CX0 6 fa fd ["_law_script"] (spLaw (K w.params))) :
    PySem.W.WalkO q loose XP YP l.row.toRowW d [] (fun f vs => PySem.call f vs) :=
  L2.walk_of (n := 63) (k := 6) (x := "_law_script") (CX := fun _ => C8.CX0) (sp := fun w => spLaw (K w.params)) hn (by decide) hdf ⟨rfl, by decide, by decide⟩ hY F (fun _ _ a ns hl _ hS => ⟨a, ns, rfl, hS, Nat.le_trans hl (by decide), fun _ => rfl⟩) fun _ _ _ _ _ z => z
end Zz

open PySem PySem.W PyProof.Rows
set_option maxRecDepth 100000 in
set_option maxHeartbeats 0 in
theorem PySem.Challenge.cw_potround_k65_books_as_texts_holds : PySem.Challenge.rw_potround_k65_books_as_texts.Holds := by
  w_on; o_law; k_head; (case hw => w_witness2)
  k_fill
  refine Zz.walk (l := PySem.Challenge.rw_potround_k65_books_as_texts) rfl rfl (fun w h Y => PySem.W.kIn_of Y) ?F
  case F =>
    intro w mg fa h KX G hmg
    refine' Zz.all_mk KX G hmg ?aCE ?pgCE ?hdCE ?poCE ?saCE ?mkCE ?kcCE ?nCEnumber ?nCEhour ?nCEdeed ?aCR ?pgCR ?hdCR ?poCR ?saCR ?mkCR ?kcCR ?nCRnumber ?nCRhour ?nCRdeed ?aCS ?pgCS ?hdCS ?poCS ?saCS ?mkCS ?kcCS ?nCSnumber ?nCShour ?nCSdeed ?aCB ?pgCB ?hdCB ?poCB ?saCB ?mkCB ?kcCB ?nCBpalette ?nCBkinds ?nCBteams ?nCBpots ?nCBslots ?nCBtelling ?aTEknown ?lTEknown ?cTEknown ?kTEknown ?aTEnext ?lTEnext ?cTEnext ?kTEnext ?aTTrow ?lTTrow ?cTTrow ?kTTrow ?aTThead ?lTThead ?cTThead ?kTThead ?aTTbtext ?lTTbtext ?cTTbtext ?kTTbtext ?aTLbegin_ ?lTLbegin_ ?cTLbegin_ ?kTLbegin_ ?aTLtake ?lTLtake ?cTLtake ?kTLtake ?aTLsome_ ?lTLsome_ ?cTLsome_ ?kTLsome_ ?aTLnames ?lTLnames ?cTLnames ?kTLnames ?aTLpalette ?lTLpalette ?cTLpalette ?kTLpalette ?aTLwordy ?lTLwordy ?cTLwordy ?kTLwordy ?aTLhall ?lTLhall ?cTLhall ?kTLhall ?aTLdeed ?lTLdeed ?cTLdeed ?kTLdeed ?aTLbook ?lTLbook ?cTLbook ?kTLbook ?aTLrow ?lTLrow ?cTLrow ?kTLrow ?aTLhead ?lTLhead ?cTLhead ?kTLhead ?aTLhour ?lTLhour ?cTLhour ?kTLhour ?aTEoE ?iTEoE ?lTEoE ?cTEoE ?kTEoE ?aTEoR ?iTEoR ?lTEoR ?cTEoR ?kTEoR ?aTEoS ?iTEoS ?lTEoS ?cTEoS ?kTEoS ?aTEpE ?iTEpE ?lTEpE ?cTEpE ?kTEpE ?aTEpR ?iTEpR ?lTEpR ?cTEpR ?kTEpR ?aTEpS ?iTEpS ?lTEpS ?cTEpS ?kTEpS ?aTBlook ?iTBlook ?lTBlook ?cTBlook ?kTBlook ?aTBenter ?iTBenter ?lTBenter ?cTBenter ?tTBenter ?kTBenter ?rvTBenter ?aTBright ?iTBright ?lTBright ?cTBright ?kTBright ?aTBstrike ?iTBstrike ?lTBstrike ?cTBstrike ?kTBstrike ?aTBundo ?iTBundo ?lTBundo ?cTBundo ?kTBundo ?aTBentries ?iTBentries ?lTBentries ?cTBentries ?kTBentries ?aTBlenB ?iTBlenB ?lTBlenB ?cTBlenB ?kTBlenB ?aTEkE ?iTEkE ?lTEkE ?cTEkE ?aTEkR ?iTEkR ?lTEkR ?cTEkR ?aTEkS ?iTEkS ?lTEkS ?cTEkS ?aTBkB ?iTBkB ?lTBkB ?cTBkB ?tTBkB ?kTBkB ?rvTBkB ?z_divmod ?z_isinstance ?z_len ?z_list ?z_max ?z_min ?z_range ?z_sorted ?z_str ?z_tuple ?aNEVER ?alaw ?llaw ?claw ?ne
    (case aCE => k_is)
    (case pgCE => k_is)
    (case hdCE => k_is)
    (case poCE => k_is)
    (case saCE => k_is)
    (case mkCE => k_is)
    (case kcCE => k_is)
    (case nCEnumber => k_is)
    (case nCEhour => k_is)
    (case nCEdeed => k_is)
    (case aCR => k_is)
    (case pgCR => k_is)
    (case hdCR => k_is)
    (case poCR => k_is)
    (case saCR => k_is)
    (case mkCR => k_is)
    (case kcCR => k_is)
    (case nCRnumber => k_is)
    (case nCRhour => k_is)
    (case nCRdeed => k_is)
    (case aCS => k_is)
    (case pgCS => k_is)
    (case hdCS => k_is)
    (case poCS => k_is)
    (case saCS => k_is)
    (case mkCS => k_is)
    (case kcCS => k_is)
    (case nCSnumber => k_is)
    (case nCShour => k_is)
    (case nCSdeed => k_is)
    (case aCB => k_is)
    (case pgCB => k_is)
    (case hdCB => k_is)
    (case poCB => k_is)
    (case saCB => k_is)
    (case mkCB => k_is)
    (case kcCB => k_is)
    (case nCBpalette => k_is)
    (case nCBkinds => k_is)
    (case nCBteams => k_is)
    (case nCBpots => k_is)
    (case nCBslots => k_is)
    (case nCBtelling => k_is)
    (case aTEknown => k_is)
    (case lTEknown => k_is)
    (case cTEknown => k_is)
    (case kTEknown => k_is)
    (case aTEnext => k_is)
    (case lTEnext => k_is)
    (case cTEnext => k_is)
    (case kTEnext => k_is)
    (case aTTrow => k_is)
    (case lTTrow => k_is)
    (case cTTrow => k_is)
    (case kTTrow => k_is)
    (case aTThead => k_is)
    (case lTThead => k_is)
    (case cTThead => k_is)
    (case kTThead => k_is)
    (case aTTbtext => k_is)
    (case lTTbtext => k_is)
    (case cTTbtext => k_is)
    (case kTTbtext => k_is)
    (case aTLbegin_ => k_is)
    (case lTLbegin_ => k_is)
    (case cTLbegin_ => k_is)
    (case kTLbegin_ => k_is)
    (case aTLtake => k_is)
    (case lTLtake => k_is)
    (case cTLtake => k_is)
    (case kTLtake => k_is)
    (case aTLsome_ => k_is)
    (case lTLsome_ => k_is)
    (case cTLsome_ => k_is)
    (case kTLsome_ => k_is)
    (case aTLnames => k_is)
    (case lTLnames => k_is)
    (case cTLnames => k_is)
    (case kTLnames => k_is)
    (case aTLpalette => k_is)
    (case lTLpalette => k_is)
    (case cTLpalette => k_is)
    (case kTLpalette => k_is)
    (case aTLwordy => k_is)
    (case lTLwordy => k_is)
    (case cTLwordy => k_is)
    (case kTLwordy => k_is)
    (case aTLhall => k_is)
    (case lTLhall => k_is)
    (case cTLhall => k_is)
    (case kTLhall => k_is)
    (case aTLdeed => k_is)
    (case lTLdeed => k_is)
    (case cTLdeed => k_is)
    (case kTLdeed => k_is)
    (case aTLbook => k_is)
    (case lTLbook => k_is)
    (case cTLbook => k_is)
    (case kTLbook => k_is)
    (case aTLrow => k_is)
    (case lTLrow => k_is)
    (case cTLrow => k_is)
    (case kTLrow => k_is)
    (case aTLhead => k_is)
    (case lTLhead => k_is)
    (case cTLhead => k_is)
    (case kTLhead => k_is)
    (case aTLhour => k_is)
    (case lTLhour => k_is)
    (case cTLhour => k_is)
    (case kTLhour => k_is)
    (case aTEoE => k_is)
    (case iTEoE => k_is)
    (case lTEoE => k_is)
    (case cTEoE => k_is)
    (case kTEoE => k_is)
    (case aTEoR => k_is)
    (case iTEoR => k_is)
    (case lTEoR => k_is)
    (case cTEoR => k_is)
    (case kTEoR => k_is)
    (case aTEoS => k_is)
    (case iTEoS => k_is)
    (case lTEoS => k_is)
    (case cTEoS => k_is)
    (case kTEoS => k_is)
    (case aTEpE => k_is)
    (case iTEpE => k_is)
    (case lTEpE => k_is)
    (case cTEpE => k_is)
    (case kTEpE => k_is)
    (case aTEpR => k_is)
    (case iTEpR => k_is)
    (case lTEpR => k_is)
    (case cTEpR => k_is)
    (case kTEpR => k_is)
    (case aTEpS => k_is)
    (case iTEpS => k_is)
    (case lTEpS => k_is)
    (case cTEpS => k_is)
    (case kTEpS => k_is)
    (case aTBlook => k_is)
    (case iTBlook => k_is)
    (case lTBlook => k_is)
    (case cTBlook => k_is)
    (case kTBlook => k_is)
    (case aTBenter => k_is)
    (case iTBenter => k_is)
    (case lTBenter => k_is)
    (case cTBenter => k_is)
    (case tTBenter => k_is)
    (case kTBenter => k_is)
    (case rvTBenter => exact ⟨.int _, _, rfl⟩)
    (case aTBright => k_is)
    (case iTBright => k_is)
    (case lTBright => k_is)
    (case cTBright => k_is)
    (case kTBright => k_is)
    (case aTBstrike => k_is)
    (case iTBstrike => k_is)
    (case lTBstrike => k_is)
    (case cTBstrike => k_is)
    (case kTBstrike => k_is)
    (case aTBundo => k_is)
    (case iTBundo => k_is)
    (case lTBundo => k_is)
    (case cTBundo => k_is)
    (case kTBundo => k_is)
    (case aTBentries => k_is)
    (case iTBentries => k_is)
    (case lTBentries => k_is)
    (case cTBentries => k_is)
    (case kTBentries => k_is)
    (case aTBlenB => k_is)
    (case iTBlenB => k_is)
    (case lTBlenB => k_is)
    (case cTBlenB => k_is)
    (case kTBlenB => k_is)
    (case aTEkE => k_is)
    (case iTEkE => k_is)
    (case lTEkE => k_is)
    (case cTEkE => k_is)
    (case aTEkR => k_is)
    (case iTEkR => k_is)
    (case lTEkR => k_is)
    (case cTEkR => k_is)
    (case aTEkS => k_is)
    (case iTEkS => k_is)
    (case lTEkS => k_is)
    (case cTEkS => k_is)
    (case aTBkB => k_is)
    (case iTBkB => k_is)
    (case lTBkB => k_is)
    (case cTBkB => k_is)
    (case tTBkB => k_is)
    (case kTBkB => k_is)
    (case rvTBkB => exact ⟨.int _, _, rfl⟩)
    (case z_divmod => k_is)
    (case z_isinstance => k_is)
    (case z_len => k_is)
    (case z_list => k_is)
    (case z_max => k_is)
    (case z_min => k_is)
    (case z_range => k_is)
    (case z_sorted => k_is)
    (case z_str => k_is)
    (case z_tuple => k_is)
    (case aNEVER => k_is)
    (case alaw => k_is)
    (case llaw => k_is)
    (case claw => k_is)
    (case ne => decide)
