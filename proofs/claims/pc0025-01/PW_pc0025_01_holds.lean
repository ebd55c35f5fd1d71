import PyProof.Rows.All
import Wide.All
import OpenK.AllK
import Wide.FinOn
import Lean
import PySem.Challenge.RW_pc0025_01
set_option compiler.extract_closed false

section
open PySem PySem.W PyProof.Rows
set_option Elab.async false
set_option maxRecDepth 100000
set_option maxHeartbeats 8000000
namespace Mine
open_top hd for PySem.Challenge.rw_pc0025_01
end Mine
end

section
open PySem PySem.W PyProof.Rows PySem.Calls PySem.Spec
set_option Elab.async false
set_option maxRecDepth 100000
set_option maxHeartbeats 8000000
namespace Mine
theorem offBase : True := by
  w_top off
  trivial
/-- hides the goal while a long thing is taken apart: each part taken repeats the goal -/
theorem hide {P : Prop} (h : ∀ G : Prop, (P → G) → G) : P := h P id
theorem ex5 {A B C D E : Type} {p : A → B → C → D → E → Prop} (a : A) (b : B) (c : C) (d : D) (e : E) (h : p a b c d e) : ∃ a b c d e, p a b c d e := ⟨a, b, c, d, e, h⟩
theorem ex9 {A B C D E F G H I : Type} {p : A → B → C → D → E → F → G → H → I → Prop} (a : A) (b : B) (c : C) (d : D) (e : E) (f : F) (g : G) (h : H) (i : I) (q : p a b c d e f g h i) : ∃ a b c d e f g h i, p a b c d e f g h i := ⟨a, b, c, d, e, f, g, h, i, q⟩
theorem fc {α : Type} {P : α → Prop} {a : α} {l : List α} (h : P a) (t : ∀ p ∈ l, P p) : ∀ p ∈ a :: l, P p := List.forall_mem_cons.mpr ⟨h, t⟩
theorem cj1 {a b : Nat} (h : a < b) : a ≠ b := Nat.ne_of_lt h
theorem cj2 {a b : Nat} (h : b < a) : a ≠ b := Nat.ne_of_gt h
theorem cj3 {a b : Nat} {p : Prop} (h : b < a ∧ p) : a ≠ b := Nat.ne_of_gt h.1
theorem cj4 {a b : Nat} {p q : Prop} (h : q ∧ b < a ∧ p) : a ≠ b := Nat.ne_of_gt h.2.1
theorem cj5 {a b : Nat} {p q r : Prop} (h : r ∧ q ∧ b < a ∧ p) : a ≠ b := Nat.ne_of_gt h.2.2.1
theorem cj6 {a b : Nat} {p q r t : Prop} (h : t ∧ r ∧ q ∧ b < a ∧ p) : a ≠ b := Nat.ne_of_gt h.2.2.2.1
theorem cj7 {a b : Nat} {p q r t u : Prop} (h : u ∧ t ∧ r ∧ q ∧ b < a ∧ p) : a ≠ b := Nat.ne_of_gt h.2.2.2.2.1
theorem ol1 {a d : Nat} (h : a < d) : a ≠ d + 1 := Nat.ne_of_lt (Nat.lt_succ_of_lt h)
theorem ol2 {a d : Nat} (h : a < d) : a ≠ d + 1 + 1 := Nat.ne_of_lt (Nat.lt_succ_of_lt (Nat.lt_succ_of_lt h))
theorem ol3 {a d : Nat} (h : a < d) : a ≠ d + 1 + 1 + 1 := Nat.ne_of_lt (Nat.lt_succ_of_lt (Nat.lt_succ_of_lt (Nat.lt_succ_of_lt h)))
theorem ol4 {a d : Nat} (h : a < d) : a ≠ d + 1 + 1 + 1 + 1 := Nat.ne_of_lt (Nat.lt_succ_of_lt (Nat.lt_succ_of_lt (Nat.lt_succ_of_lt (Nat.lt_succ_of_lt h))))
theorem sc1 {a : Nat} : a + 1 ≠ a := Nat.succ_ne_self a
theorem sc2 {a : Nat} : a + 1 + 1 ≠ a := Nat.ne_of_gt (Nat.lt_succ_of_lt (Nat.lt_succ_self a))
theorem sc3 {a : Nat} : a + 1 + 1 + 1 ≠ a := Nat.ne_of_gt (Nat.lt_succ_of_lt (Nat.lt_succ_of_lt (Nat.lt_succ_self a)))
theorem sc4 {a : Nat} : a + 1 + 1 + 1 + 1 ≠ a := Nat.ne_of_gt (Nat.lt_succ_of_lt (Nat.lt_succ_of_lt (Nat.lt_succ_of_lt (Nat.lt_succ_self a))))
theorem oc1 {a d : Nat} (h : a + 1 + 1 + 1 + 1 + 1 < d) : a + 1 ≠ d := by omega
theorem oc2 {a d : Nat} (h : a + 1 + 1 + 1 + 1 + 1 < d) : a + 1 + 1 ≠ d := by omega
theorem oc3 {a d : Nat} (h : a + 1 + 1 + 1 + 1 + 1 < d) : a + 1 + 1 + 1 ≠ d := by omega
theorem oc4 {a d : Nat} (h : a + 1 + 1 + 1 + 1 + 1 < d) : a + 1 + 1 + 1 + 1 ≠ d := by omega

/-- what a call leaves as it was: all but `as` -/
def Kb (h h' : Heap) (as : List Addr) : Prop := ∀ b o, h.get? b = some o → b ∉ as → h'.get? b = some o
theorem Kb.refl (h : Heap) (as) : Kb h h as := fun _ _ e _ => e
theorem Kb.trans {h h' h'' : Heap} {as} (a : Kb h h' as) (b : Kb h' h'' as) : Kb h h'' as := fun c o e n => b c o (a c o e n) n
theorem Kb.mono {h h' : Heap} {as bs} (a : Kb h h' as) (hs : ∀ x ∈ as, x ∈ bs) : Kb h h' bs := fun c o e n => a c o e fun q => n (hs _ q)
theorem Kb.none {h h' : Heap} {as : List Addr} {r : Addr} (x : Kb h h' as) (hr : r ∉ as) (e : h'.get? r = none) : h.get? r = none := by
  cases q : h.get? r with
  | none => rfl
  | some o => have := x _ _ q hr; rw [e] at this; cases this

/-- the ground: the written part, the top's facts, and that they stand in the heap -/
structure Grd (K : Frag) (p : Program) (loose : List Str) (mean : ExcName → Option Value) (mg mb : Str → Option Value) (G₀ h : Heap) : Prop where
  X : K.In G₀
  T : Top p loose mean mg mb G₀
  st : ∀ b o, G₀.get? b = some o → h.get? b = some o

section
variable {prog : Program} {w : World} {A : Around} {s : Shared} {G₀ : Heap} {muts : List (Addr × Obj)} {K : Frag} {p : Program} {loose : List Str} {mean : ExcName → Option Value} {mg mb : Str → Option Value}
  {R : Result → Shared → Prop} {name qual : Str} {params : Arguments} {body : List Stmt} {scope : Scope} {dV kV doc pm cdv ct oc : Value} {an od : Option Addr} {osl : Array (Option Value)} {f : Addr} {args : Args} {binds : List (Str × Value)}

/-- objects of ours in the heap -/
def Ours (G₀ h : Heap) (muts : List (Addr × Obj)) : Prop := ∀ p ∈ muts, h.get? p.1 = some p.2 ∧ G₀.get? p.1 = none
theorem Ours.nil {G₀ h : Heap} : Ours G₀ h [] := fun _ hp => nomatch hp
theorem Ours.cons {G₀ h : Heap} {a : Addr} {o : Obj} {r} (h1 : h.get? a = some o) (h2 : G₀.get? a = none) (x : Ours G₀ h r) : Ours G₀ h ((a, o) :: r) := fun p hp => by
  rcases List.mem_cons.mp hp with rfl | hp
  · exact ⟨h1, h2⟩
  · exact x p hp

theorem enter_plain (G : Grd K p loose mean mg mb G₀ s.heap) (N : Ours G₀ s.heap muts)
    (ho : K.lookup f = some ⟨oc, od, .func (fnX name qual params body scope [] dV kV doc pm an cdv ct), osl⟩) (hcd : codeIn K cdv qual = true) (hroom : A.depth < recursionLimit)
    (hbind : BindsTo s (fnX name qual params body scope [] dV kV doc pm an cdv ct) args binds) (hloc : ∀ y ∈ binds, scope.names.lookup y.1 = some .local)
    (h : ∀ g L' h₁ tk, g = hideAll s.heap (muts.map (·.1)) → Kb s.heap g (muts.map (·.1)) → Fr g L' h₁ (fun y => binds.reverse.lookup y) → News g L' h₁ muts → K.In g → Top p loose mean mg mb g → Grd K p loose mean mg mb G₀ g → (∀ p ∈ muts, p.1 < L') →
      wpAny (model prog w) (A.deeper (envX qual scope L' f cdv [])) (execs body (envX qual scope L' f cdv []))
        (fun fl s' => R (.ok (.ret (match fl with | .ret v => v | _ => .none))) s') (fun _ _ => False) { s with heap := h₁, toks := tk })
    (hcell : ∀ x ∈ scope.names, x.2 ≠ .cell) (hco : scope.isCoroutine = false := by rfl) (hgen : scope.isGenerator = false := by rfl) (hk : scope.kind = .function := by rfl) :
    codeAny (model prog w) A (.call (.ref f) args) R s := by
  have nm : ∀ b o, G₀.get? b = some o → b ∉ muts.map (·.1) := fun b o e q => by
    obtain ⟨p, hp, rfl⟩ := List.mem_map.mp q
    rw [(N p hp).2] at e; cases e
  have st : G₀.StaysIn (hideAll s.heap (muts.map (·.1))) := fun b o e => hideAll_get _ (G.st b o e) (nm b o e)
  refine codeAny_call_def (fd := fnX name qual params body scope [] dV kV doc pm an cdv ct) (body := body) (binds := binds) hroom ((G.X.keeps G.st) _ _ ho) rfl (G.T.nolimit.keeps G.st) (codeRec_of (G.X.keeps G.st) hcd) rfl hbind hcell hloc (fun h₁ hns hk₁ => ?_) hco hgen hk
  exact wpAny_mono (h _ s.heap.objs.size h₁ _ rfl (fun b o e n => hideAll_get _ e n) ⟨hns, fun b o e => hk₁ b o (of_hideAll _ e), Nat.le_of_eq (hideAll_size _ _)⟩
    (fun p hp => ⟨hk₁ _ _ (N p hp).1, Nat.ne_of_lt (Heap.lt_size (N p hp).1), hideAll_none _ (List.mem_map_of_mem hp)⟩) (G.X.keeps st) (G.T.keeps st) ⟨G.X, G.T, st⟩ (fun p hp => Heap.lt_size (N p hp).1)) (fun fl s' hl => hl) fun _ _ y => y.elim

theorem enter_cells (G : Grd K p loose mean mg mb G₀ s.heap) (N : Ours G₀ s.heap muts)
    (ho : K.lookup f = some ⟨oc, od, .func (fnX name qual params body scope [] dV kV doc pm an cdv ct), osl⟩) (hcd : codeIn K cdv qual = true) (hroom : A.depth < recursionLimit)
    (hbind : BindsTo s (fnX name qual params body scope [] dV kV doc pm an cdv ct) args binds)
    (hkind : (binds.all fun y => scope.names.lookup y.1 == some .local || scope.names.lookup y.1 == some .cell) = true)
    (hnd : ((cellsFrom 0 scope.names []).map (·.1)).Nodup)
    (h : ∀ g L' h₁ tk cells, g = hideAll s.heap (muts.map (·.1)) → Kb s.heap g (muts.map (·.1)) → Fr g L' h₁ (bindL (envOfC qual scope L' f cdv).kindOf binds fun _ => none) → News g L' h₁ (cells ++ muts) →
      CellsAre (bindC (envOfC qual scope L' f cdv).kindOf binds fun _ => none) (cellsFrom (L' + 1) scope.names []) cells → K.In g → Top p loose mean mg mb g → Grd K p loose mean mg mb G₀ g → (∀ p ∈ muts, p.1 < L') →
      wpAny (model prog w) (A.deeper (envOfC qual scope L' f cdv)) (execs body (envOfC qual scope L' f cdv))
        (fun fl s' => R (.ok (.ret (match fl with | .ret v => v | _ => .none))) s') (fun _ _ => False) { s with heap := h₁, toks := tk })
    (hco : scope.isCoroutine = false := by rfl) (hgen : scope.isGenerator = false := by rfl) (hk : scope.kind = .function := by rfl) :
    codeAny (model prog w) A (.call (.ref f) args) R s := by
  have nm : ∀ b o, G₀.get? b = some o → b ∉ muts.map (·.1) := fun b o e q => by
    obtain ⟨p, hp, rfl⟩ := List.mem_map.mp q
    rw [(N p hp).2] at e; cases e
  have st : G₀.StaysIn (hideAll s.heap (muts.map (·.1))) := fun b o e => hideAll_get _ (G.st b o e) (nm b o e)
  refine codeAny_call_function hroom ((G.X.keeps G.st) _ _ ho) rfl hco hgen rfl (codeRec_of (G.X.keeps G.st) hcd) (hbind _ _ _ _ ?_)
  refine wpAny_newFunctionEnv_cells hk (kindsX hkind _) fun env' he s' x => ?_
  subst he
  refine ⟨(G.T.nolimit.keeps G.st).keeps x.toInCall.keep, codeAny_func ?_⟩
  obtain ⟨h₁, tk, rfl, _⟩ := x.done
  have hk₁ := x.toInCall.keep
  obtain ⟨cells, NC, Y⟩ := Cl.news (h₀ := s.heap) (Nat.le_refl _) fun n c hm => ⟨x.cell n c (lookup_of_mem_nodup (cellsFrom_names scope.names 0 (s.heap.objs.size + 1) [] [] rfl ▸ hnd) hm), x.above n c hm⟩
  refine wpAny_mono (h _ s.heap.objs.size h₁ tk cells rfl (fun b o e n => hideAll_get _ e n) ⟨x.toInCall.ns, fun b o e => hk₁ b o (of_hideAll _ e), Nat.le_of_eq (hideAll_size _ _)⟩ (fun p hp => ?_) Y (G.X.keeps st) (G.T.keeps st) ⟨G.X, G.T, st⟩ (fun p hp => Heap.lt_size (N p hp).1)) (fun fl s' hl => hl) fun _ _ y => y.elim
  rcases List.mem_append.mp hp with hp | hp
  · refine ⟨(NC p hp).1, (NC p hp).2.1, ?_⟩
    cases q : (hideAll s.heap (muts.map (·.1))).get? p.1 with
    | none => rfl
    | some o => have := of_hideAll _ q; rw [(NC p hp).2.2] at this; cases this
  · exact ⟨hk₁ _ _ (N p hp).1, Nat.ne_of_lt (Heap.lt_size (N p hp).1), hideAll_none _ (List.mem_map_of_mem hp)⟩
end

theorem Grd.keeps {K : Frag} {p : Program} {loose : List Str} {mean : ExcName → Option Value} {mg mb : Str → Option Value} {G₀ h h' : Heap} (G : Grd K p loose mean mg mb G₀ h) (hk : ∀ b o, h.get? b = some o → h'.get? b = some o) : Grd K p loose mean mg mb G₀ h' :=
  ⟨G.X, G.T, fun b o e => hk b o (G.st b o e)⟩
theorem Grd.at {K : Frag} {p : Program} {loose : List Str} {mean : ExcName → Option Value} {mg mb : Str → Option Value} {G₀ g h : Heap} {L : Addr} {m : Str → Option Value} (G : Grd K p loose mean mg mb G₀ g) (F : Fr g L h m) : Grd K p loose mean mg mb G₀ h := G.keeps F.keep
/-- an object of the ledger is none of the ground's -/
theorem Grd.off {K : Frag} {p : Program} {loose : List Str} {mean : ExcName → Option Value} {mg mb : Str → Option Value} {G₀ g h : Heap} {L a : Addr} {o : Obj} {news : List (Addr × Obj)} (G : Grd K p loose mean mg mb G₀ g) (N : News g L h news) (hm : (a, o) ∈ news) : G₀.get? a = none := by
  cases q : G₀.get? a with
  | none => rfl
  | some o' => have := G.st _ _ q; rw [(N _ hm).2.2] at this; cases this

/-- behind a call: what the frame and the ledger still know -/
theorem fr_after {h₀ h h' : Heap} {L : Addr} {m : Str → Option Value} {as : List Addr} (F : Fr h₀ L h m) (kb : Kb h h' as) (hL : L ∉ as) (has : ∀ a ∈ as, h₀.get? a = none) : Fr h₀ L h' m :=
  ⟨F.ns.at' fun o e => kb _ o e hL, fun b o e => kb b o (F.keep b o e) fun q => (by rw [has b q] at e; cases e), F.above⟩
theorem fr_after0 {h₀ h h' : Heap} {L : Addr} {m : Str → Option Value} (F : Fr h₀ L h m) (kb : Kb h h' []) : Fr h₀ L h' m :=
  fr_after F kb (by simp) (fun _ h => nomatch h)
theorem news_after0 {h₀ h h' : Heap} {L : Addr} {news : List (Addr × Obj)} (N : News h₀ L h news) (kb : Kb h h' []) : News h₀ L h' news :=
  fun p hp => ⟨kb _ _ (N p hp).1 (by simp), (N p hp).2⟩
theorem news_new {h₀ h h' : Heap} {L r : Addr} {o : Obj} {m : Str → Option Value} {news : List (Addr × Obj)} (F : Fr h₀ L h m) (N : News h₀ L h' news) (hn : h.get? r = none) (hr : h'.get? r = some o) : News h₀ L h' ((r, o) :: news) := by
  intro p hp
  rcases List.mem_cons.mp hp with rfl | hp
  · refine ⟨hr, fun e => ?_, ?_⟩
    · obtain ⟨oL, _, _, hL, _⟩ := F.ns
      have e' : r = L := e
      rw [e', hL] at hn; cases hn
    · cases q : h₀.get? r with
      | none => rfl
      | some o' => have := F.keep _ _ q; rw [hn] at this; cases this
  · exact N p hp
theorem off_new {h₀ h : Heap} {L r : Addr} {news : List (Addr × Obj)} (N : News h₀ L h news) (hn : h.get? r = none) : ∀ p ∈ news, p.1 ≠ r := fun p hp e => by
  have := (N p hp).1; rw [e, hn] at this; cases this

theorem intsAre_at : ∀ {vs : List Value} {ns : List Int}, IntsAre vs ns → ∀ (j : Nat) (v : Value), vs[j]? = some v → ∃ o t, ns[j]? = some o ∧ v = .int o t := fun h => by
  induction h with
  | nil => intro j v e; simp at e
  | cons n t _ ih =>
    intro j v e
    cases j with
    | zero => simp at e; subst e; exact ⟨n, t, rfl, rfl⟩
    | succ j => simpa using ih j v (by simpa using e)
theorem refs_at {as : List Addr} {k : Nat} {v : Value} (e : (as.map Value.ref)[k]? = some v) : ∃ a, as[k]? = some a ∧ v = .ref a := by
  rw [List.getElem?_map] at e
  obtain ⟨a, h1, h2⟩ := Option.map_eq_some_iff.mp e
  exact ⟨a, h1, h2.symm⟩
noncomputable abbrev TO (vs : List Value) (n : Nat) : Obj := { cls := .type "tuple", data := .seq vs.toArray n }
noncomputable abbrev LO (vs : List Value) (n : Nat) : Obj := W.listOf vs.toArray n
/-- a list of ints stands at the address; a tuple of ints -/
def LstI (h : Heap) (a : Addr) (ns : List Int) : Prop := ∃ vs n, IntsAre vs ns ∧ h.get? a = some (LO vs n)
def TupI (h : Heap) (a : Addr) (ns : List Int) : Prop := ∃ vs n, IntsAre vs ns ∧ h.get? a = some (TO vs n)
theorem LstI.kb {h h' : Heap} {a ns as} (x : LstI h a ns) (kb : Kb h h' as) (ha : a ∉ as) : LstI h' a ns := let ⟨vs, n, h1, h2⟩ := x; ⟨vs, n, h1, kb _ _ h2 ha⟩
theorem TupI.kb {h h' : Heap} {a ns as} (x : TupI h a ns) (kb : Kb h h' as) (ha : a ∉ as) : TupI h' a ns := let ⟨vs, n, h1, h2⟩ := x; ⟨vs, n, h1, kb _ _ h2 ha⟩
theorem isList_of {h : Heap} {a : Addr} {vs : List Value} {n : Nat} (e : h.get? a = some (LO vs n)) : h.IsList a vs.toArray := ⟨_, e, rfl, n, rfl⟩
theorem isTup_of {h : Heap} {a : Addr} {vs : List Value} {n : Nat} (e : h.get? a = some (TO vs n)) : IsTup h a vs.toArray := ⟨_, e, rfl, n, rfl⟩

theorem range_small {n : Nat} (h : n < 1000) : Builtin.Range.small 0 (n : Int) 1 = true := small_one (by omega) (by omega) (by omega) (by omega)
theorem range_size (n : Nat) : Builtin.Range.rangeSize 0 (n : Int) 1 = ((n : Nat) : Int) := by
  rw [rangeSize_nat]; omega
/-! rules for lists and tuples of the part that stays -/
section
variable {prog : Program} {w : World} {A : Around} {E : Value → Shared → Prop} {s : Shared} {h₀ : Heap} {L : Addr} {m : Str → Option Value}
theorem len_tupI {t : Addr} {vs : List Value} {ns : List Int} {Q : Value → Shared → Prop} (F : Fr h₀ L s.heap m) (ht : IsTup h₀ t vs.toArray) (hI : IntsAre vs ns) (hf : ns.length < 2 ^ 62)
    (h : Q (.int ns.length (s.toks + 1)) { s with toks := s.toks + 1 + 1 }) : wpAny (model prog w) A (call (.builtin "len") [.ref t]) Q E s := by
  refine len_tuple (ht.keeps F.keep) ?_ ?_
  · simp [hI.length]; omega
  · simpa [hI.length] using h
theorem item_tupI {value slice : Expr} {t : Addr} {vs : List Value} {ns : List Int} {k : Int} {u : Tok} {Q : Value → Shared → Prop} (F : Fr h₀ L s.heap m) (ht : IsTup h₀ t vs.toArray) (hI : IntsAre vs ns)
    (h0 : 0 ≤ k) (h1 : k < ns.length) (hf : ns.length < 2 ^ 62) (h : ∀ t, Q (.int (ns.getD k.toNat 0) t) s)
    (hs : subscripted slice false (.ref t) (.int k u) = operate [.ref t, .int k u] (getItem (.ref t) (.int k u)) := by with_unfolding_all rfl) :
    wpAny (model prog w) A (subscriptTail value slice (.ref t) (.int k u)) Q E s := by
  have hlt : k.toNat < ns.length := by omega
  obtain ⟨tk, hx⟩ := hI.get k.toNat (ns[k.toNat]) (by simp [hlt])
  refine item_tupleT (ht.keeps F.keep) (by omega) (by omega) (j := k.toNat) ?_ hx ?_ hs
  · unfold seqIndex?
    rw [hI.length]
    dsimp only
    rw [if_neg (show ¬ k < 0 by omega), if_pos (by simp; omega)]
  · have e : ns.getD k.toNat 0 = ns[k.toNat] := by simp [hlt]
    rw [← e]; exact h tk
theorem len_lstN {news : List (Addr × Obj)} {a : Addr} {vs : List Value} {n : Nat} {ns : List Int} {Q : Value → Shared → Prop} (N : News h₀ L s.heap news) (hm : (a, LO vs n) ∈ news) (hI : IntsAre vs ns) (hf : ns.length < 2 ^ 62)
    (h : Q (.int ns.length (s.toks + 1)) { s with toks := s.toks + 1 + 1 }) : wpAny (model prog w) A (call (.builtin "len") [.ref a]) Q E s := by
  refine len_list (isList_of (N _ hm).1) ?_ ?_
  · simp [hI.length]; omega
  · simpa [hI.length] using h
theorem item_lstN {news : List (Addr × Obj)} {value slice : Expr} {a : Addr} {vs : List Value} {n : Nat} {ns : List Int} {k : Int} {u : Tok} {Q : Value → Shared → Prop} (N : News h₀ L s.heap news) (hm : (a, LO vs n) ∈ news) (hI : IntsAre vs ns)
    (h0 : 0 ≤ k) (h1 : k < ns.length) (hf : ns.length < 2 ^ 62) (h : ∀ t, Q (.int (ns.getD k.toNat 0) t) s)
    (hs : subscripted slice false (.ref a) (.int k u) = operate [.ref a, .int k u] (getItem (.ref a) (.int k u)) := by with_unfolding_all rfl) :
    wpAny (model prog w) A (subscriptTail value slice (.ref a) (.int k u)) Q E s := by
  have hlt : k.toNat < ns.length := by omega
  obtain ⟨tk, hx⟩ := hI.get k.toNat (ns[k.toNat]) (by simp [hlt])
  have hl := isList_of (N _ hm).1
  refine tail_any hl.typeIs slot_list_getitem.lookup (wpAny_getItem_list hl h0 (by omega) (by simpa using hx) ?_) hs
  have e : ns.getD k.toNat 0 = ns[k.toNat] := by simp [hlt]
  rw [← e]; exact h tk
theorem meth_lst {name : Str} {id : String} {pl : Sem Bool} {a : Addr} {vs : List Value} {n : Nat} {Q : Value × List Value → Shared → Prop} (F : Fr h₀ L s.heap m) (ho : h₀.get? a = some (LO vs n)) (slot : Slot "list" name id)
    (hty : typeOf (.builtin id) = pure (.type "method_descriptor")) (h : Q (.builtin id, [.ref a]) s) : wpAny (model prog w) A (getMethod (.ref a) name pl) Q E s :=
  getMethod_builtin ⟨_, F.keep _ _ ho, rfl⟩ PySem.F.plainAttrs_list slot hty (fun a e => by cases e; exact ⟨_, F.keep _ _ ho, rfl⟩) h
theorem meth_tup {name : Str} {id : String} {pl : Sem Bool} {a : Addr} {vs : List Value} {n : Nat} {Q : Value × List Value → Shared → Prop} (F : Fr h₀ L s.heap m) (ho : h₀.get? a = some (TO vs n)) (slot : Slot "tuple" name id)
    (hty : typeOf (.builtin id) = pure (.type "method_descriptor")) (h : Q (.builtin id, [.ref a]) s) : wpAny (model prog w) A (getMethod (.ref a) name pl) Q E s :=
  getMethod_builtin ⟨_, F.keep _ _ ho, rfl⟩ PySem.F.plainAttrs_tuple slot hty (fun a e => by cases e; exact ⟨_, F.keep _ _ ho, rfl⟩) h
theorem count_tupI {l : Addr} {vs : List Value} {n : Nat} {ns : List Int} {k : Int} {t : Tok} {Q : Value → Shared → Prop} (F : Fr h₀ L s.heap m) (ho : h₀.get? l = some (TO vs n)) (hi : IntsAre vs ns)
    (h : Q (.int (ns.count k : Nat) s.toks) { s with toks := s.toks + 1 }) : wpAny (model prog w) A (call (.builtin "tuple.count") [.ref l, .int k t]) Q E s := by
  have ho' := F.keep _ _ ho
  refine call_meets PySem.F.slot_tuple_count ⟨_, ho', rfl⟩ PySem.F.entry_tuple_count (PySem.F.args_tuple_count_2 _ _) (PySem.SeqAt.tuple_countAt l vs.toArray n none #[] (.int k t) (isInt k)) ⟨ho', fun y hy => (eq_isInt k t hi y (by simpa using hy)).at _ _, ?_⟩
  rw [show vs.toArray.toList = vs from rfl, countP_isInt k hi]
  exact h
end
end Mine
end

local macro_rules | `(tactic| k_ne) => `(tactic| (refine PySem.W.neN ?_; (try dsimp only); first | exact Mine.sc1 | exact Mine.sc2 | exact Mine.sc3 | exact Mine.sc4 | exact Mine.sc1.symm | exact Mine.sc2.symm | exact Mine.sc3.symm | exact Mine.sc4.symm | assumption | exact Ne.symm ‹_› | exact Mine.cj1 ‹_› | exact Mine.cj2 ‹_› | exact Mine.cj3 ‹_› | exact Mine.cj4 ‹_› | exact Mine.cj5 ‹_› | exact Mine.cj6 ‹_› | exact Mine.cj7 ‹_› | exact Ne.symm (Mine.cj3 ‹_›) | exact Ne.symm (Mine.cj4 ‹_›) | exact Ne.symm (Mine.cj5 ‹_›) | exact Ne.symm (Mine.cj6 ‹_›) | exact Ne.symm (Mine.cj7 ‹_›) | exact Mine.ol1 ‹_› | exact Mine.ol2 ‹_› | exact Mine.ol3 ‹_› | exact Mine.ol4 ‹_› | exact (Mine.ol1 ‹_›).symm | exact (Mine.ol2 ‹_›).symm | exact (Mine.ol3 ‹_›).symm | exact (Mine.ol4 ‹_›).symm | exact Mine.oc1 ‹_› | exact Mine.oc2 ‹_› | exact Mine.oc3 ‹_› | exact Mine.oc4 ‹_› | exact Ne.symm (Mine.oc1 ‹_›) | exact Ne.symm (Mine.oc2 ‹_›) | exact Ne.symm (Mine.oc3 ‹_›) | exact Ne.symm (Mine.oc4 ‹_›) | omega))

section
open PySem PySem.W PyProof.Rows PySem.Calls PySem.Spec
local macro_rules | `(tactic| walk_at "call builtin:len") => `(tactic| ((with_reducible show wpAny _ _ (call (Value.builtin "len") [Value.ref _]) _ _ _); k_dflt (refine' Mine.len_tupI ?k1 ?k2 ?k3 ?k4 ?_; (case k1 => k_asm); (case k2 | k3 => with_reducible assumption); (case k4 => omega); k_whole)))
local macro_rules | `(tactic| walk_at "subscriptTail") => `(tactic| ((with_reducible show wpAny _ _ (subscriptTail _ _ (Value.ref _) (Value.int _ _)) _ _ _); k_dflt (refine' Mine.item_tupI ?k1 ?k2 ?k3 ?k4 ?k5 ?k6 ?_ ?k7; (case k1 => k_asm); (case k2 | k3 => with_reducible assumption); (case k4 => omega); (case k5 => first | assumption | omega | (simp_all; done)); (case k6 => omega); (case k7 => with_unfolding_all rfl); k_whole); intro _))

section
open PySem PySem.W PyProof.Rows PySem.Calls PySem.Spec
set_option Elab.async false
set_option maxRecDepth 100000
set_option maxHeartbeats 8000000
namespace Mine
theorem offDealt : True := by
  w_top off
  trivial
theorem fill0 : PySem.Challenge.rw_pc0025_01 = PySem.Challenge.rw_pc0025_01 ∧ hd.heap_39 = hd.heap_39 := by
  k_fill
  exact ⟨rfl, rfl⟩

abbrev GG (w : World) (loose : List Str) (mean : ExcName → Option Value) (mg mb : Str → Option Value) (G₀ h : Heap) : Prop := Grd (hd.heap_39 w.params) hd.view_39 loose mean mg mb G₀ h


theorem dealt_call {prog : Program} {w : World} {dp un : Nat} {fr : Option (List Env)} {gd : Option (List Code)} {s : Shared} {G₀ : Heap} {loose : List Str} {mean : ExcName → Option Value} {mg mb : Str → Option Value}
   {pk lr : Addr} {o : Obj} {t3 tm : Tok} {at0 many : Int} {ns : List Int} {Q E : Value → Shared → Prop}
   (G : GG w loose mean mg mb G₀ s.heap) (N : Ours G₀ s.heap [(pk, o)])
   (hdi : Obj.IsDictOf (PySem.strKind prog w) o [(Str.ofString "row", Value.ref lr), (Str.ofString "at", Value.int at0 t3)])
   (hr : LstI s.heap lr ns ∨ TupI s.heap lr ns) (hne : lr ≠ pk) (hlen : ns.length < 100) (hl : -1 ≤ at0) (hh : at0 < 1000) (hm : 0 < many) (hm' : many < 1000) (hdp : dp < 900) (hun : un < 1000)
   (hQ : ∀ v t t' h' tk' o', Kb s.heap h' [pk] → h'.get? pk = some o' → Obj.IsDictOf (PySem.strKind prog w) o' [(Str.ofString "row", Value.ref lr), (Str.ofString "at", Value.int (at0 + 1) t')] →
     0 ≤ v → v < many → Q (.int v t) { s with heap := h', toks := tk' }) :
   wpAny (model prog w) ⟨none, dp, fr, gd, un⟩ (call (.ref 85) [.ref pk, .int many tm]) Q E s := by
  refine wpAny_call ?_
  k_dflt (refine' enter_plain ?k1 ?k3 ?k6 ?k7 ?k8 ?k9 ?kB ?_ ?c5 ?c2 ?c3 ?c4)
  (case k1 => exact G); (case k3 => exact N); (case k6 => k_is); (case k7 => k_is); (case k8 => show dp < recursionLimit; simp only [recursionLimit]; omega); (case k9 => exact BindsTo.of_eq rfl); (case c5 => decide); (case kB => exact locs rfl); (case c2 => exact rfl); (case c3 => exact rfl); (case c4 => exact rfl)
  intro g' L' h' tk' eg kg F' N' X' T' G' l1
  clear N eg
  have hL : ∃ vs, IntsAre vs ns ∧ (g'.IsList lr vs.toArray ∨ IsTup g' lr vs.toArray) := by
    rcases hr with ⟨vs, n, hi, e⟩ | ⟨vs, n, hi, e⟩
    · exact ⟨vs, hi, .inl (isList_of (kg _ _ e (by simpa using hne)))⟩
    · exact ⟨vs, hi, .inr (isTup_of (kg _ _ e (by simpa using hne)))⟩
  clear hr G
  obtain ⟨vs, hI, hL⟩ := hL
  (try dsimp only); (try k_fold)
  rcases hL with hL | hL
  all_goals k_steps
  all_goals (rename Fr _ _ _ _ => F1; rename News _ _ _ _ => N1; rename Obj.IsDictOf _ _ _ => D1)
  all_goals exact hQ _ _ _ _ _ _ (fun b o e n => F1.keep b o (kg b o e n)) (N1 _ (List.Mem.head _)).1 D1 (Int.fmod_nonneg_of_pos _ hm) (Int.fmod_lt_of_pos _ hm)
end Mine
end

section
open PySem PySem.W PyProof.Rows PySem.Calls PySem.Spec
set_option Elab.async false
set_option maxRecDepth 100000
set_option maxHeartbeats 8000000
namespace Mine
theorem offComp2 : True := by
  w_top off
  trivial
open LCg

section
variable {prog : Program} {w : World} {A : Around} {E : Value → Shared → Prop} {R : Result → Shared → Prop} {s : Shared}

theorem compTurn_in (elt iter₁ iter₂ : Expr) (t₁ t₂ : Expr) (scope : Scope) (pos : Pos) (it acc : Value) (env : Env) :
    compTurn (.ListComp elt [⟨t₁, iter₁, [], 0⟩, ⟨t₂, iter₂, [], 0⟩] scope pos) 1 it acc env = (standAt iter₂.pos >>= fun _ => pyNext it >>= fun r => match r with
      | none => pure (.done .next)
      | some v => letOwnedTupleGo t₂ it v >>= fun _ => assign t₂ env v >>= fun _ =>
        (eval elt env >>= fun x => call (.builtin "list.append") [acc, x] >>= fun _ => pure ()) >>= fun _ =>
          again (.compLoop (.ListComp elt [⟨t₁, iter₁, [], 0⟩, ⟨t₂, iter₂, [], 0⟩] scope pos) 1 it acc env)) := by rfl
theorem compTurn_out (elt iter₁ iter₂ : Expr) (t₁ t₂ : Expr) (scope : Scope) (pos : Pos) (it acc : Value) (env : Env) :
    compTurn (.ListComp elt [⟨t₁, iter₁, [], 0⟩, ⟨t₂, iter₂, [], 0⟩] scope pos) 0 it acc env = (standAt iter₁.pos >>= fun _ => pyNext it >>= fun r => match r with
      | none => pure (.done .next)
      | some v => letOwnedTupleGo t₁ it v >>= fun _ => assign t₁ env v >>= fun _ =>
        eval iter₂ env >>= fun x => standAt iter₂.pos >>= fun _ => foldedSetIterable iter₂ env x >>= fun x => holding [x] (pyIter x) >>= fun it' =>
          runOwn (.compStart (.ListComp elt [⟨t₁, iter₁, [], 0⟩, ⟨t₂, iter₂, [], 0⟩] scope pos) 1 it' acc env) env >>= fun _ =>
          again (.compLoop (.ListComp elt [⟨t₁, iter₁, [], 0⟩, ⟨t₂, iter₂, [], 0⟩] scope pos) 0 it acc env)) := by rfl

theorem codeAny_compLoop_in {elt t₁ iter₁ t₂ iter₂ : Expr} {scope : Scope} {pos : Pos} {it acc : Value} {env : Env} (I : Nat → Shared → Prop)
    (turn : ∀ n s E', I n s → wpAny (model prog w) A (pyNext it) (fun r s₁ => match r with
      | none => R (.ok .next) s₁
      | some v => wpAny (model prog w) A (assign t₂ env v) (fun _ s₂ => wpAny (model prog w) A (eval elt env) (fun x s₃ =>
          wpAny (model prog w) A (call (.builtin "list.append") [acc, x]) (fun _ s₄ => ∃ m, m < n ∧ I m s₄) E' s₃) E' s₂) E' s₁) E' s)
    (n : Nat) (h : I n s) (ht : ∀ v, letOwnedTupleGo t₂ it v = pure () := by intro _; rfl) :
    codeAny (model prog w) A (.compLoop (.ListComp elt [⟨t₁, iter₁, [], 0⟩, ⟨t₂, iter₂, [], 0⟩] scope pos) 1 it acc env) R s := by
  refine codeAny_loop rfl I (fun n s hI => ?_) n h
  show wpAny _ _ ((compTurn (.ListComp elt [⟨t₁, iter₁, [], 0⟩, ⟨t₂, iter₂, [], 0⟩] scope pos) 1 it acc env).onRaise (fun x => do noteFrame x env; theTreesLotGoes x)) _ _ s
  refine wpAny_noted ?_
  rw [compTurn_in]
  refine wpAny_bind (wpAny_standAt (wpAny_bind (wpAny_mono (turn n s _ hI) (fun r s₁ h₁ => ?_) fun _ _ h' => h')))
  cases r with
  | none => exact wpAny_pure h₁
  | some v =>
    refine wpAny_bind (wpAny_of_eq (ht v) ?_)
    exact wpAny_bind (wpAny_mono h₁ (fun _ s₂ h₂ => wpAny_bind (wpAny_bind (wpAny_mono h₂ (fun x s₃ h₃ => wpAny_bind (wpAny_mono h₃
      (fun _ s₄ h₄ => wpAny_pure (wpAny_pure ⟨rfl, h₄⟩)) fun _ _ h' => h')) fun _ _ h' => h'))) fun _ _ h' => h')

theorem codeAny_compStart_in {elt t₁ iter₁ t₂ iter₂ : Expr} {scope : Scope} {pos : Pos} {it acc : Value} {env : Env}
    (h0 : codeAny (model prog w) A (.compLoop (.ListComp elt [⟨t₁, iter₁, [], 0⟩, ⟨t₂, iter₂, [], 0⟩] scope pos) 1 it acc env) R s)
    (h : ∀ E', wpAny (model prog w) A (pyIter it) (fun it' s' => codeAny (model prog w) A (.compLoop (.ListComp elt [⟨t₁, iter₁, [], 0⟩, ⟨t₂, iter₂, [], 0⟩] scope pos) 1 it' acc env) R s') E' s) :
    codeAny (model prog w) A (.compStart (.ListComp elt [⟨t₁, iter₁, [], 0⟩, ⟨t₂, iter₂, [], 0⟩] scope pos) 1 it acc env) R s := by
  refine codeAny_of_tree ?_
  show wpAny _ _ ((compStart (.ListComp elt [⟨t₁, iter₁, [], 0⟩, ⟨t₂, iter₂, [], 0⟩] scope pos) 1 it acc env).onRaise (fun x => do noteFrame x env; standAt theWindowsPlace)) _ _ s
  refine wpAny_notedAt ?_
  unfold compStart
  show wpAny _ _ (ask >>= _) _ _ s
  refine wpAny_bind (wpAny_askSetting (wpAny_ite ?_))
  split
  · first
      | exact wpAny_bind (wpAny_pure (wpAny_pure (And.intro rfl h0)))
      | exact wpAny_pure (And.intro rfl h0)
  · first
      | exact wpAny_bind (wpAny_rule (wpAny_bind (wpAny_standAt (wpAny_bind (wpAny_mono (h _) (fun it' s' h' => wpAny_pure (And.intro rfl h')) fun _ _ x => x)))))
      | (refine wpAny_bind (wpAny_rule ?_); show wpAny _ _ (standAt iter₂.pos >>= _) _ _ s; exact wpAny_bind (wpAny_standAt (wpAny_bind (wpAny_mono (h _) (fun it' s' h' => wpAny_pure (And.intro rfl h')) fun _ _ x => x))))

theorem codeAny_compLoop_out {elt t₁ iter₁ t₂ iter₂ : Expr} {scope : Scope} {pos : Pos} {it acc : Value} {env : Env} (I : Nat → Shared → Prop) (hh : A.handled = none)
    (turn : ∀ n s E', I n s → wpAny (model prog w) A (pyNext it) (fun r s₁ => match r with
      | none => R (.ok .next) s₁
      | some v => wpAny (model prog w) A (assign t₁ env v) (fun _ s₂ => wpAny (model prog w) A (eval iter₂ env) (fun x s₃ =>
          wpAny (model prog w) A (pyIter x) (fun it' s₄ => codeAny (model prog w) A (.compStart (.ListComp elt [⟨t₁, iter₁, [], 0⟩, ⟨t₂, iter₂, [], 0⟩] scope pos) 1 it' acc env)
            (fun r s₅ => ∃ f, r = .ok f ∧ ∃ m, m < n ∧ I m s₅) s₄) E' s₃) E' s₂) E' s₁) E' s)
    (n : Nat) (h : I n s) (ht : ∀ v, letOwnedTupleGo t₁ it v = pure () := by intro _; rfl) (hs : ∀ x, foldedSetIterable iter₂ env x = pure x := by intro _; rfl) :
    codeAny (model prog w) A (.compLoop (.ListComp elt [⟨t₁, iter₁, [], 0⟩, ⟨t₂, iter₂, [], 0⟩] scope pos) 0 it acc env) R s := by
  refine codeAny_loop rfl I (fun n s hI => ?_) n h
  show wpAny _ A ((compTurn (.ListComp elt [⟨t₁, iter₁, [], 0⟩, ⟨t₂, iter₂, [], 0⟩] scope pos) 0 it acc env).onRaise (fun x => do noteFrame x env; theTreesLotGoes x)) _ _ s
  refine wpAny_noted ?_
  rw [compTurn_out]
  refine wpAny_bind (wpAny_standAt (wpAny_bind (wpAny_mono (turn n s _ hI) (fun r s₁ h₁ => ?_) fun _ _ h' => h')))
  cases r with
  | none => exact wpAny_pure h₁
  | some v =>
    refine wpAny_bind (wpAny_of_eq (ht v) ?_)
    refine wpAny_bind (wpAny_mono h₁ (fun _ s₂ h₂ => wpAny_bind (wpAny_mono h₂ (fun x s₃ h₃ => wpAny_bind (wpAny_standAt (wpAny_bind (wpAny_of_eq (hs x) (wpAny_bind (wpAny_holding (wpAny_mono h₃ (fun it' s₄ h₄ => wpAny_bind ?_) fun _ _ h' => h'))))))) fun _ _ h' => h')) fun _ _ h' => h')
    have eA : A.mark none = A := by obtain ⟨hd, d, fr, gs, u⟩ := A; cases hh; rfl
    refine wpAny_runOwn (h := none) (codeAny_mono (by rw [eA]; exact h₄) fun r s' hr => ?_)
    obtain ⟨f, rfl, hr⟩ := hr
    exact wpAny_pure ⟨rfl, hr⟩
end

def Stop (P : Prop) : Prop := P
theorem stop_here {P : Prop} (h : Stop P) : P := h
abbrev Led := List (Addr × Obj)
def EndF (h₀ : Heap) (L : Addr) (m : Str → Option Value) (s₁ : Shared) (fixed : Led) (rest : Value → Led → Prop) (y : Value) (s₂ : Shared) : Prop :=
  ∃ h' tk news', s₂ = { s₁ with heap := h', toks := tk } ∧ Fr h₀ L h' m ∧ News h₀ L h' (fixed ++ news') ∧ (∀ p ∈ news', ∀ q ∈ fixed, p.1 ≠ q.1) ∧ rest y news'

theorem EndF.add {h₀ h' : Heap} {L r : Addr} {o : Obj} {m : Str → Option Value} {s₁ : Shared} {fixed X nw nw' : Led} {rest : Value → Led → Prop} {y : Value} {tk : Nat} (F : Fr h₀ L h' m) (N : News h₀ L h' ((r, o) :: X)) (sub : ∀ p ∈ fixed ++ nw, p ∈ X)
    (lt : ∀ p ∈ X, p.1 < r) (off : ∀ p ∈ nw, ∀ q ∈ fixed, p.1 ≠ q.1) (hn : ∀ p ∈ nw', p = (r, o) ∨ p ∈ nw) (hr : rest y nw') : EndF h₀ L m s₁ fixed rest y { s₁ with heap := h', toks := tk } := by
  refine ⟨h', tk, nw', rfl, F, fun p hp => ?_, fun p hp q hq => ?_, hr⟩
  · rcases List.mem_append.mp hp with hp | hp
    · exact N p (.tail _ (sub p (List.mem_append_left _ hp)))
    · rcases hn p hp with rfl | hp
      · exact N _ List.mem_cons_self
      · exact N p (.tail _ (sub p (List.mem_append_right _ hp)))
  · rcases hn p hp with rfl | hp
    · exact Nat.ne_of_gt (lt q (sub q (List.mem_append_left _ hq)))
    · exact off p hp q hq

section
variable {prog : Program} {w : World} {A : Around} {E : Value → Shared → Prop} {h₀ : Heap} {L : Addr} {m : Str → Option Value} {env : Env}

theorem lt_new {h₀ h : Heap} {L : Addr} {news : Led} (N : News h₀ L h news) : ∀ p ∈ news, p.1 < h.objs.size := fun p hp => Heap.lt_size (N p hp).1

theorem block_2 {elt iter₁ iter₂ : Expr} {x y : Str} {px py : Pos} {scope : Scope} {cl : List (Str × Addr)} {pos : Pos} {s₂ : Shared} {ax : Addr} {its : Array Value} {news : Led}
    {RR : Value → Addr → Result → Shared → Prop} (J : Nat → List Value → Led → Prop) (J₂ : Nat → Addr → Array Value → Nat → List Value → Led → Prop)
    (hh : A.handled = none) (hcell : ∀ y ∈ scope.names, y.2 ≠ .cell) (hkind : scope.kind = .function) (hx : scope.names.lookup x = some .local) (hy : scope.names.lookup y = some .local) (hxy : x ≠ y)
    (F : Fr h₀ L s₂.heap m) (N : News h₀ L s₂.heap news)
    (hS : ∀ i ys nw, J i ys nw → SrcAt h₀ ax its nw) (hS2 : ∀ i ax₂ its₂ j ys nw, J₂ i ax₂ its₂ j ys nw → SrcAt h₀ ax its nw ∧ SrcAt h₀ ax₂ its₂ nw ∧ ys.length ≤ sizeLine)
    (h0 : J 0 [] news) (hfin : ∀ i ax₂ its₂ ys nw, J₂ i ax₂ its₂ its₂.size ys nw → J (i + 1) ys nw)
    (outer : ∀ i v I oI C oC D m₂ h tk ys nw E', its[i]? = some v → J i ys nw → NsObj oC m₂ → m₂ x = some v → Fr h₀ L h m → News h₀ L h ((I, oI) :: (C, oC) :: (D, lst ys) :: nw) → Off3 I C D nw →
      wpAny (model prog w) A (eval iter₂ (compEnvC scope cl C env)) (fun xv s' => ∃ tk' ax₂ its₂, s' = { s₂ with heap := h, toks := tk' } ∧ xv = .ref ax₂ ∧ SrcAt h₀ ax₂ its₂ nw ∧ J₂ i ax₂ its₂ 0 ys nw) E' { s₂ with heap := h, toks := tk })
    (inner : ∀ i v ax₂ its₂ j v₂ I₂ oI₂ I oI C oC D m₂ h tk ys nw E', its[i]? = some v → its₂[j]? = some v₂ → J₂ i ax₂ its₂ j ys nw → NsObj oC m₂ → m₂ x = some v → m₂ y = some v₂ → Fr h₀ L h m →
      News h₀ L h ([(I₂, oI₂), (C, oC), (D, lst ys), (I, oI)] ++ nw) → (∀ p ∈ nw, ∀ q ∈ [(I₂, oI₂), (C, oC), (D, lst ys), (I, oI)], p.1 ≠ q.1) →
      wpAny (model prog w) A (eval elt (compEnvC scope cl C env)) (EndF h₀ L m { s₂ with heap := h, toks := tk } [(I₂, oI₂), (C, oC), (D, lst ys), (I, oI)] (fun yv nw' => J₂ i ax₂ its₂ (j + 1) (ys ++ [yv]) nw')) E' { s₂ with heap := h, toks := tk })
    (hRR : ∀ D C h tk m' ys news', Fr h₀ L h m → News h₀ L h ((D, lst ys) :: news') → Off1 D news' → h.Ns C m' → h₀.get? C = none → h₀.get? D = none → C ≠ L → D ≠ L → C ≠ D → (∀ p ∈ news', p.1 ≠ C) → J its.size ys news' → RR (.ref D) C (.ok .next) { s₂ with heap := h, toks := tk })
    (hs : ∀ x C, foldedSetIterable iter₂ (compEnvC scope cl C env) x = pure x := by intro _ _; rfl) :
    wpAny (model prog w) A (pyIter (.ref ax)) (fun it s₃ => wpAny (model prog w) A (newList []) (fun acc s₃ => wpAny (model prog w) A (newFunctionEnv scope env.globals cl [] env.qual none .none (some env)) (fun cenv s₄ =>
      codeAny (model prog w) A (.compStart (.ListComp elt [⟨.Name x px, iter₁, [], 0⟩, ⟨.Name y py, iter₂, [], 0⟩] scope pos) 0 it acc { cenv with scope := relabel scope env }) (RR acc cenv.locals) s₄) E s₃) E s₃) E s₂ := by
  have hl := (hS _ _ _ h0).list F.keep N
  have hlt : ax < s₂.heap.objs.size := by obtain ⟨_, e, _⟩ := hl; exact Heap.lt_size e
  refine wpAny_pyIter_list hl ?_
  refine wpAny_newObj_type (wpAny_newFunctionEnv hcell (by intro y hy; simp at hy) (fun h₁ hns₁ hsb₁ => ?_) hkind)
  dsimp only at hns₁ hsb₁ ⊢
  generalize hH1 : s₂.heap.push { cls := .type "list_iterator", data := .fields #[.ref ax, .int 0 0] } = H1 at hns₁ hsb₁ ⊢
  generalize hH2 : H1.push { cls := .type "list", dict := none, data := .seq ([] : List Value).toArray } = H2 at hns₁ hsb₁ ⊢
  have hD : H1.objs.size = s₂.heap.objs.size + 1 := by rw [← hH1, Heap.size_push]
  have hC : H2.objs.size = s₂.heap.objs.size + 2 := by rw [← hH2, Heap.size_push, hD]
  have hA1 : ∃ z : Nat, z = s₂.heap.objs.size := ⟨_, rfl⟩
  obtain ⟨z, hz⟩ := hA1
  have old : ∀ b o, s₂.heap.get? b = some o → h₁.get? b = some o := fun b o e => hsb₁.extBut b o (by rw [hC]; exact Nat.ne_of_lt (Nat.lt_of_lt_of_le (Heap.lt_size e) (Nat.le_add_right _ 2))) (Heap.get?_push_of_some _ (hH2 ▸ Heap.get?_push_of_some _ (hH1 ▸ Heap.get?_push_of_some _ e)))
  have hacc : h₁.get? H1.objs.size = some (lst []) := hsb₁.extBut _ _ (by rw [hC, hD]; show s₂.heap.objs.size + 1 ≠ s₂.heap.objs.size + 2; omega) (Heap.get?_push_of_some _ (hH2 ▸ Heap.get?_push_size _ rfl))
  have hitr : h₁.get? s₂.heap.objs.size = some { cls := .type "list_iterator", data := .fields #[.ref ax, .int 0 0] } :=
    hsb₁.extBut _ _ (by rw [hC]; show s₂.heap.objs.size ≠ s₂.heap.objs.size + 2; omega) (Heap.get?_push_of_some _ (hH2 ▸ Heap.get?_push_of_some _ (hH1 ▸ Heap.get?_push_size _ rfl)))
  have fresh₀ : ∀ a, s₂.heap.objs.size ≤ a → h₀.get? a = none := fun a ha => by
    cases e : h₀.get? a with
    | none => rfl
    | some o' => exact absurd (Heap.lt_size (F.keep a o' e)) (Nat.not_lt.mpr ha)
  have hI₀ : h₀.get? s₂.heap.objs.size = none := fresh₀ _ (Nat.le_refl _)
  have hD₀ : h₀.get? H1.objs.size = none := fresh₀ _ (by rw [hD]; exact Nat.le_succ _)
  have hC₀ : h₀.get? H2.objs.size = none := fresh₀ _ (by rw [hC]; exact Nat.le_add_right _ 2)
  have hLlt : L < s₂.heap.objs.size := F.ns.lt
  generalize hI : s₂.heap.objs.size = I at *
  generalize hDe : H1.objs.size = D at *
  generalize hCe : H2.objs.size = C at *
  have hIL : L ≠ I := Nat.ne_of_lt hLlt
  have hDL : D ≠ L := by show D ≠ L; rw [hD]; exact Nat.ne_of_gt (Nat.lt_succ_of_lt hLlt)
  have hCL : C ≠ L := by rw [hC]; exact Nat.ne_of_gt (Nat.lt_of_lt_of_le hLlt (Nat.le_add_right _ 2))
  have hDC : D ≠ C := by rw [hC, hD]; exact Nat.ne_of_lt (Nat.lt_succ_self _)
  have hCI : I ≠ C := by rw [hC]; exact Nat.ne_of_lt (Nat.lt_add_of_pos_right (by decide))
  have hDI : I ≠ D := by rw [hD]; exact Nat.ne_of_lt (Nat.lt_succ_self _)
  have off₀ : Off3 I C D news := Off3.of fun p hp => by
    have h1 : p.1 < I := hI ▸ lt_new N p hp
    refine ⟨Nat.ne_of_lt h1, ?_, ?_⟩
    · rw [hC]; exact Nat.ne_of_lt (Nat.lt_of_lt_of_le h1 (Nat.le_add_right _ 2))
    · rw [hD]; exact Nat.ne_of_lt (Nat.lt_succ_of_lt h1)
  have Wl : ∀ (A' : Around), A'.handled = none → ∀ (I ax : Addr), ax ≠ I → ∀ its, Walks prog w A' I [I, ax] [I] its.size (fun i v => its[i]? = some v) (fun i h => h.IsListIter I ax i ∧ h.IsList ax its) := fun A' hA' I ax hne its => Walks.list hA' I ax hne its
  have hst₁ : h₁.IsListIter I ax 0 ∧ h₁.IsList ax its := ⟨⟨_, hitr, rfl, rfl⟩, hl.at fun o e => old _ _ e⟩
  have axI : ax ≠ I := Nat.ne_of_lt hlt
  have W := Wl A hh I ax axI its
  have loop : ∀ s₃ : Shared, s₃ = { s₂ with heap := h₁, toks := s₂.toks + ([] : List (Str × Value)).length } →
      codeAny (model prog w) A (.compLoop (.ListComp elt [⟨.Name x px, iter₁, [], 0⟩, ⟨.Name y py, iter₂, [], 0⟩] scope pos) 0 (.ref I) (.ref D) (compEnvC scope cl C env)) (RR (.ref D) C) s₃ := by
    rintro s₃ rfl
    refine codeAny_compLoop_out
      (fun k s' => ∃ h' tk i ys m' news', s' = { s₂ with heap := h', toks := tk } ∧ i ≤ its.size ∧ k = its.size + 1 - i ∧ (h'.IsListIter I ax i ∧ h'.IsList ax its) ∧ Fr h₀ L h' m ∧ h'.Ns C m' ∧ News h₀ L h' ((D, lst ys) :: news') ∧
        Off3 I C D news' ∧ J i ys news') hh ?_ (its.size + 1)
      ⟨h₁, _, 0, [], _, news, rfl, Nat.zero_le _, rfl, hst₁, F.keeps old, hns₁, fun p hp => ?_, off₀, h0⟩ (hs := fun x => hs x C)
    · rintro k s' E₁ hz3
      refine hide fun G hG => ?_
      obtain ⟨h', tk, i, ys, m', news', rfl, hi, rfl, hst', F', hn', N', off', hJ'⟩ := hz3
      refine hG ?_
      clear hG G
      by_cases hlt' : i < its.size
      · refine W.item i _ _ _ hlt' hst' fun v h₂ tk₂ hPv hst₂ hk₂ => ?_
        refine wpAny_assign_Name (wpAny_storeName_local (lookup_relabel_local hx) (hn'.at' fun o e => hk₂ _ o (by simpa using Ne.symm hCI) e) (fun h₃ hn₃ hs₃ => ?_) (by simp [compEnvC, relabel, hkind]))
        have off3 := off'.mem
        have F₃ : Fr h₀ L h₃ m := (fr_but F' hk₂ hIL hI₀).change hs₃ hCL hC₀
        have N₂ : News h₀ L h₂ ((D, lst ys) :: news') := news_but N' hk₂ fun p hp => by
          rcases List.mem_cons.mp hp with rfl | hp
          · exact Ne.symm hDI
          · exact (off3 p hp).1
        refine hide fun G hG => ?_
        obtain ⟨oI, heI, hcI, hdI⟩ := hst₂.1
        refine hG ?_
        clear hG G
        have heI₃ : h₃.get? I = some oI := hs₃.extBut _ _ hCI heI
        obtain ⟨oC, heC, hoC⟩ := ns_obj hn₃
        have N₃ : News h₀ L h₃ ((I, oI) :: (C, oC) :: (D, lst ys) :: news') := fun p hp => by
          rcases List.mem_cons.mp hp with rfl | hp
          · exact ⟨heI₃, Ne.symm hIL, hI₀⟩
          · rcases List.mem_cons.mp hp with rfl | hp
            · exact ⟨heC, hCL, hC₀⟩
            · have z := N₂ p hp
              refine ⟨hs₃.extBut _ _ ?_ z.1, z.2⟩
              rcases List.mem_cons.mp hp with rfl | hp
              · exact hDC
              · exact (off3 p hp).2.1
        refine wpAny_mono (outer i v I oI C oC D _ h₃ _ ys news' E₁ hPv hJ' hoC (by simp) F₃ N₃ off') (fun xv s₄ h₄ => ?_) fun _ _ e => e
        refine hide fun G hG => ?_
        obtain ⟨tk₄, ax₂, its₂, rfl, rfl, hsrc, hJ₂⟩ := h₄
        refine hG ?_
        clear hG G
        have N₃' : News h₀ L h₃ news' := fun p hp => N₃ p (.tail _ (.tail _ (.tail _ hp)))
        have hl₂ := hsrc.list F₃.keep N₃'
        have hlt₂ : ax₂ < h₃.objs.size := by obtain ⟨_, e, _⟩ := hl₂; exact Heap.lt_size e
        refine wpAny_pyIter_list hl₂ ?_
        dsimp only
        generalize hH4 : h₃.push { cls := .type "list_iterator", data := .fields #[.ref ax₂, .int 0 0] } = h₄
        have up4 : ∀ b o, h₃.get? b = some o → h₄.get? b = some o := fun b o e => hH4 ▸ Heap.get?_push_of_some _ e
        have itr4 : h₄.get? h₃.objs.size = some { cls := .type "list_iterator", data := .fields #[.ref ax₂, .int 0 0] } := hH4 ▸ Heap.get?_push_size _ rfl
        have lt3 := lt_new N₃
        have hI2₀ : h₀.get? h₃.objs.size = none := by
          cases e : h₀.get? h₃.objs.size with
          | none => rfl
          | some o' => exact absurd (Heap.lt_size (F₃.keep _ o' e)) (Nat.lt_irrefl _)
        have hL3 : L < h₃.objs.size := F₃.ns.lt
        generalize hI2 : h₃.objs.size = I₂ at *
        have ne1 : I ≠ I₂ := Nat.ne_of_lt (lt3 _ List.mem_cons_self)
        have ne2 : C ≠ I₂ := Nat.ne_of_lt (lt3 (C, oC) (List.mem_cons_of_mem _ List.mem_cons_self))
        have ne3 : D ≠ I₂ := Nat.ne_of_lt (lt3 (D, lst ys) (List.mem_cons_of_mem _ (List.mem_cons_of_mem _ List.mem_cons_self)))
        have ne4 : L ≠ I₂ := Nat.ne_of_lt hL3
        have off4 : ∀ p ∈ news', p.1 ≠ I₂ := fun p hp => Nat.ne_of_lt (lt3 p (.tail _ (.tail _ (.tail _ hp))))
        have W₂ := Wl A hh I₂ ax₂ (Nat.ne_of_lt hlt₂) its₂
        have hst₄ : h₄.IsListIter I₂ ax₂ 0 ∧ h₄.IsList ax₂ its₂ := ⟨⟨_, itr4, rfl, rfl⟩, hl₂.at fun o e => up4 _ _ e⟩
        have loop₂ : ∀ s₃ : Shared, s₃ = { s₂ with heap := h₄, toks := tk₄ } →
            codeAny (model prog w) A (.compLoop (.ListComp elt [⟨.Name x px, iter₁, [], 0⟩, ⟨.Name y py, iter₂, [], 0⟩] scope pos) 1 (.ref I₂) (.ref D) (compEnvC scope cl C env))
              (fun r s₅ => ∃ f, r = .ok f ∧ ∃ m_1, m_1 < its.size + 1 - i ∧ ∃ h' tk i ys m' news', s₅ = { s₂ with heap := h', toks := tk } ∧ i ≤ its.size ∧ m_1 = its.size + 1 - i ∧ (h'.IsListIter I ax i ∧ h'.IsList ax its) ∧ Fr h₀ L h' m ∧ h'.Ns C m' ∧ News h₀ L h' ((D, lst ys) :: news') ∧
                Off3 I C D news' ∧ J i ys news') s₃ := by
          rintro s₃ rfl
          refine codeAny_compLoop_in
            (fun k s' => ∃ h' tk j ys m'' nw, s' = { s₂ with heap := h', toks := tk } ∧ j ≤ its₂.size ∧ k = its₂.size + 1 - j ∧ (h'.IsListIter I₂ ax₂ j ∧ h'.IsList ax₂ its₂) ∧ Fr h₀ L h' m ∧ h'.Ns C m'' ∧ m'' x = some v ∧ News h₀ L h' ((D, lst ys) :: (I, oI) :: nw) ∧
              (∀ p ∈ nw, p.1 ≠ I₂ ∧ p.1 ≠ C ∧ p.1 ≠ D ∧ p.1 ≠ I) ∧ J₂ i ax₂ its₂ j ys nw) ?_ (its₂.size + 1)
            ⟨h₄, _, 0, ys, _, news', rfl, Nat.zero_le _, rfl, hst₄, F₃.keeps up4, hn₃.keeps up4, by simp, fun p hp => ?_, fun p hp => ⟨off4 p hp, (off3 p hp).2.1, (off3 p hp).2.2, (off3 p hp).1⟩, hJ₂⟩
          · rintro k s' E₂ hz3
            refine hide fun G hG => ?_
            obtain ⟨h₅, tk₅, j, ys₅, m₅, nw₅, rfl, hj, rfl, hst₅, F₅, hn₅, hm₅, N₅, off₅, hJ₅⟩ := hz3
            refine hG ?_
            clear hG G
            by_cases hlt5 : j < its₂.size
            · refine W₂.item j _ _ _ hlt5 hst₅ fun v₂ h₆ tk₆ hPv₂ hst₆ hk₆ => ?_
              refine wpAny_assign_Name (wpAny_storeName_local (lookup_relabel_local hy) (hn₅.at' fun o e => hk₆ _ o (by simpa using ne2) e) (fun h₇ hn₇ hs₇ => ?_) (by simp [compEnvC, relabel, hkind]))
              have F₇ : Fr h₀ L h₇ m := (fr_but F₅ hk₆ ne4 hI2₀).change hs₇ hCL hC₀
              have N₆ : News h₀ L h₆ ((D, lst ys₅) :: (I, oI) :: nw₅) := news_but N₅ hk₆ fun p hp => by
                rcases List.mem_cons.mp hp with rfl | hp
                · exact ne3
                · rcases List.mem_cons.mp hp with rfl | hp
                  · exact ne1
                  · exact (off₅ p hp).1
              refine hide fun G hG => ?_
              obtain ⟨oI₂, heI₂, hcI₂, hdI₂⟩ := hst₆.1
              refine hG ?_
              clear hG G
              have heI₇ : h₇.get? I₂ = some oI₂ := hs₇.extBut _ _ (Ne.symm ne2) heI₂
              obtain ⟨oC₇, heC₇, hoC₇⟩ := ns_obj hn₇
              have N₇ : News h₀ L h₇ ([(I₂, oI₂), (C, oC₇), (D, lst ys₅), (I, oI)] ++ nw₅) := fun p hp => by
                rcases List.mem_cons.mp hp with rfl | hp
                · exact ⟨heI₇, Ne.symm ne4, hI2₀⟩
                · rcases List.mem_cons.mp hp with rfl | hp
                  · exact ⟨heC₇, hCL, hC₀⟩
                  · have z := N₆ p hp
                    refine ⟨hs₇.extBut _ _ ?_ z.1, z.2⟩
                    rcases List.mem_cons.mp hp with rfl | hp
                    · exact hDC
                    · rcases List.mem_cons.mp hp with rfl | hp
                      · exact hCI
                      · exact (off₅ p hp).2.1
              have offF : ∀ p ∈ nw₅, ∀ q ∈ [(I₂, oI₂), (C, oC₇), (D, lst ys₅), (I, oI)], p.1 ≠ q.1 := fun p hp q hq => by
                have o := off₅ p hp
                simp only [List.mem_cons, List.not_mem_nil, or_false] at hq
                rcases hq with rfl | rfl | rfl | rfl
                · exact o.1
                · exact o.2.1
                · exact o.2.2.1
                · exact o.2.2.2
              have hmx : (fun z => if z = y then some v₂ else m₅ z) x = some v := by simp [hxy, hm₅]
              refine wpAny_mono (inner i v ax₂ its₂ j v₂ I₂ oI₂ I oI C oC₇ D _ h₇ _ ys₅ nw₅ E₂ hPv hPv₂ hJ₅ hoC₇ hmx (by simp) F₇ N₇ offF) (fun yv s₈ h₈ => ?_) fun _ _ e => e
              refine hide fun G hG => ?_
              obtain ⟨h₈, tk₈, nw₈, rfl, F₈, N₈, off₈, hJ₈⟩ := h₈
              refine hG ?_
              clear hG G
              have zI2 := (N₈ (I₂, oI₂) List.mem_cons_self).1
              have zC := (N₈ (C, oC₇) (.tail _ List.mem_cons_self)).1
              have zD := (N₈ (D, lst ys₅) (.tail _ (.tail _ List.mem_cons_self))).1
              have zI := (N₈ (I, oI) (.tail _ (.tail _ (.tail _ List.mem_cons_self)))).1
              have N₈' : News h₀ L h₈ nw₈ := fun p hp => N₈ p (.tail _ (.tail _ (.tail _ (.tail _ hp))))
              have hS8 := hS2 _ _ _ _ _ _ hJ₈
              have hl8 := hS8.2.1.list F₈.keep N₈'
              have off8 : ∀ p ∈ nw₈, p.1 ≠ I₂ ∧ p.1 ≠ C ∧ p.1 ≠ D ∧ p.1 ≠ I := fun p hp =>
                ⟨off₈ p hp _ List.mem_cons_self, off₈ p hp _ (.tail _ List.mem_cons_self), off₈ p hp _ (.tail _ (.tail _ List.mem_cons_self)), off₈ p hp _ (.tail _ (.tail _ (.tail _ List.mem_cons_self)))⟩
              refine append_at (hsz := by show ys₅.toArray.size ≤ sizeLine; rw [List.size_toArray]; exact (hS2 _ _ _ _ _ _ hJ₅).2.2) zD fun h₉ hs₉ hD₉ => ?_
              refine ⟨its₂.size + 1 - (j + 1), by omega, h₉, tk₈, j + 1, ys₅ ++ [yv], _, nw₈, rfl, hlt5, rfl, ?_, F₈.change hs₉ hDL hD₀, (hoC₇.ns zC).sameBut hs₉ (Ne.symm hDC), hmx, fun p hp => ?_, off8, hJ₈⟩
              · refine ⟨⟨oI₂, hs₉.extBut _ _ (Ne.symm ne3) zI2, hcI₂, hdI₂⟩, ?_⟩
                obtain ⟨o, e, r⟩ := hl8
                refine ⟨o, hs₉.extBut _ _ ?_ e, r⟩
                rintro rfl
                rcases hS8.2.1 with hb | ⟨o', hm', _⟩
                · obtain ⟨o', e', _⟩ := hb; rw [hD₀] at e'; cases e'
                · exact (off8 _ hm').2.2.1 rfl
              · rcases List.mem_cons.mp hp with rfl | hp
                · exact ⟨hD₉.trans (congrArg some (lst_snoc ys₅ yv)), hDL, hD₀⟩
                · rcases List.mem_cons.mp hp with rfl | hp
                  · exact ⟨hs₉.extBut _ _ hDI zI, Ne.symm hIL, hI₀⟩
                  · exact ⟨hs₉.extBut _ _ (off8 p hp).2.2.1 (N₈' p hp).1, (N₈' p hp).2⟩
            · obtain rfl : j = its₂.size := Nat.le_antisymm hj (Nat.not_lt.mp hlt5)
              refine W₂.done _ _ _ hst₅ fun h₆ tk₆ hk₆ => ?_
              have F₆ := fr_but F₅ hk₆ ne4 hI2₀
              have N₆ : News h₀ L h₆ ((D, lst ys₅) :: (I, oI) :: nw₅) := news_but N₅ hk₆ fun p hp => by
                rcases List.mem_cons.mp hp with rfl | hp
                · exact ne3
                · rcases List.mem_cons.mp hp with rfl | hp
                  · exact ne1
                  · exact (off₅ p hp).1
              have hJn := hfin _ _ _ _ _ hJ₅
              have Nn : News h₀ L h₆ nw₅ := fun p hp => N₆ p (.tail _ (.tail _ hp))
              refine ⟨_, rfl, its.size + 1 - (i + 1), by omega, h₆, tk₆, i + 1, ys₅, _, nw₅, rfl, hlt', rfl, ⟨⟨oI, (N₆ _ (.tail _ List.mem_cons_self)).1, hcI, hdI⟩, (hS _ _ _ hJn).list F₆.keep Nn⟩, F₆, hn₅.at' fun o e => hk₆ _ o (by simpa using ne2) e, fun p hp => ?_,
                Off3.of fun p hp => ⟨(off₅ p hp).2.2.2, (off₅ p hp).2.1, (off₅ p hp).2.2.1⟩, hJn⟩
              rcases List.mem_cons.mp hp with rfl | hp
              · exact N₆ _ List.mem_cons_self
              · exact Nn p hp
          · rcases List.mem_cons.mp hp with rfl | hp
            · have z := N₃ (D, lst ys) (.tail _ (.tail _ List.mem_cons_self))
              exact ⟨up4 _ _ z.1, z.2⟩
            · rcases List.mem_cons.mp hp with rfl | hp
              · exact ⟨up4 _ _ heI₃, Ne.symm hIL, hI₀⟩
              · exact ⟨up4 _ _ (N₃' p hp).1, (N₃' p hp).2⟩
        exact codeAny_compStart_in (loop₂ _ rfl) fun E' => W₂.self 0 _ _ _ hst₄ (loop₂ _ rfl)
      · obtain rfl : i = its.size := Nat.le_antisymm hi (Nat.not_lt.mp hlt')
        refine W.done _ _ _ hst' fun h₂ tk₂ hk₂ => ?_
        have off3 := off'.mem
        exact hRR _ _ h₂ tk₂ _ ys news' (fr_but F' hk₂ hIL hI₀) (news_but N' hk₂ fun p hp => by
          rcases List.mem_cons.mp hp with rfl | hp
          · exact Ne.symm hDI
          · exact (off3 p hp).1) off'.one (hn'.at' fun o e => hk₂ _ o (by simpa using Ne.symm hCI) e) hC₀ hD₀ hCL hDL (Ne.symm hDC) (fun p hp => (off3 p hp).2.1) hJ'
    · rcases List.mem_cons.mp hp with rfl | hp
      · exact ⟨hacc, hDL, hD₀⟩
      · exact ⟨old _ _ (N p hp).1, (N p hp).2⟩
  exact codeAny_compStart_list (loop _ rfl) (W.self 0 _ _ _ hst₁ (loop _ rfl))

theorem Assign_ListComp_2 {elt iter₁ iter₂ : Expr} {x y z : Str} {px py pz : Pos} {scope : Scope} {cl : List (Str × Addr)} {pos spos : Pos} {s : Shared} {Q : Flow → Shared → Prop}
    (J : Nat → List Value → Led → Prop) (J₂ : Nat → Addr → Array Value → Nat → List Value → Led → Prop) (hLe : env.locals = L)
    (hsw : swapsWith (.ListComp elt [⟨.Name x px, iter₁, [], 0⟩, ⟨.Name y py, iter₂, [], 0⟩] scope pos) (some (.Name z pz)) spos.line env = pure true)
    (hh : A.handled = none) (hclos : closureFor scope env = pure cl) (hcell : ∀ y ∈ scope.names, y.2 ≠ .cell) (hkind : scope.kind = .function) (hx : scope.names.lookup x = some .local) (hy : scope.names.lookup y = some .local) (hxy : x ≠ y)
    (hnames : ∀ z ∈ scope.names, z.2 = .local → scope.names.lookup z.1 = some .local)
    (hz : env.kindOf z = some .local) (hp : (env.scope.kind == .class || (env.scope.kind == .module && env.locals != env.globals)) = false)
    (h : wpAny (model prog w) A (eval iter₁ env) (fun xv s₂ => Stop (∃ ax its news, xv = .ref ax ∧ Fr h₀ L s₂.heap m ∧ News h₀ L s₂.heap news ∧
      (∀ i ys nw, J i ys nw → SrcAt h₀ ax its nw) ∧ (∀ i ax₂ its₂ j ys nw, J₂ i ax₂ its₂ j ys nw → SrcAt h₀ ax its nw ∧ SrcAt h₀ ax₂ its₂ nw ∧ ys.length ≤ sizeLine) ∧
      J 0 [] news ∧ (∀ i ax₂ its₂ ys nw, J₂ i ax₂ its₂ its₂.size ys nw → J (i + 1) ys nw) ∧
      (∀ i v I oI C oC D m₂ h tk ys nw E', its[i]? = some v → J i ys nw → NsObj oC m₂ → m₂ x = some v → Fr h₀ L h m → News h₀ L h ((I, oI) :: (C, oC) :: (D, lst ys) :: nw) → Off3 I C D nw →
        wpAny (model prog w) A (eval iter₂ (compEnvC scope cl C env)) (fun xv s' => ∃ tk' ax₂ its₂, s' = { s₂ with heap := h, toks := tk' } ∧ xv = .ref ax₂ ∧ SrcAt h₀ ax₂ its₂ nw ∧ J₂ i ax₂ its₂ 0 ys nw) E' { s₂ with heap := h, toks := tk }) ∧
      (∀ i v ax₂ its₂ j v₂ I₂ oI₂ I oI C oC D m₂ h tk ys nw E', its[i]? = some v → its₂[j]? = some v₂ → J₂ i ax₂ its₂ j ys nw → NsObj oC m₂ → m₂ x = some v → m₂ y = some v₂ → Fr h₀ L h m →
        News h₀ L h ([(I₂, oI₂), (C, oC), (D, lst ys), (I, oI)] ++ nw) → (∀ p ∈ nw, ∀ q ∈ [(I₂, oI₂), (C, oC), (D, lst ys), (I, oI)], p.1 ≠ q.1) →
        wpAny (model prog w) A (eval elt (compEnvC scope cl C env)) (EndF h₀ L m { s₂ with heap := h, toks := tk } [(I₂, oI₂), (C, oC), (D, lst ys), (I, oI)] (fun yv nw' => J₂ i ax₂ its₂ (j + 1) (ys ++ [yv]) nw')) E' { s₂ with heap := h, toks := tk }) ∧
      (∀ D h tk ys news', Fr h₀ L h (fun u => if u = z then some (.ref D) else m u) → News h₀ L h ((D, lst ys) :: news') → Off1 D news' → J its.size ys news' → Q .next { s₂ with heap := h, toks := tk }))) E s)
    (hs : ∀ x, foldedSetIterable iter₁ env x = pure x := by intro _; rfl)
    (hs2 : ∀ x C, foldedSetIterable iter₂ (compEnvC scope cl C env) x = pure x := by intro _ _; rfl) :
    wpAny (model prog w) A (exec (.Assign [.Name z pz] (.ListComp elt [⟨.Name x px, iter₁, [], 0⟩, ⟨.Name y py, iter₂, [], 0⟩] scope pos) spos) env) Q E s := by
  subst hLe
  rw [exec_Assign_Name_used _ _ _ _ hsw]
  refine wpAny_bind (wpAny_standAt (wpAny_bind ?_))
  show wpAny _ A (do let _ ← comprehension (.ListComp elt [⟨.Name x px, iter₁, [], 0⟩, ⟨.Name y py, iter₂, [], 0⟩] scope pos) scope env _ (newList []) false (eval iter₁ env) (some (assign (.Name z pz) env))) _ _ s
  refine wpAny_bind (wpAny_mono (wpAny_comprehension_free (use := some (assign (.Name z pz) env)) (Q := fun _ s' => Q .next s') rfl hs hclos hkind hnames
    (wpAny_mono h (fun xv s₂ h₁ => ?_) fun _ _ e => e)) (fun _ s' hq => wpAny_pure (wpAny_pure hq)) fun _ _ e => e)
  refine hide fun G hG => ?_
  obtain ⟨ax, its, news, rfl, F, N, hS, hS2, h0, hfin, outer, inner, hQ⟩ := h₁
  refine hG ?_
  clear hG G
  refine block_2 J J₂ hh hcell hkind hx hy hxy F N hS hS2 h0 hfin outer inner ?_ hs2
  intro D C h' tk m' ys news' F' N' o1 hn hC₀ hD₀ hCL hDL hCD offC fin
  show wpAny _ A (assign (.Name z pz) env (.ref D)) _ _ _
  refine wpAny_assign_Name (wpAny_storeName_local hz F'.ns (fun h₂ hn₂ hs₂ => ?_) hp)
  have hL₀ : h₀.get? env.locals = none := Heap.get?_none_of_le F'.above
  have F₂ : Fr h₀ env.locals h₂ (fun u => if u = z then some (.ref D) else m u) := ⟨hn₂, fun b o e => hs₂.extBut b o (fun q => by rw [q, hL₀] at e; cases e) (F'.keep b o e), F'.above⟩
  refine ⟨m', hn.sameBut hs₂ hCL, fun h'' hs'' => hQ D h'' _ ys news' (F₂.change hs'' hCL hC₀) (fun p hp => ?_) o1 fin⟩
  have zz : h₂.get? p.1 = some p.2 := hs₂.extBut _ _ (N' p hp).2.1 (N' p hp).1
  refine ⟨hs''.extBut _ _ ?_ zz, (N' p hp).2⟩
  rcases List.mem_cons.mp hp with rfl | hp
  · exact Ne.symm hCD
  · exact offC p hp

theorem ListComp_2 {elt iter₁ iter₂ : Expr} {x y : Str} {px py : Pos} {scope : Scope} {cl : List (Str × Addr)} {pos : Pos} {s : Shared} {Q : Value → Shared → Prop}
    (_F₀ : Fr h₀ L s.heap m)
    (J : Nat → List Value → Led → Prop) (J₂ : Nat → Addr → Array Value → Nat → List Value → Led → Prop)
    (hh : A.handled = none) (hclos : closureFor scope env = pure cl) (hcell : ∀ y ∈ scope.names, y.2 ≠ .cell) (hkind : scope.kind = .function) (hx : scope.names.lookup x = some .local) (hy : scope.names.lookup y = some .local) (hxy : x ≠ y)
    (hnames : ∀ z ∈ scope.names, z.2 = .local → scope.names.lookup z.1 = some .local)
    (h : wpAny (model prog w) A (eval iter₁ env) (fun xv s₂ => Stop (∃ ax its news, xv = .ref ax ∧ Fr h₀ L s₂.heap m ∧ News h₀ L s₂.heap news ∧
      (∀ i ys nw, J i ys nw → SrcAt h₀ ax its nw) ∧ (∀ i ax₂ its₂ j ys nw, J₂ i ax₂ its₂ j ys nw → SrcAt h₀ ax its nw ∧ SrcAt h₀ ax₂ its₂ nw ∧ ys.length ≤ sizeLine) ∧
      J 0 [] news ∧ (∀ i ax₂ its₂ ys nw, J₂ i ax₂ its₂ its₂.size ys nw → J (i + 1) ys nw) ∧
      (∀ i v I oI C oC D m₂ h tk ys nw E', its[i]? = some v → J i ys nw → NsObj oC m₂ → m₂ x = some v → Fr h₀ L h m → News h₀ L h ((I, oI) :: (C, oC) :: (D, lst ys) :: nw) → Off3 I C D nw →
        wpAny (model prog w) A (eval iter₂ (compEnvC scope cl C env)) (fun xv s' => ∃ tk' ax₂ its₂, s' = { s₂ with heap := h, toks := tk' } ∧ xv = .ref ax₂ ∧ SrcAt h₀ ax₂ its₂ nw ∧ J₂ i ax₂ its₂ 0 ys nw) E' { s₂ with heap := h, toks := tk }) ∧
      (∀ i v ax₂ its₂ j v₂ I₂ oI₂ I oI C oC D m₂ h tk ys nw E', its[i]? = some v → its₂[j]? = some v₂ → J₂ i ax₂ its₂ j ys nw → NsObj oC m₂ → m₂ x = some v → m₂ y = some v₂ → Fr h₀ L h m →
        News h₀ L h ([(I₂, oI₂), (C, oC), (D, lst ys), (I, oI)] ++ nw) → (∀ p ∈ nw, ∀ q ∈ [(I₂, oI₂), (C, oC), (D, lst ys), (I, oI)], p.1 ≠ q.1) →
        wpAny (model prog w) A (eval elt (compEnvC scope cl C env)) (EndF h₀ L m { s₂ with heap := h, toks := tk } [(I₂, oI₂), (C, oC), (D, lst ys), (I, oI)] (fun yv nw' => J₂ i ax₂ its₂ (j + 1) (ys ++ [yv]) nw')) E' { s₂ with heap := h, toks := tk }) ∧
      (∀ D h tk ys news', Fr h₀ L h m → News h₀ L h ((D, lst ys) :: news') → Off1 D news' → J its.size ys news' → Q (.ref D) { s₂ with heap := h, toks := tk }))) E s)
    (hs : ∀ x, foldedSetIterable iter₁ env x = pure x := by intro _; rfl)
    (hs2 : ∀ x C, foldedSetIterable iter₂ (compEnvC scope cl C env) x = pure x := by intro _ _; rfl) :
    wpAny (model prog w) A (eval (.ListComp elt [⟨.Name x px, iter₁, [], 0⟩, ⟨.Name y py, iter₂, [], 0⟩] scope pos) env) Q E s := by
  rw [eval_ListComp]
  refine wpAny_comprehension_free (use := none) rfl hs hclos hkind hnames (wpAny_mono h (fun xv s₂ h₁ => ?_) fun _ _ e => e)
  refine hide fun G hG => ?_
  obtain ⟨ax, its, news, rfl, F, N, hS, hS2, h0, hfin, outer, inner, hQ⟩ := h₁
  refine hG ?_
  clear hG G
  refine block_2 J J₂ hh hcell hkind hx hy hxy F N hS hS2 h0 hfin outer inner ?_ hs2
  intro D C h' tk m' ys news' F' N' o1 hn hC₀ hD₀ hCL hDL hCD offC fin
  refine ⟨m', hn, fun h'' hs'' => hQ D h'' tk ys news' (F'.change hs'' hCL hC₀) (fun p hp => ?_) o1 fin⟩
  refine ⟨hs''.extBut _ _ ?_ (N' p hp).1, (N' p hp).2⟩
  rcases List.mem_cons.mp hp with rfl | hp
  · exact Ne.symm hCD
  · exact offC p hp
end
end Mine
end

section
open PySem PySem.W PyProof.Rows PySem.Calls PySem.Spec
set_option Elab.async false
set_option maxRecDepth 100000
set_option maxHeartbeats 8000000
namespace Mine
theorem offLoops : True := by
  w_top off
  trivial
open LCg

def TurnEnd (h₀ : Heap) (L : Addr) (s₁ : Shared) (I : Addr) (oI : Obj) (J : (Str → Option Value) → Led → Prop) (Q : Flow → Shared → Prop) (f : Flow) (s₂ : Shared) : Prop :=
  match f with
  | .ret v => Q (.ret v) s₂
  | .brk => Q .next s₂
  | _ => ∃ h' tk m' nw', s₂ = { s₁ with heap := h', toks := tk } ∧ Fr h₀ L h' m' ∧ News h₀ L h' ((I, oI) :: nw') ∧ (∀ p ∈ nw', p.1 ≠ I) ∧ J m' nw'
theorem TurnEnd.intro {h₀ : Heap} {L : Addr} {s₁ : Shared} {I : Addr} {oI : Obj} {J : (Str → Option Value) → Led → Prop} {Q : Flow → Shared → Prop} {h' : Heap} {tk : Nat} {m' : Str → Option Value} {all : Led} (nw' : Led)
    (F : Fr h₀ L h' m') (N : News h₀ L h' all) (sub : ∀ p ∈ (I, oI) :: nw', p ∈ all) (off : ∀ p ∈ nw', p.1 ≠ I) (hJ : J m' nw') : TurnEnd h₀ L s₁ I oI J Q .next { s₁ with heap := h', toks := tk } :=
  ⟨h', tk, m', nw', rfl, F, fun p hp => N p (sub p hp), off, hJ⟩

section
variable {prog : Program} {w : World} {A : Around} {h₀ : Heap} {env : Env}

theorem forLoop_walk {R : Result → Shared → Prop} {Q : Flow → Shared → Prop} {x : Str} {px : Pos} {body : List Stmt} {I : Addr} {fp : List Addr} {n : Nat} {P : Nat → Value → Prop} {St : Nat → Heap → Prop} {m : Str → Option Value} {news : Led} {s : Shared}
    (J : Nat → (Str → Option Value) → Led → Prop) (W : Walks prog w A I fp [I] n P St) (hIo : ∀ i h, St i h → ∃ o, h.get? I = some o)
    (hSt : ∀ i h h' o m nw, St (i + 1) h → h.get? I = some o → h'.get? I = some o → (∀ b o, h₀.get? b = some o → h'.get? b = some o) → News h₀ env.locals h' nw → J (i + 1) m nw → St (i + 1) h')
    (hLf : env.locals ∉ fp) (hI₀ : h₀.get? I = none)
    (hst : St 0 s.heap) (F : Fr h₀ env.locals s.heap m) (N : News h₀ env.locals s.heap news) (off : ∀ p ∈ news, p.1 ≠ I) (h0 : J 0 m news)
    (turn : ∀ i v m₁ nw oI h tk, i < n → P i v → J i m₁ nw → Fr h₀ env.locals h m₁ → News h₀ env.locals h ((I, oI) :: nw) → (∀ p ∈ nw, p.1 ≠ I) →
      wpAny (model prog w) A (storeName env x v) (fun _ s₃ => wpAny (model prog w) A (execs body env) (TurnEnd h₀ env.locals { s with heap := h, toks := tk } I oI (J (i + 1)) Q) (fun _ _ => False) s₃) (fun _ _ => False) { s with heap := h, toks := tk })
    (done : ∀ m₁ nw h tk, J n m₁ nw → Fr h₀ env.locals h m₁ → News h₀ env.locals h nw → Q .next { s with heap := h, toks := tk })
    (hR : ∀ f s', Q f s' → R (.ok f) s') (hgo : ∀ v, letOwnedTupleGo (.Name x px) (.ref I) v = pure () := by intro _; rfl) :
    codeAny (model prog w) A (.forLoop (.Name x px) (.ref I) body [] env) R s := by
  have hIL : env.locals ≠ I := fun e => hLf (e ▸ W.sub I (List.mem_singleton.mpr rfl))
  have offI : ∀ {h h' : Heap} {m' nw}, Fr h₀ env.locals h m' → News h₀ env.locals h nw → (∀ p ∈ nw, p.1 ≠ I) → (∀ b o, b ∉ [I] → h.get? b = some o → h'.get? b = some o) → Fr h₀ env.locals h' m' ∧ News h₀ env.locals h' nw :=
    fun F N off hk => ⟨fr_but F hk hIL hI₀, news_but N hk off⟩
  refine codeAny_forLoop_any
    (fun k s' => ∃ h' tk m' nw i, s' = { s with heap := h', toks := tk } ∧ St i h' ∧ Fr h₀ env.locals h' m' ∧ News h₀ env.locals h' nw ∧ (∀ p ∈ nw, p.1 ≠ I) ∧ J i m' nw ∧ i ≤ n ∧ k = n + 1 - i) ?_ (n + 1)
    ⟨s.heap, s.toks, m, news, 0, rfl, hst, F, N, off, h0, Nat.zero_le _, rfl⟩
  rintro k s' hz2
  refine hide fun G hG => ?_
  obtain ⟨h', tk, m', nw, i, rfl, hst', F', N', off', hJ, hi, rfl⟩ := hz2
  refine hG ?_
  clear hG G
  by_cases hlt : i < n
  · refine W.item i _ _ _ hlt hst' fun v h₁ tk₁ hP hst₁ hk₁ => ?_
    obtain ⟨F₁, N₁⟩ := offI F' N' off' hk₁
    refine wpAny_of_eq (hgo v) ?_
    have hst₂ := hst₁
    obtain ⟨oI, hoI⟩ := hIo _ _ hst₂
    have N₂ : News h₀ env.locals h₁ ((I, oI) :: nw) := fun p hp => by
      rcases List.mem_cons.mp hp with rfl | hp
      · exact ⟨hoI, Ne.symm hIL, hI₀⟩
      · exact N₁ p hp
    refine wpAny_assign_Name (wpAny_mono (turn i v m' nw oI h₁ _ hlt hP hJ F₁ N₂ off') (fun _ s₂ h₂ => wpAny_mono h₂ (fun f s₃ h₃ => ?_) fun _ _ e => e.elim) fun _ _ e => e.elim)
    have fin : (∃ h' tk m' nw', s₃ = { s with heap := h', toks := tk } ∧ Fr h₀ env.locals h' m' ∧ News h₀ env.locals h' ((I, oI) :: nw') ∧ (∀ p ∈ nw', p.1 ≠ I) ∧ J (i + 1) m' nw') →
        ∃ m_1, m_1 < n + 1 - i ∧ ∃ h' tk m' nw i, s₃ = { s with heap := h', toks := tk } ∧ St i h' ∧ Fr h₀ env.locals h' m' ∧ News h₀ env.locals h' nw ∧ (∀ p ∈ nw, p.1 ≠ I) ∧ J i m' nw ∧ i ≤ n ∧ m_1 = n + 1 - i := by
      rintro hz0
      refine hide fun G hG => ?_
      obtain ⟨h₄, tk₄, m₄, nw₄, rfl, F₄, N₄, off₄, hJ₄⟩ := hz0
      refine hG ?_
      clear hG G
      have N₄' : News h₀ env.locals h₄ nw₄ := fun p hp => N₄ p (.tail _ hp)
      exact ⟨n + 1 - (i + 1), by omega, h₄, tk₄, m₄, nw₄, i + 1, rfl, hSt i h₁ h₄ oI m₄ nw₄ hst₂ hoI (N₄ _ List.mem_cons_self).1 F₄.keep N₄' hJ₄, F₄, N₄', off₄, hJ₄, hlt, rfl⟩
    cases f with
    | ret v => exact hR _ _ h₃
    | brk => exact hR _ _ h₃
    | next => exact fin h₃
    | cont => exact fin h₃
  · have hin : i = n := by omega
    subst hin
    refine W.done _ _ _ hst' fun h₁ tk₁ hk₁ => wpAny_execs_nil ?_
    obtain ⟨F₁, N₁⟩ := offI F' N' off' hk₁
    exact hR _ _ (done m' nw h₁ tk₁ hJ F₁ N₁)

/-- a for over a list of the ledger or of the part that stays -/
theorem For_lst {E : Value → Shared → Prop} {Q : Flow → Shared → Prop} {x : Str} {px pos : Pos} {iter : Expr} {body : List Stmt} {s : Shared} {L : Addr} (J : Nat → (Str → Option Value) → Led → Prop)
    (hL : env.locals = L) (hh : A.handled = none)
    (h : wpAny (model prog w) A (eval iter env) (fun xv s₂ => Stop (∃ ax its m news, xv = .ref ax ∧ Fr h₀ L s₂.heap m ∧ News h₀ L s₂.heap news ∧
      (∀ i m nw, J i m nw → SrcAt h₀ ax its nw) ∧ J 0 m news ∧
      (∀ i v m₁ nw I oI h tk, its[i]? = some v → J i m₁ nw → Fr h₀ L h m₁ → News h₀ L h ((I, oI) :: nw) → (∀ p ∈ nw, p.1 ≠ I) →
        wpAny (model prog w) A (storeName env x v) (fun _ s₃ => wpAny (model prog w) A (execs body env) (TurnEnd h₀ L { s₂ with heap := h, toks := tk } I oI (J (i + 1)) Q) (fun _ _ => False) s₃) (fun _ _ => False) { s₂ with heap := h, toks := tk }) ∧
      (∀ m₁ nw h tk, J its.size m₁ nw → Fr h₀ L h m₁ → News h₀ L h nw → Q .next { s₂ with heap := h, toks := tk }))) E s)
    (hs : ∀ x, foldedSetIterable iter env x = pure x := by intro _; rfl) :
    wpAny (model prog w) A (exec (.For (.Name x px) iter body [] pos) env) Q E s := by
  subst hL
  refine wpAny_For (wpAny_mono h (fun xv s₂ h₁ => ?_) fun _ _ e => e) hs
  refine hide fun G hG => ?_
  obtain ⟨ax, its, m, news, rfl, F, N, hS, h0, turn, done⟩ := h₁
  refine hG ?_
  clear hG G
  have hl := (hS _ _ _ h0).list F.keep N
  have hlt : ax < s₂.heap.objs.size := by obtain ⟨_, e, _⟩ := hl; exact Heap.lt_size e
  refine wpAny_pyIter_list hl ?_
  have up : ∀ b o, s₂.heap.get? b = some o → (s₂.heap.push { cls := .type "list_iterator", data := .fields #[.ref ax, .int 0 0] }).get? b = some o := fun b o e => Heap.get?_push_of_some _ e
  refine forLoop_walk (Q := Q) J (Walks.list hh s₂.heap.objs.size ax (Nat.ne_of_lt hlt) its) (fun i h st => by obtain ⟨o, e, _⟩ := st.1; exact ⟨o, e⟩)
    (fun i h h' o m nw st e e' k N' j => ⟨by obtain ⟨o', q, r⟩ := st.1; rw [e] at q; cases q; exact ⟨o, e', r⟩, (hS _ _ _ j).list k N'⟩) ?_ (next_is_new F) ⟨⟨_, Heap.get?_push_size _ rfl, rfl, rfl⟩, hl.push _⟩ (F.keeps up) (N.grown up)
    (fun p hp => Nat.ne_of_lt (Heap.lt_size (N p hp).1)) h0 (fun i v m₁ nw oI h tk _ hP => turn i v m₁ nw _ oI h tk hP) (fun m₁ nw h tk => done m₁ nw h tk) fun f s' hq => hq
  intro hm
  rcases List.mem_cons.mp hm with e | hm
  · exact Nat.lt_irrefl _ (e ▸ F.ns.lt)
  · rw [List.mem_singleton] at hm
    rcases hS _ _ _ h0 with ⟨o, e, _⟩ | ⟨o, hm', _⟩
    · rw [← hm, Heap.get?_none_of_le F.above] at e; cases e
    · exact (N _ hm').2.1 hm.symm

/-- a for over a range by ones -/
theorem For_rng {E : Value → Shared → Prop} {Q : Flow → Shared → Prop} {x : Str} {px pos : Pos} {iter : Expr} {body : List Stmt} {s : Shared} {L : Addr} (J : Nat → (Str → Option Value) → Led → Prop)
    (hL : env.locals = L) (hh : A.handled = none)
    (h : wpAny (model prog w) A (eval iter env) (fun xv s₂ => Stop (∃ r a b t u v n m news, xv = .ref r ∧ Fr h₀ L s₂.heap m ∧ News h₀ L s₂.heap news ∧
      IsRange s₂.heap r a b 1 t u v ∧ Builtin.Range.small a b 1 = true ∧ Builtin.Range.rangeSize a b 1 = ((n : Nat) : Int) ∧ J 0 m news ∧
      (∀ i t m₁ nw I oI h tk, i < n → J i m₁ nw → Fr h₀ L h m₁ → News h₀ L h ((I, oI) :: nw) → (∀ p ∈ nw, p.1 ≠ I) →
        wpAny (model prog w) A (storeName env x (.int (a + (i : Int)) t)) (fun _ s₃ => wpAny (model prog w) A (execs body env) (TurnEnd h₀ L { s₂ with heap := h, toks := tk } I oI (J (i + 1)) Q) (fun _ _ => False) s₃) (fun _ _ => False) { s₂ with heap := h, toks := tk }) ∧
      (∀ m₁ nw h tk, J n m₁ nw → Fr h₀ L h m₁ → News h₀ L h nw → Q .next { s₂ with heap := h, toks := tk }))) E s)
    (hs : ∀ x, foldedSetIterable iter env x = pure x := by intro _; rfl) :
    wpAny (model prog w) A (exec (.For (.Name x px) iter body [] pos) env) Q E s := by
  subst hL
  refine wpAny_For (wpAny_mono h (fun xv s₂ h₁ => ?_) fun _ _ e => e) hs
  refine hide fun G hG => ?_
  obtain ⟨r, a, b, t, u, v, n, m, news, rfl, F, N, hr, hsm, hn, h0, turn, done⟩ := h₁
  refine hG ?_
  clear hG G
  refine wpAny_pyIter_range hr hsm ?_
  refine forLoop_walk (Q := Q) J (range_walks hh a n) (fun i h st => ⟨_, st⟩)
    (fun i h h' o m nw st e e' _ _ _ => range_st (h₀ := h₀) (L := env.locals) (i + 1) h h' o [] st e e' (by assumption) (fun _ hp => nomatch hp) trivial) ?_ (next_is_new F) (by show IsRangeIter _ _ _ _ _; rw [hn]; simpa using Heap.get?_push_size _ rfl)
    (F.keeps fun _ _ e => Heap.get?_push_of_some _ e) (N.grown fun _ _ e => Heap.get?_push_of_some _ e)
    (fun p hp => Nat.ne_of_lt (Heap.lt_size (N p hp).1)) h0 (fun i v m₁ nw oI h tk hlt hP => by obtain ⟨t, rfl⟩ := hP; exact turn i t m₁ nw _ oI h tk hlt) (fun m₁ nw h tk => done m₁ nw h tk) fun f s' hq => hq
  intro hm
  rw [List.mem_singleton] at hm
  exact Nat.lt_irrefl _ (hm ▸ F.ns.lt)
end
end Mine
end

section
open PySem PySem.W PyProof.Rows PySem.Calls PySem.Spec
set_option Elab.async false
set_option maxRecDepth 100000
set_option maxHeartbeats 8000000
namespace Mine
theorem offComp1 : True := by
  w_top off
  trivial
open LCg LCt

/-- what can be iterated: pyIter makes one new object and walks n items -/
def Src (prog : Program) (w : World) (A : Around) (h₀ : Heap) (L : Addr) (S : Led → Prop) (n : Nat) (P : Nat → Value → Prop) (xv : Value) (s₁ : Shared) : Prop :=
  ∀ (Q : Value → Shared → Prop) (E : Value → Shared → Prop), (∀ o fp (St : Nat → Heap → Prop), Walks prog w A s₁.heap.objs.size fp [s₁.heap.objs.size] n P St → (∀ i h, St i h → ∃ o, h.get? s₁.heap.objs.size = some o) →
      (∀ i h h' o nw, St i h → h.get? s₁.heap.objs.size = some o → h'.get? s₁.heap.objs.size = some o → (∀ b o, h₀.get? b = some o → h'.get? b = some o) → News h₀ L h' nw → S nw → St i h') →
      (∀ b ∈ fp, b < (s₁.heap.push o).objs.size) → St 0 (s₁.heap.push o) → Q (.ref s₁.heap.objs.size) { s₁ with heap := s₁.heap.push o }) → wpAny (model prog w) A (pyIter xv) Q E s₁

section
variable {prog : Program} {w : World} {A : Around} {h₀ : Heap} {L : Addr} {m : Str → Option Value} {s₁ : Shared} {news : Led}

theorem Src.list {ax : Addr} {its : Array Value} (hh : A.handled = none) (F : Fr h₀ L s₁.heap m) (N : News h₀ L s₁.heap news) (S : SrcAt h₀ ax its news) :
    Src prog w A h₀ L (SrcAt h₀ ax its) its.size (fun i v => its[i]? = some v) (.ref ax) s₁ := by
  intro Q E h
  have hl := S.list F.keep N
  have hlt : ax < s₁.heap.objs.size := by obtain ⟨_, e, _⟩ := hl; exact Heap.lt_size e
  refine wpAny_pyIter_list hl ?_
  refine h _ _ _ (Walks.list hh s₁.heap.objs.size ax (Nat.ne_of_lt hlt) its) (fun i h st => by obtain ⟨o, e, _⟩ := st.1; exact ⟨o, e⟩) list_st (fun b hb => ?_) ⟨⟨_, Heap.get?_push_size _ rfl, rfl, rfl⟩, hl.push _⟩
  rw [Heap.size_push]
  rcases List.mem_cons.mp hb with rfl | hb
  · exact Nat.lt_succ_self _
  · rw [List.mem_singleton.mp hb]; exact Nat.lt_succ_of_lt hlt
theorem Src.range {r : Addr} {a b : Int} {t u v : Tok} {n : Nat} (hh : A.handled = none) (hr : IsRange s₁.heap r a b 1 t u v) (hsm : Builtin.Range.small a b 1 = true) (hn : Builtin.Range.rangeSize a b 1 = ((n : Nat) : Int)) :
    Src prog w A h₀ L (fun _ => True) n (fun i v => ∃ t, v = .int (a + (i : Int)) t) (.ref r) s₁ := by
  intro Q E h
  refine wpAny_pyIter_range hr hsm ?_
  refine h _ _ _ (range_walks hh a n) (fun i h st => ⟨_, st⟩) range_st (fun b hb => ?_) (by show IsRangeIter _ _ _ _ _; rw [hn]; simpa using Heap.get?_push_size _ rfl)
  rw [List.mem_singleton.mp hb, Heap.size_push]
  exact Nat.lt_succ_self _
theorem Src.dict {d : Addr} {od : Obj} {kvs : List (Int × Value)} (hh : A.handled = none) (N : News h₀ L s₁.heap news) (hm : (d, od) ∈ news) (hd : Obj.IsDictOf (intKind prog w) od kvs) (lo : (d == sysModules) = false) :
    Src prog w A h₀ L (fun nw => (d, od) ∈ nw) kvs.length (fun i v => ∃ k x t, kvs[i]? = some (k, x) ∧ v = .int k t) (.ref d) s₁ := by
  intro Q E h
  refine hide fun G hG => ?_
  obtain ⟨es, ep, hex, hdat, hk, hp, hn⟩ := hd
  refine hG ?_
  clear hG G
  have hD : ∀ {h : Heap}, h.get? d = some od → h.DictAt (intKind prog w) d kvs ep := fun e => ⟨od, es, e, hex, hdat, hk, hp, hn⟩
  have hget := (N _ hm).1
  have hlt : d < s₁.heap.objs.size := Heap.lt_size hget
  refine wpAny_pyIter_dict lo (hD hget) ?_
  have W := Walks.dictKeys (prog := prog) (w := w) (knd := intKind prog w) hh s₁.heap.objs.size d (Nat.ne_of_lt hlt) kvs ep
  have W' : Walks prog w A s₁.heap.objs.size [s₁.heap.objs.size, d] [s₁.heap.objs.size] kvs.length (fun i v => ∃ k x t, kvs[i]? = some (k, x) ∧ v = .int k t) (fun i h => h.IsKeyIter s₁.heap.objs.size d i kvs.length ep ∧ h.DictAt (intKind prog w) d kvs ep) :=
    { sub := W.sub, frame := W.frame, done := W.done, self := W.self,
      item := fun i s Q E hi st hQ => W.item i s Q E hi st fun v h' tk hP => hQ v h' tk (by
        refine hide fun G hG => ?_
        obtain ⟨k, x, hx, hkey⟩ := hP
        refine hG ?_
        clear hG G
        cases v with
        | int i t => exact ⟨k, x, t, hx, by rw [show k = i from (of_decide_eq_true hkey).symm]⟩
        | _ => cases hkey) }
  refine h _ _ _ W' (fun i h st => by obtain ⟨o, e, _⟩ := st.1; exact ⟨o, e⟩) (fun i h h' o nw st e e' k N' hm' => ⟨by obtain ⟨o', q, r⟩ := st.1; rw [e] at q; cases q; exact ⟨o, e', r⟩, hD (N' _ hm').1⟩) (fun b hb => ?_)
    ⟨⟨_, Heap.get?_push_size _ rfl, rfl, rfl⟩, hD (Heap.get?_push_of_some _ hget)⟩
  rw [Heap.size_push]
  rcases List.mem_cons.mp hb with rfl | hb
  · exact Nat.lt_succ_self _
  · rw [List.mem_singleton.mp hb]; exact Nat.lt_succ_of_lt hlt
end

theorem off3F {I C D : Addr} {oI oC oD : Obj} {nw : Led} : Off3 I C D nw ↔ ∀ p ∈ nw, ∀ q ∈ [(I, oI), (C, oC), (D, oD)], p.1 ≠ q.1 := by
  constructor
  · intro h p hp q hq
    have o := h.mem p hp
    simp only [List.mem_cons, List.not_mem_nil, or_false] at hq
    rcases hq with rfl | rfl | rfl
    · exact o.1
    · exact o.2.1
    · exact o.2.2
  · intro h
    exact Off3.of fun p hp => ⟨h p hp _ List.mem_cons_self, h p hp _ (.tail _ List.mem_cons_self), h p hp _ (.tail _ (.tail _ List.mem_cons_self))⟩
theorem off1F {D : Addr} : ∀ {nw : Led}, Off1 D nw → ∀ p ∈ nw, p.1 ≠ D
  | [], _, _, hp => nomatch hp
  | _ :: _, h, p, hp => by
    rcases List.mem_cons.mp hp with rfl | hp
    · exact h.1
    · exact off1F h.2 p hp

section
variable {prog : Program} {w : World} {A : Around} {E : Value → Shared → Prop} {h₀ : Heap} {L : Addr} {m : Str → Option Value} {env : Env}

theorem restT_of {ct elt : Expr} {x : Str} {scope : Scope} {cl : List (Str × Addr)} {s₂ : Shared} {S : Led → Prop} {P : Nat → Value → Prop} {Fin : List Value → Led → Prop} {n : Nat} (J : Nat → List Value → Led → Prop) (hJS : ∀ i ys nw, J i ys nw → S nw)
    (turn : (∀ i v I oI C oC D m₂ h tk ys nw E', i < n → P i v → J i ys nw → NsObj oC m₂ → m₂ x = some v → Fr h₀ L h m → News h₀ L h ([(I, oI), (C, oC), (D, lst ys)] ++ nw) → (∀ p ∈ nw, ∀ q ∈ [(I, oI), (C, oC), (D, lst ys)], p.1 ≠ q.1) →
        wpAny (model prog w) A (isTrue ct (compEnvC scope cl C env) (eval ct (compEnvC scope cl C env))) (fun ok s' => if ok = true then
          wpAny (model prog w) A (eval elt (compEnvC scope cl C env)) (EndF h₀ L m { s₂ with heap := h, toks := tk } [(I, oI), (C, oC), (D, lst ys)] (fun yv nw' => J (i + 1) (ys ++ [yv]) nw')) E' s'
          else EndF h₀ L m { s₂ with heap := h, toks := tk } [(I, oI), (C, oC), (D, lst ys)] (fun _ nw' => J (i + 1) ys nw') Value.none s') E' { s₂ with heap := h, toks := tk }))
    (fin : ∀ ys nw, J n ys nw → Fin ys nw) : ∀ k i ys nw, i + k = n → J i ys nw → CompRestT prog w A h₀ L m env ct elt x scope cl s₂ S P Fin k i ys nw
  | 0, i, ys, nw, hi, hJ => CompRestT.zero (fin ys nw (by rw [← hi]; exact hJ))
  | k + 1, i, ys, nw, hi, hJ => CompRestT.succ fun v I oI C oC D m₂ h tk E' hP hC hm F N off ne => by
    have rc := restT_of J hJS turn fin k (i + 1)
    have key : ∀ {y : Value} {ys' : Value → List Value} {s' : Shared}, EndF h₀ L m { s₂ with heap := h, toks := tk } [(I, oI), (C, oC), (D, lst ys)] (fun yv nw' => J (i + 1) (ys' yv) nw') y s' →
        CompEnd h₀ L m { s₂ with heap := h, toks := tk } I oI C oC D (lst ys) S (fun y nw' => CompRestT prog w A h₀ L m env ct elt x scope cl s₂ S P Fin k (i + 1) (ys' y) nw') y s' := by
      rintro y ys' s' hz3
      refine hide fun G hG => ?_
      obtain ⟨h', tk', nw', e, F', N', off', j⟩ := hz3
      refine hG ?_
      clear hG G
      exact ⟨h', tk', nw', e, F', N', off3F.mpr off', hJS _ _ _ j, rc _ _ (by omega) j⟩
    refine wpAny_mono (turn i v I oI C oC D m₂ h tk ys nw E' (by omega) hP hJ hC hm F N (off3F.mp off)) (fun ok s' h' => ?_) fun _ _ e => e
    cases ok with
    | true =>
      simp only [if_true] at h' ⊢
      exact wpAny_mono h' (fun y s'' h'' => key (ys' := fun y => ys ++ [y]) h'') fun _ _ e => e
    | false =>
      simp only [Bool.false_eq_true, if_false] at h' ⊢
      exact key (ys' := fun _ => ys) h'

theorem restU_of {elt : Expr} {x : Str} {scope : Scope} {cl : List (Str × Addr)} {s₂ : Shared} {S : Led → Prop} {P : Nat → Value → Prop} {Fin : List Value → Led → Prop} {n : Nat} (J : Nat → List Value → Led → Prop) (hJS : ∀ i ys nw, J i ys nw → S nw)
    (turn : (∀ i v I oI C oC D m₂ h tk ys nw E', i < n → P i v → J i ys nw → NsObj oC m₂ → m₂ x = some v → Fr h₀ L h m → News h₀ L h ([(I, oI), (C, oC), (D, lst ys)] ++ nw) → (∀ p ∈ nw, ∀ q ∈ [(I, oI), (C, oC), (D, lst ys)], p.1 ≠ q.1) →
        wpAny (model prog w) A (eval elt (compEnvC scope cl C env)) (EndF h₀ L m { s₂ with heap := h, toks := tk } [(I, oI), (C, oC), (D, lst ys)] (fun yv nw' => J (i + 1) (ys ++ [yv]) nw')) E' { s₂ with heap := h, toks := tk }))
    (fin : ∀ ys nw, J n ys nw → Fin ys nw) : ∀ k i ys nw, i + k = n → J i ys nw → CompRest prog w A h₀ L m env elt x scope cl s₂ S P Fin k i ys nw
  | 0, i, ys, nw, hi, hJ => CompRest.zero (fin ys nw (by rw [← hi]; exact hJ))
  | k + 1, i, ys, nw, hi, hJ => CompRest.succ fun v I oI C oC D m₂ h tk E' hP hC hm F N off ne => by
    have rc := restU_of J hJS turn fin k (i + 1)
    refine wpAny_mono (turn i v I oI C oC D m₂ h tk ys nw E' (by omega) hP hJ hC hm F N (off3F.mp off)) (fun y s' h' => ?_) fun _ _ e => e
    refine hide fun G hG => ?_
    obtain ⟨h', tk', nw', e, F', N', off', j⟩ := h'
    refine hG ?_
    clear hG G
    exact ⟨h', tk', nw', e, F', N', off3F.mpr off', hJS _ _ _ j, rc _ _ (by omega) j⟩

theorem AssignT {ct elt iter : Expr} {x z : Str} {px pz : Pos} {scope : Scope} {cl : List (Str × Addr)} {pos spos : Pos} {s : Shared} {Q : Flow → Shared → Prop} (F₀ : Fr h₀ L s.heap m) (hLe : env.locals = L)
    (hsw : swapsWith (.ListComp elt [⟨.Name x px, iter, [ct], 0⟩] scope pos) (some (.Name z pz)) spos.line env = pure true)
    (hclos : closureFor scope env = pure cl) (hcell : ∀ z ∈ scope.names, z.2 ≠ .cell) (hkind : scope.kind = .function)
    (hnames : ∀ z ∈ scope.names, z.2 = .local → scope.names.lookup z.1 = some .local) (hx : scope.names.lookup x = some .local)
    (hz : env.kindOf z = some .local) (hp : (env.scope.kind == .class || (env.scope.kind == .module && env.locals != env.globals)) = false)
    (h : wpAny (model prog w) A (eval iter env) (fun xv s₂ => Stop (∃ (S : Led → Prop) (n : Nat) (P : Nat → Value → Prop) (news : Led) (J : Nat → List Value → Led → Prop), Src prog w A h₀ L S n P xv s₂ ∧ n ≤ sizeLine ∧ Fr h₀ L s₂.heap m ∧ News h₀ L s₂.heap news ∧ (∀ i ys nw, J i ys nw → S nw) ∧ J 0 [] news ∧
      (∀ i v I oI C oC D m₂ h tk ys nw E', i < n → P i v → J i ys nw → NsObj oC m₂ → m₂ x = some v → Fr h₀ L h m → News h₀ L h ([(I, oI), (C, oC), (D, lst ys)] ++ nw) → (∀ p ∈ nw, ∀ q ∈ [(I, oI), (C, oC), (D, lst ys)], p.1 ≠ q.1) →
        wpAny (model prog w) A (isTrue ct (compEnvC scope cl C env) (eval ct (compEnvC scope cl C env))) (fun ok s' => if ok = true then
          wpAny (model prog w) A (eval elt (compEnvC scope cl C env)) (EndF h₀ L m { s₂ with heap := h, toks := tk } [(I, oI), (C, oC), (D, lst ys)] (fun yv nw' => J (i + 1) (ys ++ [yv]) nw')) E' s'
          else EndF h₀ L m { s₂ with heap := h, toks := tk } [(I, oI), (C, oC), (D, lst ys)] (fun _ nw' => J (i + 1) ys nw') Value.none s') E' { s₂ with heap := h, toks := tk }) ∧
      (∀ D h tk ys nw, Fr h₀ L h (fun u => if u = z then some (.ref D) else m u) → News h₀ L h ((D, lst ys) :: nw) → (∀ p ∈ nw, p.1 ≠ D) → J n ys nw → Q .next { s₂ with heap := h, toks := tk }))) E s)
    (hs : ∀ x, foldedSetIterable iter env x = pure x := by intro _; rfl) :
    wpAny (model prog w) A (exec (.Assign [.Name z pz] (.ListComp elt [⟨.Name x px, iter, [ct], 0⟩] scope pos) spos) env) Q E s := by
  subst hLe
  rw [exec_Assign_Name_used _ _ _ _ hsw]
  refine wpAny_bind (wpAny_standAt (wpAny_bind ?_))
  show wpAny _ A (do let _ ← comprehension (.ListComp elt [⟨.Name x px, iter, [ct], 0⟩] scope pos) scope env _ (newList []) false (eval iter env) (some (assign (.Name z pz) env))) _ _ s
  refine wpAny_bind (wpAny_mono (wpAny_comprehension_free (use := some (assign (.Name z pz) env)) (Q := fun _ s' => Q .next s') rfl hs hclos hkind hnames
    (wpAny_mono h (fun xv s₂ h₁ => ?_) fun _ _ e => e)) (fun _ s' hq => wpAny_pure (wpAny_pure hq)) fun _ _ e => e)
  refine hide fun G hG => ?_
  obtain ⟨S, n, P, news, J, hsrc, hsz, F, N, hJS, h0, turn, fin⟩ := h₁
  refine hG ?_
  clear hG G
  refine hsrc _ _ fun oI fp St W hIo hSt hfp hst => ?_
  have up : ∀ b o, s₂.heap.get? b = some o → (s₂.heap.push oI).get? b = some o := fun b o e => Heap.get?_push_of_some _ e
  refine block_T (s₂ := { s₂ with heap := s₂.heap.push oI }) (S := S) W hsz hIo hSt hcell hkind hx hst hfp (F.keeps up) (N.grown up) (Nat.ne_of_lt F.ns.lt) (next_is_new F) (fun p hp => Nat.ne_of_lt (Heap.lt_size (N p hp).1)) (hJS _ _ _ h0)
    (restT_of (s₂ := { s₂ with heap := s₂.heap.push oI }) (Fin := fun ys nw => J n ys nw) (n := n) J hJS turn (fun ys nw j => j) n 0 [] news (Nat.zero_add n) h0) ?_
  intro D C h' tk m' ys news' F' N' o1 hn hC₀ hD₀ hCL hDL hCD offC hj
  show wpAny _ A (assign (.Name z pz) env (.ref D)) _ _ _
  refine wpAny_assign_Name (wpAny_storeName_local hz F'.ns (fun h₂ hn₂ hs₂ => ?_) hp)
  have hL₀ : h₀.get? env.locals = none := Heap.get?_none_of_le F'.above
  have F₂ : Fr h₀ env.locals h₂ (fun u => if u = z then some (.ref D) else m u) := ⟨hn₂, fun b o e => hs₂.extBut b o (fun q => by rw [q, hL₀] at e; cases e) (F'.keep b o e), F'.above⟩
  refine ⟨m', hn.sameBut hs₂ hCL, fun h'' hs'' => fin D h'' _ ys news' (F₂.change hs'' hCL hC₀) (fun p hp => ?_) (off1F o1) hj⟩
  have zz : h₂.get? p.1 = some p.2 := hs₂.extBut _ _ (N' p hp).2.1 (N' p hp).1
  refine ⟨hs''.extBut _ _ ?_ zz, (N' p hp).2⟩
  rcases List.mem_cons.mp hp with rfl | hp
  · exact Ne.symm hCD
  · exact offC p hp

theorem AssignU {elt iter : Expr} {x z : Str} {px pz : Pos} {scope : Scope} {cl : List (Str × Addr)} {pos spos : Pos} {s : Shared} {Q : Flow → Shared → Prop} (F₀ : Fr h₀ L s.heap m) (hLe : env.locals = L)
    (hsw : swapsWith (.ListComp elt [⟨.Name x px, iter, [], 0⟩] scope pos) (some (.Name z pz)) spos.line env = pure true)
    (hclos : closureFor scope env = pure cl) (hcell : ∀ z ∈ scope.names, z.2 ≠ .cell) (hkind : scope.kind = .function)
    (hnames : ∀ z ∈ scope.names, z.2 = .local → scope.names.lookup z.1 = some .local) (hx : scope.names.lookup x = some .local)
    (hz : env.kindOf z = some .local) (hp : (env.scope.kind == .class || (env.scope.kind == .module && env.locals != env.globals)) = false)
    (h : wpAny (model prog w) A (eval iter env) (fun xv s₂ => Stop (∃ (S : Led → Prop) (n : Nat) (P : Nat → Value → Prop) (news : Led) (J : Nat → List Value → Led → Prop), Src prog w A h₀ L S n P xv s₂ ∧ n ≤ sizeLine ∧ Fr h₀ L s₂.heap m ∧ News h₀ L s₂.heap news ∧ (∀ i ys nw, J i ys nw → S nw) ∧ J 0 [] news ∧
      (∀ i v I oI C oC D m₂ h tk ys nw E', i < n → P i v → J i ys nw → NsObj oC m₂ → m₂ x = some v → Fr h₀ L h m → News h₀ L h ([(I, oI), (C, oC), (D, lst ys)] ++ nw) → (∀ p ∈ nw, ∀ q ∈ [(I, oI), (C, oC), (D, lst ys)], p.1 ≠ q.1) →
        wpAny (model prog w) A (eval elt (compEnvC scope cl C env)) (EndF h₀ L m { s₂ with heap := h, toks := tk } [(I, oI), (C, oC), (D, lst ys)] (fun yv nw' => J (i + 1) (ys ++ [yv]) nw')) E' { s₂ with heap := h, toks := tk }) ∧
      (∀ D h tk ys nw, Fr h₀ L h (fun u => if u = z then some (.ref D) else m u) → News h₀ L h ((D, lst ys) :: nw) → (∀ p ∈ nw, p.1 ≠ D) → J n ys nw → Q .next { s₂ with heap := h, toks := tk }))) E s)
    (hs : ∀ x, foldedSetIterable iter env x = pure x := by intro _; rfl) :
    wpAny (model prog w) A (exec (.Assign [.Name z pz] (.ListComp elt [⟨.Name x px, iter, [], 0⟩] scope pos) spos) env) Q E s := by
  subst hLe
  rw [exec_Assign_Name_used _ _ _ _ hsw]
  refine wpAny_bind (wpAny_standAt (wpAny_bind ?_))
  show wpAny _ A (do let _ ← comprehension (.ListComp elt [⟨.Name x px, iter, [], 0⟩] scope pos) scope env _ (newList []) false (eval iter env) (some (assign (.Name z pz) env))) _ _ s
  refine wpAny_bind (wpAny_mono (wpAny_comprehension_free (use := some (assign (.Name z pz) env)) (Q := fun _ s' => Q .next s') rfl hs hclos hkind hnames
    (wpAny_mono h (fun xv s₂ h₁ => ?_) fun _ _ e => e)) (fun _ s' hq => wpAny_pure (wpAny_pure hq)) fun _ _ e => e)
  refine hide fun G hG => ?_
  obtain ⟨S, n, P, news, J, hsrc, hsz, F, N, hJS, h0, turn, fin⟩ := h₁
  refine hG ?_
  clear hG G
  refine hsrc _ _ fun oI fp St W hIo hSt hfp hst => ?_
  have up : ∀ b o, s₂.heap.get? b = some o → (s₂.heap.push oI).get? b = some o := fun b o e => Heap.get?_push_of_some _ e
  refine block_U (s₂ := { s₂ with heap := s₂.heap.push oI }) (S := S) W hsz hIo hSt hcell hkind hx hst hfp (F.keeps up) (N.grown up) (Nat.ne_of_lt F.ns.lt) (next_is_new F) (fun p hp => Nat.ne_of_lt (Heap.lt_size (N p hp).1)) (hJS _ _ _ h0)
    (restU_of (s₂ := { s₂ with heap := s₂.heap.push oI }) (Fin := fun ys nw => J n ys nw) (n := n) J hJS turn (fun ys nw j => j) n 0 [] news (Nat.zero_add n) h0) ?_
  intro D C h' tk m' ys news' F' N' o1 hn hC₀ hD₀ hCL hDL hCD offC hj
  show wpAny _ A (assign (.Name z pz) env (.ref D)) _ _ _
  refine wpAny_assign_Name (wpAny_storeName_local hz F'.ns (fun h₂ hn₂ hs₂ => ?_) hp)
  have hL₀ : h₀.get? env.locals = none := Heap.get?_none_of_le F'.above
  have F₂ : Fr h₀ env.locals h₂ (fun u => if u = z then some (.ref D) else m u) := ⟨hn₂, fun b o e => hs₂.extBut b o (fun q => by rw [q, hL₀] at e; cases e) (F'.keep b o e), F'.above⟩
  refine ⟨m', hn.sameBut hs₂ hCL, fun h'' hs'' => fin D h'' _ ys news' (F₂.change hs'' hCL hC₀) (fun p hp => ?_) (off1F o1) hj⟩
  have zz : h₂.get? p.1 = some p.2 := hs₂.extBut _ _ (N' p hp).2.1 (N' p hp).1
  refine ⟨hs''.extBut _ _ ?_ zz, (N' p hp).2⟩
  rcases List.mem_cons.mp hp with rfl | hp
  · exact Ne.symm hCD
  · exact offC p hp

theorem EvalU {elt iter : Expr} {x : Str} {px : Pos} {scope : Scope} {cl : List (Str × Addr)} {pos : Pos} {s : Shared} {Q : Value → Shared → Prop} (F₀ : Fr h₀ L s.heap m)
    (hclos : closureFor scope env = pure cl) (hcell : ∀ z ∈ scope.names, z.2 ≠ .cell) (hkind : scope.kind = .function)
    (hnames : ∀ z ∈ scope.names, z.2 = .local → scope.names.lookup z.1 = some .local) (hx : scope.names.lookup x = some .local)
    (h : wpAny (model prog w) A (eval iter env) (fun xv s₂ => Stop (∃ (S : Led → Prop) (n : Nat) (P : Nat → Value → Prop) (news : Led) (J : Nat → List Value → Led → Prop), Src prog w A h₀ L S n P xv s₂ ∧ n ≤ sizeLine ∧ Fr h₀ L s₂.heap m ∧ News h₀ L s₂.heap news ∧ (∀ i ys nw, J i ys nw → S nw) ∧ J 0 [] news ∧
      (∀ i v I oI C oC D m₂ h tk ys nw E', i < n → P i v → J i ys nw → NsObj oC m₂ → m₂ x = some v → Fr h₀ L h m → News h₀ L h ([(I, oI), (C, oC), (D, lst ys)] ++ nw) → (∀ p ∈ nw, ∀ q ∈ [(I, oI), (C, oC), (D, lst ys)], p.1 ≠ q.1) →
        wpAny (model prog w) A (eval elt (compEnvC scope cl C env)) (EndF h₀ L m { s₂ with heap := h, toks := tk } [(I, oI), (C, oC), (D, lst ys)] (fun yv nw' => J (i + 1) (ys ++ [yv]) nw')) E' { s₂ with heap := h, toks := tk }) ∧
      (∀ D h tk ys nw, Fr h₀ L h m → News h₀ L h ((D, lst ys) :: nw) → (∀ p ∈ nw, p.1 ≠ D) → J n ys nw → Q (.ref D) { s₂ with heap := h, toks := tk }))) E s)
    (hs : ∀ x, foldedSetIterable iter env x = pure x := by intro _; rfl) :
    wpAny (model prog w) A (eval (.ListComp elt [⟨.Name x px, iter, [], 0⟩] scope pos) env) Q E s := by
  rw [eval_ListComp]
  refine wpAny_comprehension_free (use := none) rfl hs hclos hkind hnames (wpAny_mono h (fun xv s₂ h₁ => ?_) fun _ _ e => e)
  refine hide fun G hG => ?_
  obtain ⟨S, n, P, news, J, hsrc, hsz, F, N, hJS, h0, turn, fin⟩ := h₁
  refine hG ?_
  clear hG G
  refine hsrc _ _ fun oI fp St W hIo hSt hfp hst => ?_
  have up : ∀ b o, s₂.heap.get? b = some o → (s₂.heap.push oI).get? b = some o := fun b o e => Heap.get?_push_of_some _ e
  refine block_U (s₂ := { s₂ with heap := s₂.heap.push oI }) (S := S) W hsz hIo hSt hcell hkind hx hst hfp (F.keeps up) (N.grown up) (Nat.ne_of_lt F.ns.lt) (next_is_new F) (fun p hp => Nat.ne_of_lt (Heap.lt_size (N p hp).1)) (hJS _ _ _ h0)
    (restU_of (s₂ := { s₂ with heap := s₂.heap.push oI }) (Fin := fun ys nw => J n ys nw) (n := n) J hJS turn (fun ys nw j => j) n 0 [] news (Nat.zero_add n) h0) ?_
  intro D C h' tk m' ys news' F' N' o1 hn hC₀ hD₀ hCL hDL hCD offC hj
  refine ⟨m', hn, fun h'' hs'' => fin D h'' tk ys news' (F'.change hs'' hCL hC₀) (fun p hp => ?_) (off1F o1) hj⟩
  refine ⟨hs''.extBut _ _ ?_ (N' p hp).1, (N' p hp).2⟩
  rcases List.mem_cons.mp hp with rfl | hp
  · exact Ne.symm hCD
  · exact offC p hp
end
end Mine
end

section
open PySem PySem.W PyProof.Rows PySem.Calls PySem.Spec
set_option Elab.async false
set_option maxRecDepth 100000
set_option maxHeartbeats 8000000
namespace Mine
theorem offCounts : True := by
  w_top off
  trivial

noncomputable def countsOf (st : List Int) (many : Nat) : List Int := (rangeKs 0 many).map (fun k => (st.count k : Int))

local macro_rules | `(tactic| walk_at "getMethod ref") => `(tactic| ((with_reducible show wpAny _ _ (getMethod (Value.ref _) (PySem.Str.ofString "count") _) _ _ _); k_dflt (refine' meth_lst ?F ?m PySem.F.slot_list_count PySem.F.type_list_count ?_; (case F => k_asm); (case m => with_reducible assumption))))
local macro_rules | `(tactic| walk_at "getMethod ref") => `(tactic| ((with_reducible show wpAny _ _ (getMethod (Value.ref _) (PySem.Str.ofString "count") _) _ _ _); k_dflt (refine' meth_tup ?F ?m PySem.F.slot_tuple_count PySem.F.type_tuple_count ?_; (case F => k_asm); (case m => with_reducible assumption))))
local macro_rules | `(tactic| walk_at "call builtin:tuple.count") => `(tactic| (k_dflt (refine' count_tupI ?F ?m ?i ?_; (case F => k_asm); (case m | i => with_reducible assumption))))

theorem counts_call {prog : Program} {w : World} {dp un : Nat} {fr : Option (List Env)} {gd : Option (List Code)} {s : Shared} {G₀ : Heap} {loose : List Str} {mean : ExcName → Option Value} {mg mb : Str → Option Value}
   {sl : Addr} {tm : Tok} {many : Nat} {sts : List Int} {Q E : Value → Shared → Prop}
   (G : GG w loose mean mg mb G₀ s.heap)
   (hr : LstI s.heap sl sts ∨ TupI s.heap sl sts) (hlen : sts.length < 100) (hm' : many < 100) (hdp : dp < 900) (hun : un < 1000)
   (hQ : ∀ r h' tk', Kb s.heap h' [] → s.heap.get? r = none → LstI h' r (countsOf sts many) → Q (.ref r) { s with heap := h', toks := tk' }) :
   wpAny (model prog w) ⟨none, dp, fr, gd, un⟩ (call (.ref 90) [.ref sl, .int many tm]) Q E s := by
  refine wpAny_call ?_
  k_dflt (refine' enter_cells (muts := []) ?k1 ?k3 ?k6 ?k7 ?k8 ?k9 ?kB ?kD ?_ ?c2 ?c3 ?c4)
  (case k1 => exact G); (case k3 => exact Ours.nil); (case k6 => k_is); (case k7 => k_is); (case k8 => show dp < recursionLimit; simp only [recursionLimit]; omega); (case k9 => exact BindsTo.of_eq rfl); (case kD => decide +kernel); (case kB => exact rfl); (case c2 => exact rfl); (case c3 => exact rfl); (case c4 => exact rfl)
  intro g' L' h' tk' cells' eg kg F' N' Y' X' T' G' l1
  clear eg G
  k_cells Y'
  (try simp only [List.cons_append, List.nil_append] at N')
  have hL : ∃ vs n, IntsAre vs sts ∧ (g'.get? sl = some (LO vs n) ∨ g'.get? sl = some (TO vs n)) := by
    rcases hr with ⟨vs, n, hi, e⟩ | ⟨vs, n, hi, e⟩
    · exact ⟨vs, n, hi, .inl (kg _ _ e (by simp))⟩
    · exact ⟨vs, n, hi, .inr (kg _ _ e (by simp))⟩
  clear hr
  obtain ⟨vs, n, hI, hL⟩ := hL
  (try dsimp only); (try k_fold)
  rcases hL with hL | hL
  all_goals (try have hLL := isList_of hL)
  all_goals k_steps
  all_goals (rename Fr _ _ _ _ => F1; rename News _ _ _ _ => N1; rename IntsAre _ (List.map _ _) => I1)
  all_goals exact hQ _ _ _ (fun b o e n => F1.keep b o (kg b o e n)) (kg.none (by simp) (N1 _ (List.Mem.head _)).2.2) ⟨_, _, by simpa [countsOf] using I1, (N1 _ (List.Mem.head _)).1⟩
end Mine
end

section
open PySem PySem.W PyProof.Rows PySem.Calls PySem.Spec
set_option Elab.async false
set_option maxRecDepth 100000
set_option maxHeartbeats 8000000
namespace Mine
theorem offMoved : True := by
  w_top off
  trivial

noncomputable def movedOf (one other : List Int) : Nat := ((rangeKs 0 one.length).filter (fun k => decide (¬ one.getD k.toNat 0 = other.getD k.toNat 0))).length
theorem fold_filter {α : Type} (P : α → Prop) [DecidablePred P] : ∀ (xs acc : List α), xs.foldl (fun l k => if P k then l ++ [k] else l) acc = acc ++ xs.filter (fun k => decide (P k))
  | [], acc => by simp
  | x :: xs, acc => by
    rw [List.foldl_cons, fold_filter P xs, List.filter_cons]
    by_cases h : P x <;> simp [h]

theorem dj1 {a b : Nat} {p q : Prop} (h : (a ≠ b ∧ p) ∧ q) : a ≠ b := h.1.1
theorem dj2 {a b : Nat} {p q r : Prop} (h : (p ∧ a ≠ b ∧ q) ∧ r) : a ≠ b := h.1.2.1
theorem dj3 {a b : Nat} {p q r : Prop} (h : (p ∧ q ∧ a ≠ b) ∧ r) : a ≠ b := h.1.2.2
theorem dj4 {a b : Nat} {p r : Prop} (h : r ∧ a ≠ b ∧ p) : a ≠ b := h.2.1
theorem dj5 {a b : Nat} {p q r : Prop} (h : r ∧ p ∧ a ≠ b ∧ q) : a ≠ b := h.2.2.1
theorem dj6 {a b : Nat} {p q r : Prop} (h : r ∧ p ∧ q ∧ a ≠ b) : a ≠ b := h.2.2.2
local macro_rules | `(tactic| k_ne) => `(tactic| (refine neN ?_; (try dsimp only); first | exact dj1 ‹_› | exact dj2 ‹_› | exact dj3 ‹_› | exact dj4 ‹_› | exact dj5 ‹_› | exact dj6 ‹_›))

theorem moved_call {prog : Program} {w : World} {dp un : Nat} {fr : Option (List Env)} {gd : Option (List Code)} {s : Shared} {G₀ : Heap} {loose : List Str} {mean : ExcName → Option Value} {mg mb : Str → Option Value}
   {a b : Addr} {as bs : List Int} {Q E : Value → Shared → Prop}
   (G : GG w loose mean mg mb G₀ s.heap)
   (h1 : LstI s.heap a as) (h2 : LstI s.heap b bs ∨ TupI s.heap b bs) (hl : as.length < 100) (he : bs.length = as.length) (hdp : dp < 900) (hun : un < 1000)
   (hQ : ∀ t h' tk', Kb s.heap h' [] → Q (.int (movedOf as bs) t) { s with heap := h', toks := tk' }) :
   wpAny (model prog w) ⟨none, dp, fr, gd, un⟩ (call (.ref 105) [.ref a, .ref b]) Q E s := by
  refine wpAny_call ?_
  k_dflt (refine' enter_cells (muts := []) ?k1 ?k3 ?k6 ?k7 ?k8 ?k9 ?kB ?kD ?_ ?c2 ?c3 ?c4)
  (case k1 => exact G); (case k3 => exact Ours.nil); (case k6 => k_is); (case k7 => k_is); (case k8 => show dp < recursionLimit; simp only [recursionLimit]; omega); (case k9 => exact BindsTo.of_eq rfl); (case kD => decide +kernel); (case kB => exact rfl); (case c2 => exact rfl); (case c3 => exact rfl); (case c4 => exact rfl)
  intro g' L' h' tk' cells' eg kg F' N' Y' X' T' G' l1
  clear eg G
  k_cells Y'
  (try simp only [List.cons_append, List.nil_append] at N')
  obtain ⟨va, na, hI, ha⟩ := h1
  have hL : ∃ vs n, IntsAre vs bs ∧ (g'.get? b = some (LO vs n) ∨ g'.get? b = some (TO vs n)) := by
    rcases h2 with ⟨vs, n, hi, e⟩ | ⟨vs, n, hi, e⟩
    · exact ⟨vs, n, hi, .inl (kg _ _ e (by simp))⟩
    · exact ⟨vs, n, hi, .inr (kg _ _ e (by simp))⟩
  clear h2
  have hLa := isList_of (kg _ _ ha (by simp))
  obtain ⟨vs, n, hJ, hL⟩ := hL
  (try dsimp only); (try k_fold)
  rcases hL with hL | hL
  all_goals (first | have hLb := isList_of hL | have hLb := isTup_of hL)
  all_goals k_steps
  all_goals (rename Fr _ _ _ _ => F1)
  all_goals (simp only [fold_filter, List.nil_append, Int.sub_zero, Int.toNat_natCast])
  all_goals exact hQ _ _ _ (fun b o e n => F1.keep b o (kg b o e n))
end Mine
end
end

section
open PySem PySem.W PyProof.Rows PySem.Calls PySem.Spec
set_option Elab.async false
set_option maxRecDepth 100000
set_option maxHeartbeats 8000000
namespace Mine
theorem offWays : True := by
  w_top off
  trivial
open LCg

inductive All2 {α β : Type} (R : α → β → Prop) : List α → List β → Prop
  | nil : All2 R [] []
  | cons {a b as bs} : R a b → All2 R as bs → All2 R (a :: as) (b :: bs)
theorem All2.length {α β : Type} {R : α → β → Prop} : ∀ {as : List α} {bs : List β}, All2 R as bs → as.length = bs.length := fun h => by
  induction h with
  | nil => rfl
  | cons _ _ ih => simp [ih]
theorem All2.mono {α β : Type} {R R' : α → β → Prop} (f : ∀ a b, R a b → R' a b) : ∀ {as : List α} {bs : List β}, All2 R as bs → All2 R' as bs := fun h => by
  induction h with
  | nil => exact .nil
  | cons h _ ih => exact .cons (f _ _ h) ih
theorem All2.snoc {α β : Type} {R : α → β → Prop} {a : α} {b : β} (h : R a b) : ∀ {as : List α} {bs : List β}, All2 R as bs → All2 R (as ++ [a]) (bs ++ [b]) := fun t => by
  induction t with
  | nil => exact .cons h .nil
  | cons h' _ ih => exact .cons h' ih
theorem All2.get {α β : Type} {R : α → β → Prop} : ∀ {as : List α} {bs : List β}, All2 R as bs → ∀ (i : Nat) (a : α), as[i]? = some a → ∃ b, bs[i]? = some b ∧ R a b := fun h => by
  induction h with
  | nil => intro i a e; simp at e
  | cons h _ ih =>
    intro i a e
    cases i with
    | zero => simp at e; subst e; exact ⟨_, rfl, h⟩
    | succ i => simpa using ih i a (by simpa using e)

/-- a tuple (a list) of ints in the ledger -/
def TupIn (nw : Led) (a : Addr) (ns : List Int) : Prop := ∃ vs n, IntsAre vs ns ∧ (a, TO vs n) ∈ nw
def LstIn (nw : Led) (a : Addr) (ns : List Int) : Prop := ∃ vs n, IntsAre vs ns ∧ (a, LO vs n) ∈ nw
theorem TupIn.mono {nw nw' : Led} {a ns} (x : TupIn nw a ns) (h : ∀ p ∈ nw, p ∈ nw') : TupIn nw' a ns := let ⟨vs, n, h1, h2⟩ := x; ⟨vs, n, h1, h _ h2⟩

noncomputable def stepWays (found : List (List Int)) (row : List Int) : List (List Int) := found.flatMap fun one => row.map fun o => one ++ [o]
noncomputable def waysOf (rows : List (List Int)) : List (List Int) := rows.foldl stepWays [[]]

/-- rows: a list of refs to lists of ints -/
def RowsAt (h : Heap) (a : Addr) (rows : List (List Int)) : Prop := ∃ as n, h.get? a = some (LO (as.map Value.ref) n) ∧ All2 (LstI h) as rows

theorem stepWays_length (found : List (List Int)) (row : List Int) : (stepWays found row).length = found.length * row.length := by
  induction found with
  | nil => simp [stepWays]
  | cons a r ih => simp only [stepWays, List.flatMap_cons, List.length_append, List.length_map, List.length_cons] at ih ⊢; rw [ih, Nat.succ_mul, Nat.add_comm]
theorem waysOf_snoc (rows : List (List Int)) (row : List Int) : waysOf (rows ++ [row]) = stepWays (waysOf rows) row := by simp [waysOf]
theorem foldWays_length : ∀ (rows : List (List Int)) (acc : List (List Int)), (∀ r ∈ rows, r.length ≤ 3) → (rows.foldl stepWays acc).length ≤ acc.length * 3 ^ rows.length
  | [], acc, _ => by simp
  | r :: rows, acc, h => by
    have ih := foldWays_length rows (stepWays acc r) fun x hx => h x (.tail _ hx)
    rw [stepWays_length] at ih
    rw [List.foldl_cons, List.length_cons, Nat.pow_succ]
    refine Nat.le_trans ih ?_
    rw [Nat.mul_assoc, Nat.mul_comm (3 ^ rows.length) 3]
    exact Nat.mul_le_mul_left _ (Nat.mul_le_mul_right _ (h r List.mem_cons_self))
theorem waysOf_length (rows : List (List Int)) (h : ∀ r ∈ rows, r.length ≤ 3) : (waysOf rows).length ≤ 3 ^ rows.length := by
  have := foldWays_length rows [[]] h
  rw [List.length_singleton, Nat.one_mul] at this
  exact this
theorem foldWays_mem : ∀ (rows acc : List (List Int)) (n : Nat), (∀ w ∈ acc, w.length = n) → ∀ w ∈ rows.foldl stepWays acc, w.length = n + rows.length
  | [], acc, n, h, w, hw => by simpa using h w hw
  | r :: rows, acc, n, h, w, hw => by
    have := foldWays_mem rows (stepWays acc r) (n + 1) (fun x hx => by
      obtain ⟨a, ha, hx⟩ := List.mem_flatMap.mp hx
      obtain ⟨o, _, rfl⟩ := List.mem_map.mp hx
      rw [List.length_append, h a ha, List.length_singleton]) w hw
    rw [this, List.length_cons]; omega
theorem waysOf_mem (rows : List (List Int)) (w : List Int) (hw : w ∈ waysOf rows) : w.length = rows.length := by
  have := foldWays_mem rows [[]] 0 (fun w hw => by simp at hw; subst hw; rfl) w hw
  omega
theorem stepWays_take_succ {found : List (List Int)} {row : List Int} {i : Nat} (h : i < found.length) : stepWays (found.take (i + 1)) row = stepWays (found.take i) row ++ row.map (fun o => found.getD i [] ++ [o]) := by
  rw [List.take_add_one]
  simp only [stepWays, List.getElem?_eq_getElem h, Option.toList_some, List.flatMap_append, List.flatMap_cons, List.flatMap_nil, List.append_nil, List.getD_eq_getElem?_getD, Option.getD_some]

local macro_rules | `(tactic| walk_at "exec For Name Name cons nil") => `(tactic| refine stop_here ?_)

local macro_rules | `(tactic| walk_at "exec Assign cons ListComp") => `(tactic| refine stop_here ?_)
local macro_rules | `(tactic| walk_at "binaryOp Add ref ref") => `(tactic| refine stop_here ?_)
local macro_rules | `(tactic| walk_at "eval Name") => `(tactic| (k_dflt (refine' nameX_L ?F ?v ?_ ?a ?b; (case F => k_asm); (case a | b => rfl); (case v => with_reducible assumption); k_whole)))

theorem ways_call {prog : Program} {w : World} {dp un : Nat} {fr : Option (List Env)} {gd : Option (List Code)} {s : Shared} {G₀ : Heap} {loose : List Str} {mean : ExcName → Option Value} {mg mb : Str → Option Value}
   {al : Addr} {rows : List (List Int)} {Q E : Value → Shared → Prop}
   (G : GG w loose mean mg mb G₀ s.heap)
   (hr : RowsAt s.heap al rows) (hlen : rows.length ≤ 5) (hrow : ∀ r ∈ rows, r.length ≤ 3) (hdp : dp < 900) (hun : un < 1000)
   (hQ : ∀ r h' tk' tl as n, Kb s.heap h' [] → (∀ p ∈ tl, h'.get? p.1 = some p.2 ∧ s.heap.get? p.1 = none) → (r, LO (as.map Value.ref) n) ∈ tl → All2 (TupIn tl) as (waysOf rows) → Q (.ref r) { s with heap := h', toks := tk' }) :
   wpAny (model prog w) ⟨none, dp, fr, gd, un⟩ (call (.ref 95) [.ref al]) Q E s := by
  refine wpAny_call ?_
  k_dflt (refine' enter_cells (muts := []) ?k1 ?k3 ?k6 ?k7 ?k8 ?k9 ?kB ?kD ?_ ?c2 ?c3 ?c4)
  (case k1 => exact G); (case k3 => exact Ours.nil); (case k6 => k_is); (case k7 => k_is); (case k8 => show dp < recursionLimit; simp only [recursionLimit]; omega); (case k9 => exact BindsTo.of_eq rfl); (case kD => decide +kernel); (case kB => exact rfl); (case c2 => exact rfl); (case c3 => exact rfl); (case c4 => exact rfl)
  intro g' L' h' tk' cells' eg kg F' N' Y' X' T' G' l1
  clear eg G
  k_cells Y'
  (try simp only [List.cons_append, List.nil_append] at N')
  (try dsimp only); (try k_fold)
  k_steps
  rename News _ _ _ _ => N1
  rename Fr _ _ _ _ => F1
  unfold Stop
  refine hide fun G hG => ?_
  obtain ⟨ras, rn, hra, hrs⟩ := hr
  refine hG ?_
  clear hG G
  have hra' : g'.get? al = some (LO (ras.map Value.ref) rn) := kg _ _ hra (by simp)
  have hrs' : All2 (LstI g') ras rows := hrs.mono fun a b x => x.kb kg (by simp)
  clear hra hrs
  let J1 : Nat → (Str → Option Value) → Led → Prop :=
      fun i m nw => ∃ oc tl v₀, nw = (L' + 1, oc) :: tl ∧ oc.data = .cell v₀ ∧ (∀ p ∈ tl, p.1 ≠ L' + 1) ∧ ∃ fa as n, m (Str.ofString "found") = some (.ref fa) ∧ (fa, LO (as.map Value.ref) n) ∈ tl ∧ All2 (TupIn tl) as (waysOf (rows.take i))
  refine For_lst (h₀ := g') J1 rfl rfl ?_
  k_steps
  unfold Stop
  refine ⟨al, _, _, _, rfl, by k_asm, fun p hp => N1 p (List.mem_reverse.mp hp), fun i m nw _ => .inl (isList_of hra'), ?_, ?_, ?_⟩
  · simp only [List.reverse_cons, List.reverse_nil, List.nil_append, List.cons_append]
    rename (Obj.data _ = _) => hd1
    rename (L' + 1 < _) => q1
    rename (_ ∧ L' + 1 < _) => q2
    refine ⟨_, _, _, rfl, hd1, ?_, _, [_], _, rfl, .tail _ (.head _), ?_⟩
    · intro p hp
      rcases List.mem_cons.mp hp with rfl | hp
      · exact Nat.ne_of_gt q1
      · rw [List.mem_singleton] at hp
        subst hp
        exact Nat.ne_of_gt q2.2
    · exact .cons ⟨[], 0, .nil, .head _⟩ .nil
  · intro i v m₁ nw I oI h tk hv hJ F1 N1 off
    refine hide fun G hG => ?_
    obtain ⟨oc, tl, v₀, rfl, hoc, hoff, fa, as, n, hf, hfa, hall⟩ := hJ
    refine hG ?_
    clear hG G
    have hneI : I ≠ L' + 1 := Ne.symm (off (L' + 1, oc) List.mem_cons_self)
    refine storeX_C F1 N1 rfl (UpdF.tail hneI (UpdF.head hoff)) hoc ?_
    intro h₂ oc' F2 N2 hoc'
    k_steps
    unfold Stop
    replace N2 : News g' L' h₂ ((I, oI) :: (L' + 1, oc') :: tl) := N2
    obtain ⟨ra, hra, rfl⟩ := refs_at (as := ras) (k := i) (v := v) (by simpa using hv)
    refine hide fun G hG => ?_
    obtain ⟨row, hrow', rvs, rn', hI, hro⟩ := hrs'.get i ra hra
    refine hG ?_
    clear hG G
    have hrowlen : row.length ≤ 3 := hrow row (List.mem_of_getElem? hrow')
    have hfl : (waysOf (rows.take i)).length ≤ 243 := by
      refine Nat.le_trans (waysOf_length _ fun r hr => hrow r (List.mem_of_mem_take hr)) (Nat.le_trans (Nat.pow_le_pow_right (by decide) (Nat.le_trans (List.length_take_le _ _) (Nat.le_trans ?_ hlen))) (by decide : 3 ^ 5 ≤ 243))
      obtain ⟨h9, _⟩ := List.getElem?_eq_some_iff.mp hrow'
      exact Nat.le_of_lt h9
    generalize hfd : waysOf (rows.take i) = found at *
    have hz : (1000 : Nat) ≤ sizeLine := by decide
    have hbd : ∀ k, (stepWays (found.take k) row).length ≤ 729 := fun k => by
      rw [stepWays_length]
      exact Nat.mul_le_mul (Nat.le_trans (List.length_take_le' _ _) hfl) hrowlen
    refine Assign_ListComp_2 (h₀ := g') (L := L') (cl := [(Str.ofString "row", L' + 1)]) (m := m₁)
      (fun k ys nw => ∃ tl', nw = (I, oI) :: (L' + 1, oc') :: tl' ∧ (∀ p ∈ tl', p.1 ≠ I ∧ p.1 ≠ L' + 1) ∧ (∀ p ∈ tl, p ∈ tl') ∧ ∃ bs : List Addr, ys = bs.map Value.ref ∧ All2 (TupIn tl') bs (stepWays (found.take k) row))
      (fun k ax₂ its₂ j ys nw => ax₂ = ra ∧ its₂ = rvs.toArray ∧ k < found.length ∧ ∃ tl', nw = (I, oI) :: (L' + 1, oc') :: tl' ∧ (∀ p ∈ tl', p.1 ≠ I ∧ p.1 ≠ L' + 1) ∧ (∀ p ∈ tl, p ∈ tl') ∧
        ∃ bs : List Addr, ys = bs.map Value.ref ∧ All2 (TupIn tl') bs (stepWays (found.take k) row ++ (row.take j).map (fun o => found.getD k [] ++ [o])))
      rfl (by with_unfolding_all rfl) rfl (by with_unfolding_all rfl) (by decide) rfl rfl rfl (by decide) (by decide) rfl rfl ?_
    k_steps
    unfold Stop
    refine ⟨fa, (as.map Value.ref).toArray, _, rfl, F2, N2, ?_, ?_, ?_, ?_, ?_, ?_, ?_⟩
    · rintro k ys nw ⟨tl', rfl, hoff', hsub, bs, rfl, hb⟩
      exact .inr ⟨_, .tail _ (.tail _ (hsub _ hfa)), rfl, _, rfl⟩
    · rintro k ax₂ its₂ j ys nw ⟨rfl, rfl, hk, tl', rfl, hoff', hsub, bs, rfl, hb⟩
      refine ⟨.inr ⟨_, .tail _ (.tail _ (hsub _ hfa)), rfl, _, rfl⟩, .inl (isList_of hro), ?_⟩
      rw [List.length_map, hb.length, List.length_append, List.length_map]
      have := hbd k
      have := List.length_take_le' j row
      omega
    · exact ⟨tl, rfl, fun p hp => ⟨off p (.tail _ hp), hoff p hp⟩, fun p hp => hp, [], rfl, by simpa [stepWays] using All2.nil⟩
    · rintro k ax₂ its₂ ys nw ⟨rfl, rfl, hk, tl', rfl, hoff', hsub, bs, rfl, hb⟩
      refine ⟨tl', rfl, hoff', hsub, bs, rfl, ?_⟩
      rw [stepWays_take_succ hk]
      have e : row.take rvs.toArray.size = row := by rw [List.size_toArray, hI.length, List.take_length]
      rw [e] at hb
      exact hb
    · rintro k v I₁ oI₁ C oC D m₂ h tk ys nw E' hv hz14 hoC hm₂ F3 N3 off3
      refine hide fun G hG => ?_
      obtain ⟨tl', rfl, hoff', hsub, bs, rfl, hb⟩ := hz14
      refine hG ?_
      clear hG G
      refine lcf_cell (c := L' + 1) N3 rfl (.tail _ (.tail _ (.tail _ (.tail _ (.head _))))) hoc' ?_ rfl rfl
      refine ⟨tk, ra, _, rfl, rfl, .inl (isList_of hro), rfl, rfl, ?_, tl', rfl, hoff', hsub, bs, rfl, by simpa using hb⟩
      have h1 : (as.map Value.ref)[k]? = some v := by simpa using hv
      obtain ⟨h9, _⟩ := List.getElem?_eq_some_iff.mp h1
      rw [List.length_map, hall.length] at h9
      exact h9
    · rintro k v ax₂ its₂ j v₂ I₂ oI₂ I₁ oI₁ C oC D m₂ h tk ys nw E' hvk hvj hz21 hoC hm₂ hmy F3 N3 off3
      refine hide fun G hG => ?_
      obtain ⟨rfl, rfl, hk, tl', rfl, hoff', hsub, bs, rfl, hb⟩ := hz21
      refine hG ?_
      clear hG G
      obtain ⟨ta, hta, rfl⟩ := refs_at (as := as) (k := k) (v := v) (by simpa using hvk)
      refine hide fun G hG => ?_
      obtain ⟨o, t, ho, rfl⟩ := intsAre_at hI j v₂ (by simpa using hvj)
      refine hG ?_
      clear hG G
      refine hide fun G hG => ?_
      obtain ⟨one, hone, tvs, tn, htI, htm⟩ := hall.get k ta hta
      refine hG ?_
      clear hG G
      have hmem := hsub _ htm
      have e1 : found.getD k [] = one := by simp [hone]
      have e2 : row.take (j + 1) = row.take j ++ [o] := by rw [List.take_add_one, ho]; rfl
      rw [e1] at hb
      rw [e1, e2]
      k_steps
      unfold Stop
      rename Fr _ _ _ _ => F4
      rename News _ _ _ _ => N4
      rename (∀ p ∈ _, _ < _) => l4
      rename Addr => T4
      rename Heap => h4
      have hT := (N4 _ List.mem_cons_self)
      have hta' := (N4 (ta, TO tvs tn) (.tail _ (List.mem_append_right _ (.tail _ (.tail _ hmem))))).1
      have lenz : tvs.length + 1 ≤ sizeLine := by
        have h9 := waysOf_mem _ one (hfd.symm ▸ List.mem_of_getElem? hone)
        have h8 := List.length_take_le' i rows
        have h7 := htI.length
        omega
      refine add_tuples (vs := tvs) (ws := [Value.int o t]) F4 N4 (isTup_of hta') ⟨_, hT.1, rfl, 0, rfl⟩ ?_ ?_ ?_ lenz
      · rintro rfl
        cases htI
        refine EndF.add F4 N4 (fun p hp => hp) l4 off3 (nw' := (I, oI) :: (L' + 1, oc') :: (T4, TO [Value.int o t] 0) :: tl') ?_ ⟨trivial, trivial, hk, (T4, TO [Value.int o t] 0) :: tl', rfl, ?_, fun p hp => .tail _ (hsub p hp), bs ++ [T4], by simp, ?_⟩
        · intro p hp
          simp only [List.mem_cons] at hp ⊢
          rcases hp with rfl | rfl | rfl | hp
          · exact .inr (.inl rfl)
          · exact .inr (.inr (.inl rfl))
          · exact .inl rfl
          · exact .inr (.inr (.inr hp))
        · intro p hp
          rcases List.mem_cons.mp hp with rfl | hp
          · exact ⟨Nat.ne_of_gt (l4 (I, oI) (List.mem_append_right _ List.mem_cons_self)), Nat.ne_of_gt (l4 (L' + 1, oc') (List.mem_append_right _ (.tail _ List.mem_cons_self)))⟩
          · exact hoff' p hp
        · rw [List.map_append, ← List.append_assoc]
          exact All2.snoc ⟨_, 0, .cons o t .nil, List.mem_cons_self⟩ (hb.mono fun a b x => x.mono fun p hp => .tail _ hp)
      · intro _ h9; cases h9
      · intro _ _ h₅ F5 N5
        have l5 := lt_new N4
        refine EndF.add F5 N5 (nw := (I, oI) :: (L' + 1, oc') :: tl') (fun p hp => .tail _ hp) l5 off3 (nw' := (I, oI) :: (L' + 1, oc') :: (h4.objs.size, TO (tvs ++ [Value.int o t]) 0) :: tl') ?_ ⟨trivial, trivial, hk, (h4.objs.size, TO (tvs ++ [Value.int o t]) 0) :: tl', rfl, ?_, fun p hp => .tail _ (hsub p hp), bs ++ [h4.objs.size], by simp, ?_⟩
        · intro p hp
          simp only [List.mem_cons] at hp ⊢
          rcases hp with rfl | rfl | rfl | hp
          · exact .inr (.inl rfl)
          · exact .inr (.inr (.inl rfl))
          · exact .inl rfl
          · exact .inr (.inr (.inr hp))
        · intro p hp
          rcases List.mem_cons.mp hp with rfl | hp
          · exact ⟨Nat.ne_of_gt (l5 (I, oI) (.tail _ (List.mem_append_right _ List.mem_cons_self))), Nat.ne_of_gt (l5 (L' + 1, oc') (.tail _ (List.mem_append_right _ (.tail _ List.mem_cons_self))))⟩
          · exact hoff' p hp
        · rw [List.map_append, ← List.append_assoc]
          exact All2.snoc ⟨_, 0, htI.append (.cons o t .nil), List.mem_cons_self⟩ (hb.mono fun a b x => x.mono fun p hp => .tail _ hp)
    · rintro D h tk ys nw F3 N3 o3 hz8
      refine hide fun G hG => ?_
      obtain ⟨tl', rfl, hoff', hsub, bs, rfl, hb⟩ := hz8
      refine hG ?_
      clear hG G
      dsimp only
      k_steps
      refine TurnEnd.intro ((L' + 1, oc') :: (D, LO (bs.map Value.ref) (bs.map Value.ref).length) :: tl') F3 N3 ?_ ?_ ⟨oc', _, _, rfl, hoc', ?_, D, bs, _, rfl, List.mem_cons_self, ?_⟩
      · intro p hp
        simp only [List.mem_cons] at hp ⊢
        rcases hp with rfl | rfl | rfl | hp
        · exact .inr (.inl rfl)
        · exact .inr (.inr (.inl rfl))
        · exact .inl rfl
        · exact .inr (.inr (.inr hp))
      · refine fc (Ne.symm hneI) ?_
        refine fc (Ne.symm o3.1) ?_
        intro p hp
        · exact (hoff' p hp).1
      · intro p hp
        rcases List.mem_cons.mp hp with rfl | hp
        · exact Ne.symm o3.2.1
        · exact (hoff' p hp).2
      · have e9 : waysOf (rows.take (i + 1)) = stepWays found row := by
          rw [List.take_add_one, hrow', ← hfd]; exact waysOf_snoc _ _
        rw [e9]
        have e8 : found.take (as.map Value.ref).toArray.size = found := by rw [List.size_toArray, List.length_map, hall.length, List.take_length]
        rw [e8] at hb
        exact hb.mono fun a b x => x.mono fun p hp => .tail _ hp
  · intro m₁ nw h tk hJ F1 N1
    refine hide fun G hG => ?_
    obtain ⟨oc, tl, v₀, rfl, hoc, hoff, fa, as, n, hf, hfa, hall⟩ := hJ
    refine hG ?_
    clear hG G
    dsimp only
    k_steps
    dsimp only
    have e7 : rows.take (ras.map Value.ref).toArray.size = rows := by rw [List.size_toArray, List.length_map, hrs'.length, List.take_length]
    rw [e7] at hall
    exact hQ fa h _ tl as n (fun b o e n => F1.keep b o (kg b o e n)) (fun p hp => ⟨(N1 p (.tail _ hp)).1, kg.none (by simp) (N1 p (.tail _ hp)).2.2⟩) hfa hall
end Mine
end

section
open PySem PySem.W PyProof.Rows PySem.Calls PySem.Spec
set_option Elab.async false
set_option maxRecDepth 100000
set_option maxHeartbeats 8000000
namespace Mine
theorem offUpd : True := by
  w_top off
  trivial

/-- an object of the ledger changes -/
noncomputable def updL (d : Addr) (o : Obj) (nw : Led) : Led := nw.map fun p => if p.1 = d then (d, o) else p
theorem updL_off {d c : Addr} {o : Obj} {nw : Led} (h : ∀ p ∈ nw, p.1 ≠ c) : ∀ p ∈ updL d o nw, p.1 ≠ c := fun p hp => by
  obtain ⟨q, hq, rfl⟩ := List.mem_map.mp hp
  have := h q hq
  by_cases e : q.1 = d
  · rw [if_pos e]; rw [← e]; exact this
  · rw [if_neg e]; exact this
theorem updL_sub {d : Addr} {o : Obj} {nw nw' : Led} (h : ∀ p ∈ nw, p ∈ nw') : ∀ p ∈ updL d o nw, p ∈ updL d o nw' := fun p hp => by
  obtain ⟨q, hq, rfl⟩ := List.mem_map.mp hp
  exact List.mem_map.mpr ⟨q, h q hq, rfl⟩
theorem updL_ne {d : Addr} {o : Obj} {nw : Led} {p : Addr × Obj} (h : p ∈ nw) (e : p.1 ≠ d) : p ∈ updL d o nw := List.mem_map.mpr ⟨p, h, by rw [if_neg e]⟩
theorem updL_new {d : Addr} {o oo : Obj} {nw : Led} (h : (d, oo) ∈ nw) : (d, o) ∈ updL d o nw := List.mem_map.mpr ⟨_, h, by simp⟩
theorem news_updL {h₀ h h' : Heap} {L d : Addr} {o : Obj} {nw : Led} (N : News h₀ L h nw) (hs : Heap.SameBut d h h') (ho : h'.get? d = some o) : News h₀ L h' (updL d o nw) := fun p hp => by
  obtain ⟨q, hq, rfl⟩ := List.mem_map.mp hp
  have Nq := N q hq
  by_cases e : q.1 = d
  · rw [if_pos e]; exact ⟨ho, e ▸ Nq.2.1, e ▸ Nq.2.2⟩
  · rw [if_neg e]; exact ⟨(hs.2 _ e).trans Nq.1, Nq.2⟩
section
variable {prog : Program} {w : World} {A : Around} {E : Value → Shared → Prop} {s : Shared} {h₀ : Heap} {L : Addr} {m : Str → Option Value}
theorem meth_lstN {name : Str} {id : String} {pl : Sem Bool} {a : Addr} {its : Array Value} {n : Nat} {news : Led} {Q : Value × List Value → Shared → Prop} (N : News h₀ L s.heap news) (hm : (a, W.listOf its n) ∈ news) (slot : Slot "list" name id)
    (hty : typeOf (.builtin id) = pure (.type "method_descriptor")) (h : Q (.builtin id, [.ref a]) s) : wpAny (model prog w) A (getMethod (.ref a) name pl) Q E s :=
  getMethod_builtin ⟨_, (N _ hm).1, rfl⟩ PySem.F.plainAttrs_list slot hty (fun a e => by cases e; exact ⟨_, (N _ hm).1, rfl⟩) h
theorem len_lstB {a : Addr} {vs : List Value} {n : Nat} {Q : Value → Shared → Prop} (F : Fr h₀ L s.heap m) (ho : h₀.get? a = some (LO vs n)) (hz : vs.length < 1000)
    (h : Q (.int vs.length (s.toks + 1)) { s with toks := s.toks + 1 + 1 }) : wpAny (model prog w) A (call (.builtin "len") [.ref a]) Q E s := by
  have e : vs.toArray.size = vs.length := List.size_toArray
  have b : (vs.length : Int) < 2 ^ 63 := Int.lt_trans (Int.ofNat_lt.mpr hz) (by decide)
  exact len_list (isList_of (F.keep _ _ ho)) (by rw [e]; exact b) (by rw [e]; exact h)
theorem append_L {a : Addr} {vs : List Value} {n : Nat} {x : Value} {news : Led} {Q : Value → Shared → Prop} (F : Fr h₀ L s.heap m) (N : News h₀ L s.heap news) (hm : (a, LO vs n) ∈ news) (hz : vs.length ≤ sizeLine)
    (h : ∀ h', Fr h₀ L h' m → News h₀ L h' (updL a (LO (vs ++ [x]) (n + 1)) news) → Q .none { s with heap := h' }) : wpAny (model prog w) A (call (.builtin "list.append") [.ref a, x]) Q E s :=
  append_at (hsz := by simpa using hz) (N _ hm).1 fun h' hs ho' => h h' (F.change hs (N _ hm).2.1 (N _ hm).2.2) (news_updL N hs (by rw [ho']; simp [W.listOf]))
theorem setdef_L {d : Addr} {od : Obj} {kvs : List (Int × Value)} {k : Int} {t : Tok} {dflt : Value} {news : Led} {Q : Value → Shared → Prop} (F : Fr h₀ L s.heap m) (N : News h₀ L s.heap news) (hm : (d, od) ∈ news) (hd : od.IsDictOf (intKind prog w) kvs)
    (lo : (d == sysModules) = false) (hz : kvs.length ≤ sizeLine) (h1 : ∀ v, valueAt kvs k = some v → Q v { s with toks := s.toks + 1 })
    (h2 : valueAt kvs k = none → ∀ h' o', Fr h₀ L h' m → News h₀ L h' (updL d o' news) → o'.IsDictOf (intKind prog w) (stored kvs k dflt) → Q dflt { s with heap := h', toks := s.toks + 1 }) :
    wpAny (model prog w) A (call (.builtin "dict.setdefault") [.ref d, .int k t, dflt]) Q E s := by
  have hD : s.heap.DictOf (intKind prog w) d kvs := Heap.dictOf_iff.mpr ⟨od, (N _ hm).1, hd⟩
  refine call_meetsIn PySem.F.slot_dict_setdefault hD.typeIs PySem.F.entry_dict_setdefault (PySem.F.args_dict_setdefault_3 _ _ _) (kt_meets_setdefault (intKind prog w) d (intKind_is _ _ _ _) lo dflt) ⟨kvs, hD, hz, fun v hv => h1 v hv, fun hn h' hmm hs => ?_⟩
  obtain ⟨o', ho', hd'⟩ := Heap.dictOf_iff.mp hmm
  exact h2 hn h' o' (F.change hs (N _ hm).2.1 (N _ hm).2.2) (news_updL N hs ho') hd'
end
end Mine
end

section
open PySem PySem.W PyProof.Rows PySem.Calls PySem.Spec
set_option Elab.async false
set_option maxRecDepth 100000
set_option maxHeartbeats 8000000
namespace Mine
theorem offSources : True := by
  w_top off
  trivial
open LCg LCt

theorem rangeKs_succ (k : Nat) : rangeKs 0 (k + 1) = rangeKs 0 k ++ [(k : Int)] := by
  simp [rangeKs, List.range_succ]
theorem filter_last_pos {p : Int → Bool} {k : Nat} (h : p k = true) : (rangeKs 0 (k + 1)).filter p = (rangeKs 0 k).filter p ++ [(k : Int)] := by
  rw [rangeKs_succ, List.filter_append, List.filter_cons, if_pos h, List.filter_nil]
theorem filter_last_neg {p : Int → Bool} {k : Nat} (h : p k = false) : (rangeKs 0 (k + 1)).filter p = (rangeKs 0 k).filter p := by
  rw [rangeKs_succ, List.filter_append, List.filter_cons, if_neg (by rw [h]; exact Bool.false_ne_true), List.filter_nil, List.append_nil]
noncomputable def fewerOf (late counts : List Int) : List Int := (rangeKs 0 counts.length).filter fun k => decide (late.getD k.toNat 0 < counts.getD k.toNat 0)
/-- where one could be taken for this way -/
noncomputable def srcKey (counts : List Int) (wanted : Int) (way : List Int) : Option Int :=
  let late := countsOf way counts.length
  let f := fewerOf late counts
  if f.length = 1 ∧ late.getD wanted.toNat 0 = counts.getD wanted.toNat 0 + 1 ∧ late.getD (f.getD 0 0).toNat 0 = counts.getD (f.getD 0 0).toNat 0 - 1 then some (f.getD 0 0) else none
noncomputable def addSrc : List (Int × List (List Int)) → Int → List Int → List (Int × List (List Int))
  | [], k, way => [(k, [way])]
  | f :: r, k, way => if f.1 = k then (f.1, f.2 ++ [way]) :: r else f :: addSrc r k way
theorem addSrc_length : ∀ (found : List (Int × List (List Int))) (k : Int) (way : List Int), (addSrc found k way).length ≤ found.length + 1
  | [], _, _ => Nat.le_refl _
  | f :: r, k, way => by
    rw [addSrc]
    split
    · simp
    · simpa using addSrc_length r k way
theorem addSrc_len {n : Nat} : ∀ {found : List (Int × List (List Int))} (k : Int) (way : List Int), (∀ f ∈ found, f.2.length ≤ n) → ∀ f ∈ addSrc found k way, f.2.length ≤ n + 1
  | [], _, _, _, f, hf => by simp [addSrc] at hf; subst hf; simp
  | g :: r, k, way, h, f, hf => by
    rw [addSrc] at hf
    split at hf
    · rcases List.mem_cons.mp hf with rfl | hf
      · have := h g List.mem_cons_self
        simp only [List.length_append, List.length_singleton]; omega
      · exact Nat.le_succ_of_le (h f (.tail _ hf))
    · rcases List.mem_cons.mp hf with rfl | hf
      · exact Nat.le_succ_of_le (h f List.mem_cons_self)
      · exact addSrc_len k way (fun f hf => h f (.tail _ hf)) f hf
noncomputable def stepSrc (counts : List Int) (wanted : Int) (found : List (Int × List (List Int))) (way : List Int) : List (Int × List (List Int)) :=
  match srcKey counts wanted way with
  | some k => addSrc found k way
  | none => found
noncomputable def sourcesOf (ways : List (List Int)) (counts : List Int) (wanted : Int) : List (Int × List (List Int)) := ways.foldl (stepSrc counts wanted) []

theorem sourcesOf_snoc (ways : List (List Int)) (way : List Int) (counts : List Int) (wanted : Int) : sourcesOf (ways ++ [way]) counts wanted = stepSrc counts wanted (sourcesOf ways counts wanted) way := by simp [sourcesOf]
theorem foldSrc_length (counts : List Int) (wanted : Int) : ∀ (ways : List (List Int)) (acc : List (Int × List (List Int))) (n : Nat), (acc.length ≤ n ∧ ∀ f ∈ acc, f.2.length ≤ n) →
    (ways.foldl (stepSrc counts wanted) acc).length ≤ n + ways.length ∧ ∀ f ∈ ways.foldl (stepSrc counts wanted) acc, f.2.length ≤ n + ways.length
  | [], acc, n, h => h
  | w :: ways, acc, n, h => by
    have := foldSrc_length counts wanted ways (stepSrc counts wanted acc w) (n + 1) (by
      unfold stepSrc
      split
      · next k _ => exact ⟨Nat.le_trans (addSrc_length _ _ _) (Nat.succ_le_succ h.1), addSrc_len _ _ h.2⟩
      · exact ⟨Nat.le_succ_of_le h.1, fun f hf => Nat.le_succ_of_le (h.2 f hf)⟩)
    rw [List.foldl_cons, List.length_cons, Nat.add_comm ways.length 1, ← Nat.add_assoc]
    exact this
theorem sourcesOf_length (ways : List (List Int)) (counts : List Int) (wanted : Int) : (sourcesOf ways counts wanted).length ≤ ways.length ∧ ∀ f ∈ sourcesOf ways counts wanted, f.2.length ≤ ways.length := by
  have := foldSrc_length counts wanted ways [] 0 ⟨Nat.le_refl _, fun _ h => nomatch h⟩
  simpa [sourcesOf] using this

/-- the dict's pairs and what they stand for -/
def SrcIn (P : Addr → List Int → Prop) (nw : Led) (kv : Int × Value) (fw : Int × List (List Int)) : Prop := kv.1 = fw.1 ∧ ∃ l as n, kv.2 = .ref l ∧ (l, LO (as.map Value.ref) n) ∈ nw ∧ All2 P as fw.2
theorem SrcIn.mono {P : Addr → List Int → Prop} {nw nw' : Led} {kv fw} (x : SrcIn P nw kv fw) (h : ∀ l o, kv.2 = .ref l → (l, o) ∈ nw → (l, o) ∈ nw') : SrcIn P nw' kv fw :=
  let ⟨e, l, as, n, e1, e2, e3⟩ := x; ⟨e, l, as, n, e1, h _ _ e1 e2, e3⟩
def SrcsIn (P : Addr → List Int → Prop) (nw : Led) (kvs : List (Int × Value)) (found : List (Int × List (List Int))) : Prop := All2 (SrcIn P nw) kvs found ∧ (kvs.map (·.2)).Nodup
theorem All2.mono' {α β : Type} {R R' : α → β → Prop} : ∀ {as : List α} {bs : List β}, All2 R as bs → (∀ a ∈ as, ∀ b, R a b → R' a b) → All2 R' as bs := fun h => by
  induction h with
  | nil => exact fun _ => .nil
  | cons h _ ih => exact fun f => .cons (f _ List.mem_cons_self _ h) (ih fun a ha => f a (.tail _ ha))
theorem valueAt_mem {kvs : List (Int × Value)} {k : Int} {v : Value} (h : valueAt kvs k = some v) : v ∈ kvs.map (·.2) := by
  unfold valueAt at h
  obtain ⟨p, hp, rfl⟩ := Option.map_eq_some_iff.mp h
  exact List.mem_map_of_mem (List.mem_of_find?_eq_some hp)
theorem SrcsIn.there {P : Addr → List Int → Prop} {nw : Led} {k : Int} : ∀ {kvs : List (Int × Value)} {found : List (Int × List (List Int))} {v : Value}, SrcsIn P nw kvs found → valueAt kvs k = some v →
    ∃ l as n, v = .ref l ∧ (l, LO (as.map Value.ref) n) ∈ nw ∧ (∃ f ∈ found, as.length = f.2.length) ∧ ∀ a way, P a way → SrcsIn P (updL l (LO ((as ++ [a]).map Value.ref) (n + 1)) nw) kvs (addSrc found k way) := fun {kvs found v} h9 => by
  obtain ⟨h9, nd⟩ := h9
  revert nd
  induction h9 with
  | nil => intro _ hv; simp [valueAt] at hv
  | @cons kv fw kvs found h t ih =>
    intro nd hv
    rw [List.map_cons, List.nodup_cons] at nd
    by_cases hk : kv.1 = k
    · have e : kv.2 = v := by simpa [valueAt, List.find?_cons, hk] using hv
      refine hide fun G hG => ?_
      obtain ⟨e0, l, as, n, e1, e2, e3⟩ := h
      refine hG ?_
      clear hG G
      refine ⟨l, as, n, e ▸ e1, e2, ⟨fw, List.mem_cons_self, e3.length⟩, fun a way ht => ⟨?_, by rw [List.map_cons, List.nodup_cons]; exact nd⟩⟩
      rw [addSrc, if_pos (e0 ▸ hk)]
      refine .cons ⟨e0, l, as ++ [a], n + 1, e1, updL_new e2, e3.snoc ht⟩ (t.mono' fun kv' hm fw' x => x.mono fun l' o' e' hm' => updL_ne hm' fun q => nd.1 ?_)
      have q' : l' = l := q
      rw [e1, ← q', ← e']
      exact List.mem_map_of_mem hm
    · have hv' : valueAt kvs k = some v := by simpa [valueAt, List.find?_cons, hk] using hv
      refine hide fun G hG => ?_
      obtain ⟨l, as, n, e1, e2, ⟨f, hf, e3⟩, e4⟩ := ih nd.2 hv'
      refine hG ?_
      clear hG G
      refine ⟨l, as, n, e1, e2, ⟨f, .tail _ hf, e3⟩, fun a way ht => ?_⟩
      obtain ⟨x1, x2⟩ := e4 a way ht
      rw [addSrc, if_neg (by rw [← h.1]; exact hk)]
      refine ⟨.cons (h.mono fun l' o' e' hm' => updL_ne hm' fun q => nd.1 ?_) x1, by rw [List.map_cons, List.nodup_cons]; exact nd⟩
      have q' : l' = l := q
      rw [e', q', ← e1]
      exact valueAt_mem hv'
theorem SrcsIn.fresh {P : Addr → List Int → Prop} {nw nw' : Led} {k : Int} {l : Addr} {a : Addr} {way : List Int} (ht : P a way) (hl : (l, LO [Value.ref a] 1) ∈ nw') (hs : ∀ p ∈ nw, p ∈ nw') (ho : ∀ p ∈ nw, p.1 ≠ l) :
    ∀ {kvs : List (Int × Value)} {found : List (Int × List (List Int))}, SrcsIn P nw kvs found → valueAt kvs k = none → SrcsIn P nw' (kvs ++ [(k, .ref l)]) (addSrc found k way) := fun {kvs found} h9 => by
  obtain ⟨h9, nd⟩ := h9
  revert nd
  induction h9 with
  | nil => exact fun _ _ => ⟨.cons ⟨rfl, l, [a], 1, rfl, hl, .cons ht .nil⟩ .nil, by simp⟩
  | @cons kv fw kvs found h t ih =>
    intro nd hv
    rw [List.map_cons, List.nodup_cons] at nd
    have hk : ¬ kv.1 = k := fun e => by simp [valueAt, List.find?_cons, e] at hv
    have hv' : valueAt kvs k = none := by simpa [valueAt, List.find?_cons, hk] using hv
    obtain ⟨x1, x2⟩ := ih nd.2 hv'
    rw [addSrc, if_neg (by rw [← h.1]; exact hk)]
    refine ⟨.cons (h.mono fun _ _ _ hm => hs _ hm) x1, ?_⟩
    rw [List.cons_append, List.map_cons, List.nodup_cons]
    refine ⟨fun q => ?_, x2⟩
    rw [List.map_append, List.mem_append] at q
    rcases q with q | q
    · exact nd.1 q
    · refine hide fun G hG => ?_
      obtain ⟨_, l', as', n', e1, e2, _⟩ := h
      refine hG ?_
      clear hG G
      simp only [List.map_cons, List.map_nil, List.mem_singleton] at q
      rw [e1] at q
      exact ho _ e2 (by cases q; rfl)
theorem allLt_mem {d : Addr} : ∀ {l : Led}, AllLt d l → ∀ p ∈ l, p.1 < d
  | [], _, _, hp => nomatch hp
  | _ :: _, h, p, hp => by
    rcases List.mem_cons.mp hp with rfl | hp
    · exact h.1
    · exact allLt_mem h.2 p hp
theorem cons_off {c a : Addr} {o : Obj} {l : Led} (h : a ≠ c) (t : ∀ p ∈ l, p.1 ≠ c) : ∀ p ∈ (a, o) :: l, p.1 ≠ c := fun p hp => by
  rcases List.mem_cons.mp hp with rfl | hp
  · exact h
  · exact t p hp
theorem stored_new {kvs : List (Int × Value)} {k : Int} {v : Value} (h : valueAt kvs k = none) : stored kvs k v = kvs ++ [(k, v)] := by
  rw [stored, if_neg]
  rw [List.any_eq_true]
  rintro ⟨kv, hm, he⟩
  unfold valueAt at h
  rw [Option.map_eq_none_iff, List.find?_eq_none] at h
  exact h kv hm he

local macro_rules | `(tactic| walk_at "exec For Name Name cons nil") => `(tactic| refine stop_here ?_)
local macro_rules | `(tactic| walk_at "exec Assign cons ListComp") => `(tactic| refine stop_here ?_)
local macro_rules | `(tactic| walk_at "call ref") => `(tactic| refine stop_here ?_)
local macro_rules | `(tactic| walk_at "call builtin:dict.setdefault") => `(tactic| refine stop_here ?_)
local macro_rules | `(tactic| walk_at "call builtin:list.append") => `(tactic| refine stop_here ?_)
local macro_rules | `(tactic| walk_at "eval Name") => `(tactic| (k_dflt (refine' nameX_L ?F ?v ?_ ?a ?b; (case F => k_asm); (case a | b => rfl); (case v => assumption); k_whole)))

local macro_rules | `(tactic| walk_at "getMethod ref") => `(tactic| ((with_reducible show wpAny _ _ (getMethod (Value.ref _) (PySem.Str.ofString "append") _) _ _ _); k_dflt (refine' meth_lstN ?N ?m PySem.F.slot_list_append PySem.F.type_list_append ?_; (case N => k_asm); (case m => with_reducible assumption))))
local macro_rules | `(tactic| k_all) => `(tactic| assumption)
local macro_rules | `(tactic| walk_at "call builtin:len") => `(tactic| ((with_reducible show wpAny _ _ (call (Value.builtin "len") [Value.ref _]) _ _ _); k_dflt (refine' len_lstN ?N ?m ?i ?b ?_; (case N => k_asm); (case m => k_mem); (case i => with_reducible assumption); (case b => omega))))
local macro_rules | `(tactic| walk_at "subscriptTail") => `(tactic| ((with_reducible show wpAny _ _ (subscriptTail _ _ (Value.ref _) (Value.int _ _)) _ _ _); k_dflt (refine' item_lstN ?N ?m ?i ?c ?d ?b ?_ ?k7; (case N => k_asm); (case m => k_mem); (case i => with_reducible assumption); (case b | c | d => omega); (case k7 => with_unfolding_all rfl)); intro _))

theorem sources_call {prog : Program} {w : World} {dp un : Nat} {fr : Option (List Env)} {gd : Option (List Code)} {s : Shared} {G₀ : Heap} {loose : List Str} {mean : ExcName → Option Value} {mg mb : Str → Option Value}
   {wl cl : Addr} {was : List Addr} {wn : Nat} {ways : List (List Int)} {counts : List Int} {wanted : Int} {tw : Tok} {Q E : Value → Shared → Prop}
   (G : GG w loose mean mg mb G₀ s.heap)
   (hw : s.heap.get? wl = some (LO (was.map Value.ref) wn)) {P : Addr → List Int → Prop} (hws : All2 (fun a way => TupI s.heap a way ∧ P a way) was ways) (hwn : ways.length ≤ 243) (hwl : ∀ way ∈ ways, way.length < 100)
   (hc : LstI s.heap cl counts) (hcn : counts.length < 100) (h0 : 0 ≤ wanted) (h1 : wanted < counts.length) (hdp : dp < 890) (hun : un < 900)
   (hQ : ∀ d h' tk' tl o kvs, Kb s.heap h' [] → (∀ p ∈ tl, h'.get? p.1 = some p.2 ∧ s.heap.get? p.1 = none) → (d, o) ∈ tl → (d == sysModules) = false → Obj.IsDictOf (PySem.intKind prog w) o kvs →
     SrcsIn P tl kvs (sourcesOf ways counts wanted) → Q (.ref d) { s with heap := h', toks := tk' }) :
   wpAny (model prog w) ⟨none, dp, fr, gd, un⟩ (call (.ref 100) [.ref wl, .ref cl, .int wanted tw]) Q E s := by
  refine wpAny_call ?_
  k_dflt (refine' enter_cells (muts := []) ?k1 ?k3 ?k6 ?k7 ?k8 ?k9 ?kB ?kD ?_ ?c2 ?c3 ?c4)
  (case k1 => exact G); (case k3 => exact Ours.nil); (case k6 => k_is); (case k7 => k_is); (case k8 => show dp < recursionLimit; simp only [recursionLimit]; omega); (case k9 => exact BindsTo.of_eq rfl); (case kD => decide +kernel); (case kB => exact rfl); (case c2 => exact rfl); (case c3 => exact rfl); (case c4 => exact rfl)
  intro g' L' h' tk' cells' eg kg F' N' Y' X' T' G' l1
  clear eg G
  refine hide fun G hG => ?_
  obtain ⟨ocL, ocC, hE, hdL, hdC⟩ := CellsAre.two Y'
  refine hG ?_
  clear hG G
  subst hE
  clear Y'
  replace hdL : ocL.data = .cell none := hdL
  replace hdC : ocC.data = .cell (some (.ref cl)) := hdC
  (try simp only [List.cons_append, List.nil_append] at N')
  refine hide fun G hG => ?_
  obtain ⟨cvs, cn, hcI, hco⟩ := hc
  refine hG ?_
  clear hG G
  have hco' : g'.get? cl = some (LO cvs cn) := kg _ _ hco (by simp)
  have hcL := isList_of hco'
  have hw' : g'.get? wl = some (LO (was.map Value.ref) wn) := kg _ _ hw (by simp)
  have hws' : All2 (fun a way => TupI g' a way ∧ P a way) was ways := hws.mono fun a b x => ⟨x.1.kb kg (by simp), x.2⟩
  (try dsimp only); (try k_fold)
  k_steps
  rename News _ _ _ _ => N1
  rename Fr _ _ _ _ => F1
  rename Obj.IsDictOf (intKind _ _) _ _ => hd0
  rename ((_ == sysModules) = false) => hlo
  rename Addr => d
  rename Obj => od0
  unfold Stop
  rename (_ ∧ _) => l1
  have hdn1 : ∀ p ∈ ([] : Led), p.1 ≠ L' := fun _ h => nomatch h
  let J1 : Nat → (Str → Option Value) → Led → Prop :=
      fun i m nw => ∃ ocL vL od tl kvs, nw = (L' + 1 + 1, ocL) :: (L' + 1, ocC) :: (d, od) :: tl ∧ ocL.data = .cell vL ∧ Obj.IsDictOf (intKind prog w) od kvs ∧ SrcsIn P tl kvs (sourcesOf (ways.take i) counts wanted) ∧
        m (Str.ofString "found") = some (.ref d) ∧ m (Str.ofString "wanted") = some (.int wanted tw) ∧ (∀ p ∈ tl, p.1 ≠ L' + 1 + 1) ∧ (∀ p ∈ tl, p.1 ≠ L' + 1) ∧ ∀ p ∈ tl, p.1 ≠ d
  refine For_lst (h₀ := g') (L := L') J1 rfl rfl ?_
  k_steps
  unfold Stop
  refine ⟨wl, (was.map Value.ref).toArray, _, [(L' + 1 + 1, ocL), (L' + 1, ocC), (d, od0)], rfl, F1, fun p hp => N1 p ?_, fun _ _ _ _ => .inl (isList_of hw'), ?_, ?_, ?_⟩
  · simp only [List.mem_cons, List.not_mem_nil, or_false] at hp ⊢
    rcases hp with h | h | h <;> simp [h]
  · exact ⟨ocL, none, od0, [], [], rfl, hdL, hd0, ⟨.nil, .nil⟩, rfl, rfl, (fun _ h => nomatch h), (fun _ h => nomatch h), (fun _ h => nomatch h)⟩
  · intro i v m₁ nw I oI h tk hv hJ F1 N1 off
    refine hide fun G hG => ?_
    obtain ⟨ocL, vL, od, tl, kvs, rfl, hdL, hod, hsrc, hmf, hmw, o1, o2, o3⟩ := hJ
    refine hG ?_
    clear hG G
    obtain ⟨ta, hta, rfl⟩ := refs_at (as := was) (k := i) (v := v) (by simpa using hv)
    refine hide fun G hG => ?_
    obtain ⟨way, hway, hT, hTP⟩ := hws'.get i ta hta
    refine hG ?_
    clear hG G
    have n1 := neN (off (L' + 1 + 1, ocL) List.mem_cons_self)
    have n2 := neN (off (L' + 1, ocC) (.tail _ List.mem_cons_self))
    have n3 := neN (off (d, od) (.tail _ (.tail _ List.mem_cons_self)))
    have o4 : ∀ p ∈ tl, p.1 ≠ I := fun p hp => off p (.tail _ (.tail _ (.tail _ hp)))
    dsimp only at n1 n2 n3
    k_steps
    rename News _ _ _ _ => N2
    rename Fr _ _ _ _ => F2
    unfold Stop
    refine counts_call (G'.at F2) (.inr (hT.kb (as := []) (fun b o e _ => F2.keep b o e) (by simp))) (hwl way (List.mem_of_getElem? hway)) hcn (by show dp + 1 < 900; omega) (by show un + 3 < 1000; omega) ?_
    intro r h3 tk3 kb3 hnew hlst
    refine hide fun G hG => ?_
    obtain ⟨lvs, ln, hlI, hlo3⟩ := hlst
    refine hG ?_
    clear hG G
    have F3 := fr_after0 F2 kb3
    have N3 := news_new F2 (news_after0 N2 kb3) hnew hlo3
    have or := off_new N2 hnew
    have r1 := neN (or (I, oI) List.mem_cons_self)
    have r2 := neN (or (L' + 1 + 1, ocL) (.tail _ List.mem_cons_self))
    have r3 := neN (or (L' + 1, ocC) (.tail _ (.tail _ List.mem_cons_self)))
    have r4 := neN (or (d, od) (.tail _ (.tail _ (.tail _ List.mem_cons_self))))
    have r5 : ∀ p ∈ tl, p.1 ≠ r := fun p hp => or p (.tail _ (.tail _ (.tail _ (.tail _ hp))))
    dsimp only at r1 r2 r3 r4
    clear N2 F2 or
    dsimp only
    k_steps
    rename Fr _ _ _ _ => F4
    rename News _ _ _ _ => N4
    rename (Obj.data _ = Data.cell _) => hdL4
    rename Obj => ocL4
    unfold Stop
    have hlen : (countsOf way counts.length).length = counts.length := by simp [countsOf, rangeKs_length]
    generalize hlate : countsOf way counts.length = late at *
    refine AssignT F4 (cl := [(Str.ofString "late", L' + 1 + 1), (Str.ofString "counts", L' + 1)]) rfl (by with_unfolding_all rfl) (by with_unfolding_all rfl) (by decide) rfl (by decide) rfl rfl rfl ?_
    k_steps
    rename IsRange _ _ _ _ _ _ _ _ => hR
    rename Fr _ _ _ _ => F5
    rename News _ _ _ _ => N5
    unfold Stop
    refine ex5 _ (counts.length) _ _ (fun k ys nw => nw = (r, LO lvs ln) :: (I, oI) :: (L' + 1 + 1, ocL4) :: (L' + 1, ocC) :: (d, od) :: tl ∧ IntsAre ys ((rangeKs 0 k).filter fun k => decide (late.getD k.toNat 0 < counts.getD k.toNat 0))) ⟨Src.range rfl hR (range_small (by omega)) (range_size _), ?_, F5, N5, fun _ _ _ _ => trivial, ⟨rfl, .nil⟩, ?_, ?_⟩
    · exact Nat.le_trans (Nat.le_of_lt hcn) (by decide)
    · rintro k v I₂ oI₂ C oC D m₂ h9 tk9 ys nw E' hk ⟨t, rfl⟩ ⟨rfl, hys⟩ hC hm F6 N6 off6
      try simp only [List.cons_append, List.nil_append] at N6
      rw [Int.zero_add] at hm
      k_steps
      · rename (List.getD late _ _ < _) => hlt9
        refine ⟨h9, tk9, _, rfl, F6, N6, off6, rfl, ?_⟩
        rw [filter_last_pos (by exact decide_eq_true hlt9)]
        exact hys.append (.cons (k : Int) t .nil)
      · rename (¬ _) => hlt9
        refine ⟨h9, tk9, _, rfl, F6, N6, off6, rfl, ?_⟩
        rw [filter_last_neg (by exact decide_eq_false hlt9)]
        exact hys
    · rintro D h9 tk9 ys nw F6 N6 off6 ⟨rfl, hys⟩
      have hfl : ((rangeKs 0 counts.length).filter fun k => decide (late.getD k.toNat 0 < counts.getD k.toNat 0)).length ≤ counts.length := Nat.le_trans (List.length_filter_le _ _) (by rw [rangeKs_length]; exact Nat.le_refl _)
      have hfb : 0 ≤ ((rangeKs 0 counts.length).filter fun k => decide (late.getD k.toNat 0 < counts.getD k.toNat 0)).getD (0 : Int).toNat 0 ∧ ((rangeKs 0 counts.length).filter fun k => decide (late.getD k.toNat 0 < counts.getD k.toNat 0)).getD (0 : Int).toNat 0 < counts.length := by
        show 0 ≤ List.getD _ 0 0 ∧ List.getD _ 0 0 < _
        generalize hq : (rangeKs 0 counts.length).filter (fun k => decide (late.getD k.toNat 0 < counts.getD k.toNat 0)) = q
        cases q with
        | nil => simp; omega
        | cons x q =>
          have hx : x ∈ rangeKs 0 counts.length := (List.mem_filter.mp (hq ▸ List.mem_cons_self)).1
          have := mem_rangeKs hx
          simp only [List.getD_cons_zero]
          omega
      generalize hfw : (rangeKs 0 counts.length).filter (fun k => decide (late.getD k.toNat 0 < counts.getD k.toNat 0)) = fewer at *
      have hsk : srcKey counts wanted way = if fewer.length = 1 ∧ late.getD wanted.toNat 0 = counts.getD wanted.toNat 0 + 1 ∧ late.getD (fewer.getD 0 0).toNat 0 = counts.getD (fewer.getD 0 0).toNat 0 - 1 then some (fewer.getD 0 0) else none := by
        simp only [srcKey, fewerOf, hlate, hfw]
      have hsn : sourcesOf (ways.take (i + 1)) counts wanted = stepSrc counts wanted (sourcesOf (ways.take i) counts wanted) way := by
        rw [List.take_add_one, hway]; exact sourcesOf_snoc _ _ _ _
      have hbd := sourcesOf_length (ways.take i) counts wanted
      have hil : (ways.take i).length ≤ 243 := Nat.le_trans (List.length_take_le' _ _) hwn
      generalize hsf : sourcesOf (ways.take i) counts wanted = sf at *
      have hz : (1000 : Nat) ≤ sizeLine := by decide
      have d1 := neN (off6 (r, LO lvs ln) List.mem_cons_self)
      have d2 := neN (off6 (I, oI) (.tail _ List.mem_cons_self))
      have d3 := neN (off6 (L' + 1 + 1, ocL4) (.tail _ (.tail _ List.mem_cons_self)))
      have d4 := neN (off6 (L' + 1, ocC) (.tail _ (.tail _ (.tail _ List.mem_cons_self))))
      have d5 := neN (off6 (d, od) (.tail _ (.tail _ (.tail _ (.tail _ List.mem_cons_self)))))
      dsimp only at d1 d2 d3 d4 d5
      have gE : ∀ (Q : Flow → Shared → Prop) h2 tk2 m' od' tl' kvs' all, Fr g' L' h2 m' → News g' L' h2 all → (∀ p ∈ (I, oI) :: (L' + 1 + 1, ocL4) :: (L' + 1, ocC) :: (d, od') :: tl', p ∈ all) → Obj.IsDictOf (intKind prog w) od' kvs' →
          SrcsIn P tl' kvs' (sourcesOf (ways.take (i + 1)) counts wanted) → m' (Str.ofString "found") = some (.ref d) → m' (Str.ofString "wanted") = some (.int wanted tw) → (∀ p ∈ tl', p.1 ≠ I) → (∀ p ∈ tl', p.1 ≠ L' + 1 + 1) → (∀ p ∈ tl', p.1 ≠ L' + 1) → (∀ p ∈ tl', p.1 ≠ d) →
          TurnEnd g' L' { s with heap := h, toks := tk } I oI
          (fun m nw => ∃ ocL vL od tl kvs, nw = (L' + 1 + 1, ocL) :: (L' + 1, ocC) :: (d, od) :: tl ∧ ocL.data = .cell vL ∧ Obj.IsDictOf (intKind prog w) od kvs ∧ SrcsIn P tl kvs (sourcesOf (ways.take (i + 1)) counts wanted) ∧
            m (Str.ofString "found") = some (.ref d) ∧ m (Str.ofString "wanted") = some (.int wanted tw) ∧ (∀ p ∈ tl, p.1 ≠ L' + 1 + 1) ∧ (∀ p ∈ tl, p.1 ≠ L' + 1) ∧ ∀ p ∈ tl, p.1 ≠ d) Q .next { s with heap := h2, toks := tk2 } := by
        intro Q h2 tk2 m' od' tl' kvs' all F N sub hd' hs' e1 e2 w0 w1 w2 w3
        refine TurnEnd.intro ((L' + 1 + 1, ocL4) :: (L' + 1, ocC) :: (d, od') :: tl') F N sub ?_ ⟨ocL4, _, od', tl', kvs', rfl, hdL4, hd', hs', e1, e2, w1, w2, w3⟩
        refine fc (n1) ?_
        refine fc (n2) ?_
        refine fc (n3) ?_
        intro p hp
        · exact w0 p hp
      have hmf' : (if Str.ofString "found" = Str.ofString "fewer" then some (Value.ref D) else if Str.ofString "found" = Str.ofString "way" then some (Value.ref ta) else m₁ (Str.ofString "found")) = some (.ref d) := by
        rw [if_neg (by decide), if_neg (by decide)]; exact hmf
      have hmw' : (if Str.ofString "wanted" = Str.ofString "fewer" then some (Value.ref D) else if Str.ofString "wanted" = Str.ofString "way" then some (Value.ref ta) else m₁ (Str.ofString "wanted")) = some (.int wanted tw) := by
        rw [if_neg (by decide), if_neg (by decide)]; exact hmw
      have g0 : srcKey counts wanted way = none → ∀ (Q : Flow → Shared → Prop) tk2, TurnEnd g' L' { s with heap := h, toks := tk } I oI
          (fun m nw => ∃ ocL vL od tl kvs, nw = (L' + 1 + 1, ocL) :: (L' + 1, ocC) :: (d, od) :: tl ∧ ocL.data = .cell vL ∧ Obj.IsDictOf (intKind prog w) od kvs ∧ SrcsIn P tl kvs (sourcesOf (ways.take (i + 1)) counts wanted) ∧
            m (Str.ofString "found") = some (.ref d) ∧ m (Str.ofString "wanted") = some (.int wanted tw) ∧ (∀ p ∈ tl, p.1 ≠ L' + 1 + 1) ∧ (∀ p ∈ tl, p.1 ≠ L' + 1) ∧ ∀ p ∈ tl, p.1 ≠ d) Q .next { s with heap := h9, toks := tk2 } := fun hno Q tk2 => by
        refine gE Q h9 tk2 _ od tl kvs _ F6 N6 (fun p hp => .tail _ (.tail _ hp)) hod ?_ hmf' hmw' o4 o1 o2 o3
        rw [hsn, stepSrc, hno]; exact hsrc
      k_steps
      · rename Fr _ _ _ _ => F7
        rename News _ _ _ _ => N7
        rename (fewer.length : Int) = 1 => q1
        rename (late.getD wanted.toNat 0 = _) => q2
        rename (late.getD _ _ = counts.getD _ _ - 1) => q3
        rename (_ ∧ _) => l7
        rename Addr => l'
        have hsy : sourcesOf (ways.take (i + 1)) counts wanted = addSrc sf (fewer.getD (Int.toNat 0) 0) way := by
          rw [hsn, stepSrc, hsk, if_pos ⟨by omega, q2, q3⟩]; rfl
        unfold Stop
        refine setdef_L F7 N7 (by k_mem) hod hlo (by rw [hsrc.1.length]; omega) ?_ ?_
        · intro v hv
          refine hide fun G hG => ?_
          obtain ⟨l, as, n, rfl, hl, ⟨f, hf, hfe⟩, hS⟩ := hsrc.there hv
          refine hG ?_
          clear hG G
          have hl7 : (l, LO (as.map Value.ref) n) ∈ (l', W.listOf #[] 0) :: (D, lst ys) :: (r, LO lvs ln) :: (I, oI) :: (L' + 1 + 1, ocL4) :: (L' + 1, ocC) :: (d, od) :: tl := .tail _ (.tail _ (.tail _ (.tail _ (.tail _ (.tail _ (.tail _ hl))))))
          have hfl := hbd.2 f hf
          k_steps
          unfold Stop
          refine append_L F7 N7 hl7 (by rw [List.length_map]; omega) fun h8 F8 N8 => ?_
          k_steps
          refine gE (fun _ _ => True) h8 _ _ od (updL l (LO ((as ++ [ta]).map Value.ref) (n + 1)) tl) kvs _ F8 N8 ?_ hod (by rw [hsy]; exact hS ta way hTP) hmf' hmw' (updL_off o4) (updL_off o1) (updL_off o2) (updL_off o3)
          intro p hp
          have hal : LO ((as ++ [ta]).map Value.ref) (n + 1) = LO (as.map Value.ref ++ [Value.ref ta]) (n + 1) := by rw [List.map_append]; rfl
          rw [hal] at hp
          simp only [List.mem_cons] at hp
          rcases hp with rfl | rfl | rfl | rfl | hp
          · exact updL_ne (by k_mem) (Ne.symm (o4 _ hl))
          · exact updL_ne (by k_mem) (Ne.symm (o1 _ hl))
          · exact updL_ne (by k_mem) (Ne.symm (o2 _ hl))
          · exact updL_ne (by k_mem) (Ne.symm (o3 _ hl))
          · exact updL_sub (fun p hp => .tail _ (.tail _ (.tail _ (.tail _ (.tail _ (.tail _ (.tail _ hp))))))) p hp
        · intro hn h8 o8 F8 N8 hd8
          rw [stored_new hn] at hd8
          refine hide fun G hG => ?_
          obtain ⟨m1, m2, m3, m4, m5, m6, m7⟩ := l7
          refine hG ?_
          clear hG G
          have N8' : News g' L' h8 ((l', W.listOf #[] 0) :: (I, oI) :: (L' + 1 + 1, ocL4) :: (L' + 1, ocC) :: (d, o8) :: tl) := fun p hp => N8 p (by
            simp only [List.mem_cons] at hp
            rcases hp with rfl | rfl | rfl | rfl | rfl | hp
            · exact updL_ne (by k_mem) (by k_ne)
            · exact updL_ne (by k_mem) (Ne.symm n3)
            · exact updL_ne (by k_mem) (by k_ne)
            · exact updL_ne (by k_mem) (by k_ne)
            · exact updL_new (oo := od) (by k_mem)
            · exact updL_ne (.tail _ (.tail _ (.tail _ (.tail _ (.tail _ (.tail _ (.tail _ hp))))))) (o3 _ hp))
          clear N8 N7 F7
          k_steps
          unfold Stop
          refine append_L (vs := []) F8 N8' (.head _) (Nat.zero_le _) fun h9' F9 N9 => ?_
          k_steps
          refine gE (fun _ _ => True) h9' _ _ o8 ((l', LO [Value.ref ta] 1) :: tl) _ _ F9 N9 ?_ hd8 (by rw [hsy]; exact SrcsIn.fresh hTP (.head _) (fun p hp => .tail _ hp) (fun p hp => Nat.ne_of_lt (allLt_mem m7 p hp)) hsrc hn) hmf' hmw' ?_ ?_ ?_ ?_
          · refine fc (updL_ne (by k_mem) (by k_ne)) ?_
            refine fc (updL_ne (by k_mem) (by k_ne)) ?_
            refine fc (updL_ne (by k_mem) (by k_ne)) ?_
            refine fc (updL_ne (by k_mem) (by k_ne)) ?_
            refine fc (updL_new (oo := W.listOf #[] 0) (by k_mem)) ?_
            intro p hp
            · exact updL_ne (.tail _ (.tail _ (.tail _ (.tail _ (.tail _ hp))))) (Nat.ne_of_lt (allLt_mem m7 p hp))
          · exact cons_off (by k_ne) o4
          · exact cons_off (by k_ne) o1
          · exact cons_off (by k_ne) o2
          · exact cons_off (by k_ne) o3
      · exact g0 (by rw [hsk, if_neg (fun q => absurd q.2.2 (by assumption))]) (fun _ _ => True) _
      · exact g0 (by rw [hsk, if_neg (fun q => absurd q.2.1 (by assumption))]) (fun _ _ => True) _
      · exact g0 (by rw [hsk, if_neg (fun q => absurd q.1 (by omega))]) (fun _ _ => True) _
  · intro m₁ nw h tk hJ F1 N1
    refine hide fun G hG => ?_
    obtain ⟨ocL, vL, od, tl, kvs, rfl, hdL, hod, hsrc, hmf, hmw, o1, o2, o3⟩ := hJ
    refine hG ?_
    clear hG G
    dsimp only
    k_steps
    dsimp only
    have e7 : ways.take (was.map Value.ref).toArray.size = ways := by rw [List.size_toArray, List.length_map, hws'.length, List.take_length]
    rw [e7] at hsrc
    refine hQ d h _ ((d, od) :: tl) od kvs (fun b o e n => F1.keep b o (kg b o e n)) (fun p hp => ?_) (.head _) hlo hod ⟨hsrc.1.mono fun a b x => ?_, hsrc.2⟩
    · have Np := N1 p (.tail _ (.tail _ hp))
      exact ⟨Np.1, kg.none (by simp) Np.2.2⟩
    · exact x.mono fun _ _ _ hm => .tail _ hm
end Mine
end

section
open PySem PySem.W PyProof.Rows PySem.Calls PySem.Spec
set_option Elab.async false
set_option maxRecDepth 100000
set_option maxHeartbeats 8000000
namespace Mine
theorem offMade : True := by
  w_top off
  trivial
open LCg LCt
local macro_rules | `(tactic| walk_at "call builtin:len") => `(tactic| ((with_reducible show wpAny _ _ (call (Value.builtin "len") [Value.ref _]) _ _ _); k_dflt (refine' len_lstB ?k1 ?k2 ?k4 ?_; (case k1 => k_asm); (case k2 => with_reducible assumption); (case k4 => omega); k_whole)))
noncomputable abbrev instD (w : World) (t₁ t₂ t₃ t₄ t₅ : Tok) (n : Nat) (ab lo hi at' cn : Addr) : Obj :=
  dictOf [⟨PyData.keyHash w.params (Str.ofString "able"), .str (Str.ofString "able") t₁, .ref ab⟩, ⟨PyData.keyHash w.params (Str.ofString "lows"), .str (Str.ofString "lows") t₂, .ref lo⟩,
    ⟨PyData.keyHash w.params (Str.ofString "highs"), .str (Str.ofString "highs") t₃, .ref hi⟩, ⟨PyData.keyHash w.params (Str.ofString "at"), .str (Str.ofString "at") t₄, .ref at'⟩,
    ⟨PyData.keyHash w.params (Str.ofString "counts"), .str (Str.ofString "counts") t₅, .ref cn⟩] n
theorem init_call {prog : Program} {w : World} {A : Around} {s : Shared} {G₀ : Heap} {loose : List Str} {mean : ExcName → Option Value} {mg mb : Str → Option Value}
   {x dx ab lo hi : Addr} {avs lvs : List Value} {an ln : Nat} {R : Result → Shared → Prop}
   (G : GG w loose mean mg mb G₀ s.heap) (N : Ours G₀ s.heap [(x, instObj 73 dx), (dx, dictOf [] 0)])
   (ha : s.heap.get? ab = some (LO avs an)) (hl : s.heap.get? lo = some (LO lvs ln)) (han : avs.length < 100) (hln : lvs.length < 100) (hdp : A.depth < 900)
   (hne : ab ≠ x ∧ ab ≠ dx ∧ lo ≠ x ∧ lo ≠ dx ∧ x ≠ dx)
   (hQ : ∀ h' tk' t₁ t₂ t₃ t₄ t₅ n at' cn, Kb s.heap h' [dx] → h'.get? dx = some (instD w t₁ t₂ t₃ t₄ t₅ n ab lo hi at' cn) → R (.ok (.ret .none)) { s with heap := h', toks := tk' }) :
   codeAny (model prog w) A (.call (.ref 35) ⟨[.ref x, .ref ab, .ref lo, .ref hi], []⟩) R s := by
  k_dflt (refine' enter_plain ?k1 ?k3 ?k6 ?k7 ?k8 ?k9 ?kB ?_ ?c5 ?c2 ?c3 ?c4)
  (case k1 => exact G); (case k3 => exact N); (case k6 => k_is); (case k7 => k_is); (case k8 => show A.depth < recursionLimit; simp only [recursionLimit]; omega); (case k9 => exact BindsTo.of_eq rfl); (case c5 => decide); (case kB => exact locs rfl); (case c2 => exact rfl); (case c3 => exact rfl); (case c4 => exact rfl)
  intro g' L' h' tk' eg kg F' N' X' T' G' l1
  clear eg G
  have ha' : g'.get? ab = some (LO avs an) := kg _ _ ha (by simp [hne])
  have hl' : g'.get? lo = some (LO lvs ln) := kg _ _ hl (by simp [hne])
  have haL := isList_of ha'
  have hlL := isList_of hl'
  obtain ⟨e1, e2, e3, e4, e5⟩ := hne
  have e5 := neN e5
  (try dsimp only); (try k_fold)
  k_steps
  rename News _ _ _ _ => N1
  rename Fr _ _ _ _ => F1
  refine hQ _ _ _ _ _ _ _ _ _ _ ?_ (N1 (dx, _) (by k_mem)).1
  intro b o e hb
  simp only [List.mem_singleton] at hb
  by_cases hx : b = x
  · subst hx
    rw [(N (b, _) List.mem_cons_self).1] at e
    cases e
    exact (N1 (b, _) (by k_mem)).1
  · exact F1.keep b o (kg b o e (by simp [hx, hb]))
end Mine
end

section
open PySem PySem.W PyProof.Rows PySem.Calls PySem.Spec
set_option Elab.async false
set_option maxRecDepth 100000
set_option maxHeartbeats 8000000
namespace Mine
theorem offWhl : True := by
  w_top off
  trivial
open LCg

def WEnd (h₀ : Heap) (L : Addr) (s₁ : Shared) (J : Nat → (Str → Option Value) → Led → Prop) (k : Nat) (Q : Flow → Shared → Prop) (f : Flow) (s₂ : Shared) : Prop :=
  match f with
  | .ret v => Q (.ret v) s₂
  | .brk => Q .next s₂
  | _ => ∃ h' tk m' nw' k', k' < k ∧ s₂ = { s₁ with heap := h', toks := tk } ∧ Fr h₀ L h' m' ∧ News h₀ L h' nw' ∧ J k' m' nw'
theorem WEnd.intro {h₀ : Heap} {L : Addr} {s₁ : Shared} {J : Nat → (Str → Option Value) → Led → Prop} {k : Nat} {Q : Flow → Shared → Prop} {h' : Heap} {tk : Nat} {m' : Str → Option Value} {nw' : Led} (k' : Nat) (hk : k' < k)
    (F : Fr h₀ L h' m') (N : News h₀ L h' nw') (hJ : J k' m' nw') : WEnd h₀ L s₁ J k Q .next { s₁ with heap := h', toks := tk } :=
  ⟨h', tk, m', nw', k', hk, rfl, F, N, hJ⟩

section
variable {prog : Program} {w : World} {A : Around} {h₀ : Heap} {env : Env}
theorem While_walk {E : Value → Shared → Prop} {Q : Flow → Shared → Prop} {test : Expr} {body : List Stmt} {pos : Pos} {s : Shared} {L : Addr} {m : Str → Option Value} {news : Led} (J : Nat → (Str → Option Value) → Led → Prop) (k0 : Nat)
    (F : Fr h₀ L s.heap m) (N : News h₀ L s.heap news) (h0 : J k0 m news)
    (turn : ∀ k m nw h tk, J k m nw → Fr h₀ L h m → News h₀ L h nw → wpAny (model prog w) A (isTrue test env (eval test env)) (fun b s₂ => if b = true then wpAny (model prog w) A (execs body env) (WEnd h₀ L { s with heap := h, toks := tk } J k Q) (fun _ _ => False) s₂ else Q .next s₂)
      (fun _ _ => False) { s with heap := h, toks := tk }) :
    wpAny (model prog w) A (exec (.While test body [] pos) env) Q E s := by
  refine wpAny_While ?_
  let I : Nat → Shared → Prop := fun k s' => ∃ h' tk m' nw', s' = { s with heap := h', toks := tk } ∧ Fr h₀ L h' m' ∧ News h₀ L h' nw' ∧ J k m' nw'
  have hI : I k0 s := ⟨s.heap, s.toks, m, news, rfl, F, N, h0⟩
  refine codeAny_whileLoop I ?_ k0 hI
  rintro k s' hz2
  refine hide fun G hG => ?_
  obtain ⟨h', tk, m', nw', rfl, F', N', hJ⟩ := hz2
  refine hG ?_
  clear hG G
  refine wpAny_mono (turn k m' nw' h' tk hJ F' N') (fun b s₂ h₂ => ?_) fun _ _ e => e.elim
  cases b with
  | true =>
    simp only [if_true] at h₂ ⊢
    refine wpAny_mono h₂ (fun f s₃ h₃ => ?_) fun _ _ e => e.elim
    have fin : (∃ h'' tk'' m'' nw'' k', k' < k ∧ s₃ = { s with heap := h'', toks := tk'' } ∧ Fr h₀ L h'' m'' ∧ News h₀ L h'' nw'' ∧ J k' m'' nw'') →
        ∃ m_1, m_1 < k ∧ ∃ h' tk m' nw', s₃ = { s with heap := h', toks := tk } ∧ Fr h₀ L h' m' ∧ News h₀ L h' nw' ∧ J m_1 m' nw' := by
      rintro hz0
      refine hide fun G hG => ?_
      obtain ⟨h'', tk'', m'', nw'', k', hk, e, x⟩ := hz0
      refine hG ?_
      clear hG G
      exact ⟨k', hk, h'', tk'', m'', nw'', e, x⟩
    cases f with
    | ret v => exact h₃
    | brk => exact h₃
    | next => exact fin h₃
    | cont => exact fin h₃
  | false =>
    simp only [Bool.false_eq_true, if_false] at h₂ ⊢
    exact wpAny_execs_nil h₂
end
end Mine
end

local macro_rules | `(tactic| walk_at "eval Name") => `(tactic| (k_dflt (refine' PySem.W.nameX_L ?F ?v ?_ ?a ?b; (case F => k_asm); (case a | b => rfl); (case v => first | with_reducible assumption | assumption); k_whole)))

section
open PySem PySem.W PyProof.Rows PySem.Calls PySem.Spec
set_option Elab.async false
set_option maxRecDepth 100000
set_option maxHeartbeats 8000000
namespace Mine
theorem offMoveA : True := by
  w_top off
  trivial
open LCg LCt

/-- came: where from, and the pairs -/
def CameIn (g : Heap) (nw : Led) (kv : Int × Value) (p : Int × (Int × Int)) : Prop := kv.1 = p.1 ∧ ∃ t, kv.2 = .ref t ∧ (TupI g t [p.2.1, p.2.2] ∨ TupIn nw t [p.2.1, p.2.2])
noncomputable def cameOf (came : List (Int × (Int × Int))) (o : Int) : Option (Int × Int) := (came.find? fun p => p.1 = o).map (·.2)
inductive Chain (came : List (Int × (Int × Int))) (wanted : Int) : Int → List (Int × Int) → Prop
  | done : Chain came wanted wanted []
  | step {o m o' : Int} {ps : List (Int × Int)} : o ≠ wanted → cameOf came o = some (m, o') → Chain came wanted o' ps → Chain came wanted o ((m, o') :: ps)
noncomputable def moveAll (ats : List Int) (ps : List (Int × Int)) : List Int := ps.foldl (fun a p => a.set p.1.toNat p.2) ats

theorem valueAt_came {g : Heap} {nw : Led} {o : Int} {q : Int × Int} : ∀ {kvs : List (Int × Value)} {came : List (Int × (Int × Int))}, All2 (CameIn g nw) kvs came → cameOf came o = some q → ∃ t, valueAt kvs o = some (.ref t) ∧ (TupI g t [q.1, q.2] ∨ TupIn nw t [q.1, q.2]) := fun h => by
  induction h with
  | nil => intro h; simp [cameOf] at h
  | @cons kv p _ bs h r ih =>
    intro e
    by_cases hk : kv.1 = o
    · refine hide fun G hG => ?_
      obtain ⟨e0, t, e1, e2⟩ := h
      refine hG ?_
      clear hG G
      have : p.2 = q := by simpa [cameOf, List.find?_cons, ← e0, hk] using e
      subst this
      exact ⟨t, by simp [valueAt, List.find?_cons, hk, e1], e2⟩
    · have hk' : ¬ p.1 = o := by rw [← h.1]; exact hk
      have e' : cameOf bs o = some q := by simpa [cameOf, List.find?_cons, hk'] using e
      obtain ⟨t, e1, e2⟩ := ih e'
      exact ⟨t, by simpa [valueAt, List.find?_cons, hk] using e1, e2⟩
theorem pair_of {vs : List Value} {a b : Int} (h : IntsAre vs [a, b]) : ∃ t u, vs = [.int a t, .int b u] := by
  cases h with
  | cons _ t h => cases h with
    | cons _ u h => cases h; exact ⟨t, u, rfl⟩

local macro_rules | `(tactic| walk_at "exec While") => `(tactic| refine stop_here ?_)
local macro_rules | `(tactic| walk_at "subscriptTail") => `(tactic| ((with_reducible show wpAny _ _ (subscriptTail _ _ (Value.ref _) (Value.int _ _)) _ _ _); k_dflt (refine' kda_item (knd := PySem.intKind _ _) ?N ?m ?d (intKind_is _ _ _ _) ?l ?_ ?s ?g; (case N => k_asm); (case m => k_mem); (case d | l => with_reducible assumption); (case s => with_unfolding_all rfl); (case g => (intro _; with_unfolding_all rfl)))))
theorem move_call {prog : Program} {w : World} {dp un : Nat} {fr : Option (List Env)} {gd : Option (List Code)} {s : Shared} {G₀ : Heap} {loose : List Str} {mean : ExcName → Option Value} {mg mb : Str → Option Value}
   {x dx ab lo hi aA cA cm : Addr} {avs cvs : List Value} {an cn n : Nat} {t₁ t₂ t₃ t₄ t₅ t₆ t₇ : Tok} {od : Obj} {kvs : List (Int × Value)} {came : List (Int × (Int × Int))} {ats cs : List Int} {option wanted : Int} {ps : List (Int × Int)} {Q E : Value → Shared → Prop}
   (G : GG w loose mean mg mb G₀ s.heap) (N : Ours G₀ s.heap [(x, instObj 73 dx), (dx, instD w t₁ t₂ t₃ t₄ t₅ n ab lo hi aA cA), (aA, LO avs an), (cA, LO cvs cn), (cm, od)])
   (hai : IntsAre avs ats) (hci : IntsAre cvs cs) (hod : Obj.IsDictOf (intKind prog w) od kvs) (hkv : All2 (CameIn s.heap []) kvs came) (hlo : (cm == sysModules) = false)
   (h1 : 0 ≤ option) (h2 : option < cs.length) (h3 : 0 ≤ wanted) (h4 : wanted < cs.length) (hc : Chain came wanted option ps) (hps : ∀ p ∈ ps, 0 ≤ p.1 ∧ p.1 < ats.length) (hal : ats.length < 100) (hcl : cs.length < 100)
   (hdp : dp < 900) (hne : x ≠ dx ∧ x ≠ aA ∧ x ≠ cA ∧ x ≠ cm ∧ dx ≠ aA ∧ dx ≠ cA ∧ dx ≠ cm ∧ aA ≠ cA ∧ aA ≠ cm ∧ cA ≠ cm)
   (hQ : ∀ h' tk' avs' an' cvs' cn', Kb s.heap h' [aA, cA] → h'.get? aA = some (LO avs' an') → h'.get? cA = some (LO cvs' cn') → IntsAre avs' (moveAll ats ps) →
      IntsAre cvs' ((cs.set option.toNat (cs.getD option.toNat 0 - 1)).set wanted.toNat ((cs.set option.toNat (cs.getD option.toNat 0 - 1)).getD wanted.toNat 0 + 1)) → Q .none { s with heap := h', toks := tk' }) :
   wpAny (model prog w) ⟨none, dp, fr, gd, un⟩ (call (.ref 63) [.ref x, .int option t₆, .int wanted t₇, .ref cm]) Q E s := by
  refine wpAny_call ?_
  k_dflt (refine' enter_plain ?k1 ?k3 ?k6 ?k7 ?k8 ?k9 ?kB ?_ ?c5 ?c2 ?c3 ?c4)
  (case k1 => exact G); (case k3 => exact N); (case k6 => k_is); (case k7 => k_is); (case k8 => show dp < recursionLimit; simp only [recursionLimit]; omega); (case k9 => exact BindsTo.of_eq rfl); (case c5 => decide); (case kB => exact locs rfl); (case c2 => exact rfl); (case c3 => exact rfl); (case c4 => exact rfl)
  intro g' L' h' tk' eg kg F' N' X' T' G' l1
  clear eg G
  refine hide fun G hG => ?_
  obtain ⟨e1, e2, e3, e4, e5, e6, e7, e8, e9, e10⟩ := hne
  refine hG ?_
  clear hG G
  have e1 := neN e1
  have e2 := neN e2
  have e3 := neN e3
  have e4 := neN e4
  have e5 := neN e5
  have e6 := neN e6
  have e7 := neN e7
  have e8 := neN e8
  have e9 := neN e9
  have e10 := neN e10
  (try dsimp only); (try k_fold)
  k_steps
  rename Fr _ _ _ _ => F1
  rename News _ _ _ _ => N1
  rename IntsAre _ (List.set _ _ _) => I1
  unfold Stop
  have hkv' : All2 (CameIn g' []) kvs came := hkv.mono fun a b ⟨q1, t, q2, q3⟩ => by
    rcases q3 with ⟨vs, n, q3, q4⟩ | ⟨vs, n, _, q4⟩
    · refine ⟨q1, t, q2, .inl ⟨vs, n, q3, kg _ _ q4 ?_⟩⟩
      intro hm
      obtain ⟨p, hp, hpe⟩ := List.mem_map.mp hm
      have hpp := (N p hp).1
      have hpe' : p.1 = t := hpe
      rw [hpe', q4] at hpp
      simp only [List.mem_cons, List.not_mem_nil, or_false] at hp
      rcases hp with rfl | rfl | rfl | rfl | rfl
      · injection hpp with hpp; have := congrArg Obj.data hpp; cases this
      · injection hpp with hpp; have := congrArg Obj.data hpp; cases this
      · injection hpp with hpp; have := congrArg Obj.cls hpp; injection this with q; exact absurd q (by decide)
      · injection hpp with hpp; have := congrArg Obj.cls hpp; injection this with q; exact absurd q (by decide)
      · refine hide fun G hG => ?_
        obtain ⟨es, ep, _, hd, _⟩ := hod
        refine hG ?_
        clear hG G
        injection hpp with hpp
        have h2 : od.data = .seq _ _ := (congrArg Obj.data hpp).symm
        rw [hd] at h2; cases h2
    · cases q4
  clear hkv
  refine While_walk (h₀ := g') (fun k m nw => ∃ opt t ats' ps' avs' an', k = List.length ps' ∧ m (Str.ofString "option") = some (.int opt t) ∧ m (Str.ofString "wanted") = some (.int wanted t₇) ∧ m (Str.ofString "self") = some (.ref x) ∧ m (Str.ofString "came") = some (.ref cm) ∧
    nw = [(x, instObj 73 dx), (dx, instD w t₁ t₂ t₃ t₄ t₅ n ab lo hi aA cA), (aA, LO avs' an'), (cA, W.listOf _ _), (cm, od)] ∧ IntsAre avs' ats' ∧ ats'.length = ats.length ∧ Chain came wanted opt ps' ∧ moveAll ats' ps' = moveAll ats ps ∧ ∀ p ∈ ps', 0 ≤ p.1 ∧ p.1 < ats.length) ps.length F1 N1
    ⟨option, t₆, ats, ps, avs, an, rfl, rfl, rfl, rfl, rfl, rfl, hai, rfl, hc, rfl, hps⟩ ?_
  rintro k m₁ nw h tk hz5 F2 N2
  refine hide fun G hG => ?_
  obtain ⟨opt, t, ats', ps', avs', an', rfl, m1, m2, m3, m4, rfl, hai', hal', hc', hmv, hps'⟩ := hz5
  refine hG ?_
  clear hG G
  cases hc' with
  | done =>
    k_steps
    · exact absurd rfl (by assumption)
    · refine hQ h _ avs' an' _ _ (fun b o e hb => ?_) (N2 (aA, _) (by k_mem)).1 (N2 (cA, _) (by k_mem)).1 (by rw [← hmv]; exact hai') I1
      simp only [List.mem_cons, List.not_mem_nil, or_false, not_or] at hb
      by_cases q : b ∈ List.map (·.1) [(x, instObj 73 dx), (dx, instD w t₁ t₂ t₃ t₄ t₅ n ab lo hi aA cA), (aA, LO avs an), (cA, LO cvs cn), (cm, od)]
      · obtain ⟨p, hp, rfl⟩ := List.mem_map.mp q
        have hpp := (N p hp).1
        rw [hpp] at e
        cases e
        simp only [List.mem_cons, List.not_mem_nil, or_false] at hp
        rcases hp with rfl | rfl | rfl | rfl | rfl
        · exact (N2 _ (by k_mem)).1
        · exact (N2 _ (by k_mem)).1
        · exact absurd rfl hb.1
        · exact absurd rfl hb.2
        · exact (N2 _ (by k_mem)).1
      · exact F2.keep b o (kg b o e q)
  | step hne' hcm hch =>
    rename_i mv o' ps''
    obtain ⟨ta, hva, ht⟩ := valueAt_came hkv' hcm
    obtain ⟨tvs, tn, htI, hto⟩ : TupI g' ta [mv, o'] := by
      rcases ht with h | ⟨_, _, _, h⟩
      · exact h
      · cases h
    obtain ⟨u1, u2, rfl⟩ := pair_of htI
    have hTup := isTup_of hto
    obtain ⟨b1, b2⟩ := hps' _ List.mem_cons_self
    dsimp only at b1 b2
    rw [← hal'] at b2
    k_steps
    · rename Fr _ _ _ _ => F5
      rename News _ _ _ _ => N5
      rename IntsAre _ (List.set ats' _ _) => I5
      exact WEnd.intro (Q := fun _ _ => True) ps''.length (by simp) F5 N5 ⟨o', u2, _, ps'', _, _, rfl, rfl, m2, m3, m4, rfl, I5, by rw [List.length_set]; exact hal', hch, hmv, fun p hp => hps' p (.tail _ hp)⟩
    · contradiction
end Mine
end

section
open PySem PySem.W PyProof.Rows PySem.Calls PySem.Spec
set_option Elab.async false
set_option maxRecDepth 100000
set_option maxHeartbeats 8000000
namespace Mine
theorem offBfs : True := by
  w_top off
  trivial

def Rich (cs lows : List Int) (o : Int) : Prop := lows.getD o.toNat 0 < cs.getD o.toNat 0

section
variable {ables : List (List Int)} {ats cs lows : List Int} {wanted : Int} {many : Nat}

inductive Path (ables : List (List Int)) (ats : List Int) (wanted : Int) : Int → List (Int × Int) → Prop
  | nil : Path ables ats wanted wanted []
  | cons {o o' m : Int} {ps : List (Int × Int)} : o ≠ wanted → 0 ≤ m → m < ats.length → ats.getD m.toNat 0 = o → o' ∈ ables.getD m.toNat [] → Path ables ats wanted o' ps → Path ables ats wanted o ((m, o') :: ps)

noncomputable abbrev keysOf (came : List (Int × Int × Int)) : List Int := came.map (·.1)
theorem cameOf_some {came : List (Int × Int × Int)} {o : Int} {q : Int × Int} (x : Int × Int × Int) (h : cameOf came o = some q) : cameOf (came ++ [x]) o = some q := by
  unfold cameOf at h ⊢
  obtain ⟨p, hp, e⟩ := Option.map_eq_some_iff.mp h
  rw [List.find?_append, hp]
  exact congrArg some e
theorem cameOf_last {came : List (Int × Int × Int)} {o : Int} {q : Int × Int} (h : o ∉ keysOf came) : cameOf (came ++ [(o, q)]) o = some q := by
  unfold cameOf
  have : came.find? (fun p => decide (p.1 = o)) = none := by
    rw [List.find?_eq_none]
    intro p hp e
    exact h (List.mem_map.mpr ⟨p, hp, of_decide_eq_true e⟩)
  rw [List.find?_append, this]
  simp
theorem Chain.grow {came : List (Int × Int × Int)} (x : Int × Int × Int) : ∀ {o : Int} {ps : List (Int × Int)}, Chain came wanted o ps → Chain (came ++ [x]) wanted o ps := fun h => by
  induction h with
  | done => exact .done
  | step h1 h2 _ ih => exact .step h1 (cameOf_some x h2) ih

structure Bfs (ables : List (List Int)) (ats cs lows : List Int) (wanted : Int) (many : Nat) (came : List (Int × Int × Int)) (spot k : Nat) (lv : Int → Nat) : Prop where
  hd : came[0]? = some (wanted, (-1, -1))
  lv0 : lv wanted = 0
  nod : (keysOf came).Nodup
  rng : ∀ p ∈ came, 0 ≤ p.1 ∧ p.1 < many
  poor : ∀ p ∈ came, p.1 ≠ wanted → ¬ Rich cs lows p.1
  pth : ∀ p ∈ came, ∃ ps, Chain came wanted p.1 ps ∧ Path ables ats wanted p.1 ps ∧ ps.length = lv p.1 ∧ (p.1 :: ps.map (·.2)).Nodup ∧ ∀ q ∈ ps, q.2 ∈ keysOf came
  mon : ∀ (i j : Nat) (p q : Int × Int × Int), i ≤ j → came[i]? = some p → came[j]? = some q → lv p.1 ≤ lv q.1
  top : ∀ (p q : Int × Int × Int), came[spot]? = some p → q ∈ came → lv q.1 ≤ lv p.1 + 1
  did : ∀ (i : Nat) (p : Int × Int × Int), i < spot → came[i]? = some p → ∀ j < ats.length, p.1 ∈ ables.getD j [] → ats.getD j 0 ∈ keysOf came ∧ lv (ats.getD j 0) ≤ lv p.1 + 1
  now : ∀ p : Int × Int × Int, came[spot]? = some p → ∀ j < k, j < ats.length → p.1 ∈ ables.getD j [] → ats.getD j 0 ∈ keysOf came

theorem Bfs.start (hw : 0 ≤ wanted ∧ wanted < many) : Bfs ables ats cs lows wanted many [(wanted, (-1, -1))] 0 0 (fun _ => 0) where
  hd := rfl
  lv0 := rfl
  nod := by simp [keysOf]
  rng := by simpa using hw
  poor := by simp
  pth := by
    intro p hp
    simp only [List.mem_singleton] at hp
    subst hp
    exact ⟨[], .done, .nil, rfl, by simp, fun _ h => nomatch h⟩
  mon := fun _ _ _ _ _ _ _ => Nat.le_refl _
  top := fun _ _ _ _ => Nat.zero_le _
  did := fun i p h => absurd h (Nat.not_lt_zero _)
  now := fun p h j hj => absurd hj (Nat.not_lt_zero _)

variable {came : List (Int × Int × Int)} {spot k : Nat} {lv : Int → Nat} {here : Int × Int × Int}
theorem Bfs.skip (B : Bfs ables ats cs lows wanted many came spot k lv) (hh : came[spot]? = some here) (h : ¬ (here.1 ∈ ables.getD k [] ∧ ats.getD k 0 ∉ keysOf came)) : Bfs ables ats cs lows wanted many came spot (k + 1) lv :=
  { B with
    now := fun p hp j hj hn hm => by
      by_cases hjk : j = k
      · subst hjk
        rw [hh] at hp
        cases hp
        by_cases hx : ats.getD j 0 ∈ keysOf came
        · exact hx
        · exact absurd ⟨hm, hx⟩ h
      · exact B.now p hp j (by omega) hn hm }
theorem Bfs.turn (B : Bfs ables ats cs lows wanted many came spot k lv) (hk : ats.length ≤ k) (hs : spot < came.length) : Bfs ables ats cs lows wanted many came (spot + 1) 0 lv :=
  { B with
    top := fun p q hp hq => by
      have h0 : came[spot]? = some came[spot] := List.getElem?_eq_getElem hs
      have h1 := B.top _ q h0 hq
      have h2 := B.mon spot (spot + 1) _ p (Nat.le_succ _) h0 hp
      omega
    did := fun i p hi hp j hj hm => by
      by_cases h : i = spot
      · subst h
        have h1 := B.now p hp j (Nat.lt_of_lt_of_le hj hk) hj hm
        refine ⟨h1, ?_⟩
        obtain ⟨q, hq, e⟩ := List.mem_map.mp h1
        rw [← e]
        exact B.top p q hp hq
      · exact B.did i p (by omega) hp j hj hm
    now := fun p h j hj => absurd hj (Nat.not_lt_zero _) }
theorem Bfs.wanted_mem (B : Bfs ables ats cs lows wanted many came spot k lv) : wanted ∈ keysOf came := List.mem_map.mpr ⟨_, List.mem_of_getElem? B.hd, rfl⟩
theorem Bfs.path_new (B : Bfs ables ats cs lows wanted many came spot k lv) (hh : came[spot]? = some here) (hk : k < ats.length) (h1 : here.1 ∈ ables.getD k []) (h2 : ats.getD k 0 ∉ keysOf came) :
    ∃ ps, Chain (came ++ [(ats.getD k 0, ((k : Int), here.1))]) wanted (ats.getD k 0) ps ∧ Path ables ats wanted (ats.getD k 0) ps ∧ ps.length = lv here.1 + 1 ∧ (ats.getD k 0 :: ps.map (·.2)).Nodup ∧ ∀ q ∈ ps, q.2 ∈ keysOf came := by
  obtain ⟨ps, c1, c2, c3, c4, c5⟩ := B.pth here (List.mem_of_getElem? hh)
  have hne : ats.getD k 0 ≠ wanted := fun e => h2 (e ▸ B.wanted_mem)
  have hm : here.1 ∈ keysOf came := List.mem_map.mpr ⟨_, List.mem_of_getElem? hh, rfl⟩
  refine ⟨((k : Int), here.1) :: ps, .step hne (cameOf_last h2) (c1.grow _), .cons hne (by omega) (by omega) (by simp) (by simpa using h1) c2, by simp [c3], ?_, ?_⟩
  · rw [List.map_cons, List.nodup_cons]
    refine ⟨fun hx => ?_, c4⟩
    rcases List.mem_cons.mp hx with e | hx
    · exact h2 (by rw [e]; exact hm)
    · obtain ⟨q, hq, e⟩ := List.mem_map.mp hx
      exact h2 (by rw [← e]; exact c5 q hq)
  · intro q hq
    rcases List.mem_cons.mp hq with rfl | hq
    · exact hm
    · exact c5 q hq
theorem Bfs.add (B : Bfs ables ats cs lows wanted many came spot k lv) (hh : came[spot]? = some here) (hk : k < ats.length) (hr : 0 ≤ ats.getD k 0 ∧ ats.getD k 0 < many) (h1 : here.1 ∈ ables.getD k []) (h2 : ats.getD k 0 ∉ keysOf came)
    (h3 : ¬ Rich cs lows (ats.getD k 0)) : Bfs ables ats cs lows wanted many (came ++ [(ats.getD k 0, ((k : Int), here.1))]) spot (k + 1) (fun v => if v = ats.getD k 0 then lv here.1 + 1 else lv v) := by
  obtain ⟨ps, d1, d2, d3, d4, d5⟩ := B.path_new hh hk h1 h2
  generalize hx : ats.getD k 0 = o at *
  have hmem : ∀ p ∈ came, p.1 ≠ o := fun p hp e => h2 (List.mem_map.mpr ⟨p, hp, e⟩)
  have hne : wanted ≠ o := fun e => h2 (e ▸ B.wanted_mem)
  have hkeys : keysOf (came ++ [(o, ((k : Int), here.1))]) = keysOf came ++ [o] := by simp [keysOf]
  have hlt : spot < came.length := (List.getElem?_eq_some_iff.mp hh).1
  have hget : ∀ i p, (came ++ [(o, ((k : Int), here.1))])[i]? = some p → (i < came.length ∧ came[i]? = some p) ∨ (i = came.length ∧ p = (o, ((k : Int), here.1))) := by
    intro i p hp
    by_cases hi : i < came.length
    · rw [List.getElem?_append_left hi] at hp; exact .inl ⟨hi, hp⟩
    · rw [List.getElem?_append_right (by omega)] at hp
      have h9 := (List.getElem?_eq_some_iff.mp hp).1
      simp only [List.length_singleton] at h9
      have h8 : i - came.length = 0 := by omega
      rw [h8] at hp
      simp only [List.getElem?_cons_zero, Option.some.injEq] at hp
      exact .inr ⟨by omega, hp.symm⟩
  exact
  { hd := by
      have h0 := (List.getElem?_eq_some_iff.mp B.hd).1
      rw [List.getElem?_append_left h0]; exact B.hd
    lv0 := by
      show (if wanted = o then _ else _) = 0
      rw [if_neg hne]; exact B.lv0
    nod := by
      rw [hkeys, List.nodup_append]
      refine ⟨B.nod, by simp, ?_⟩
      intro a ha b hb
      rw [List.mem_singleton] at hb
      rintro rfl
      exact h2 (hb ▸ ha)
    rng := by
      intro p hp
      rcases List.mem_append.mp hp with hp | hp
      · exact B.rng p hp
      · rw [List.mem_singleton] at hp; subst hp; exact hr
    poor := by
      intro p hp
      rcases List.mem_append.mp hp with hp | hp
      · exact B.poor p hp
      · rw [List.mem_singleton] at hp; subst hp; exact fun _ => h3
    pth := by
      intro p hp
      rcases List.mem_append.mp hp with hp | hp
      · obtain ⟨ps', c1, c2, c3, c4, c5⟩ := B.pth p hp
        refine ⟨ps', c1.grow _, c2, ?_, c4, fun q hq => by rw [hkeys]; exact List.mem_append_left _ (c5 q hq)⟩
        show _ = if p.1 = o then _ else _
        rw [if_neg (hmem p hp)]; exact c3
      · rw [List.mem_singleton] at hp; subst hp
        refine ⟨ps, d1, d2, ?_, d4, fun q hq => by rw [hkeys]; exact List.mem_append_left _ (d5 q hq)⟩
        show _ = if o = o then _ else _
        rw [if_pos rfl]; exact d3
    mon := by
      intro i j p q hij hp hq
      show (if p.1 = o then _ else _) ≤ (if q.1 = o then _ else _)
      rcases hget j q hq with ⟨hj, hq⟩ | ⟨hj, rfl⟩
      · rcases hget i p hp with ⟨hi, hp⟩ | ⟨hi, rfl⟩
        · rw [if_neg (hmem p (List.mem_of_getElem? hp)), if_neg (hmem q (List.mem_of_getElem? hq))]
          exact B.mon i j p q hij hp hq
        · omega
      · rw [if_pos rfl]
        split
        · exact Nat.le_refl _
        · rcases hget i p hp with ⟨hi, hp⟩ | ⟨hi, rfl⟩
          · exact B.top here p hh (List.mem_of_getElem? hp)
          · exact absurd rfl (by assumption)
    top := by
      intro p q hp hq
      rcases hget spot p hp with ⟨_, hp⟩ | ⟨h9, _⟩
      · rw [hh] at hp
        cases hp
        show (if q.1 = o then _ else _) ≤ (if here.1 = o then _ else _) + 1
        rw [if_neg (hmem here (List.mem_of_getElem? hh))]
        rcases List.mem_append.mp hq with hq | hq
        · rw [if_neg (hmem q hq)]; exact B.top here q hh hq
        · rw [List.mem_singleton] at hq; subst hq; rw [if_pos rfl]; exact Nat.le_refl _
      · omega
    did := by
      intro i p hi hp j hj hm
      rcases hget i p hp with ⟨_, hp⟩ | ⟨h9, _⟩
      · obtain ⟨e1, e2⟩ := B.did i p hi hp j hj hm
        refine ⟨by rw [hkeys]; exact List.mem_append_left _ e1, ?_⟩
        show (if _ = o then _ else _) ≤ (if p.1 = o then _ else _) + 1
        obtain ⟨q, hq, e⟩ := List.mem_map.mp e1
        rw [if_neg (hmem p (List.mem_of_getElem? hp)), ← e, if_neg (hmem q hq), e]
        exact e2
      · omega
    now := by
      intro p hp j hj hn hm
      rw [hkeys]
      rcases hget spot p hp with ⟨_, hp⟩ | ⟨h9, _⟩
      · by_cases hjk : j = k
        · subst hjk; rw [hx]; exact List.mem_append_right _ (List.mem_singleton.mpr rfl)
        · exact List.mem_append_left _ (B.now p hp j (by omega) hn hm)
      · omega }

/-- a way that fill found: the option and whom to move where -/
structure Found (ables : List (List Int)) (ats cs lows : List Int) (wanted : Int) (o : Int) (ps : List (Int × Int)) : Prop where
  rich : Rich cs lows o
  ne : o ≠ wanted
  path : Path ables ats wanted o ps
  nod : (o :: ps.map (·.2)).Nodup
  best : ∃ d : Int → Nat, d wanted = 0 ∧ (∀ j < ats.length, ∀ b ∈ ables.getD j [], d (ats.getD j 0) ≤ d b + 1) ∧ ∀ o', Rich cs lows o' → o' ≠ wanted → ps.length ≤ d o'
theorem Bfs.found (B : Bfs ables ats cs lows wanted many came spot k lv) (hh : came[spot]? = some here) (hk : k < ats.length) (h1 : here.1 ∈ ables.getD k []) (h2 : ats.getD k 0 ∉ keysOf came)
    (h3 : Rich cs lows (ats.getD k 0)) : ∃ ps, Chain (came ++ [(ats.getD k 0, ((k : Int), here.1))]) wanted (ats.getD k 0) ps ∧ Found ables ats cs lows wanted (ats.getD k 0) ps := by
  obtain ⟨ps, d1, d2, d3, d4, d5⟩ := B.path_new hh hk h1 h2
  have hne : ats.getD k 0 ≠ wanted := fun e => h2 (e ▸ B.wanted_mem)
  refine ⟨ps, d1, h3, hne, d2, d4, fun v => if v ∈ keysOf came then lv v else lv here.1 + 1, ?_, ?_, ?_⟩
  · show (if _ then _ else _) = 0
    rw [if_pos B.wanted_mem]; exact B.lv0
  · intro j hj b hb
    show (if _ then _ else _) ≤ (if _ then _ else _) + 1
    have hle : ∀ v, (if v ∈ keysOf came then lv v else lv here.1 + 1) ≤ lv here.1 + 1 := fun v => by
      split
      · next hv =>
        obtain ⟨q, hq, e⟩ := List.mem_map.mp hv
        rw [← e]; exact B.top here q hh hq
      · exact Nat.le_refl _
    by_cases hbk : b ∈ keysOf came
    · rw [if_pos hbk]
      obtain ⟨q, hq, e⟩ := List.mem_map.mp hbk
      obtain ⟨i, hi⟩ := List.getElem?_of_mem hq
      by_cases hlt : i < spot
      · have := B.did i q hlt hi j hj (by rw [e]; exact hb)
        rw [if_pos this.1, ← e]; exact this.2
      · have := B.mon spot i here q (by omega) hh hi
        rw [e] at this
        exact Nat.le_trans (hle _) (by omega)
    · rw [if_neg hbk]; exact Nat.le_trans (hle _) (by omega)
  · intro o' hr ho
    show _ ≤ if _ then _ else _
    rw [if_neg]
    · omega
    · intro hm
      obtain ⟨q, hq, e⟩ := List.mem_map.mp hm
      exact B.poor q hq (by rw [e]; exact ho) (by rw [e]; exact hr)

/-- no way: what was reached -/
structure Reached (ables : List (List Int)) (ats cs lows : List Int) (wanted : Int) (row : List Int) : Prop where
  want : wanted ∈ row
  nod : row.Nodup
  poor : ∀ o ∈ row, o ≠ wanted → ¬ Rich cs lows o
  path : ∀ o ∈ row, ∃ ps, Path ables ats wanted o ps ∧ (o :: ps.map (·.2)).Nodup
  closed : ∀ j < ats.length, ∀ b ∈ ables.getD j [], b ∈ row → ats.getD j 0 ∈ row
theorem Bfs.reached (B : Bfs ables ats cs lows wanted many came spot k lv) (hs : came.length ≤ spot) : Reached ables ats cs lows wanted (keysOf came) where
  want := B.wanted_mem
  nod := B.nod
  poor := fun o ho => by
    obtain ⟨q, hq, rfl⟩ := List.mem_map.mp ho
    exact B.poor q hq
  path := fun o ho => by
    obtain ⟨q, hq, rfl⟩ := List.mem_map.mp ho
    obtain ⟨ps, _, c2, _, c4, _⟩ := B.pth q hq
    exact ⟨ps, c2, c4⟩
  closed := fun j hj b hb ho => by
    obtain ⟨q, hq, rfl⟩ := List.mem_map.mp ho
    obtain ⟨i, hi⟩ := List.getElem?_of_mem hq
    have := (List.getElem?_eq_some_iff.mp hi).1
    exact (B.did i q (by omega) hi j hj hb).1
theorem length_le_of_nodup {α : Type} [DecidableEq α] : ∀ {l l' : List α}, l.Nodup → (∀ o ∈ l, o ∈ l') → l.length ≤ l'.length
  | [], _, _, _ => Nat.zero_le _
  | x :: l, l', hn, hs => by
    rw [List.nodup_cons] at hn
    have hx := hs x List.mem_cons_self
    have := length_le_of_nodup (l' := l'.erase x) hn.2 fun o ho => (List.mem_erase_of_ne (a := o) (b := x) (fun e : o = x => hn.1 (e ▸ ho))).mpr (hs o (.tail _ ho))
    rw [List.length_erase_of_mem hx] at this
    have hp := List.length_pos_of_mem hx
    rw [List.length_cons]; omega
theorem nodup_range {many : Nat} {l : List Int} (hn : l.Nodup) (hr : ∀ o ∈ l, 0 ≤ o ∧ o < many) : l.length ≤ many := by
  have hsub : ∀ o ∈ l, o ∈ rangeKs 0 many := fun o ho => by
    have := hr o ho
    exact List.mem_map.mpr ⟨o.toNat, List.mem_range.mpr (by omega), by simp; omega⟩
  have := length_le_of_nodup hn hsub
  simpa [rangeKs] using this
theorem Bfs.length_le (B : Bfs ables ats cs lows wanted many came spot k lv) : came.length ≤ many := by
  have := nodup_range B.nod (many := many) fun o ho => by
    obtain ⟨q, hq, rfl⟩ := List.mem_map.mp ho
    exact B.rng q hq
  simpa [keysOf] using this
end
end Mine
end

section
open PySem PySem.W PyProof.Rows PySem.Calls PySem.Spec
set_option Elab.async false
set_option maxRecDepth 100000
set_option maxHeartbeats 8000000
namespace Mine
theorem offFill : True := by
  w_top off
  trivial
open LCg LCt

/-- what came stands for -/
theorem came_some {g : Heap} {nw : Led} : ∀ {kvs : List (Int × Value)} {came : List (Int × (Int × Int))}, All2 (CameIn g nw) kvs came → ∀ k, (valueAt kvs k).isSome = decide (k ∈ keysOf came) := fun h => by
  induction h with
  | nil => intro k; simp [valueAt, keysOf]
  | @cons kv p kvs came h t ih =>
    intro k
    by_cases hk : kv.1 = k
    · simp [valueAt, List.find?_cons, hk, keysOf, ← h.1]
    · have hk' : ¬ p.1 = k := by rw [← h.1]; exact hk
      have := ih k
      have e1 : valueAt (kv :: kvs) k = valueAt kvs k := by simp [valueAt, List.find?_cons, hk]
      rw [e1, this]
      simp [keysOf, Ne.symm hk']
theorem CameIn.mono {g : Heap} {nw nw' : Led} {kv : Int × Value} {p : Int × Int × Int} (x : CameIn g nw kv p) (h : ∀ q ∈ nw, q ∈ nw') : CameIn g nw' kv p :=
  let ⟨e0, t, e1, e2⟩ := x; ⟨e0, t, e1, e2.imp id fun y => y.mono h⟩

theorem cameIn_heap {g h : Heap} {nw : Led} {kv : Int × Value} {p : Int × Int × Int} (x : CameIn g nw kv p) (hk : ∀ b o, g.get? b = some o → h.get? b = some o) (hn : ∀ q ∈ nw, h.get? q.1 = some q.2) : CameIn h [] kv p := by
  obtain ⟨e0, t, e1, ⟨vs, n, a, b⟩ | ⟨vs, n, a, b⟩⟩ := x
  · exact ⟨e0, t, e1, .inl ⟨vs, n, a, hk _ _ b⟩⟩
  · exact ⟨e0, t, e1, .inl ⟨vs, n, a, hn _ b⟩⟩
theorem ours_of {K : Frag} {p : Program} {loose : List Str} {mean : ExcName → Option Value} {mg mb : Str → Option Value} {G₀ g h : Heap} {L : Addr} {nw muts : Led} (G : Grd K p loose mean mg mb G₀ g) (N : News g L h nw) (sub : ∀ p ∈ muts, p ∈ nw) : Ours G₀ h muts :=
  fun p hp => ⟨(N p (sub p hp)).1, G.off N (sub p hp)⟩
theorem Path.rng {ables : List (List Int)} {ats : List Int} {wanted : Int} : ∀ {o : Int} {ps : List (Int × Int)}, Path ables ats wanted o ps → ∀ p ∈ ps, 0 ≤ p.1 ∧ p.1 < ats.length := fun h => by
  induction h with
  | nil => exact fun _ hp => nomatch hp
  | cons _ h1 h2 _ _ _ ih => exact fc ⟨h1, h2⟩ ih
section
variable {prog : Program} {w : World} {A : Around} {E : Value → Shared → Prop} {s : Shared} {h₀ : Heap} {L : Addr} {m : Str → Option Value}
theorem in_lstB {l : Addr} {vs : List Value} {n : Nat} {ns : List Int} {k : Int} {t : Tok} {Q : Value → Shared → Prop} (F : Fr h₀ L s.heap m) (ho : h₀.get? l = some (LO vs n)) (hi : IntsAre vs ns)
    (h : Q (.bool (ns.any (· == k))) s) : wpAny (model prog w) A (compareOp .In (.int k t) (.ref l)) Q E s := in_list_ints (isList_of (F.keep _ _ ho)) hi h
theorem item_refB {value slice : Expr} {a r : Addr} {as : List Addr} {n : Nat} {k : Int} {u : Tok} {Q : Value → Shared → Prop} (F : Fr h₀ L s.heap m) (ho : h₀.get? a = some (LO (as.map Value.ref) n)) (h0 : 0 ≤ k) (h1 : k < 1000)
    (hx : as[k.toNat]? = some r) (h : Q (.ref r) s)
    (hs : subscripted slice false (.ref a) (.int k u) = operate [.ref a, .int k u] (getItem (.ref a) (.int k u)) := by with_unfolding_all rfl) : wpAny (model prog w) A (subscriptTail value slice (.ref a) (.int k u)) Q E s := by
  have hl := isList_of (F.keep _ _ ho)
  exact tail_any hl.typeIs slot_list_getitem.lookup (wpAny_getItem_list hl h0 (by omega) (x := .ref r) (by simp [hx]) h) hs
end

local macro_rules | `(tactic| walk_at "exec While Compare") => `(tactic| refine stop_here ?_)
local macro_rules | `(tactic| walk_at "exec For Name Call cons nil") => `(tactic| refine stop_here ?_)
local macro_rules | `(tactic| walk_at "call ref") => `(tactic| refine stop_here ?_)
local macro_rules | `(tactic| walk_at "eval Dict") => `(tactic| (k_dflt (refine' kdn_eval (knd := PySem.intKind _ _) ?F ?N ?b ?a ?l ?e ?n ?_; (case F | N => k_asm); (case b => exact Top.nolimit (by k_asm)); (case a | l => rfl); (case e => exact List.cons_ne_nil _ _); (case n => exact Nat.le_of_ble_eq_true rfl)); intro d' h' o' F' N' l1 lo' hd'; (try k_lt l1)))
local macro_rules | `(tactic| walk_at "subscriptTail") => `(tactic| ((with_reducible show wpAny _ _ (subscriptTail _ _ (Value.ref _) (Value.int _ _)) _ _ _); k_dflt (refine' item_refB ?F ?o ?a ?b ?x ?_ ?s; (case F => k_asm); (case o => with_reducible assumption); (case a | b => omega); (case x => with_reducible assumption); (case s => with_unfolding_all rfl))))
local macro_rules | `(tactic| walk_at "compareOp In int ref") => `(tactic| (k_dflt (refine' in_lstB ?F ?o ?i ?_; (case F => k_asm); (case o | i => with_reducible assumption))))
local macro_rules | `(tactic| walk_at "compareOp NotIn int ref") => `(tactic| (k_dflt (refine' kdg_notin (knd := PySem.intKind _ _) ?N ?m ?d ?l (intKind_is _ _ _ _) _ ?b ?_; (case N => k_asm); (case m => k_mem); (case d | l => with_reducible assumption); (case b => (with_reducible exact came_some (by assumption) _)))))
local macro_rules | `(tactic| walk_at "setItem ref int") => `(tactic| ((with_reducible show wpAny _ _ (setItem (Value.ref _) (Value.int _ _) (Value.ref _)) _ _ _); k_dflt (refine' kda_set (knd := PySem.intKind _ _) ?F ?N ?U ?d (intKind_is _ _ _ _) ?z ?_; (case F | N => k_asm); (case U => k_updF); (case d | z => with_reducible assumption)); intro h' o' F' N' hd'; (try dsimp only at N')))
local macro_rules | `(tactic| walk_at "call builtin:list.append") => `(tactic| ((with_reducible show wpAny _ _ (call (Value.builtin _) [Value.ref _, _]) _ _ _); k_dflt (refine' append_K ?k1 ?k2 ?k3 ?_ ?z; (case k1 | k2 => k_asm); (case k3 => k_upd); (case z => with_reducible assumption)); intro h' F' N'))
local macro_rules | `(tactic| k_all) => `(tactic| assumption)

abbrev OffA (tl : Led) (R D x dx aA cA : Addr) : Prop := (∀ p ∈ tl, p.1 ≠ R) ∧ (∀ p ∈ tl, p.1 ≠ D) ∧ (∀ p ∈ tl, p.1 ≠ x) ∧ (∀ p ∈ tl, p.1 ≠ dx) ∧ (∀ p ∈ tl, p.1 ≠ aA) ∧ (∀ p ∈ tl, p.1 ≠ cA)
abbrev OffB (tl : Led) (R D x dx aA cA : Addr) : Prop := R ≠ D ∧ R ≠ x ∧ R ≠ dx ∧ R ≠ aA ∧ R ≠ cA ∧ D ≠ x ∧ D ≠ dx ∧ D ≠ aA ∧ D ≠ cA ∧ OffA tl R D x dx aA cA
theorem fill_call {prog : Program} {w : World} {dp un : Nat} {fr : Option (List Env)} {gd : Option (List Code)} {s : Shared} {G₀ : Heap} {loose : List Str} {mean : ExcName → Option Value} {mg mb : Str → Option Value}
   {x dx ab lo hi aA cA : Addr} {avs cvs : List Value} {an cn n : Nat} {t₁ t₂ t₃ t₄ t₅ tw : Tok} {ables : List (List Int)} {ats cs lows : List Int} {wanted : Int} {many : Nat} {Q E : Value → Shared → Prop}
   (G : GG w loose mean mg mb G₀ s.heap) (N : Ours G₀ s.heap [(x, instObj 73 dx), (dx, instD w t₁ t₂ t₃ t₄ t₅ n ab lo hi aA cA), (aA, LO avs an), (cA, LO cvs cn)])
   (hai : IntsAre avs ats) (hci : IntsAre cvs cs) {ras : List Addr} {rn0 : Nat} (hra : s.heap.get? ab = some (LO (ras.map Value.ref) rn0)) (hrs : All2 (LstI s.heap) ras ables) (hlo : LstI s.heap lo lows) (hA : ables.length = ats.length) (hL : lows.length = many) (hC : cs.length = many)
   (h3 : 0 ≤ wanted) (h4 : wanted < many) (hr : ∀ o ∈ ats, 0 ≤ o ∧ o < many) (hb : ∀ r ∈ ables, r.length < 100) (hal : ats.length < 100) (hcl : many < 60)
   (hdp : dp < 890) (hne : x ≠ dx ∧ x ≠ aA ∧ x ≠ cA ∧ dx ≠ aA ∧ dx ≠ cA ∧ aA ≠ cA)
   (hoff : ab ≠ aA ∧ ab ≠ cA ∧ lo ≠ aA ∧ lo ≠ cA) (hro : ∀ a ∈ ras, a ≠ aA ∧ a ≠ cA)
   (hQ1 : ∀ o ps h' tk' avs' an' cvs' cn', Found ables ats cs lows wanted o ps → 0 ≤ o ∧ o < many → Kb s.heap h' [aA, cA] → h'.get? aA = some (LO avs' an') → h'.get? cA = some (LO cvs' cn') → IntsAre avs' (moveAll ats ps) →
      IntsAre cvs' ((cs.set o.toNat (cs.getD o.toNat 0 - 1)).set wanted.toNat ((cs.set o.toNat (cs.getD o.toNat 0 - 1)).getD wanted.toNat 0 + 1)) → Q .none { s with heap := h', toks := tk' })
   (hQ2 : ∀ r row row' h' tk', Reached ables ats cs lows wanted row → (∀ o ∈ row, 0 ≤ o ∧ o < many) → row'.Perm row → row'.Pairwise (· ≤ ·) → Kb s.heap h' [] → s.heap.get? r = none → LstI h' r row' → Q (.ref r) { s with heap := h', toks := tk' }) :
   wpAny (model prog w) ⟨none, dp, fr, gd, un⟩ (call (.ref 56) [.ref x, .int wanted tw]) Q E s := by
  refine wpAny_call ?_
  k_dflt (refine' enter_plain ?k1 ?k3 ?k6 ?k7 ?k8 ?k9 ?kB ?_ ?c5 ?c2 ?c3 ?c4)
  (case k1 => exact G); (case k3 => exact N); (case k6 => k_is); (case k7 => k_is); (case k8 => show dp < recursionLimit; simp only [recursionLimit]; omega); (case k9 => exact BindsTo.of_eq rfl); (case c5 => decide); (case kB => exact locs rfl); (case c2 => exact rfl); (case c3 => exact rfl); (case c4 => exact rfl)
  intro g' L' h' tk' eg kg F' N' X' T' G' l1
  clear eg G
  refine hide fun G hG => ?_
  obtain ⟨e1, e2, e3, e4, e5, e6⟩ := hne
  refine hG ?_
  clear hG G
  have e1 := neN e1
  have e2 := neN e2
  have e3 := neN e3
  have e4 := neN e4
  have e5 := neN e5
  have e6 := neN e6
  (try dsimp only); (try k_fold)
  k_steps
  rename Fr _ _ _ _ => F1
  rename News _ _ _ _ => N1
  rename Obj.IsDictOf _ _ _ => hd0
  rename ((_ == sysModules) = false) => hlo'
  unfold Stop
  have hob : ∀ a vs k, s.heap.get? a = some (LO vs k) → a ≠ aA → a ≠ cA → g'.get? a = some (LO vs k) := fun a vs k e h1 h2 => kg _ _ e (by
    simp only [List.map_cons, List.map_nil, List.mem_cons, List.not_mem_nil, or_false, not_or]
    refine ⟨?_, ?_, h1, h2⟩
    · rintro rfl
      have := (N (a, instObj 73 dx) (by k_mem)).1
      rw [e] at this
      injection this with this
      have := congrArg Obj.data this
      cases this
    · rintro rfl
      have := (N (a, instD w t₁ t₂ t₃ t₄ t₅ n ab lo hi aA cA) (by k_mem)).1
      rw [e] at this
      injection this with this
      have := congrArg Obj.data this
      cases this)
  refine hide fun G hG => ?_
  obtain ⟨q1, q2, q3, q4⟩ := hoff
  refine hG ?_
  clear hG G
  have hrag := hob _ _ _ hra q1 q2
  refine hide fun G hG => ?_
  obtain ⟨lvs, lvn, hlI, hlo0⟩ := hlo
  refine hG ?_
  clear hG G
  have hlog := hob _ _ _ hlo0 q3 q4
  let B1 :=
      fun (R : Addr) (D : Addr) (came : List (Int × Int × Int)) (spot : Nat) (lv : Int → Nat) (kvs : List (Int × Value)) (od : Obj) (rvs : List Value) (rn : Nat) (t : Tok) (tl : Led) (k : Nat) (m : Str → Option Value) (nw : Led) =>
        (k = many - spot ∧ spot ≤ List.length came ∧ Bfs ables ats cs lows wanted many came spot 0 lv ∧ m (Str.ofString "self") = some (.ref x) ∧ m (Str.ofString "wanted") = some (.int wanted tw) ∧
        m (Str.ofString "came") = some (.ref D) ∧ m (Str.ofString "row") = some (.ref R) ∧ m (Str.ofString "spot") = some (.int (spot : Int) t) ∧ (D == sysModules) = false ∧
        nw = (R, LO rvs rn) :: (D, od) :: (x, instObj 73 dx) :: (dx, instD w t₁ t₂ t₃ t₄ t₅ n ab lo hi aA cA) :: (aA, LO avs an) :: (cA, LO cvs cn) :: tl ∧ IntsAre rvs (keysOf came) ∧ Obj.IsDictOf (intKind prog w) od kvs ∧ All2 (CameIn g' tl) kvs came ∧
        OffB tl R D x dx aA cA : Prop)
  let J1 : Nat → (Str → Option Value) → Led → Prop :=
      fun k m nw => ∃ R D came spot lv kvs od rvs rn t tl, B1 R D came spot lv kvs od rvs rn t tl k m nw
  refine While_walk (h₀ := g') J1 many F1 ?hN
    ⟨_, _, [(wanted, (-1, -1))], 0, _, _, _, [.int wanted tw], 0, _, [_], rfl, Nat.zero_le _, Bfs.start ⟨h3, h4⟩, rfl, rfl, rfl, rfl, rfl, hlo', rfl, .cons _ _ .nil, hd0, .cons ⟨rfl, _, rfl, .inr ⟨[.int (-1) ?ta, .int (-1) ?tb], 0, .cons _ _ (.cons _ _ .nil), .head _⟩⟩ .nil, ?_, ?_, ?_, ?_, ?_, ?_, ?_, ?_, ?_, ?_, ?_, ?_, ?_, ?_, ?_⟩ ?_
  case hN =>
    iterate 7 refine fc (N1 _ (by k_mem)) ?_
    exact fun _ h => nomatch h
  all_goals (try k_ne)
  all_goals (try (intro p hp; rw [List.mem_singleton] at hp; subst hp; (try dsimp only); k_ne))
  rintro k m₁ nw h tk hz5 F2 N2
  refine hide fun G hG => ?_
  obtain ⟨R, D, came, spot, lv, kvs, od, rvs, rn, t, tl, rfl, hsp, hB, m1, m2, m3, m4, m5, hDs, rfl, hrv, hod, hkv, r1, r2, r3, r4, r5, r6, r7, r8, r9, o1, o2, o3, o4, o5, o6⟩ := hz5
  refine hG ?_
  clear hG G
  have hcl2 := hB.length_le
  have r1 := neN r1
  have r2 := neN r2
  have r3 := neN r3
  have r4 := neN r4
  have r5 := neN r5
  have r6 := neN r6
  have r7 := neN r7
  have r8 := neN r8
  have r9 := neN r9
  k_steps
  · rename Fr _ _ _ _ => F3
    rename News _ _ _ _ => N3
    rename (spot : Int) < _ => hlt
    unfold Stop
    have hlt2 : spot < came.length := by simpa [keysOf] using hlt
    obtain ⟨here, hh⟩ : ∃ here, came[spot]? = some here := ⟨_, List.getElem?_eq_getElem hlt2⟩
    have hx : (keysOf came).getD (spot : Int).toNat 0 = here.1 := by simp [keysOf, hh]
    rw [hx] at F3 N3
    let B2 :=
        fun (came : List (Int × Int × Int)) (lv : Int → Nat) (kvs : List (Int × Value)) (od : Obj) (rvs : List Value) (rn : Nat) (th : Tok) (ts : Tok) (tl : Led) (i : Nat) (m : Str → Option Value) (nw : Led) =>
          (Bfs ables ats cs lows wanted many came spot i lv ∧ came[spot]? = some here ∧ m (Str.ofString "self") = some (.ref x) ∧ m (Str.ofString "wanted") = some (.int wanted tw) ∧
          m (Str.ofString "came") = some (.ref D) ∧ m (Str.ofString "row") = some (.ref R) ∧ m (Str.ofString "spot") = some (.int ((spot : Int) + 1) ts) ∧ m (Str.ofString "here") = some (.int here.1 th) ∧
          nw = (R, LO rvs rn) :: (D, od) :: (x, instObj 73 dx) :: (dx, instD w t₁ t₂ t₃ t₄ t₅ n ab lo hi aA cA) :: (aA, LO avs an) :: (cA, LO cvs cn) :: tl ∧ IntsAre rvs (keysOf came) ∧ Obj.IsDictOf (intKind prog w) od kvs ∧ All2 (CameIn g' tl) kvs came ∧
          OffA tl R D x dx aA cA : Prop)
    let J2 : Nat → (Str → Option Value) → Led → Prop :=
        fun i m nw => ∃ came lv kvs od rvs rn th ts tl, B2 came lv kvs od rvs rn th ts tl i m nw
    refine For_rng (h₀ := g') (L := L') J2 rfl rfl ?_
    k_steps
    rename IsRange _ _ _ _ _ _ _ _ => hR
    rename Fr _ _ _ _ => F4
    rename News _ _ _ _ => N4
    unfold Stop
    refine ex9 _ _ _ _ _ _ (ats.length) _ _ ⟨rfl, F4, ?hN4, hR, ?_, ?_, ⟨came, lv, kvs, od, rvs, rn, _, _, tl, hB, hh, m1, m2, m3, m4, rfl, rfl, rfl, hrv, hod, hkv, o1, o2, o3, o4, o5, o6⟩, ?_, ?_⟩
    case hN4 =>
      exact fun p hp => N4 p (.tail _ hp)
    · exact range_small (by omega)
    · exact range_size _
    · rintro i ti m₂ nw I oI h5 tk5 hi9 hz9 F5 N5 off
      refine hide fun G hG => ?_
      obtain ⟨came, lv, kvs, od, rvs, rn, th, ts, tl, hB, hh, m1, m2, m3, m4, m5, m6, rfl, hrv, hod, hkv, o1, o2, o3, o4, o5, o6⟩ := hz9
      refine hG ?_
      clear hG G
      have hcl2 := hB.length_le
      have n1 := neN (off (R, LO rvs rn) (by k_mem))
      have n2 := neN (off (D, od) (by k_mem))
      have n3 := neN (off (x, instObj 73 dx) (by k_mem))
      have n4 := neN (off (dx, _) (.tail _ (.tail _ (.tail _ (.head _)))))
      have n5 := neN (off (aA, LO avs an) (by k_mem))
      have n6 := neN (off (cA, LO cvs cn) (by k_mem))
      have n7 : ∀ p ∈ tl, p.1 ≠ I := fun p hp => off p (.tail _ (.tail _ (.tail _ (.tail _ (.tail _ (.tail _ hp))))))
      dsimp only at n1 n2 n3 n4 n5 n6
      rw [Int.zero_add]
      obtain ⟨ra, hrr⟩ : ∃ ra, ras[((i : Nat) : Int).toNat]? = some ra := by
        have := hrs.length
        exact ⟨_, List.getElem?_eq_getElem (by omega)⟩
      refine hide fun G hG => ?_
      obtain ⟨rowk, hrk, rkv, rkn, hrkI, hrko⟩ := hrs.get i ra (by simpa using hrr)
      refine hG ?_
      clear hG G
      have hoa := hro ra (List.mem_of_getElem? hrr)
      have hrkg := hob _ _ _ hrko hoa.1 hoa.2
      have hz : (1000 : Nat) ≤ sizeLine := by decide
      have hkl : kvs.length ≤ sizeLine := by rw [hkv.length]; omega
      have hrl : rvs.toArray.size ≤ sizeLine := by
        have := hrv.length
        rw [List.size_toArray, this, keysOf, List.length_map]; omega
      have hri := hr (ats.getD i 0) (by rw [List.getD_eq_getElem?_getD, List.getElem?_eq_getElem hi9]; exact List.getElem_mem hi9)
      have hri1 : 0 ≤ ats.getD ((i : Nat) : Int).toNat 0 := hri.1
      have hri2 : ats.getD ((i : Nat) : Int).toNat 0 < (cs.length : Int) := by rw [hC]; exact hri.2
      have hri3 : ats.getD ((i : Nat) : Int).toNat 0 < (lows.length : Int) := by rw [hL]; exact hri.2
      have hloL := isList_of hlog
      have hmemk : here.1 ∈ ables.getD i [] ↔ (rowk.any fun y => y == here.1) = true := by simp [List.getD_eq_getElem?_getD, hrk]
      have hcs := came_some hkv
      k_steps
      · rename Fr _ _ _ _ => F7
        rename News _ _ _ _ => N7
        rename (_ ∈ keysOf _) => hin
        exact TurnEnd.intro (Q := fun _ _ => True) _ F7 N7 (fun p hp => hp) off ⟨came, lv, kvs, od, rvs, rn, th, ts, tl, hB.skip hh (fun q => q.2 hin), hh, m1, m2, m3, m4, m5, m6, rfl, hrv, hod, hkv, o1, o2, o3, o4, o5, o6⟩
      · rename Fr _ _ _ _ => F7
        rename News _ _ _ _ => N7
        rename (¬ (_ ∈ keysOf _)) => hin
        rename (_ < _) => hrich
        rename (List.any _ _ = true) => hany
        rename (_ ∧ _) => l7
        rename Obj.IsDictOf _ _ (stored _ _ _) => hod7
        unfold Stop
        have hno : valueAt kvs (ats.getD ((i : Nat) : Int).toNat 0) = none := by
          have := hcs (ats.getD ((i : Nat) : Int).toNat 0)
          rw [decide_eq_false hin] at this
          simpa using this
        rw [stored_new hno] at hod7
        obtain ⟨ps, hch, hF⟩ := hB.found hh hi9 (hmemk.mpr hany) hin hrich
        refine move_call (came := came ++ [(ats.getD i 0, ((i : Int), here.1))]) (t₁ := t₁) (t₂ := t₂) (t₃ := t₃) (t₄ := t₄) (t₅ := t₅) (n := n) (ab := ab) (lo := lo) (hi := hi) (an := an) (cn := cn) (G'.at F7) (ours_of G' N7 ?hsub) hai hci hod7 ?hkv hDs hri1 hri2 h3 (by rw [hC]; exact h4) hch hF.path.rng hal (by omega) (by show dp + 1 < 900; omega)
          ⟨e1, e2, e3, Ne.symm r6, e4, e5, Ne.symm r7, e6, Ne.symm r8, Ne.symm r9⟩ ?_
        case hsub =>
          iterate 5 refine fc (by k_mem) ?_
          exact fun _ h => nomatch h
        case hkv =>
          refine (hkv.mono fun a b y => cameIn_heap y F7.keep fun q hq => (N7 q (.tail _ (.tail _ (.tail _ (.tail _ (.tail _ (.tail _ (.tail _ (.tail _ hq))))))))).1).snoc ⟨rfl, _, rfl, .inl ⟨[Value.int i ti, Value.int here.1 th], 0, .cons _ _ (.cons _ _ .nil), (N7 _ (.head _)).1⟩⟩
        intro h8 tk8 avs8 an8 cvs8 cn8 kb8 ga gc ia ic
        have F8 := fr_after F7 kb8 (by
          simp only [List.mem_cons, List.not_mem_nil, or_false, not_or]
          exact ⟨Ne.symm (N7 (aA, LO avs an) (by k_mem)).2.1, Ne.symm (N7 (cA, LO cvs cn) (by k_mem)).2.1⟩) (fun a ha => by
          simp only [List.mem_cons, List.not_mem_nil, or_false] at ha
          rcases ha with rfl | rfl
          · exact (N7 (_, LO avs an) (by k_mem)).2.2
          · exact (N7 (_, LO cvs cn) (by k_mem)).2.2)
        have kb7 : ∀ b o, s.heap.get? b = some o → b ∉ [aA, cA] → h8.get? b = some o := fun b o e hb => kb8 _ _ (by
          simp only [List.mem_cons, List.not_mem_nil, or_false, not_or] at hb
          by_cases q : b ∈ List.map (·.1) [(x, instObj 73 dx), (dx, instD w t₁ t₂ t₃ t₄ t₅ n ab lo hi aA cA), (aA, LO avs an), (cA, LO cvs cn)]
          · obtain ⟨p, hp, rfl⟩ := List.mem_map.mp q
            have hpp := (N p hp).1
            rw [hpp] at e
            cases e
            simp only [List.mem_cons, List.not_mem_nil, or_false] at hp
            rcases hp with rfl | rfl | rfl | rfl
            · exact (N7 _ (by k_mem)).1
            · exact (N7 _ (by k_mem)).1
            · exact absurd rfl hb.1
            · exact absurd rfl hb.2
          · exact F7.keep b o (kg b o e q)) hb
        clear N7 F7
        dsimp only
        k_steps
        dsimp only
        exact hQ1 _ ps h8 _ avs8 an8 cvs8 cn8 hF hri kb7 ga gc ia ic
      · rename Fr _ _ _ _ => F7
        rename News _ _ _ _ => N7
        rename (¬ (_ < _)) => hpoor
        rename (¬ (_ ∈ keysOf _)) => hin
        rename (List.any _ _ = true) => hany
        rename (_ ∧ _) => l7
        rename Obj.IsDictOf _ _ (stored _ _ _) => hod7
        have hno : valueAt kvs (ats.getD ((i : Nat) : Int).toNat 0) = none := by
          have := hcs (ats.getD ((i : Nat) : Int).toNat 0)
          rw [decide_eq_false hin] at this
          simpa using this
        rw [stored_new hno] at hod7
        refine TurnEnd.intro (Q := fun _ _ => True) ((R, LO (rvs ++ [Value.int (ats.getD i 0) ?to]) (rn + 1)) :: (D, ?od) :: (x, instObj 73 dx) :: (dx, instD w t₁ t₂ t₃ t₄ t₅ n ab lo hi aA cA) :: (aA, LO avs an) :: (cA, LO cvs cn) :: (?D7, TO [Value.int i ti, Value.int here.1 th] 0) :: tl) F7 N7 ?hsub ?hoff
          ⟨came ++ [(ats.getD i 0, ((i : Int), here.1))], _, kvs ++ [(ats.getD i 0, .ref ?D7)], ?od, rvs ++ [Value.int (ats.getD i 0) ?to], rn + 1, th, ts, (?D7, TO [Value.int i ti, Value.int here.1 th] 0) :: tl, hB.add hh hi9 hri (hmemk.mpr hany) hin hpoor, ?hgt, m1, m2, m3, m4, m5, m6, rfl, ?hi1, ?hod, ?hkv, ?g1, ?g2, ?g3, ?g4, ?g5, ?g6⟩
        case hod => exact hod7
        case hsub =>
          iterate 8 refine fc (by k_mem) ?_
          intro p hp
          exact .tail _ (.tail _ (.tail _ (.tail _ (.tail _ (.tail _ (.tail _ (.tail _ hp)))))))
        case hoff =>
          exact cons_off (by k_ne) (cons_off (by k_ne) (cons_off (by k_ne) (cons_off (by k_ne) (cons_off (by k_ne) (cons_off (by k_ne) (cons_off (by k_ne) n7))))))
        case hgt => rw [List.getElem?_append_left (List.getElem?_eq_some_iff.mp hh).1]; exact hh
        case hi1 =>
          rw [keysOf, List.map_append]
          exact hrv.append (.cons _ _ .nil)
        case hkv =>
          exact (hkv.mono fun a b y => y.mono fun q hq => .tail _ hq).snoc ⟨rfl, _, rfl, .inr ⟨_, 0, .cons _ _ (.cons _ _ .nil), .head _⟩⟩
        case g1 => exact cons_off (by k_ne) o1
        case g2 => exact cons_off (by k_ne) o2
        case g3 => exact cons_off (by k_ne) o3
        case g4 => exact cons_off (by k_ne) o4
        case g5 => exact cons_off (by k_ne) o5
        case g6 => exact cons_off (by k_ne) o6
      · rename Fr _ _ _ _ => F7
        rename News _ _ _ _ => N7
        rename (List.any _ _ = false) => hany
        exact TurnEnd.intro (Q := fun _ _ => True) _ F7 N7 (fun p hp => hp) off ⟨came, lv, kvs, od, rvs, rn, th, ts, tl, hB.skip hh (fun q => by rw [hmemk.mp q.1] at hany; cases hany), hh, m1, m2, m3, m4, m5, m6, rfl, hrv, hod, hkv, o1, o2, o3, o4, o5, o6⟩
    · rintro m₂ nw h5 tk5 hz4 F5 N5
      refine hide fun G hG => ?_
      obtain ⟨came, lv, kvs, od, rvs, rn, th, ts, tl, hB, hh, m1, m2, m3, m4, m5, m6, rfl, hrv, hod, hkv, o1, o2, o3, o4, o5, o6⟩ := hz4
      refine hG ?_
      clear hG G
      dsimp only
      k_steps
      have hlt3 : spot < came.length := (List.getElem?_eq_some_iff.mp hh).1
      exact WEnd.intro (Q := fun _ _ => True) (many - (spot + 1)) (by have := hB.length_le; omega) F5 N5 ⟨R, D, came, spot + 1, lv, kvs, od, rvs, rn, ts, tl, rfl, hlt3, hB.turn (Nat.le_refl _) hlt3, m1, m2, m3, m4, m5, hDs, rfl, hrv, hod, hkv, r1, r2, r3, r4, r5, r6, r7, r8, r9, o1, o2, o3, o4, o5, o6⟩
  · rename Fr _ _ _ _ => F3
    rename News _ _ _ _ => N3
    rename (¬ ((spot : Int) < _)) => hge
    rename List.Perm _ _ => hpm
    rename List.Pairwise _ _ => hpw
    rename IntsAre _ _ => hsI
    have hge2 : came.length ≤ spot := by simpa [keysOf] using hge
    refine hQ2 _ (keysOf came) _ _ _ (hB.reached hge2) (fun o ho => ?_) hpm hpw (fun b o e _ => ?_) (kg.none ?_ (N3 _ (.head _)).2.2) ⟨_, _, hsI, (N3 _ (.head _)).1⟩
    · obtain ⟨q, hq, rfl⟩ := List.mem_map.mp ho
      exact hB.rng q hq
    · by_cases q : b ∈ List.map (·.1) [(x, instObj 73 dx), (dx, instD w t₁ t₂ t₃ t₄ t₅ n ab lo hi aA cA), (aA, LO avs an), (cA, LO cvs cn)]
      · obtain ⟨p, hp, rfl⟩ := List.mem_map.mp q
        have hpp := (N p hp).1
        rw [hpp] at e
        cases e
        simp only [List.mem_cons, List.not_mem_nil, or_false] at hp
        rcases hp with rfl | rfl | rfl | rfl
        all_goals exact (N3 _ (by k_mem)).1
      · exact F3.keep b o (kg b o e q)
    · rename (_ ∧ _) => l9
      refine hide fun G hG => ?_
      obtain ⟨y1, y2, y3, y4, y5, y6, y7⟩ := l9
      refine hG ?_
      clear hG G
      simp only [List.map_cons, List.map_nil, List.mem_cons, List.not_mem_nil, or_false, not_or]
      exact ⟨by k_ne, by k_ne, by k_ne, by k_ne⟩
end Mine
end

section
open PySem PySem.W PyProof.Rows PySem.Calls PySem.Spec
set_option Elab.async false
set_option maxRecDepth 100000
set_option maxHeartbeats 8000000
namespace Mine
theorem offLaw : True := by
  w_top off
  trivial

theorem perm_of_count_le : ∀ {l₁ l₂ : List Int}, l₁.length = l₂.length → (∀ a, l₁.count a ≤ l₂.count a) → l₁.Perm l₂
  | [], l₂, hl, _ => by cases l₂ with
    | nil => exact .refl _
    | cons _ _ => simp at hl
  | a :: l₁, l₂, hl, hc => by
    have ha : a ∈ l₂ := by
      rw [← List.count_pos_iff]
      have := hc a
      rw [List.count_cons_self] at this
      omega
    have hp := List.perm_cons_erase ha
    have h2 := hp.length_eq
    refine .trans (.cons a (perm_of_count_le (l₂ := l₂.erase a) ?_ fun b => ?_)) hp.symm
    · simp only [List.length_cons] at hl h2; omega
    · have h1 := hc b
      rw [hp.count_eq b, List.count_cons, List.count_cons] at h1
      omega

/-- a way: each stands on one of its own -/
abbrev Fits (way : List Int) (ables : List (List Int)) : Prop := All2 (fun o r => o ∈ r) way ables
theorem mem_foldWays : ∀ (rows acc : List (List Int)) (way : List Int), way ∈ rows.foldl stepWays acc ↔ ∃ one ∈ acc, ∃ sfx, way = one ++ sfx ∧ Fits sfx rows
  | [], acc, way => by
    constructor
    · intro h; exact ⟨way, h, [], by simp, .nil⟩
    · rintro ⟨one, h1, sfx, rfl, h2⟩; cases h2; simpa using h1
  | r :: rows, acc, way => by
    rw [List.foldl_cons, mem_foldWays rows]
    constructor
    · rintro ⟨one, h1, sfx, rfl, h2⟩
      obtain ⟨a, ha, hx⟩ := List.mem_flatMap.mp h1
      obtain ⟨o, ho, rfl⟩ := List.mem_map.mp hx
      exact ⟨a, ha, o :: sfx, by simp, .cons ho h2⟩
    · rintro ⟨one, h1, sfx, rfl, h2⟩
      cases h2 with
      | cons ho h2 =>
        rename_i o sfx
        exact ⟨one ++ [o], List.mem_flatMap.mpr ⟨one, h1, List.mem_map.mpr ⟨o, ho, rfl⟩⟩, sfx, by simp, h2⟩
theorem mem_waysOf (rows : List (List Int)) (way : List Int) : way ∈ waysOf rows ↔ Fits way rows := by
  rw [waysOf, mem_foldWays]
  constructor
  · rintro ⟨one, h1, sfx, rfl, h2⟩
    rw [List.mem_singleton] at h1
    subst h1
    exact h2
  · intro h; exact ⟨[], List.mem_singleton.mpr rfl, way, rfl, h⟩
theorem all2_of_getD {R : Int → List Int → Prop} : ∀ {as : List Int} {bs : List (List Int)}, as.length = bs.length → (∀ j < as.length, R (as.getD j 0) (bs.getD j [])) → All2 R as bs
  | [], [], _, _ => .nil
  | [], _ :: _, h, _ => by simp at h
  | _ :: _, [], h, _ => by simp at h
  | a :: as, b :: bs, h, f => .cons (by simpa using f 0 (by simp)) (all2_of_getD (by simpa using h) fun j hj => by simpa using f (j + 1) (by simpa using hj))
theorem getD_of_all2 {R : Int → List Int → Prop} : ∀ {as : List Int} {bs : List (List Int)}, All2 R as bs → ∀ j < as.length, R (as.getD j 0) (bs.getD j []) := fun h => by
  induction h with
  | nil => intro j hj; simp at hj
  | cons h _ ih =>
    intro j hj
    cases j with
    | zero => simpa using h
    | succ j => simpa using ih j (by simpa using hj)

/-- moved, one by one -/
theorem rangeKs_cons (n : Nat) : rangeKs 0 (n + 1) = 0 :: (rangeKs 0 n).map (· + 1) := by
  simp only [rangeKs, List.range_succ_eq_map, List.map_cons, List.map_map]
  congr 1
theorem movedOf_nil (bs : List Int) : movedOf [] bs = 0 := rfl
theorem movedOf_cons (a b : Int) (as bs : List Int) : movedOf (a :: as) (b :: bs) = (if a = b then 0 else 1) + movedOf as bs := by
  unfold movedOf
  rw [List.length_cons, rangeKs_cons, List.filter_cons, List.filter_map]
  have h : (rangeKs 0 as.length).filter ((fun k : Int => decide ¬(a :: as).getD k.toNat 0 = (b :: bs).getD k.toNat 0) ∘ fun x => x + 1) = (rangeKs 0 as.length).filter (fun k => decide ¬as.getD k.toNat 0 = bs.getD k.toNat 0) := by
    refine List.filter_congr fun k hk => ?_
    have := mem_rangeKs hk
    show decide ¬(a :: as).getD (k + 1).toNat 0 = (b :: bs).getD (k + 1).toNat 0 = _
    have e2 : (k + 1).toNat = k.toNat + 1 := by omega
    rw [e2]; simp
  rw [h]
  show List.length (if (decide ¬ a = b) = true then _ else _) = _
  by_cases hab : a = b
  · simp [hab]
  · simp [hab]; omega
theorem movedOf_self : ∀ (as : List Int), movedOf as as = 0
  | [] => rfl
  | a :: as => by rw [movedOf_cons, if_pos rfl, movedOf_self as]
theorem movedOf_set : ∀ (as bs : List Int) (m : Nat) (x : Int), as.length = bs.length → movedOf as (bs.set m x) ≤ movedOf as bs + 1
  | [], _, _, _, _ => by rw [movedOf_nil]; omega
  | a :: as, [], _, _, h => by simp at h
  | a :: as, b :: bs, 0, x, h => by
    rw [List.set_cons_zero, movedOf_cons, movedOf_cons]
    split <;> omega
  | a :: as, b :: bs, m + 1, x, h => by
    rw [List.set_cons_succ, movedOf_cons, movedOf_cons]
    have := movedOf_set as bs m x (by simpa using h)
    omega
theorem moveAll_length : ∀ (ps : List (Int × Int)) (ats : List Int), (moveAll ats ps).length = ats.length
  | [], _ => rfl
  | p :: ps, ats => by
    show (moveAll (ats.set p.1.toNat p.2) ps).length = _
    rw [moveAll_length ps, List.length_set]
theorem movedOf_moveAll (as : List Int) : ∀ (ps : List (Int × Int)) (bs : List Int), as.length = bs.length → movedOf as (moveAll bs ps) ≤ movedOf as bs + ps.length
  | [], _, _ => Nat.le_refl _
  | p :: ps, bs, h => by
    have h1 := movedOf_moveAll as ps (bs.set p.1.toNat p.2) (by rw [List.length_set]; exact h)
    have h2 := movedOf_set as bs p.1.toNat p.2 h
    show movedOf as (moveAll (bs.set p.1.toNat p.2) ps) ≤ _
    rw [List.length_cons]; omega

/-- the potentials' sum -/
theorem fits_cons {way r : List Int} {rs : List (List Int)} (h : Fits way (r :: rs)) : ∃ b bs, way = b :: bs ∧ b ∈ r ∧ Fits bs rs := by
  cases h with
  | cons h t => exact ⟨_, _, rfl, h, t⟩
theorem sum_moved (d : Int → Nat) : ∀ {ats way : List Int} {ables : List (List Int)}, All2 (fun a r => ∀ b ∈ r, d a ≤ d b + 1) ats ables → Fits way ables → (ats.map d).sum ≤ (way.map d).sum + movedOf ats way := fun {ats way ables} h => by
  induction h generalizing way with
  | nil => intro h'; cases h'; simp
  | @cons a _ as _ h t ih =>
    intro h'
    obtain ⟨b, bs, rfl, h', t'⟩ := fits_cons h'
    have := ih t'
    rw [List.map_cons, List.map_cons, List.sum_cons, List.sum_cons, movedOf_cons]
    have := h b h'
    split
    · next e => subst e; omega
    · omega
theorem sum_closed (d : Int → Nat) : ∀ {ats way : List Int} {ables : List (List Int)}, All2 (fun a r => ∀ b ∈ r, d a ≤ d b) ats ables → Fits way ables → (ats.map d).sum ≤ (way.map d).sum := fun {ats way ables} h => by
  induction h generalizing way with
  | nil => intro h'; cases h'; simp
  | @cons a _ as _ h t ih =>
    intro h'
    obtain ⟨b, bs, rfl, h', t'⟩ := fits_cons h'
    have := ih t'
    rw [List.map_cons, List.map_cons, List.sum_cons, List.sum_cons]
    have := h b h'
    omega

/-- counts -/
theorem countsOf_length (l : List Int) (many : Nat) : (countsOf l many).length = many := by simp [countsOf, rangeKs_length]
theorem countsOf_getD (l : List Int) (many : Nat) (k : Int) (h0 : 0 ≤ k) (h1 : k < many) : (countsOf l many).getD k.toNat 0 = (l.count k : Nat) := by
  have e : ((k.toNat : Nat) : Int) = k := Int.toNat_of_nonneg h0
  have hk : k.toNat < many := by omega
  simp [countsOf, rangeKs, hk, e]
theorem filter_eq_single {α : Type} [DecidableEq α] {p : α → Bool} {o : α} : ∀ {l : List α}, l.Nodup → o ∈ l → (∀ x ∈ l, p x = true ↔ x = o) → l.filter p = [o]
  | [], _, h, _ => by simp at h
  | x :: l, hn, ho, hp => by
    rw [List.nodup_cons] at hn
    rw [List.filter_cons]
    by_cases hx : x = o
    · subst hx
      rw [if_pos ((hp x List.mem_cons_self).mpr rfl)]
      have : l.filter p = [] := by
        rw [List.filter_eq_nil_iff]
        intro y hy hpy
        exact hn.1 ((hp y (.tail _ hy)).mp hpy ▸ hy)
      rw [this]
    · rw [if_neg (fun h => hx ((hp x List.mem_cons_self).mp h))]
      refine filter_eq_single hn.2 ?_ fun y hy => hp y (.tail _ hy)
      rcases List.mem_cons.mp ho with e | h
      · exact absurd e.symm hx
      · exact h
theorem rangeKs_nodup (many : Nat) : (rangeKs 0 many).Nodup := by
  unfold rangeKs
  rw [List.nodup_iff_pairwise_ne, List.pairwise_map]
  exact List.nodup_range.imp fun h e => h (by omega)
theorem mem_rangeKs_iff {many : Nat} {k : Int} : k ∈ rangeKs 0 many ↔ 0 ≤ k ∧ k < many := by
  constructor
  · intro h; have := mem_rangeKs h; omega
  · intro h; exact List.mem_map.mpr ⟨k.toNat, List.mem_range.mpr (by omega), by simp; omega⟩

section
variable {ats way : List Int} {wanted o : Int} {many : Nat}
theorem srcKey_of_perm (hw : 0 ≤ wanted ∧ wanted < many) (ho : 0 ≤ o ∧ o < many) (hne : o ≠ wanted) (hp : (wanted :: ats).Perm (o :: way)) : srcKey (countsOf ats many) wanted way = some o := by
  have hc : ∀ v, ats.count v + (if wanted = v then 1 else 0) = way.count v + (if o = v then 1 else 0) := fun v => by
    have := hp.count_eq v
    rw [List.count_cons, List.count_cons] at this
    simpa using this
  have hf : fewerOf (countsOf way many) (countsOf ats many) = [o] := by
    unfold fewerOf
    rw [countsOf_length]
    refine filter_eq_single (rangeKs_nodup many) (mem_rangeKs_iff.mpr ho) fun v hv => ?_
    obtain ⟨v0, v1⟩ := mem_rangeKs_iff.mp hv
    rw [decide_eq_true_iff, countsOf_getD _ _ _ v0 v1, countsOf_getD _ _ _ v0 v1]
    have h1 := hc v
    constructor
    · intro h
      by_cases e : v = o
      · exact e
      · rw [if_neg (Ne.symm e)] at h1
        have h2 : way.count v < ats.count v := by omega
        omega
    · rintro rfl
      rw [if_pos rfl, if_neg (Ne.symm hne)] at h1
      omega
  unfold srcKey
  dsimp only
  rw [countsOf_length, hf]
  rw [if_pos]
  · rfl
  · refine ⟨rfl, ?_, ?_⟩
    · rw [countsOf_getD _ _ _ hw.1 hw.2, countsOf_getD _ _ _ hw.1 hw.2]
      have := hc wanted
      rw [if_pos rfl, if_neg hne] at this
      omega
    · show (countsOf way many).getD o.toNat 0 = (countsOf ats many).getD o.toNat 0 - 1
      rw [countsOf_getD _ _ _ ho.1 ho.2, countsOf_getD _ _ _ ho.1 ho.2]
      have := hc o
      rw [if_pos rfl, if_neg (Ne.symm hne)] at this
      omega
theorem perm_of_srcKey (hw : 0 ≤ wanted ∧ wanted < many) (hl : way.length = ats.length) (hr : ∀ v ∈ ats, 0 ≤ v ∧ v < many) (h : srcKey (countsOf ats many) wanted way = some o) :
    o ≠ wanted ∧ (0 ≤ o ∧ o < many) ∧ (wanted :: ats).Perm (o :: way) := by
  unfold srcKey at h
  dsimp only at h
  rw [countsOf_length] at h
  split at h
  · next hcnd =>
    obtain ⟨c1, c2, c3⟩ := hcnd
    generalize hf : fewerOf (countsOf way many) (countsOf ats many) = f at *
    cases f with
    | nil => simp at c1
    | cons y r =>
      have hr0 : r = [] := by
        rw [List.length_cons] at c1
        exact List.eq_nil_of_length_eq_zero (by omega)
      subst hr0
      simp only [List.getD_cons_zero] at c3 h
      cases h
      have hmem : ∀ v, v ∈ fewerOf (countsOf way many) (countsOf ats many) ↔ v = o := fun v => by rw [hf]; simp
      have hin := (hmem o).mpr rfl
      unfold fewerOf at hin hmem
      rw [countsOf_length] at hin hmem
      have hor := mem_rangeKs_iff.mp (List.mem_filter.mp hin).1
      rw [countsOf_getD _ _ _ hw.1 hw.2, countsOf_getD _ _ _ hw.1 hw.2] at c2
      rw [countsOf_getD _ _ _ hor.1 hor.2, countsOf_getD _ _ _ hor.1 hor.2] at c3
      have hne : o ≠ wanted := by rintro rfl; omega
      refine ⟨hne, hor, perm_of_count_le (by simp [hl]) fun v => ?_⟩
      rw [List.count_cons, List.count_cons]
      by_cases hv : 0 ≤ v ∧ v < many
      · by_cases e1 : v = o
        · subst e1
          simp [Ne.symm hne]
          omega
        · by_cases e2 : v = wanted
          · subst e2
            simp [hne]
            omega
          · have h3 : v ∉ List.filter (fun k => decide ((countsOf way many).getD k.toNat 0 < (countsOf ats many).getD k.toNat 0)) (rangeKs 0 many) := fun q => e1 ((hmem v).mp q)
            rw [List.mem_filter, not_and] at h3
            have h4 := h3 (mem_rangeKs_iff.mpr hv)
            rw [decide_eq_true_iff, countsOf_getD _ _ _ hv.1 hv.2, countsOf_getD _ _ _ hv.1 hv.2] at h4
            simp [Ne.symm e1, Ne.symm e2]
            omega
      · have : ats.count v = 0 := List.count_eq_zero.mpr fun q => hv (hr v q)
        have e2 : wanted ≠ v := by rintro rfl; exact hv hw
        rw [this]
        simp [e2]
  · cases h
end

theorem getD_set_ne {l : List Int} {i j : Nat} {x : Int} (h : i ≠ j) : (l.set i x).getD j 0 = l.getD j 0 := by
  rw [List.getD_eq_getElem?_getD, List.getD_eq_getElem?_getD, List.getElem?_set_ne h]
theorem Path.setOff {ables : List (List Int)} {ats : List Int} {wanted o m x : Int} (hm : ats.getD m.toNat 0 = o) : ∀ {o' : Int} {ps : List (Int × Int)}, Path ables ats wanted o' ps → o ∉ o' :: ps.map (·.2) → Path ables (ats.set m.toNat x) wanted o' ps := fun h => by
  induction h with
  | nil => exact fun _ => .nil
  | @cons o1 o2 m2 _ h1 h2 h3 h4 h5 t ih =>
    intro hno
    have hne : m.toNat ≠ m2.toNat := fun e => by
      rw [← e, hm] at h4
      exact hno (h4 ▸ List.mem_cons_self)
    refine .cons h1 h2 (by rw [List.length_set]; exact h3) (by rw [getD_set_ne hne]; exact h4) h5 (ih fun q => hno (.tail _ q))
theorem set_perm {ats : List Int} {m : Nat} {o o' : Int} (hm : m < ats.length) (h : ats.getD m 0 = o) : (o :: ats.set m o').Perm (o' :: ats) := by
  rw [List.perm_iff_count]
  intro v
  have e : ats[m] = o := by rw [← h, List.getD_eq_getElem?_getD, List.getElem?_eq_getElem hm]; rfl
  have hpos : o ∈ ats := e ▸ List.getElem_mem hm
  rw [List.count_cons, List.count_cons, List.count_set hm, e]
  by_cases e1 : o = v
  · subst e1
    have := List.count_pos_iff.mpr hpos
    simp
    omega
  · simp [e1]
theorem Path.perm {ables : List (List Int)} {wanted : Int} : ∀ {ps : List (Int × Int)} {ats : List Int} {o : Int}, Path ables ats wanted o ps → (o :: ps.map (·.2)).Nodup → (wanted :: ats).Perm (o :: moveAll ats ps)
  | [], ats, o, h, _ => by cases h; exact .refl _
  | (m, o') :: ps, ats, o, h, hn => by
    cases h with
    | cons h1 h2 h3 h4 h5 t =>
      rw [List.map_cons, List.nodup_cons] at hn
      have ih := Path.perm (t.setOff (x := o') h4 hn.1) hn.2
      have hs := set_perm (o' := o') (show m.toNat < ats.length by omega) h4
      show (wanted :: ats).Perm (o :: moveAll (ats.set m.toNat o') ps)
      refine List.Perm.cons_inv (a := o') ?_
      refine .trans (.swap wanted o' ats) ?_
      refine .trans (.cons wanted hs.symm) ?_
      refine .trans (.swap o wanted _) ?_
      refine .trans (.cons o ih) ?_
      exact .swap o' o _
theorem Path.steps {ables : List (List Int)} {ats : List Int} {wanted : Int} : ∀ {o : Int} {ps : List (Int × Int)}, Path ables ats wanted o ps → ∀ p ∈ ps, 0 ≤ p.1 ∧ p.1 < ats.length ∧ p.2 ∈ ables.getD p.1.toNat [] := fun h => by
  induction h with
  | nil => exact fun _ hp => nomatch hp
  | cons _ h1 h2 _ h5 _ ih => exact fc ⟨h1, h2, h5⟩ ih
theorem moveAll_fits {ables : List (List Int)} : ∀ (ps : List (Int × Int)) (ats : List Int), (∀ p ∈ ps, 0 ≤ p.1 ∧ p.1 < ats.length ∧ p.2 ∈ ables.getD p.1.toNat []) → (∀ j < ats.length, ats.getD j 0 ∈ ables.getD j []) → ∀ j < ats.length, (moveAll ats ps).getD j 0 ∈ ables.getD j []
  | [], _, _, h => h
  | p :: ps, ats, hp, h => by
    obtain ⟨p1, p2, p3⟩ := hp p List.mem_cons_self
    intro j hj
    refine moveAll_fits ps (ats.set p.1.toNat p.2) (fun q hq => by rw [List.length_set]; exact hp q (.tail _ hq)) (fun i hi => ?_) j (by rw [List.length_set]; exact hj)
    rw [List.length_set] at hi
    by_cases e : p.1.toNat = i
    · subst e
      have e9 : (ats.set p.1.toNat p.2).getD p.1.toNat 0 = p.2 := by simp [hi]
      rw [e9]; exact p3
    · rw [getD_set_ne e]; exact h i hi

/-- the sources: what they are -/
def Spec (cs : List Int) (wanted : Int) (done : List (List Int)) (S : List (Int × List (List Int))) : Prop :=
  (S.map (·.1)).Nodup ∧ (∀ f ∈ S, f.2 ≠ [] ∧ ∀ way, way ∈ f.2 ↔ way ∈ done ∧ srcKey cs wanted way = some f.1) ∧ ∀ way ∈ done, ∀ k, srcKey cs wanted way = some k → k ∈ S.map (·.1)
theorem addSrc_map (k : Int) (way : List Int) : ∀ (S : List (Int × List (List Int))), (addSrc S k way).map (·.1) = if k ∈ S.map (·.1) then S.map (·.1) else S.map (·.1) ++ [k]
  | [] => by simp [addSrc]
  | f :: S => by
    rw [addSrc]
    by_cases h : f.1 = k
    · simp [h]
    · rw [if_neg h, List.map_cons, addSrc_map k way S]
      by_cases hk : k ∈ S.map (·.1)
      · rw [if_pos hk, if_pos (by exact .tail _ hk)]; rfl
      · rw [if_neg hk, if_neg]
        · rfl
        · intro q
          rcases List.mem_cons.mp q with e | q
          · exact h e.symm
          · exact hk q
theorem addSrc_mem {k : Int} {way : List Int} : ∀ {S : List (Int × List (List Int))}, (S.map (·.1)).Nodup → ∀ f ∈ addSrc S k way, (f ∈ S ∧ f.1 ≠ k) ∨ (f.1 = k ∧ ((∃ g ∈ S, g.1 = k ∧ f.2 = g.2 ++ [way]) ∨ (k ∉ S.map (·.1) ∧ f.2 = [way])))
  | [], _, f, hf => by
    simp [addSrc] at hf
    subst hf
    exact .inr ⟨rfl, .inr ⟨by simp, rfl⟩⟩
  | g :: S, hn, f, hf => by
    rw [List.map_cons, List.nodup_cons] at hn
    rw [addSrc] at hf
    by_cases h : g.1 = k
    · rw [if_pos h] at hf
      rcases List.mem_cons.mp hf with rfl | hf
      · exact .inr ⟨h, .inl ⟨g, List.mem_cons_self, h, rfl⟩⟩
      · exact .inl ⟨.tail _ hf, fun e => hn.1 (by rw [h, ← e]; exact List.mem_map_of_mem hf)⟩
    · rw [if_neg h] at hf
      rcases List.mem_cons.mp hf with rfl | hf
      · exact .inl ⟨List.mem_cons_self, h⟩
      · rcases addSrc_mem hn.2 f hf with ⟨h1, h2⟩ | ⟨h1, ⟨g', h2, h3, h4⟩ | ⟨h2, h3⟩⟩
        · exact .inl ⟨.tail _ h1, h2⟩
        · exact .inr ⟨h1, .inl ⟨g', .tail _ h2, h3, h4⟩⟩
        · refine .inr ⟨h1, .inr ⟨fun q => ?_, h3⟩⟩
          rcases List.mem_cons.mp q with e | q
          · exact h e.symm
          · exact h2 q
theorem Spec.step {cs : List Int} {wanted : Int} {done : List (List Int)} {S : List (Int × List (List Int))} (h : Spec cs wanted done S) (way : List Int) : Spec cs wanted (done ++ [way]) (stepSrc cs wanted S way) := by
  obtain ⟨h1, h2, h3⟩ := h
  unfold stepSrc
  split
  · next k hk =>
    have hmap := addSrc_map k way S
    refine ⟨?_, fun f hf => ?_, fun w hw k' hk' => ?_⟩
    · rw [hmap]
      split
      · exact h1
      · next hno =>
        rw [List.nodup_append]
        refine ⟨h1, by simp, fun a ha b hb e => ?_⟩
        rw [List.mem_singleton] at hb
        exact hno (hb ▸ e ▸ ha)
    · rcases addSrc_mem h1 f hf with ⟨f1, f2⟩ | ⟨f1, ⟨g, g1, g2, g3⟩ | ⟨g1, g2⟩⟩
      · obtain ⟨a1, a2⟩ := h2 f f1
        refine ⟨a1, fun w => ?_⟩
        rw [a2, List.mem_append, List.mem_singleton]
        constructor
        · rintro ⟨b1, b2⟩; exact ⟨.inl b1, b2⟩
        · rintro ⟨b1 | rfl, b2⟩
          · exact ⟨b1, b2⟩
          · rw [hk] at b2; cases b2; exact absurd rfl f2
      · obtain ⟨a1, a2⟩ := h2 g g1
        rw [g3]
        refine ⟨by simp, fun w => ?_⟩
        rw [List.mem_append, List.mem_singleton, a2, List.mem_append, List.mem_singleton, g2, f1]
        constructor
        · rintro (⟨b1, b2⟩ | rfl)
          · exact ⟨.inl b1, b2⟩
          · exact ⟨.inr rfl, hk⟩
        · rintro ⟨b1 | rfl, b2⟩
          · exact .inl ⟨b1, b2⟩
          · exact .inr rfl
      · rw [g2]
        refine ⟨by simp, fun w => ?_⟩
        rw [List.mem_singleton, List.mem_append, List.mem_singleton, f1]
        constructor
        · rintro rfl; exact ⟨.inr rfl, hk⟩
        · rintro ⟨b1 | rfl, b2⟩
          · exact absurd (h3 w b1 k b2) g1
          · rfl
    · rw [hmap]
      rcases List.mem_append.mp hw with hw | hw
      · have := h3 w hw k' hk'
        split
        · exact this
        · exact List.mem_append_left _ this
      · rw [List.mem_singleton] at hw
        subst hw
        rw [hk] at hk'
        cases hk'
        split
        · assumption
        · exact List.mem_append_right _ (List.mem_singleton.mpr rfl)
  · next hk =>
    refine ⟨h1, fun f hf => ?_, fun w hw k' hk' => ?_⟩
    · obtain ⟨a1, a2⟩ := h2 f hf
      refine ⟨a1, fun w => ?_⟩
      rw [a2, List.mem_append, List.mem_singleton]
      constructor
      · rintro ⟨b1, b2⟩; exact ⟨.inl b1, b2⟩
      · rintro ⟨b1 | rfl, b2⟩
        · exact ⟨b1, b2⟩
        · rw [hk] at b2; cases b2
    · rcases List.mem_append.mp hw with hw | hw
      · exact h3 w hw k' hk'
      · rw [List.mem_singleton] at hw
        subst hw
        rw [hk] at hk'; cases hk'
theorem fold_spec {cs : List Int} {wanted : Int} : ∀ (ways done : List (List Int)) (S : List (Int × List (List Int))), Spec cs wanted done S → Spec cs wanted (done ++ ways) (ways.foldl (stepSrc cs wanted) S)
  | [], done, S, h => by simpa using h
  | way :: ways, done, S, h => by
    have := fold_spec ways (done ++ [way]) _ (h.step way)
    rw [List.append_assoc] at this
    exact this
theorem sources_spec (ways : List (List Int)) (cs : List Int) (wanted : Int) : Spec cs wanted ways (sourcesOf ways cs wanted) := by
  have := fold_spec (cs := cs) (wanted := wanted) ways [] [] ⟨by simp, (fun _ h => nomatch h), (fun _ h => nomatch h)⟩
  simpa [sourcesOf] using this

section
variable {ables : List (List Int)} {ats lows : List Int} {wanted o : Int} {many : Nat} {ps : List (Int × Int)} {row : List Int}
theorem fits_rng {way : List Int} (hr : ∀ r ∈ ables, ∀ v ∈ r, 0 ≤ v ∧ v < (many : Int)) (h : Fits way ables) : ∀ v ∈ way, 0 ≤ v ∧ v < (many : Int) := by
  induction h with
  | nil => exact fun _ h => nomatch h
  | cons h t ih =>
    intro v hv
    rcases List.mem_cons.mp hv with rfl | hv
    · exact hr _ List.mem_cons_self _ h
    · exact ih (fun r hr' => hr r (.tail _ hr')) v hv
theorem found_law (hfit : Fits ats ables) (hr : ∀ r ∈ ables, ∀ v ∈ r, 0 ≤ v ∧ v < (many : Int)) (hw : 0 ≤ wanted ∧ wanted < many) (ho : 0 ≤ o ∧ o < many) (F : Found ables ats (countsOf ats many) lows wanted o ps) :
    Fits (moveAll ats ps) ables ∧ srcKey (countsOf ats many) wanted (moveAll ats ps) = some o ∧
    (((countsOf ats many).set o.toNat ((countsOf ats many).getD o.toNat 0 - 1)).set wanted.toNat (((countsOf ats many).set o.toNat ((countsOf ats many).getD o.toNat 0 - 1)).getD wanted.toNat 0 + 1)) = countsOf (moveAll ats ps) many ∧
    ∀ way ∈ waysOf ables, ∀ k, srcKey (countsOf ats many) wanted way = some k → Rich (countsOf ats many) lows k → movedOf ats (moveAll ats ps) ≤ movedOf ats way := by
  have hlen := hfit.length
  have hperm := F.path.perm F.nod
  have hfit' : Fits (moveAll ats ps) ables := all2_of_getD (by rw [moveAll_length]; exact hlen) fun j hj => by
    rw [moveAll_length] at hj
    exact moveAll_fits ps ats (fun p hp => F.path.steps p hp) (fun j hj => getD_of_all2 hfit j hj) j hj
  refine ⟨hfit', srcKey_of_perm hw ho F.ne hperm, ?_, fun way hway k hk hrich => ?_⟩
  · refine List.ext_getElem (by simp [countsOf_length]) fun i h1 h2 => ?_
    rw [countsOf_length] at h2
    have hi : ((i : Nat) : Int).toNat = i := Int.toNat_natCast i
    have hc : ∀ (l : List Int), (countsOf l many)[i]? = some (l.count (i : Int) : Int) := fun l => by simp [countsOf, rangeKs, h2]
    have hcnt := hperm.count_eq (i : Int)
    rw [List.count_cons, List.count_cons] at hcnt
    have e2 : (countsOf (moveAll ats ps) many)[i]'(by rw [countsOf_length]; exact h2) = ((moveAll ats ps).count (i : Int) : Int) := by
      have := hc (moveAll ats ps)
      rw [List.getElem?_eq_getElem (by rw [countsOf_length]; exact h2)] at this
      exact Option.some.inj this
    have e1 : (countsOf ats many)[i]'(by rw [countsOf_length]; exact h2) = (ats.count (i : Int) : Int) := by
      have := hc ats
      rw [List.getElem?_eq_getElem (by rw [countsOf_length]; exact h2)] at this
      exact Option.some.inj this
    have ne1 : o.toNat ≠ wanted.toNat := fun e => F.ne (by rw [← Int.toNat_of_nonneg ho.1, e, Int.toNat_of_nonneg hw.1])
    rw [e2, List.getElem_set]
    by_cases c1 : wanted.toNat = i
    · have cw : wanted = (i : Int) := by rw [← c1]; exact (Int.toNat_of_nonneg hw.1).symm
      rw [if_pos c1, getD_set_ne ne1, countsOf_getD _ _ _ hw.1 hw.2]
      have co : ¬ o = (i : Int) := fun e => F.ne (e.trans cw.symm)
      simp [cw, co] at hcnt
      rw [cw]; omega
    · have cw : ¬ wanted = (i : Int) := fun e => c1 (by rw [e]; exact hi)
      rw [if_neg c1, List.getElem_set]
      by_cases c2 : o.toNat = i
      · have co : o = (i : Int) := by rw [← c2]; exact (Int.toNat_of_nonneg ho.1).symm
        rw [if_pos c2, countsOf_getD _ _ _ ho.1 ho.2]
        simp [cw, co] at hcnt
        rw [co]; omega
      · have co : ¬ o = (i : Int) := fun e => c2 (by rw [e]; exact hi)
        rw [if_neg c2, e1]
        simp [cw, co] at hcnt
        omega
  · obtain ⟨d, d1, d2, d3⟩ := F.best
    have hwf := (mem_waysOf ables way).mp hway
    obtain ⟨k1, k2, k3⟩ := perm_of_srcKey hw (hwf.length.trans hlen.symm) (fits_rng hr hfit) hk
    have hs := sum_moved d (all2_of_getD hlen d2) hwf
    have hp := (k3.map d).sum_nat
    rw [List.map_cons, List.map_cons, List.sum_cons, List.sum_cons, d1] at hp
    have h4 := d3 k hrich k1
    have h5 := movedOf_moveAll ats ps ats rfl
    rw [movedOf_self] at h5
    omega
theorem reached_law (hfit : Fits ats ables) (hr : ∀ r ∈ ables, ∀ v ∈ r, 0 ≤ v ∧ v < (many : Int)) (hw : 0 ≤ wanted ∧ wanted < many) (hrow : ∀ v ∈ row, 0 ≤ v ∧ v < (many : Int)) (R : Reached ables ats (countsOf ats many) lows wanted row) :
    row.Perm (wanted :: (sourcesOf (waysOf ables) (countsOf ats many) wanted).map (·.1)) ∧ ∀ f ∈ sourcesOf (waysOf ables) (countsOf ats many) wanted, ¬ Rich (countsOf ats many) lows f.1 := by
  have hlen := hfit.length
  obtain ⟨s1, s2, s3⟩ := sources_spec (waysOf ables) (countsOf ats many) wanted
  generalize sourcesOf (waysOf ables) (countsOf ats many) wanted = S at *
  have hsub : ∀ k ∈ S.map (·.1), k ∈ row ∧ k ≠ wanted := fun k hk => by
    obtain ⟨f, hf, rfl⟩ := List.mem_map.mp hk
    obtain ⟨f1, f2⟩ := s2 f hf
    obtain ⟨way, hway⟩ : ∃ way, way ∈ f.2 := by
      cases h : f.2 with
      | nil => exact absurd h f1
      | cons y r => exact ⟨y, List.mem_cons_self⟩
    obtain ⟨g1, g2⟩ := (f2 way).mp hway
    have hwf := (mem_waysOf ables way).mp g1
    obtain ⟨k1, k2, k3⟩ := perm_of_srcKey hw (hwf.length.trans hlen.symm) (fits_rng hr hfit) g2
    refine ⟨?_, k1⟩
    have hs := sum_closed (fun v => if v ∈ row then 0 else 1) (all2_of_getD (R := fun a r => ∀ b ∈ r, (if a ∈ row then 0 else 1) ≤ (if b ∈ row then 0 else 1)) hlen fun j hj b hb => by
      by_cases hbr : b ∈ row
      · rw [if_pos hbr, if_pos (R.closed j hj b hb hbr)]; exact Nat.le_refl _
      · rw [if_neg hbr]; split <;> omega) hwf
    have hp := (k3.map (fun v => if v ∈ row then 0 else 1)).sum_nat
    rw [List.map_cons, List.map_cons, List.sum_cons, List.sum_cons, if_pos R.want] at hp
    by_cases hk' : f.1 ∈ row
    · exact hk'
    · rw [if_neg hk'] at hp
      omega
  refine ⟨(List.perm_ext_iff_of_nodup R.nod ?_).mpr fun v => ⟨fun hv => ?_, fun hv => ?_⟩, fun f hf => ?_⟩
  · rw [List.nodup_cons]
    exact ⟨fun q => (hsub _ q).2 rfl, s1⟩
  · by_cases e : v = wanted
    · rw [e]; exact List.mem_cons_self
    · obtain ⟨ps, p1, p2⟩ := R.path v hv
      have hfit' : Fits (moveAll ats ps) ables := all2_of_getD (by rw [moveAll_length]; exact hlen) fun j hj => by
        rw [moveAll_length] at hj
        exact moveAll_fits ps ats (fun p hp => p1.steps p hp) (fun j hj => getD_of_all2 hfit j hj) j hj
      exact .tail _ (s3 _ ((mem_waysOf ables _).mpr hfit') v (srcKey_of_perm hw (hrow v hv) e (p1.perm p2)))
  · rcases List.mem_cons.mp hv with rfl | hv
    · exact R.want
    · exact (hsub v hv).1
  · have := hsub f.1 (List.mem_map_of_mem hf)
    exact R.poor _ this.1 this.2
end
end Mine
end

section
open PySem PySem.W PyProof.Rows PySem.Calls PySem.Spec PySem.SeqAt
set_option Elab.async false
set_option maxRecDepth 100000
set_option maxHeartbeats 8000000
namespace Mine
theorem offEqL : True := by
  w_top off
  trivial

theorem eq_all (as bs : List Int) (h : as.length = bs.length) : ((List.range as.length).all fun j => as.getD j 0 == bs.getD j 0) = decide (as = bs) := by
  rw [Bool.eq_iff_iff, List.all_eq_true, decide_eq_true_iff]
  constructor
  · intro hall
    refine List.ext_getElem h fun i h1 h2 => ?_
    have := hall i (List.mem_range.mpr h1)
    simpa [h1, h2] using this
  · rintro rfl x _
    simp
theorem eq_all2 (as bs : List Int) : (((List.range (min as.length bs.length)).all fun j => as.getD j 0 == bs.getD j 0) && (as.length == bs.length)) = decide (as = bs) := by
  by_cases h : as.length = bs.length
  · rw [h, Nat.min_self, ← h, eq_all as bs h]; simp
  · have e : (as.length == bs.length) = false := by simpa using h
    rw [e, Bool.and_false, eq_comm, decide_eq_false_iff_not]
    rintro rfl; exact h rfl
section
variable {A : Around} {s : Shared}
theorem eqAt_ints {vs ws : List Value} {as bs : List Int} (hI : IntsAre vs as) (hJ : IntsAre ws bs) (j : Nat) (h1 : j < vs.toArray.size) (h2 : j < ws.toArray.size) : EqAt A s vs.toArray[j] ws.toArray[j] (as.getD j 0 == bs.getD j 0) := by
  rw [List.size_toArray] at h1 h2
  obtain ⟨a, t, ha, hv⟩ := intsAre_at hI j vs[j] (List.getElem?_eq_getElem h1)
  obtain ⟨b, u, hb, hw⟩ := intsAre_at hJ j ws[j] (List.getElem?_eq_getElem h2)
  rw [List.getElem_toArray, List.getElem_toArray, hv, hw]
  have e1 : as.getD j 0 = a := by rw [List.getD_eq_getElem?_getD, ha]; rfl
  have e2 : bs.getD j 0 = b := by rw [List.getD_eq_getElem?_getD, hb]; rfl
  rw [e1, e2]
  exact (MeetsSeq.EqGives.int a b t u).at A s
theorem eqAt_tups {l b : Addr} {vs ws : List Value} {n k : Nat} {as bs : List Int} (h1 : s.heap.get? l = some (TO vs n)) (h2 : s.heap.get? b = some (TO ws k)) (hI : IntsAre vs as) (hJ : IntsAre ws bs) (hne : l ≠ b) (hu : A.units < cLine) :
    EqAt A s (.ref l) (.ref b) (decide (as = bs)) := by
  have := EqAt.of_refs hne (RcAt.tuples (e := fun j => as.getD j 0 == bs.getD j 0) ⟨_, h1, rfl, n, rfl⟩ ⟨_, h2, rfl, k, rfl⟩ hu fun j a b => eqAt_ints hI hJ j a b)
  rw [List.size_toArray, List.size_toArray, hI.length, hJ.length, eq_all2] at this
  exact this
theorem rcAt_lsts {l b : Addr} {vs ws : List Value} {n k : Nat} {as bs : List Int} (h1 : s.heap.get? l = some (LO vs n)) (h2 : s.heap.get? b = some (LO ws k)) (hI : IntsAre vs as) (hJ : IntsAre ws bs) (hu : A.units < cLine) :
    RcAt A s (.ref l) (.ref b) (decide (as = bs)) := by
  by_cases h : as.length = bs.length
  · have := RcAt.lists (e := fun j => as.getD j 0 == bs.getD j 0) (isList_of h1) (isList_of h2) (by simp [hI.length, hJ.length, h]) hu fun j a b => eqAt_ints hI hJ j a b
    rw [List.size_toArray, hI.length, eq_all as bs h] at this
    exact this
  · have := RcAt.lists_lengths (isList_of h1) (isList_of h2) (by simpa [hI.length, hJ.length] using h) hu
    rw [show decide (as = bs) = false from decide_eq_false (by rintro rfl; exact h rfl)]
    exact this
theorem rcAt_rows {l b : Addr} {as bs : List Addr} {n k : Nat} {rows : List (List Int)} (h1 : s.heap.get? l = some (LO (as.map Value.ref) n)) (h2 : s.heap.get? b = some (LO (bs.map Value.ref) k)) (hI : All2 (LstI s.heap) as rows) (hJ : All2 (LstI s.heap) bs rows) (hu : A.units + 1 < cLine) :
    RcAt A s (.ref l) (.ref b) true := by
  have key := RcAt.lists (A := A) (e := fun _ => true) (isList_of h1) (isList_of h2) (by simp [hI.length, hJ.length]) (by omega) fun j a b => by
    rw [List.size_toArray, List.length_map] at a b
    obtain ⟨r, hr, vs, n, hi, ho⟩ := hI.get j as[j] (List.getElem?_eq_getElem a)
    obtain ⟨r', hr', vs', n', hi', ho'⟩ := hJ.get j bs[j] (List.getElem?_eq_getElem b)
    rw [hr] at hr'
    cases hr'
    simp only [List.getElem_toArray, List.getElem_map]
    by_cases e : as[j] = bs[j]
    · rw [e]; exact EqAt.same _
    · have := rcAt_lsts (A := A.in1) ho ho' hi hi' (by show A.in1.units < cLine; exact hu)
      rw [decide_eq_true rfl] at this
      exact EqAt.of_refs e this
  have e : ((List.range (as.map Value.ref).toArray.size).all fun _ => true) = true := List.all_eq_true.mpr fun _ _ => rfl
  rw [e] at key
  exact key
end
end Mine
end

section
open PySem PySem.W PyProof.Rows PySem.Calls PySem.Spec
set_option Elab.async false
set_option maxRecDepth 100000
set_option maxHeartbeats 8000000
namespace Mine
theorem offFilled : True := by
  w_top off
  trivial
open LCg LCt
local macro_rules | `(tactic| walk_at "pad") => `(tactic| skip)
local macro_rules | `(tactic| walk_at "exec Assign cons ListComp") => `(tactic| refine stop_here ?_)
local macro_rules | `(tactic| walk_at "eval ListComp") => `(tactic| refine stop_here ?_)
local macro_rules | `(tactic| walk_at "call builtin:min") => `(tactic| refine stop_here ?_)
local macro_rules | `(tactic| walk_at "call type:tuple") => `(tactic| refine stop_here ?_)
local macro_rules | `(tactic| walk_at "compareOp In ref ref") => `(tactic| refine stop_here ?_)
local macro_rules | `(tactic| walk_at "binaryOp Add ref ref") => `(tactic| refine stop_here ?_)
local macro_rules | `(tactic| walk_at "call builtin:sorted") => `(tactic| refine stop_here ?_)
local macro_rules | `(tactic| walk_at "call ref") => `(tactic| refine stop_here ?_)
local macro_rules | `(tactic| walk_at "subscriptTail") => `(tactic| ((with_reducible show wpAny _ _ (subscriptTail _ _ (Value.ref _) (Value.int _ _)) _ _ _); k_dflt (refine' kda_item (knd := PySem.intKind _ _) ?N ?m ?d (intKind_is _ _ _ _) ?l ?_ ?s ?g; (case N => k_asm); (case m | d | l => with_reducible assumption); (case s => with_unfolding_all rfl); (case g => (intro _; with_unfolding_all rfl)))))
local macro_rules | `(tactic| k_all) => `(tactic| assumption)

theorem srcKey_rng {counts : List Int} {wanted k : Int} {way : List Int} (h : srcKey counts wanted way = some k) : 0 ≤ k ∧ k < counts.length := by
  unfold srcKey at h
  dsimp only at h
  split at h
  · next hc =>
    cases h
    generalize hf : fewerOf (countsOf way counts.length) counts = f at hc ⊢
    cases f with
    | nil => simp at hc
    | cons y r =>
      have hy : y ∈ fewerOf (countsOf way counts.length) counts := by rw [hf]; exact List.mem_cons_self
      have := mem_rangeKs (List.mem_filter.mp hy).1
      simp only [List.getD_cons_zero]
      omega
  · cases h
theorem addSrc_keys {P : Int → Prop} {k : Int} (hk : P k) (way : List Int) : ∀ {found : List (Int × List (List Int))}, (∀ f ∈ found, P f.1) → ∀ f ∈ addSrc found k way, P f.1
  | [], _, f, hf => by simp [addSrc] at hf; subst hf; exact hk
  | g :: r, h, f, hf => by
    rw [addSrc] at hf
    split at hf
    · rcases List.mem_cons.mp hf with rfl | hf
      · exact h g List.mem_cons_self
      · exact h f (.tail _ hf)
    · rcases List.mem_cons.mp hf with rfl | hf
      · exact h f List.mem_cons_self
      · exact addSrc_keys hk way (fun f hf => h f (.tail _ hf)) f hf
theorem foldSrc_keys {P : Int → Prop} {counts : List Int} {wanted : Int} (hP : ∀ way k, srcKey counts wanted way = some k → P k) : ∀ (ways : List (List Int)) (acc : List (Int × List (List Int))), (∀ f ∈ acc, P f.1) → ∀ f ∈ ways.foldl (stepSrc counts wanted) acc, P f.1
  | [], acc, h => h
  | way :: ways, acc, h => foldSrc_keys hP ways _ (by
    unfold stepSrc
    split
    · next k hk => exact addSrc_keys (hP _ _ hk) way h
    · exact h)
theorem sourcesOf_rng (ways : List (List Int)) (counts : List Int) (wanted : Int) : ∀ f ∈ sourcesOf ways counts wanted, 0 ≤ f.1 ∧ f.1 < counts.length :=
  foldSrc_keys (P := fun k => 0 ≤ k ∧ k < counts.length) (fun _ _ => srcKey_rng) ways [] (fun _ h => nomatch h)
noncomputable def wsOf (S : List (Int × List (List Int))) (k : Int) : List (List Int) := ((S.find? fun f => f.1 = k).map (·.2)).getD []
theorem find_of_mem {S : List (Int × List (List Int))} {k : Int} (h : k ∈ S.map (·.1)) : ∃ f ∈ S, f.1 = k ∧ (S.find? fun f => f.1 = k) = some f := by
  cases hf : S.find? fun f => decide (f.1 = k) with
  | none =>
    rw [List.find?_eq_none] at hf
    obtain ⟨f, h1, h2⟩ := List.mem_map.mp h
    exact absurd (decide_eq_true h2) (hf f h1)
  | some f => exact ⟨f, List.mem_of_find?_eq_some hf, by simpa using List.find?_some hf, rfl⟩
theorem wsOf_of {S : List (Int × List (List Int))} {k : Int} {f} (h : (S.find? fun f => f.1 = k) = some f) : wsOf S k = f.2 := by rw [wsOf, h]; rfl
theorem SrcsIn.value {P : Addr → List Int → Prop} {nw : Led} {k : Int} {f : Int × List (List Int)} : ∀ {kvs : List (Int × Value)} {S : List (Int × List (List Int))}, All2 (SrcIn P nw) kvs S → (S.find? fun f => f.1 = k) = some f →
    ∃ l as n, valueAt kvs k = some (.ref l) ∧ (l, LO (as.map Value.ref) n) ∈ nw ∧ All2 P as f.2 := fun h => by
  induction h with
  | nil => intro h; simp at h
  | @cons kv fw kvs S h t ih =>
    intro e
    by_cases hk : fw.1 = k
    · rw [List.find?_cons, decide_eq_true hk] at e
      cases e
      refine hide fun G hG => ?_
      obtain ⟨e0, l, as, n, e1, e2, e3⟩ := h
      refine hG ?_
      clear hG G
      exact ⟨l, as, n, by simp [valueAt, List.find?_cons, e0, hk, e1], e2, e3⟩
    · rw [List.find?_cons, decide_eq_false hk] at e
      refine hide fun G hG => ?_
      obtain ⟨l, as, n, e1, e2, e3⟩ := ih e
      refine hG ?_
      clear hG G
      exact ⟨l, as, n, by rw [← e1]; simp [valueAt, List.find?_cons, h.1, hk], e2, e3⟩
theorem flatMap_le {α β : Type} (f : α → List β) (B : Nat) : ∀ (l : List α), (∀ a ∈ l, (f a).length ≤ B) → (l.flatMap f).length ≤ l.length * B
  | [], _ => by simp
  | a :: l, h => by
    rw [List.flatMap_cons, List.length_append, List.length_cons, Nat.succ_mul]
    have := flatMap_le f B l fun x hx => h x (.tail _ hx)
    have := h a List.mem_cons_self
    omega
theorem ints_keys : ∀ {kvs : List (Int × Value)} {vs : List Value}, vs.length = kvs.length → (∀ (j : Nat) (v : Value), vs[j]? = some v → ∃ k x t, kvs[j]? = some (k, x) ∧ v = .int k t) → IntsAre vs (kvs.map (·.1))
  | [], [], _, _ => .nil
  | [], _ :: _, h, _ => by simp at h
  | _ :: _, [], h, _ => by simp at h
  | (k, x) :: kvs, v :: vs, h, f => by
    refine hide fun G hG => ?_
    obtain ⟨k', x', t, e1, e2⟩ := f 0 v rfl
    refine hG ?_
    clear hG G
    simp only [List.getElem?_cons_zero, Option.some.injEq, Prod.mk.injEq] at e1
    obtain ⟨rfl, rfl⟩ := e1
    rw [e2]
    exact .cons k t (ints_keys (by simpa using h) fun j v hv => f (j + 1) v (by simpa using hv))
theorem list_dict_L {prog : Program} {w : World} {A : Around} {E : Value → Shared → Prop} {s : Shared} {h₀ : Heap} {L d : Addr} {m : Str → Option Value} {news : Led} {od : Obj} {kvs : List (Int × Value)} {Q : Value → Shared → Prop} (F : Fr h₀ L s.heap m) (N : News h₀ L s.heap news)
    (hm : (d, od) ∈ news) (hd : od.IsDictOf (intKind prog w) kvs) (lo : (d == sysModules) = false) (hz : kvs.length ≤ sizeLine) (hh : A.handled = none)
    (h : ∀ B c h' tk vs, Fr h₀ L h' m → News h₀ L h' ((B, W.listOf vs.toArray c) :: news) → (∀ q ∈ news, q.1 < B) → IntsAre vs (kvs.map (·.1)) → Q (.ref B) { s with heap := h', toks := tk }) : wpAny (model prog w) A (call (.type "list") [.ref d]) Q E s := by
  obtain ⟨ep, hat⟩ := (kda_dict N hm hd).dictAt
  refine kdl_N (kdl_dict (knd := intKind prog w) (kvs := kvs) (ep := ep) lo) hh F N hat hz fun B c h' tk vs F' N' l1 hl hv => ?_
  refine h B c h' tk vs F' N' l1 (ints_keys hl fun j v e => ?_)
  refine hide fun G hG => ?_
  obtain ⟨k, x, hx, hkey⟩ := hv j v e
  refine hG ?_
  clear hG G
  cases v with
  | int i t => exact ⟨k, x, t, hx, by rw [show k = i from (of_decide_eq_true hkey).symm]⟩
  | _ => cases hkey
theorem srcs_keys {P : Addr → List Int → Prop} {nw : Led} : ∀ {kvs : List (Int × Value)} {S : List (Int × List (List Int))}, All2 (SrcIn P nw) kvs S → kvs.map (·.1) = S.map (·.1) := fun h => by
  induction h with
  | nil => rfl
  | cons h _ ih => rw [List.map_cons, List.map_cons, h.1, ih]
theorem intsAre_fun : ∀ {vs : List Value} {as bs : List Int}, IntsAre vs as → IntsAre vs bs → as = bs := fun {vs as bs} h => by
  induction h generalizing bs with
  | nil => intro h'; cases h'; rfl
  | cons _ _ _ ih => intro h'; cases h' with
    | cons _ _ h'' => rw [ih h'']
theorem tupI_fun {h : Heap} {a : Addr} {as bs : List Int} (x : TupI h a as) (y : TupI h a bs) : as = bs := by
  refine hide fun G hG => ?_
  obtain ⟨vs, n, hi, ho⟩ := x
  refine hG ?_
  clear hG G
  refine hide fun G hG => ?_
  obtain ⟨ws, k, hj, hp⟩ := y
  refine hG ?_
  clear hG G
  rw [ho] at hp
  injection hp with hp
  have := congrArg Obj.data hp
  injection this with e1 e2
  have e3 : vs = ws := by simpa using congrArg Array.toList e1
  subst e3
  exact intsAre_fun hi hj
theorem news_tl {h₀ h h' : Heap} {L : Addr} {m : Str → Option Value} {tl : Led} (F : Fr h₀ L h m) (htl : ∀ p ∈ tl, h'.get? p.1 = some p.2 ∧ h.get? p.1 = none) : News h₀ L h' tl := fun p hp => by
  refine ⟨(htl p hp).1, fun e => ?_, ?_⟩
  · refine hide fun G hG => ?_
    obtain ⟨oL, _, _, hL, _⟩ := F.ns
    refine hG ?_
    clear hG G
    have := (htl p hp).2
    rw [e, hL] at this; cases this
  · cases q : h₀.get? p.1 with
    | none => rfl
    | some o => have := F.keep _ _ q; rw [(htl p hp).2] at this; cases this
theorem off_tl {h₀ h h' : Heap} {L c : Addr} {o : Obj} {nw tl : Led} (N : News h₀ L h nw) (htl : ∀ p ∈ tl, h'.get? p.1 = some p.2 ∧ h.get? p.1 = none) (hm : (c, o) ∈ nw) : ∀ p ∈ tl, p.1 ≠ c := fun p hp e => by
  have := (htl p hp).2
  rw [e, (N _ hm).1] at this; cases this
/-- what a call does not hide -/
theorem off_muts {G₀ h : Heap} {w : World} {x dx ab lo hi aA cA : Addr} {avs cvs : List Value} {an cn n : Nat} {t₁ t₂ t₃ t₄ t₅ : Tok} (N : Ours G₀ h [(x, instObj 73 dx), (dx, instD w t₁ t₂ t₃ t₄ t₅ n ab lo hi aA cA), (aA, LO avs an), (cA, LO cvs cn)])
    {a : Addr} {o : Obj} {vs : Array Value} {k : Nat} (e : h.get? a = some o) (hd : o.data = .seq vs k) (h1 : o.cls = .type "tuple" ∨ a ≠ aA ∧ a ≠ cA) :
    a ∉ List.map (·.1) [(x, instObj 73 dx), (dx, instD w t₁ t₂ t₃ t₄ t₅ n ab lo hi aA cA), (aA, LO avs an), (cA, LO cvs cn)] := by
  intro hm
  obtain ⟨p, hp, rfl⟩ := List.mem_map.mp hm
  have hpp := (N p hp).1
  rw [e] at hpp
  injection hpp with hpp
  subst hpp
  have key : ∀ a', p.1 = a' → a' = aA ∨ a' = cA → p.2.cls = .type "list" → False := fun a' e' h9 hc => by
    rcases h1 with h1 | h1
    · rw [hc] at h1; injection h1 with h1; exact absurd h1 (by decide)
    · rcases h9 with rfl | rfl
      · exact h1.1 e'
      · exact h1.2 e'
  simp only [List.mem_cons, List.not_mem_nil, or_false] at hp
  rcases hp with rfl | rfl | rfl | rfl
  · cases hd
  · cases hd
  · exact key _ rfl (.inl rfl) rfl
  · exact key _ rfl (.inr rfl) rfl

theorem filled_call {prog : Program} {w : World} {dp un : Nat} {fr : Option (List Env)} {gd : Option (List Code)} {s : Shared} {G₀ : Heap} {loose : List Str} {mean : ExcName → Option Value} {mg mb : Str → Option Value}
   {x dx ab lo hi aA cA wl : Addr} {avs cvs : List Value} {an cn n wn : Nat} {t₁ t₂ t₃ t₄ t₅ tw : Tok} {was : List Addr} {ways ables : List (List Int)} {ats cs lows : List Int} {wanted : Int} {many : Nat} {Q E : Value → Shared → Prop}
   (G : GG w loose mean mg mb G₀ s.heap) (N : Ours G₀ s.heap [(x, instObj 73 dx), (dx, instD w t₁ t₂ t₃ t₄ t₅ n ab lo hi aA cA), (aA, LO avs an), (cA, LO cvs cn)])
   (hai : IntsAre avs ats) (hci : IntsAre cvs cs) {ras : List Addr} {rn0 : Nat} (hra : s.heap.get? ab = some (LO (ras.map Value.ref) rn0)) (hrs : All2 (LstI s.heap) ras ables) (hlo : LstI s.heap lo lows) (hA : ables.length = ats.length) (hL : lows.length = many) (hC : cs.length = many)
   (hw : s.heap.get? wl = some (LO (was.map Value.ref) wn)) (hws : All2 (TupI s.heap) was ways) (hwn : ways.length ≤ 243) (hwl : ∀ way ∈ ways, way.length < 100) (hwo : wl ≠ aA ∧ wl ≠ cA)
   (h3 : 0 ≤ wanted) (h4 : wanted < many) (hr : ∀ o ∈ ats, 0 ≤ o ∧ o < many) (hb : ∀ r ∈ ables, r.length < 100) (hal : ats.length < 60) (hcl : many < 60)
   (hcs : cs = countsOf ats many) (hway : ways = waysOf ables) (hfit : Fits ats ables) (hrr : ∀ r ∈ ables, ∀ v ∈ r, 0 ≤ v ∧ v < (many : Int))
   (hdp : dp < 880) (hun : un < 800) (hne : x ≠ dx ∧ x ≠ aA ∧ x ≠ cA ∧ dx ≠ aA ∧ dx ≠ cA ∧ aA ≠ cA)
   (hoff : ab ≠ aA ∧ ab ≠ cA ∧ lo ≠ aA ∧ lo ≠ cA) (hro : ∀ a ∈ ras, a ≠ aA ∧ a ≠ cA)
   (hQ : ∀ h' tk' avs' an' cvs' cn' ats', Kb s.heap h' [aA, cA] → h'.get? aA = some (LO avs' an') → h'.get? cA = some (LO cvs' cn') → IntsAre avs' ats' → IntsAre cvs' (countsOf ats' many) → Fits ats' ables → Q (.bool true) { s with heap := h', toks := tk' }) :
   wpAny (model prog w) ⟨none, dp, fr, gd, un⟩ (call (.ref 110) [.ref x, .ref wl, .int wanted tw]) Q E s := by
  refine wpAny_call ?_
  k_dflt (refine' enter_cells (muts := [(x, instObj 73 dx), (dx, instD w t₁ t₂ t₃ t₄ t₅ n ab lo hi aA cA), (aA, LO avs an), (cA, LO cvs cn)]) ?k1 ?k3 ?k6 ?k7 ?k8 ?k9 ?kB ?kD ?_ ?c2 ?c3 ?c4)
  (case k1 => exact G); (case k3 => exact N); (case k6 => k_is); (case k7 => k_is); (case k8 => show dp < recursionLimit; simp only [recursionLimit]; omega); (case k9 => exact BindsTo.of_eq rfl); (case kD => decide +kernel); (case kB => exact rfl); (case c2 => exact rfl); (case c3 => exact rfl); (case c4 => exact rfl)
  intro g' L' h' tk' cells' eg kg F' N' Y' X' T' G' l1
  clear eg G
  refine hide fun G hG => ?_
  obtain ⟨e1, e2, e3, e4, e5, e6⟩ := hne
  refine hG ?_
  clear hG G
  have e1 := neN e1
  have e2 := neN e2
  have e3 := neN e3
  have e4 := neN e4
  have e5 := neN e5
  have e6 := neN e6
  have lx := ltN (l1 (x, instObj 73 dx) (by k_mem))
  have ldx := ltN (l1 (dx, instD w t₁ t₂ t₃ t₄ t₅ n ab lo hi aA cA) (by k_mem))
  have laA := ltN (l1 (aA, LO avs an) (by k_mem))
  have lcA := ltN (l1 (cA, LO cvs cn) (by k_mem))
  dsimp only at lx ldx laA lcA
  clear l1
  refine hide fun G hG => ?_
  obtain ⟨ocS, ocC, ocT, ocP, hE, hdS, hdC, hdT, hdP⟩ := CellsAre.four Y'
  refine hG ?_
  clear hG G
  subst hE
  clear Y'
  replace hdP : ocP.data = .cell (some (.ref x)) := hdP
  replace hdT : ocT.data = .cell none := hdT
  replace hdC : ocC.data = .cell none := hdC
  replace hdS : ocS.data = .cell none := hdS
  (try simp only [List.cons_append, List.nil_append] at N')
  (try dsimp only); (try k_fold)
  k_steps
  refine hide fun G hG => ?_
  obtain ⟨q1, q2, q3, q4⟩ := hoff
  refine hG ?_
  clear hG G
  refine hide fun G hG => ?_
  obtain ⟨lvs, lvn, hlI, hlo0⟩ := hlo
  refine hG ?_
  clear hG G
  have hlog : g'.get? lo = some (LO lvs lvn) := kg _ _ hlo0 (off_muts N hlo0 rfl (.inr ⟨q3, q4⟩))
  have hloL := isList_of hlog
  rename_i S9 cS hA1 la C9 cC hA2 lb T9 hA3 lc hA4 hA5 oT dT h1 oC F1 N1 dC
  unfold Stop
  have hw1 : g'.get? wl = some (LO (was.map Value.ref) wn) := kg _ _ hw (off_muts N hw rfl (.inr hwo))
  have hws1 : All2 (TupI g') was ways := hws.mono fun a b ⟨vs, k, hi, ho⟩ => ⟨vs, k, hi, kg _ _ ho (off_muts N ho rfl (.inl rfl))⟩
  refine sources_call (P := TupI g') (counts := cs) (ways := ways) (was := was) (wn := wn) (G'.at F1) (F1.keep _ _ hw1) (hws1.mono fun a b y => ⟨let ⟨vs, k, hi, ho⟩ := y; ⟨vs, k, hi, F1.keep _ _ ho⟩, y⟩) hwn hwl ⟨cvs, _, hci, (N1 (C9, _) (by k_mem)).1⟩ (by omega) h3 (by rw [hC]; exact h4) (by show dp + 1 < 890; omega) (by show un + 3 < 900; omega) ?_
  intro d h2 tk2 tl od kvs kb2 htl hdm hds hod hsrc
  have F2 := fr_after0 F1 kb2
  have N2 := news_after0 N1 kb2
  have Nt := news_tl F1 htl
  have o1 := off_tl N1 htl (c := S9) (o := W.listOf avs.toArray cS) (by k_mem)
  have o2 := off_tl N1 htl (c := C9) (o := W.listOf cvs.toArray cC) (by k_mem)
  have o3 := off_tl N1 htl (c := L' + 1 + 1 + 1 + 1) (o := ocS) (by k_mem)
  have o4 := off_tl N1 htl (c := L' + 1 + 1 + 1) (o := oC) (by k_mem)
  have o5 := off_tl N1 htl (c := L' + 1 + 1) (o := oT) (by k_mem)
  have o6 := off_tl N1 htl (c := L' + 1) (o := ocP) (by k_mem)
  have o7 := off_tl N1 htl (c := x) (o := instObj 73 dx) (by k_mem)
  have o8 := off_tl N1 htl (c := dx) (o := instD w t₁ t₂ t₃ t₄ t₅ n ab lo hi aA cA) (by k_mem)
  have o9 := off_tl N1 htl (c := aA) (o := LO avs an) (by k_mem)
  have o10 := off_tl N1 htl (c := cA) (o := LO cvs cn) (by k_mem)
  refine hide fun G hG => ?_
  obtain ⟨la1, la2, la3, la4, la5, la6, la7, la8⟩ := la
  refine hG ?_
  clear hG G
  refine hide fun G hG => ?_
  obtain ⟨lb0, lb1, lb2, lb3, lb4, lb5, lb6, lb7, lb8⟩ := lb
  refine hG ?_
  clear hG G
  clear lc
  have N3 : News g' L' h2 ((S9, LO avs cS) :: (C9, LO cvs cC) :: (L' + 1 + 1 + 1 + 1, ocS) :: (L' + 1 + 1 + 1, oC) :: (L' + 1 + 1, oT) :: (L' + 1, ocP) :: (x, instObj 73 dx) :: (dx, instD w t₁ t₂ t₃ t₄ t₅ n ab lo hi aA cA) :: (aA, LO avs an) :: (cA, LO cvs cn) :: tl) := by
    iterate 10 refine fc (N2 _ (by k_mem)) ?_
    exact Nt
  clear N2 Nt N1 F1 htl
  have hS := sourcesOf_length ways cs wanted
  generalize hSe : sourcesOf ways cs wanted = S at *
  have hSr := hSe ▸ sourcesOf_rng ways cs wanted
  dsimp only
  k_steps
  rename_i hh4 ocS4 F4 N4 dS4
  unfold Stop
  have hkl : kvs.length = S.length := hsrc.1.length
  refine AssignT F4 (cl := [(Str.ofString "placing", L' + 1), (Str.ofString "counts", L' + 1 + 1 + 1)]) rfl (by with_unfolding_all rfl) (by with_unfolding_all rfl) (by decide) rfl (by decide) rfl rfl rfl ?_
  k_steps
  unfold Stop
  let C1 : Nat → List Value → Led → Prop :=
      fun k ys nw => nw = (S9, LO avs cS) :: (C9, LO cvs cC) :: (L' + 1 + 1 + 1 + 1, ocS4) :: (L' + 1 + 1 + 1, oC) :: (L' + 1 + 1, oT) :: (L' + 1, ocP) :: (x, instObj 73 dx) :: (dx, instD w t₁ t₂ t₃ t₄ t₅ n ab lo hi aA cA) :: (aA, LO avs an) :: (cA, LO cvs cn) :: tl ∧
        IntsAre ys (((S.map (·.1)).take k).filter fun o => decide (lows.getD o.toNat 0 < cs.getD o.toNat 0))
  refine ex5 _ (kvs.length) _ _ C1 ⟨Src.dict rfl N4 (.tail _ (.tail _ (.tail _ (.tail _ (.tail _ (.tail _ (.tail _ (.tail _ (.tail _ (.tail _ hdm)))))))))) hod hds, ?_, F4, N4, ?_, ⟨rfl, .nil⟩, ?_, ?_⟩
  · rw [hkl]
    have hz : (1000 : Nat) ≤ sizeLine := by decide
    omega
  · rintro i ys nw ⟨rfl, _⟩
    exact .tail _ (.tail _ (.tail _ (.tail _ (.tail _ (.tail _ (.tail _ (.tail _ (.tail _ (.tail _ hdm)))))))))
  · rintro i v I₂ oI₂ C oC₂ D m₂ h9 tk9 ys nw E' hk hz14 hz15 hC2 hm F6 N6 off6
    refine hide fun G hG => ?_
    obtain ⟨k, xv, tok, hkx, rfl⟩ := hz14
    obtain ⟨rfl, hys⟩ := hz15
    refine hG ?_
    clear hG G
    try simp only [List.cons_append, List.nil_append] at N6
    refine hide fun G hG => ?_
    obtain ⟨fw, hfw, hkf, _⟩ := hsrc.1.get i _ hkx
    refine hG ?_
    clear hG G
    have hkr := hSr fw (List.mem_of_getElem? hfw)
    dsimp only at hkf
    rw [← hkf] at hkr
    obtain ⟨hk1, hk2⟩ := hkr
    have hk3 : k < (lows.length : Int) := by omega
    have htk : (S.map (·.1)).take (i + 1) = (S.map (·.1)).take i ++ [k] := by
      rw [List.take_add_one, List.getElem?_map, hfw, hkf]; rfl
    k_steps
    · rename (_ < _) => hlt9
      refine ⟨h9, _, _, rfl, F6, N6, off6, rfl, ?_⟩
      rw [htk, List.filter_append, List.filter_cons, if_pos (by exact decide_eq_true hlt9)]
      exact hys.append (.cons k tok .nil)
    · rename (¬ _) => hlt9
      refine ⟨h9, _, _, rfl, F6, N6, off6, rfl, ?_⟩
      rw [htk, List.filter_append, List.filter_cons, if_neg (by rw [decide_eq_false hlt9]; exact Bool.false_ne_true), List.filter_nil, List.append_nil]
      exact hys
  · rintro D h9 tk9 ys nw F6 N6 off6 ⟨rfl, hys⟩
    have htk : (S.map (·.1)).take kvs.length = S.map (·.1) := List.take_of_length_le (by simp [hkl])
    rw [htk] at hys
    generalize hrich : (S.map (·.1)).filter (fun o => decide (lows.getD o.toNat 0 < cs.getD o.toNat 0)) = richs at hys
    k_steps
    unfold Stop
    have hrag : g'.get? ab = some (LO (ras.map Value.ref) rn0) := kg _ _ hra (off_muts N hra rfl (.inr ⟨q1, q2⟩))
    have hrsg : All2 (LstI g') ras ables := hrs.mono' fun a ha b ⟨vs, k, hi, ho⟩ => ⟨vs, k, hi, kg _ _ ho (off_muts N ho rfl (.inr (hro a ha)))⟩
    refine fill_call (ables := ables) (ats := ats) (cs := cs) (lows := lows) (many := many) (t₁ := t₁) (t₂ := t₂) (t₃ := t₃) (t₄ := t₄) (t₅ := t₅) (n := n) (ab := ab) (lo := lo) (hi := hi) (an := an) (cn := cn) (G'.at F6) (ours_of G' N6 ?hsub) hai hci (F6.keep _ _ hrag) (hrsg.mono fun a b ⟨vs, k, hi, ho⟩ => ⟨vs, k, hi, F6.keep _ _ ho⟩) ⟨lvs, lvn, hlI, F6.keep _ _ hlog⟩ hA hL hC h3 h4 hr hb (by omega) hcl (by show dp + 1 < 890; omega)
      ⟨e1, e2, e3, e4, e5, e6⟩ ⟨q1, q2, q3, q4⟩ hro ?_ ?_
    case hsub =>
      iterate 4 refine fc (by k_mem) ?_
      exact fun _ h => nomatch h
    · intro o ps h7 tk7 avs7 an7 cvs7 cn7 hF hor kb7 ga gc ia ic
      have d1 := neN (off6 (S9, LO avs cS) (by k_mem))
      have d2 := neN (off6 (C9, LO cvs cC) (by k_mem))
      have d3 := neN (off6 (L' + 1 + 1 + 1 + 1, ocS4) (by k_mem))
      have d4 := neN (off6 (L' + 1 + 1 + 1, oC) (by k_mem))
      have d5 := neN (off6 (L' + 1 + 1, oT) (by k_mem))
      have d6 := neN (off6 (L' + 1, ocP) (by k_mem))
      have d7 := neN (off6 (x, instObj 73 dx) (by k_mem))
      have d8 := neN (off6 (dx, instD w t₁ t₂ t₃ t₄ t₅ n ab lo hi aA cA) (by k_mem))
      have d9 := neN (off6 (aA, LO avs an) (by k_mem))
      have d10 := neN (off6 (cA, LO cvs cn) (by k_mem))
      have d11 : ∀ p ∈ tl, p.1 ≠ D := fun p hp => off6 p (.tail _ (.tail _ (.tail _ (.tail _ (.tail _ (.tail _ (.tail _ (.tail _ (.tail _ (.tail _ hp))))))))))
      dsimp only at d1 d2 d3 d4 d5 d6 d7 d8 d9 d10
      have F7 := fr_after F6 kb7 (by
        simp only [List.mem_cons, List.not_mem_nil, or_false, not_or]
        exact ⟨Ne.symm (N6 (aA, LO avs an) (by k_mem)).2.1, Ne.symm (N6 (cA, LO cvs cn) (by k_mem)).2.1⟩) (fun a ha => by
        simp only [List.mem_cons, List.not_mem_nil, or_false] at ha
        rcases ha with rfl | rfl
        · exact (N6 (_, LO avs an) (by k_mem)).2.2
        · exact (N6 (_, LO cvs cn) (by k_mem)).2.2)
      have hk2 : ∀ {p : Addr × Obj}, p ∈ _ → p.1 ≠ aA → p.1 ≠ cA → h7.get? p.1 = some p.2 ∧ p.1 ≠ L' ∧ g'.get? p.1 = none := fun {p} hp h1 h2 => ⟨kb7 _ _ (N6 p hp).1 (by simp [h1, h2]), (N6 p hp).2⟩
      have N7 : News g' L' h7 ((D, lst ys) :: (S9, LO avs cS) :: (C9, LO cvs cC) :: (L' + 1 + 1 + 1 + 1, ocS4) :: (L' + 1 + 1 + 1, oC) :: (L' + 1 + 1, oT) :: (L' + 1, ocP) :: (x, instObj 73 dx) :: (dx, instD w t₁ t₂ t₃ t₄ t₅ n ab lo hi aA cA) :: (aA, LO avs7 an7) :: (cA, LO cvs7 cn7) :: tl) := by
        iterate 9 refine fc (hk2 (by k_mem) (by k_ne) (by k_ne)) ?_
        refine fc ⟨ga, (N6 (aA, LO avs an) (by k_mem)).2⟩ ?_
        refine fc ⟨gc, (N6 (cA, LO cvs cn) (by k_mem)).2⟩ ?_
        exact fun p hp => hk2 (.tail _ (.tail _ (.tail _ (.tail _ (.tail _ (.tail _ (.tail _ (.tail _ (.tail _ (.tail _ (.tail _ hp))))))))))) (o9 p hp) (o10 p hp)
      clear hk2 N6 F6
      have hws2 : Fits ats ables := hfit
      subst hcs hway
      refine hide fun G hG => ?_
      obtain ⟨fit', key', cnt', best'⟩ := found_law hfit hrr ⟨h3, h4⟩ hor hF
      refine hG ?_
      clear hG G
      obtain ⟨sp1, sp2, sp3⟩ := sources_spec (waysOf ables) (countsOf ats many) wanted
      rw [hSe] at sp1 sp2 sp3
      rw [cnt'] at ic
      generalize hats : moveAll ats ps = ats' at *
      have hway' := (mem_waysOf ables ats').mpr fit'
      have hok : o ∈ S.map (·.1) := sp3 _ hway' o key'
      have hor2 : o ∈ richs := by rw [← hrich, List.mem_filter]; exact ⟨hok, decide_eq_true hF.rich⟩
      have hrk : ∀ k ∈ richs, k ∈ S.map (·.1) ∧ Rich (countsOf ats many) lows k := fun k hk => by
        rw [← hrich, List.mem_filter] at hk
        exact ⟨hk.1, of_decide_eq_true (p := lows.getD k.toNat 0 < (countsOf ats many).getD k.toNat 0) hk.2⟩
      have hrn : decide (richs = []) = false := decide_eq_false (List.ne_nil_of_mem hor2)
      have hwl' : ∀ k, ∀ way ∈ wsOf S k, way ∈ waysOf ables ∧ srcKey (countsOf ats many) wanted way = some k := fun k way hm => by
        unfold wsOf at hm
        cases hf : S.find? fun f => decide (f.1 = k) with
        | none => rw [hf] at hm; cases hm
        | some f =>
          rw [hf] at hm
          have h1 := List.mem_of_find?_eq_some hf
          have h2 : f.1 = k := by simpa using List.find?_some hf
          rw [← h2]
          exact ((sp2 f h1).2 way).mp hm
      have hwlen : ∀ k, ∀ way ∈ wsOf S k, way.length = ats.length := fun k way hm => ((mem_waysOf ables way).mp (hwl' k way hm).1).length.trans hfit.length.symm
      have hwn' : ∀ k, (wsOf S k).length ≤ 243 := fun k => by
        unfold wsOf
        cases hf : S.find? fun f => decide (f.1 = k) with
        | none => simp
        | some f => exact Nat.le_trans (hS.2 f (List.mem_of_find?_eq_some hf)) hwn
      have hrl : richs.length ≤ 243 := by
        rw [← hrich]
        exact Nat.le_trans (List.length_filter_le _ _) (by rw [List.length_map]; exact Nat.le_trans hS.1 hwn)
      dsimp only
      k_steps
      unfold Stop
      rename Fr _ _ _ _ => F8
      rename News _ _ _ _ => N8
      have hz : (100000 : Nat) ≤ sizeLine := by decide
      let C2 : Nat → List Value → Led → Prop :=
          fun i zs nw => nw = (D, lst ys) :: (S9, LO avs cS) :: (C9, LO cvs cC) :: (L' + 1 + 1 + 1 + 1, ocS4) :: (L' + 1 + 1 + 1, oC) :: (L' + 1 + 1, oT) :: (L' + 1, ocP) :: (x, instObj 73 dx) :: (dx, instD w t₁ t₂ t₃ t₄ t₅ n ab lo hi aA cA) :: (aA, LO avs7 an7) :: (cA, LO cvs7 cn7) :: tl ∧ IntsAre zs ((richs.take i).flatMap fun k => (wsOf S k).map fun way => ((movedOf ats way : Nat) : Int))
      let K2 : Nat → Addr → Array Value → Nat → List Value → Led → Prop :=
          fun i ax₂ its₂ j zs nw => nw = (D, lst ys) :: (S9, LO avs cS) :: (C9, LO cvs cC) :: (L' + 1 + 1 + 1 + 1, ocS4) :: (L' + 1 + 1 + 1, oC) :: (L' + 1 + 1, oT) :: (L' + 1, ocP) :: (x, instObj 73 dx) :: (dx, instD w t₁ t₂ t₃ t₄ t₅ n ab lo hi aA cA) :: (aA, LO avs7 an7) :: (cA, LO cvs7 cn7) :: tl ∧
            ∃ k as n, richs[i]? = some k ∧ (ax₂, LO (as.map Value.ref) n) ∈ tl ∧ its₂ = (as.map Value.ref).toArray ∧ All2 (TupI g') as (wsOf S k) ∧ IntsAre zs (((richs.take i).flatMap fun k => (wsOf S k).map fun way => ((movedOf ats way : Nat) : Int)) ++ ((wsOf S k).take j).map fun way => ((movedOf ats way : Nat) : Int))
      refine ListComp_2 (h₀ := g') (L := L') F8 (cl := [(Str.ofString "stand", L' + 1 + 1), (Str.ofString "sources", L' + 1 + 1 + 1 + 1)])
        C2
        K2
        rfl (by with_unfolding_all rfl) (by decide) rfl rfl rfl (by decide) (by decide) ?_ (by intro _; rfl) (by intro _ _; rfl)
      k_steps
      unfold Stop
      refine ⟨D, ys.toArray, _, rfl, F8, fun p hp => N8 p (.tail _ hp), ?_, ?_, ⟨rfl, .nil⟩, ?_, ?_, ?_, ?_⟩
      · rintro i zs nw ⟨rfl, _⟩
        exact .inr ⟨_, .head _, rfl, _, rfl⟩
      · rintro i ax₂ its₂ j zs nw ⟨rfl, k, as, n', hk, hlm, rfl, hall, hzI⟩
        refine ⟨.inr ⟨_, .head _, rfl, _, rfl⟩, .inr ⟨_, .tail _ (.tail _ (.tail _ (.tail _ (.tail _ (.tail _ (.tail _ (.tail _ (.tail _ (.tail _ (.tail _ (hlm))))))))))), rfl, _, rfl⟩, ?_⟩
        rw [hzI.length, List.length_append, List.length_map]
        have u1 := flatMap_le (fun k => (wsOf S k).map fun way => ((movedOf ats way : Nat) : Int)) 243 (richs.take i) (fun k _ => by rw [List.length_map]; exact hwn' k)
        have u2 := List.length_take_le' i richs
        have u3 := List.length_take_le' j (wsOf S k)
        have u4 := hwn' k
        have u5 : (richs.take i).length * 243 ≤ 243 * 243 := Nat.mul_le_mul_right _ (Nat.le_trans u2 hrl)
        omega
      · rintro i ax₂ its₂ zs nw ⟨rfl, k, as, n', hk, hlm, rfl, hall, hzI⟩
        refine ⟨rfl, ?_⟩
        have e : (wsOf S k).take (as.map Value.ref).toArray.size = wsOf S k := List.take_of_length_le (by simp [hall.length])
        rw [e] at hzI
        rw [List.take_add_one, hk, Option.toList_some, List.flatMap_append]
        simpa using hzI
      · rintro i v I oI C oC₂ D₂ m₂ hh tkh zs nw E' hv ⟨rfl, hzI⟩ hoC hm F N off
        refine hide fun G hG => ?_
        obtain ⟨k, tok, hk, rfl⟩ := intsAre_at hys i v (by simpa using hv)
        refine hG ?_
        clear hG G
        refine hide fun G hG => ?_
        obtain ⟨f, hf1, hf2, hf3⟩ := find_of_mem (hrk k (List.mem_of_getElem? hk)).1
        refine hG ?_
        clear hG G
        refine hide fun G hG => ?_
        obtain ⟨l, as, n', hva, hlm, hall⟩ := SrcsIn.value hsrc.1 hf3
        refine hG ?_
        clear hG G
        have hdm' : (d, od) ∈ (I, oI) :: (C, oC₂) :: (D₂, lst zs) :: (D, lst ys) :: (S9, LO avs cS) :: (C9, LO cvs cC) :: (L' + 1 + 1 + 1 + 1, ocS4) :: (L' + 1 + 1 + 1, oC) :: (L' + 1 + 1, oT) :: (L' + 1, ocP) :: (x, instObj 73 dx) :: (dx, instD w t₁ t₂ t₃ t₄ t₅ n ab lo hi aA cA) :: (aA, LO avs7 an7) :: (cA, LO cvs7 cn7) :: tl := .tail _ (.tail _ (.tail _ (.tail _ (.tail _ (.tail _ (.tail _ (.tail _ (.tail _ (.tail _ (.tail _ (.tail _ (.tail _ (.tail _ (hdm))))))))))))))
        refine wpAny_mono (Q := fun xv s' => Stop (xv = .ref l ∧ ∃ tk', s' = { s with heap := hh, toks := tk' })) ?_ (fun xv s' ⟨q1, tk', q2⟩ => ⟨tk', l, (as.map Value.ref).toArray, q2, q1, .inr ⟨LO (as.map Value.ref) n', .tail _ (.tail _ (.tail _ (.tail _ (.tail _ (.tail _ (.tail _ (.tail _ (.tail _ (.tail _ (.tail _ (hlm))))))))))), rfl, n', rfl⟩, rfl, k, as, n', hk, hlm, rfl, by rw [wsOf_of hf3]; exact hall, by simpa using hzI⟩) fun _ _ e => e
        k_steps
        exact ⟨rfl, _, rfl⟩
      · rintro i v ax₂ its₂ j v₂ I₂ oI₂ I oI C oC₂ D₂ m₂ hh tkh zs nw E' hv hv2 hz21 hoC hm hmy F N off
        refine hide fun G hG => ?_
        obtain ⟨rfl, k, as, n', hk, hlm, rfl, hall, hzI⟩ := hz21
        refine hG ?_
        clear hG G
        obtain ⟨ta, hta, rfl⟩ := refs_at (as := as) (k := j) (v := v₂) (by simpa using hv2)
        obtain ⟨way, hway9, hT⟩ := hall.get j ta hta
        try simp only [List.cons_append, List.nil_append] at N
        k_steps
        unfold Stop
        rename Fr _ _ _ _ => F9
        rename News _ _ _ _ => N9
        refine moved_call (G'.at F9) ⟨avs, _, hai, (N9 (S9, LO avs cS) (by k_mem)).1⟩ (.inr (hT.kb (as := []) (fun b o e _ => F9.keep b o e) (by simp))) (by omega) (hwlen k way (List.mem_of_getElem? hway9)) (by show dp + 1 < 900; omega) (by show un + 3 < 1000; omega) ?_
        intro t h8 tk8 kb8
        refine ⟨h8, _, _, rfl, fr_after0 F9 kb8, news_after0 N9 kb8, off, rfl, k, as, n', hk, hlm, rfl, hall, ?_⟩
        rw [List.take_add_one, hway9, Option.toList_some, List.map_append, ← List.append_assoc]
        exact hzI.append (.cons _ _ .nil)
      · rintro D₃ h8 tk8 zs nw F9 N9 off9 ⟨rfl, hzI⟩
        have e : richs.take ys.toArray.size = richs := List.take_of_length_le (by simp [hys.length])
        rw [e] at hzI
        dsimp only
        k_steps
        unfold Stop
        have hmemo : ats' ∈ wsOf S o := by
          refine hide fun G hG => ?_
          obtain ⟨f, hf1, hf2, hf3⟩ := find_of_mem hok
          refine hG ?_
          clear hG G
          rw [wsOf_of hf3]
          exact ((sp2 f hf1).2 ats').mpr ⟨hway', by rw [hf2]; exact key'⟩
        have hmin : ((movedOf ats ats' : Nat) : Int) ∈ richs.flatMap fun k => (wsOf S k).map fun way => ((movedOf ats way : Nat) : Int) := List.mem_flatMap.mpr ⟨o, hor2, List.mem_map.mpr ⟨ats', hmemo, rfl⟩⟩
        refine kso_min F9 N9 (isList_of (N9 (D₃, lst zs) (.head _)).1) hzI (List.length_pos_of_mem hmin) rfl ?_
        intro h10 M tM tk10 F10 N10 hM hMle
        have hMe : M = ((movedOf ats ats' : Nat) : Int) := by
          have u1 := hMle _ hmin
          obtain ⟨k, hk, hkm⟩ := List.mem_flatMap.mp hM
          obtain ⟨way, hw1, rfl⟩ := List.mem_map.mp hkm
          obtain ⟨g1, g2⟩ := hwl' k way hw1
          have := best' way g1 k g2 (hrk k hk).2
          omega
        subst hMe
        have N11 := fun p hp => N10 p (.tail _ hp)
        clear N10 N9 F9 off9 hzI
        dsimp only
        k_steps
        rename Fr _ _ _ _ => F12
        rename News _ _ _ _ => N12
        unfold Stop
        refine AssignT F12 (cl := [(Str.ofString "sources", L' + 1 + 1 + 1 + 1), (Str.ofString "placing", L' + 1)]) rfl (by with_unfolding_all rfl) (by with_unfolding_all rfl) (by decide) rfl (by decide) rfl rfl rfl ?_
        k_steps
        unfold Stop
        let C3 : Nat → List Value → Led → Prop :=
            fun i zs nw => nw = (D, lst ys) :: (S9, LO avs cS) :: (C9, LO cvs cC) :: (L' + 1 + 1 + 1 + 1, ocS4) :: (L' + 1 + 1 + 1, oC) :: (L' + 1 + 1, oT) :: (L' + 1, ocP) :: (x, instObj 73 dx) :: (dx, instD w t₁ t₂ t₃ t₄ t₅ n ab lo hi aA cA) :: (aA, LO avs7 an7) :: (cA, LO cvs7 cn7) :: tl ∧ IntsAre zs ((richs.take i).filter fun k => decide (k = o))
        refine ex5 _ _ _ _ C3 ⟨Src.list rfl F12 N12 (.inr ⟨_, .head _, rfl, _, rfl⟩ : SrcAt g' D ys.toArray _), ?_, F12, N12, ?_, ⟨rfl, .nil⟩, ?_, ?_⟩
        · rw [List.size_toArray, hys.length]; omega
        · rintro i zs nw ⟨rfl, _⟩
          exact .inr ⟨_, .head _, rfl, _, rfl⟩
        · rintro i v I oI C oC₂ D₄ m₂ hh tkh zs nw E' hi9 hv ⟨rfl, hzI⟩ hoC hm F N off
          try simp only [List.cons_append, List.nil_append] at N
          refine hide fun G hG => ?_
          obtain ⟨k, tok, hk, rfl⟩ := intsAre_at hys i v (by simpa using hv)
          refine hG ?_
          clear hG G
          refine hide fun G hG => ?_
          obtain ⟨f, hf1, hf2, hf3⟩ := find_of_mem (hrk k (List.mem_of_getElem? hk)).1
          refine hG ?_
          clear hG G
          refine hide fun G hG => ?_
          obtain ⟨l, as, n', hva, hlm, hall⟩ := SrcsIn.value hsrc.1 hf3
          refine hG ?_
          clear hG G
          have hdm' : (d, od) ∈ (I, oI) :: (C, oC₂) :: (D₄, lst zs) :: (D, lst ys) :: (S9, LO avs cS) :: (C9, LO cvs cC) :: (L' + 1 + 1 + 1 + 1, ocS4) :: (L' + 1 + 1 + 1, oC) :: (L' + 1 + 1, oT) :: (L' + 1, ocP) :: (x, instObj 73 dx) :: (dx, instD w t₁ t₂ t₃ t₄ t₅ n ab lo hi aA cA) :: (aA, LO avs7 an7) :: (cA, LO cvs7 cn7) :: tl := .tail _ (.tail _ (.tail _ (.tail _ (.tail _ (.tail _ (.tail _ (.tail _ (.tail _ (.tail _ (.tail _ (.tail _ (.tail _ (.tail _ (hdm))))))))))))))
          have htk2 : (richs.take (i + 1)) = richs.take i ++ [k] := by rw [List.take_add_one, hk]; rfl
          k_steps
          unfold Stop
          refine kde_tupleOf (zs := avs7) F N (isList_of (N (aA, LO avs7 an7) (by k_mem)).1) ?_ rfl ?_
          · rw [List.size_toArray, ia.length, ← hats, moveAll_length]; omega
          intro T hT9 FT NT lT
          have hdm'' : (d, od) ∈ (T, TO avs7 0) :: (I, oI) :: (C, oC₂) :: (D₄, lst zs) :: (D, lst ys) :: (S9, LO avs cS) :: (C9, LO cvs cC) :: (L' + 1 + 1 + 1 + 1, ocS4) :: (L' + 1 + 1 + 1, oC) :: (L' + 1 + 1, oT) :: (L' + 1, ocP) :: (x, instObj 73 dx) :: (dx, instD w t₁ t₂ t₃ t₄ t₅ n ab lo hi aA cA) :: (aA, LO avs7 an7) :: (cA, LO cvs7 cn7) :: tl := .tail _ hdm'
          replace NT : News g' L' hT9 ((T, TO avs7 0) :: (I, oI) :: (C, oC₂) :: (D₄, lst zs) :: (D, lst ys) :: (S9, LO avs cS) :: (C9, LO cvs cC) :: (L' + 1 + 1 + 1 + 1, ocS4) :: (L' + 1 + 1 + 1, oC) :: (L' + 1 + 1, oT) :: (L' + 1, ocP) :: (x, instObj 73 dx) :: (dx, instD w t₁ t₂ t₃ t₄ t₅ n ab lo hi aA cA) :: (aA, LO avs7 an7) :: (cA, LO cvs7 cn7) :: tl) := NT
          clear N F
          dsimp only
          k_steps
          rename Fr _ _ _ _ => FU
          rename News _ _ _ _ => NU
          unfold Stop
          refine PySem.SeqAt.in_listAt (fun y => @decide (∃ ta, y = .ref ta ∧ TupI g' ta ats') (Classical.propDecidable _)) (isList_of (NU (l, LO (as.map Value.ref) n') (.tail _ (.tail _ (.tail _ (.tail _ (.tail _ (.tail _ (.tail _ (.tail _ (.tail _ (.tail _ (.tail _ (.tail _ (.tail _ (.tail _ (.tail _ (hlm))))))))))))))))).1) (fun y hy => ?_) ?_
          · rw [List.mem_toArray] at hy
            obtain ⟨ta, hta, rfl⟩ := List.mem_map.mp hy
            obtain ⟨j, hj⟩ := List.getElem?_of_mem hta
            refine hide fun G hG => ?_
            obtain ⟨way, hway8, wvs, wk, hwI, hwo⟩ := hall.get j ta hj
            refine hG ?_
            clear hG G
            have hne : ta ≠ T := fun e => by
              have := (NU (T, TO avs7 0) (.head _)).2.2
              rw [← e, hwo] at this; cases this
            have hv : (@decide (∃ ta', Value.ref ta = .ref ta' ∧ TupI g' ta' ats') (Classical.propDecidable _)) = decide (way = ats') := by
              rw [Bool.eq_iff_iff, @decide_eq_true_iff _ (Classical.propDecidable _), decide_eq_true_iff]
              constructor
              · rintro ⟨ta', e, ht⟩
                cases e
                exact tupI_fun ⟨wvs, wk, hwI, hwo⟩ ht
              · rintro rfl
                exact ⟨ta, rfl, wvs, wk, hwI, hwo⟩
            refine (congrArg (fun b => PySem.SeqAt.EqAt _ _ _ _ b) hv).mpr ?_
            exact eqAt_tups (FU.keep _ _ hwo) (NU (T, TO avs7 0) (.head _)).1 hwI ia hne (by show un + 3 + 1 < 9900; omega)
          · have hany : ((as.map Value.ref).toArray.any fun y => @decide (∃ ta, y = .ref ta ∧ TupI g' ta ats') (Classical.propDecidable _)) = decide (k = o) := by
              rw [Bool.eq_iff_iff, decide_eq_true_iff, List.any_toArray, List.any_eq_true]
              constructor
              · rintro ⟨y, hy, he⟩
                obtain ⟨ta, rfl, ht⟩ := @of_decide_eq_true _ (Classical.propDecidable _) he
                obtain ⟨ta', hta, e⟩ := List.mem_map.mp hy
                cases e
                obtain ⟨j, hj⟩ := List.getElem?_of_mem hta
                obtain ⟨way, hway8, hwT⟩ := hall.get j _ hj
                have := tupI_fun hwT ht
                subst this
                have h1 := ((sp2 f hf1).2 way).mp (List.mem_of_getElem? hway8)
                rw [hf2, key'] at h1
                exact (Option.some.inj h1.2).symm
              · intro e
                have h1 : ats' ∈ f.2 := ((sp2 f hf1).2 ats').mpr ⟨hway', by rw [hf2, e]; exact key'⟩
                obtain ⟨j, hj⟩ := List.getElem?_of_mem h1
                have hjl : j < as.length := by rw [hall.length]; exact (List.getElem?_eq_some_iff.mp hj).1
                obtain ⟨way, hway8, hwT⟩ := hall.get j as[j] (List.getElem?_eq_getElem hjl)
                rw [hj] at hway8
                cases hway8
                exact ⟨.ref as[j], List.mem_map.mpr ⟨_, List.getElem_mem hjl, rfl⟩, @decide_eq_true _ (Classical.propDecidable _) ⟨_, rfl, hwT⟩⟩
            rw [hany]
            k_steps
            · rename (k = o) => hko
              refine ⟨hT9, _, _, rfl, FU, fun p hp => NU p (.tail _ hp), off, rfl, ?_⟩
              rw [htk2, List.filter_append, List.filter_cons, if_pos (decide_eq_true hko)]
              exact hzI.append (.cons k tok .nil)
            · rename (¬ k = o) => hko
              refine ⟨hT9, _, _, rfl, FU, fun p hp => NU p (.tail _ hp), off, rfl, ?_⟩
              rw [htk2, List.filter_append, List.filter_cons, if_neg (by rw [decide_eq_false hko]; exact Bool.false_ne_true), List.filter_nil, List.append_nil]
              exact hzI
        · rintro D₄ h11 tk11 zs nw F13 N13 off13 ⟨rfl, hzI⟩
          have e2 : richs.take ys.toArray.size = richs := List.take_of_length_le (by simp [hys.length])
          have e3 : richs.filter (fun k => decide (k = o)) = [o] := filter_eq_single (by rw [← hrich]; exact sp1.filter _) hor2 fun v _ => decide_eq_true_iff
          rw [e2, e3] at hzI
          k_steps
          rename Fr _ _ _ _ => FV
          rename News _ _ _ _ => NV
          unfold Stop
          refine moved_call (G'.at FV) ⟨avs, _, hai, (NV (S9, LO avs cS) (by k_mem)).1⟩ (.inl ⟨avs7, _, ia, (NV (aA, LO avs7 an7) (by k_mem)).1⟩) (by omega) (by rw [← hats, moveAll_length]) (by show dp + 1 < 900; omega) (by show un + 3 < 1000; omega) ?_
          intro t h12 tk12 kb12
          have FW := fr_after0 FV kb12
          have NW := news_after0 NV kb12
          clear FV NV
          dsimp only
          k_steps
          · exact absurd rfl (by assumption)
          · rename Fr _ _ _ _ => FX
            rename News _ _ _ _ => NX
            unfold Stop
            rw [hC]
            refine counts_call (G'.at FX) (.inl ⟨avs7, _, ia, (NX (aA, LO avs7 an7) (by k_mem)).1⟩) (by rw [← hats, moveAll_length]; omega) (by omega) (by show dp + 1 < 900; omega) (by show un + 3 < 1000; omega) ?_
            intro r h13 tk13 kb13 hnew hlst
            refine hide fun G hG => ?_
            obtain ⟨rv, rn, hrI, hro9⟩ := hlst
            refine hG ?_
            clear hG G
            have FY := fr_after0 FX kb13
            have NY := news_new FX (news_after0 NX kb13) hnew hro9
            have orr := off_new NX hnew
            have w1 := neN (orr (cA, LO cvs7 cn7) (by k_mem))
            dsimp only at w1
            clear FX NX
            dsimp only
            k_steps
            refine hQ h13 _ avs7 an7 cvs7 cn7 ats' (fun b o e hb => ?_) (NY (aA, LO avs7 an7) (by k_mem)).1 (NY (cA, LO cvs7 cn7) (by k_mem)).1 ia ic fit'
            simp only [List.mem_cons, List.not_mem_nil, or_false, not_or] at hb
            by_cases q : b ∈ List.map (·.1) [(x, instObj 73 dx), (dx, instD w t₁ t₂ t₃ t₄ t₅ n ab lo hi aA cA), (aA, LO avs an), (cA, LO cvs cn)]
            · obtain ⟨p, hp, rfl⟩ := List.mem_map.mp q
              have hpp := (N p hp).1
              rw [hpp] at e
              cases e
              simp only [List.mem_cons, List.not_mem_nil, or_false] at hp
              rcases hp with rfl | rfl | rfl | rfl
              · exact (NY _ (by k_mem)).1
              · exact (NY _ (by k_mem)).1
              · exact absurd rfl hb.1
              · exact absurd rfl hb.2
            · exact FY.keep b o (kg b o e q)
    · intro r row row' h7 tk7 hRe hrow hperm hsort kb7 hnew hlst
      have d1 := neN (off6 (S9, LO avs cS) (by k_mem))
      have d2 := neN (off6 (C9, LO cvs cC) (by k_mem))
      have d3 := neN (off6 (L' + 1 + 1 + 1 + 1, ocS4) (by k_mem))
      have d4 := neN (off6 (L' + 1 + 1 + 1, oC) (by k_mem))
      have d5 := neN (off6 (L' + 1 + 1, oT) (by k_mem))
      have d6 := neN (off6 (L' + 1, ocP) (by k_mem))
      have d7 := neN (off6 (x, instObj 73 dx) (by k_mem))
      have d8 := neN (off6 (dx, instD w t₁ t₂ t₃ t₄ t₅ n ab lo hi aA cA) (by k_mem))
      have d9 := neN (off6 (aA, LO avs an) (by k_mem))
      have d10 := neN (off6 (cA, LO cvs cn) (by k_mem))
      have d11 : ∀ p ∈ tl, p.1 ≠ D := fun p hp => off6 p (.tail _ (.tail _ (.tail _ (.tail _ (.tail _ (.tail _ (.tail _ (.tail _ (.tail _ (.tail _ hp))))))))))
      dsimp only at d1 d2 d3 d4 d5 d6 d7 d8 d9 d10
      subst hcs hway
      obtain ⟨hpm, hpoor⟩ := reached_law hfit hrr ⟨h3, h4⟩ hrow hRe
      rw [hSe] at hpm hpoor
      have hrn : richs = [] := by
        rw [← hrich, List.filter_eq_nil_iff]
        intro k hk
        obtain ⟨f, hf, rfl⟩ := List.mem_map.mp hk
        rw [decide_eq_true_iff]
        exact hpoor f hf
      subst hrn
      refine hide fun G hG => ?_
      obtain ⟨rv, rn, hrI, hro9⟩ := hlst
      refine hG ?_
      clear hG G
      have F7 := fr_after0 F6 kb7
      have N7 := news_new F6 (news_after0 N6 kb7) hnew hro9
      have orr := off_new N6 hnew
      have hdm' : (d, od) ∈ (r, LO rv rn) :: (D, lst ys) :: (S9, LO avs cS) :: (C9, LO cvs cC) :: (L' + 1 + 1 + 1 + 1, ocS4) :: (L' + 1 + 1 + 1, oC) :: (L' + 1 + 1, oT) :: (L' + 1, ocP) :: (x, instObj 73 dx) :: (dx, instD w t₁ t₂ t₃ t₄ t₅ n ab lo hi aA cA) :: (aA, LO avs an) :: (cA, LO cvs cn) :: tl := .tail _ (.tail _ (.tail _ (.tail _ (.tail _ (.tail _ (.tail _ (.tail _ (.tail _ (.tail _ (.tail _ (.tail _ (hdm))))))))))))
      have hz : (100000 : Nat) ≤ sizeLine := by decide
      have hkz : kvs.length ≤ sizeLine := by omega
      clear F6 N6
      dsimp only
      k_steps
      rename Fr _ _ _ _ => FA
      rename News _ _ _ _ => NA
      refine list_dict_L FA NA (.tail _ (.tail _ hdm')) hod hds hkz rfl ?_
      intro B9 cB hB tkB vsB FB NB lB hIB
      k_steps
      unfold Stop
      have hsk := srcs_keys hsrc.1
      obtain ⟨sp1, _, _⟩ := sources_spec (waysOf ables) (countsOf ats many) wanted
      rw [hSe] at sp1
      have hSm : S.length ≤ many := by
        have := nodup_range sp1 (many := many) fun o ho => by
          obtain ⟨f, hf, rfl⟩ := List.mem_map.mp ho
          have := hSr f hf
          rw [hC] at this
          exact this
        simpa using this
      refine kmk_add_ints FB NB (isList_of (NB (_, LO [Value.int wanted tw] 0) (by k_mem)).1) (isList_of (NB (B9, LO vsB cB) (.head _)).1) (.cons wanted tw .nil) hIB ?_ (by simp [hkl]; omega)
      intro D9 us hA9 FC NC lC hIC
      clear FB FA NA
      k_steps
      unfold Stop
      refine kso_sorted FC NC (isList_of (NC (D9, LO us 0) (.head _)).1) hIC (by simp [hkl]; omega) ?_
      intro D10 vs10 ns10 c10 h10 F10 N10 l10 hI10 _ hperm10 hsort10 _
      have hrow10 : ns10 = row' := List.Perm.eq_of_pairwise (fun a b _ _ u v => Int.le_antisymm u v) hsort10 hsort (hperm10.trans (by rw [hsk]; exact (hperm.trans hpm).symm))
      subst hrow10
      have z1 := neN (Nat.ne_of_lt (l10 (r, LO rv rn) (by k_mem)))
      have z2 := neN (Nat.ne_of_lt (l10 (aA, LO avs an) (by k_mem)))
      dsimp only at z1 z2
      k_steps
      refine hQ h10 _ avs an cvs cn ats (fun b o e hb => ?_) (N10 (aA, LO avs an) (by k_mem)).1 (N10 (cA, LO cvs cn) (by k_mem)).1 hai hci hfit
      simp only [List.mem_cons, List.not_mem_nil, or_false, not_or] at hb
      by_cases q : b ∈ List.map (·.1) [(x, instObj 73 dx), (dx, instD w t₁ t₂ t₃ t₄ t₅ n ab lo hi aA cA), (aA, LO avs an), (cA, LO cvs cn)]
      · obtain ⟨p, hp, rfl⟩ := List.mem_map.mp q
        have hpp := (N p hp).1
        rw [hpp] at e
        cases e
        simp only [List.mem_cons, List.not_mem_nil, or_false] at hp
        rcases hp with rfl | rfl | rfl | rfl
        · exact (N10 _ (by k_mem)).1
        · exact (N10 _ (by k_mem)).1
        · exact absurd rfl hb.1
        · exact absurd rfl hb.2
      · exact F10.keep b o (kg b o e q)
end Mine
end

section
open PySem PySem.W PyProof.Rows PySem.Calls PySem.Spec
set_option Elab.async false
set_option maxRecDepth 100000
set_option maxHeartbeats 8000000
namespace Mine
theorem offCompE : True := by
  w_top off
  trivial
open LCg LCt

section
variable {prog : Program} {w : World} {A : Around} {E : Value → Shared → Prop} {h₀ : Heap} {L : Addr} {m : Str → Option Value} {env : Env}

/-- the comprehension's block over enumerate of a list, with a test -/
theorem block_E {elt iter ct : PySem.Expr} {a b : Str} {pa pb tp : Pos} {kk : Nat} {scope : Scope} {cl : List (Str × Addr)} {pos : Pos} {s₂ : Shared} {e it l : Addr} {its : Array Value} {news : Led} {RR : Value → Addr → Result → Shared → Prop}
    (J : Nat → List Value → Led → Prop) (hh : A.handled = none) (hei : e ≠ it) (hle : l ≠ e) (hli : l ≠ it) (hsz : its.size ≤ sizeLine)
    (hcell : ∀ y ∈ scope.names, y.2 ≠ .cell) (hkind : scope.kind = .function) (hxa : scope.names.lookup a = some .local) (hxb : scope.names.lookup b = some .local) (hab : ¬ a = b)
    (F : Fr h₀ L s₂.heap m) (N : News h₀ L s₂.heap news) (hst : (∃ old, IsEnum s₂.heap e it (0 : Nat) old) ∧ s₂.heap.IsListIter it l 0 ∧ s₂.heap.IsList l its)
    (hLe : L ≠ e) (hLi : L ≠ it) (he₀ : h₀.get? e = none) (hi₀ : h₀.get? it = none) (offe : ∀ p ∈ news, p.1 ≠ e) (offi : ∀ p ∈ news, p.1 ≠ it)
    (hS : ∀ i ys nw, J i ys nw → SrcAt h₀ l its nw) (h0 : J 0 [] news)
    (turn : ∀ i v oE oI C oC D m₂ h tk ys nw E', its[i]? = some v → J i ys nw → NsObj oC m₂ → (∃ t, m₂ a = some (.int ((i : Nat) : Int) t)) → m₂ b = some v → Fr h₀ L h m → News h₀ L h ([(e, oE), (it, oI), (C, oC), (D, lst ys)] ++ nw) →
      (∀ p ∈ nw, ∀ q ∈ [(e, oE), (it, oI), (C, oC), (D, lst ys)], p.1 ≠ q.1) →
      wpAny (model prog w) A (isTrue ct (compEnvC scope cl C env) (eval ct (compEnvC scope cl C env))) (fun ok s' => if ok = true then
        wpAny (model prog w) A (eval elt (compEnvC scope cl C env)) (EndF h₀ L m { s₂ with heap := h, toks := tk } [(e, oE), (it, oI), (C, oC), (D, lst ys)] (fun yv nw' => J (i + 1) (ys ++ [yv]) nw')) E' s'
        else EndF h₀ L m { s₂ with heap := h, toks := tk } [(e, oE), (it, oI), (C, oC), (D, lst ys)] (fun _ nw' => J (i + 1) ys nw') Value.none s') E' { s₂ with heap := h, toks := tk })
    (fin : ∀ D C h tk m' ys nw, Fr h₀ L h m → News h₀ L h ((D, lst ys) :: nw) → (∀ p ∈ nw, p.1 ≠ D) → h.Ns C m' → h₀.get? C = none → h₀.get? D = none → C ≠ L → D ≠ L → C ≠ D → (∀ p ∈ nw, p.1 ≠ C) → J its.size ys nw → RR (.ref D) C (.ok .next) { s₂ with heap := h, toks := tk }) :
    wpAny (model prog w) A (newList []) (fun acc s₃ => wpAny (model prog w) A (newFunctionEnv scope env.globals cl [] env.qual none .none (some env)) (fun cenv s₄ =>
      codeAny (model prog w) A (.compStart (.ListComp elt [⟨.Tuple [.Name a pa, .Name b pb] kk tp, iter, [ct], 0⟩] scope pos) 0 (.ref e) acc { cenv with scope := relabel scope env }) (RR acc cenv.locals) s₄) E s₃) E s₂ := by
  refine wpAny_newObj_type (wpAny_newFunctionEnv hcell (by intro y hy; simp at hy) (fun h₁ hns₁ hsb₁ => ?_) hkind)
  dsimp only at hns₁ hsb₁ ⊢
  generalize hH2 : s₂.heap.push { cls := .type "list", dict := none, data := .seq ([] : List Value).toArray } = H2 at hns₁ hsb₁ ⊢
  have hCs : H2.objs.size = s₂.heap.objs.size + 1 := by rw [← hH2, Heap.size_push]
  generalize hDe : s₂.heap.objs.size = D at *
  generalize hCe : H2.objs.size = C at *
  have hDC : D ≠ C := by rw [hCs]; exact Nat.ne_of_lt (Nat.lt_succ_self _)
  have lowD : ∀ x o, s₂.heap.get? x = some o → x ≠ D ∧ x ≠ C := fun x o q => by
    have := Heap.lt_size q
    rw [hDe] at this
    exact ⟨Nat.ne_of_lt this, by rw [hCs]; exact Nat.ne_of_lt (Nat.lt_succ_of_lt this)⟩
  have up1 : ∀ x o, s₂.heap.get? x = some o → h₁.get? x = some o := fun x o q => hsb₁.extBut x o (lowD x o q).2 (Heap.get?_push_of_some _ (hH2 ▸ Heap.get?_push_of_some _ q))
  have hacc : h₁.get? D = some (lst []) := by
    refine hsb₁.extBut _ _ hDC (Heap.get?_push_of_some _ ?_)
    rw [← hH2, ← hDe]
    exact Heap.get?_push_size _ rfl
  have free : ∀ x, D ≤ x → h₀.get? x = none := fun x hx => by
    cases q : h₀.get? x with
    | none => rfl
    | some o =>
      have := Heap.lt_size (F.keep x o q)
      rw [hDe] at this
      exact absurd this (Nat.not_lt.mpr hx)
  have hD₀ := free D (Nat.le_refl _)
  have hC₀ := free C (by rw [hCs]; exact Nat.le_succ _)
  have hLD : D ≠ L ∧ C ≠ L := by
    refine hide fun G hG => ?_
    obtain ⟨o, _, _, ho, _⟩ := F.ns
    refine hG ?_
    clear hG G
    have := lowD L o ho
    exact ⟨Ne.symm this.1, Ne.symm this.2⟩
  have eo : ∃ o, s₂.heap.get? e = some o := by obtain ⟨⟨old, q⟩, _⟩ := hst; exact ⟨_, q⟩
  have io : ∃ o, s₂.heap.get? it = some o := by obtain ⟨_, ⟨o, q, _⟩, _⟩ := hst; exact ⟨_, q⟩
  have heD : e ≠ D ∧ e ≠ C := by obtain ⟨o, q⟩ := eo; exact lowD e o q
  have hiD : it ≠ D ∧ it ≠ C := by obtain ⟨o, q⟩ := io; exact lowD it o q
  have W := WalksT.enumerate (prog := prog) (w := w) hh e it l hei hle hli its
  have stup : ∀ {i : Nat} {h h' : Heap} {nw : Led}, ((∃ old, IsEnum h e it i old) ∧ h.IsListIter it l i) → (∀ o, h.get? e = some o → h'.get? e = some o) → (∀ o, h.get? it = some o → h'.get? it = some o) → Fr h₀ L h' m → News h₀ L h' nw → SrcAt h₀ l its nw →
      ((∃ old, IsEnum h' e it i old) ∧ h'.IsListIter it l i ∧ h'.IsList l its) := fun ⟨⟨old, q1⟩, q2⟩ k1 k2 F' N' s' => ⟨⟨old, k1 _ q1⟩, q2.at fun o z => k2 o z, s'.list F'.keep N'⟩
  have loop : ∀ s₃ : Shared, s₃ = { s₂ with heap := h₁, toks := s₂.toks + ([] : List (Str × Value)).length } →
      codeAny (model prog w) A (.compLoop (.ListComp elt [⟨.Tuple [.Name a pa, .Name b pb] kk tp, iter, [ct], 0⟩] scope pos) 0 (.ref e) (.ref D) (compEnvC scope cl C env)) (RR (.ref D) C) s₃ := by
    rintro s₃ rfl
    refine kct_loop (fun k s' => ∃ h' tk i ys m' nw, s' = { s₂ with heap := h', toks := tk } ∧ i ≤ its.size ∧ k = its.size + 1 - i ∧ ys.length ≤ i ∧ ((∃ old, IsEnum h' e it i old) ∧ h'.IsListIter it l i ∧ h'.IsList l its) ∧ Fr h₀ L h' m ∧ h'.Ns C m' ∧
        News h₀ L h' ((D, lst ys) :: nw) ∧ (∀ p ∈ nw, p.1 ≠ e ∧ p.1 ≠ it ∧ p.1 ≠ C ∧ p.1 ≠ D) ∧ J i ys nw) ?_ (its.size + 1)
      ⟨h₁, _, 0, [], _, news, rfl, Nat.zero_le _, rfl, Nat.le_refl _, ?_, F.keeps up1, hns₁, ?_, ?_, h0⟩
    · rintro k s' hz2
      refine hide fun G hG => ?_
      obtain ⟨h', tk, i, ys, m', nw, rfl, hi, rfl, hyl, hst', F', hn', N', off', hJ⟩ := hz2
      refine hG ?_
      clear hG G
      by_cases hlt : i < its.size
      · refine W.item i _ _ _ hlt hst' fun T vals h₂ tk₂ hPt _ hTup hMid hk₂ => ?_
        have hTw := W.apart i T h₂ hMid
        refine W.go [.Name a pa, .Name b pb] kk tp i T _ _ _ hMid fun h₃ hst₃ hk₃ => ?_
        refine hide fun G hG => ?_
        obtain ⟨t, v, hv, rfl⟩ := hPt
        refine hG ?_
        clear hG G
        refine hide fun G hG => ?_
        obtain ⟨oT, hoT, hcT, nT, hdT⟩ := hTup
        refine hG ?_
        clear hG G
        have kk3 : ∀ x o, x ≠ e → x ≠ it → h'.get? x = some o → h₃.get? x = some o := fun x o q1 q2 q => hk₃ x o (by simp [q1, q2]) (hk₂ x o (by simp [q1, q2]) q)
        refine kcp_assign (env := compEnvC scope cl C env) hh ⟨oT, hk₃ T oT hTw hoT, hcT, nT, hdT⟩ (lookup_relabel_local hxa) (lookup_relabel_local hxb) (by simp [compEnvC, relabel, hkind]) (hn'.at' fun o q => kk3 _ o (Ne.symm heD.2) (Ne.symm hiD.2) q) fun h₄ tk₄ hn₄ hs₄ => ?_
        have kk4 : ∀ x o, x ≠ e → x ≠ it → x ≠ C → h'.get? x = some o → h₄.get? x = some o := fun x o q1 q2 q3 q => hs₄ x o q3 (kk3 x o q1 q2 q)
        have F₄ : Fr h₀ L h₄ m := ⟨F'.ns.at' fun o q => kk4 _ o hLe hLi (Ne.symm hLD.2) q, fun x o q => kk4 x o (fun z => by rw [z, he₀] at q; cases q) (fun z => by rw [z, hi₀] at q; cases q) (fun z => by rw [z, hC₀] at q; cases q) (F'.keep x o q), F'.above⟩
        obtain ⟨⟨old3, hE3⟩, hI3, _⟩ := hst₃
        have hE4 : IsEnum h₄ e it ((i + 1 : Nat) : Int) old3 := hs₄ e _ heD.2 hE3
        have hI4 : h₄.IsListIter it l (i + 1) := hI3.at fun o q => hs₄ it o hiD.2 q
        obtain ⟨oE, hoE⟩ : ∃ o, h₄.get? e = some o := ⟨_, hE4⟩
        obtain ⟨oI, hoI⟩ : ∃ o, h₄.get? it = some o := by obtain ⟨o, q, _⟩ := hI4; exact ⟨o, q⟩
        obtain ⟨oC, hoC, hnC⟩ := ns_obj hn₄
        have N₄ : News h₀ L h₄ ([(e, oE), (it, oI), (C, oC), (D, lst ys)] ++ nw) :=
          fc ⟨hoE, Ne.symm hLe, he₀⟩ (fc ⟨hoI, Ne.symm hLi, hi₀⟩ (fc ⟨hoC, hLD.2, hC₀⟩ (fc ⟨kk4 _ _ (Ne.symm heD.1) (Ne.symm hiD.1) hDC (N' _ List.mem_cons_self).1, hLD.1, hD₀⟩ fun p hp => by
            have z := off' p hp
            have n' := N' p (.tail _ hp)
            exact ⟨kk4 _ _ z.1 z.2.1 z.2.2.1 n'.1, n'.2⟩)))
        have off₄ : ∀ p ∈ nw, ∀ q ∈ [(e, oE), (it, oI), (C, oC), (D, lst ys)], p.1 ≠ q.1 := fun p hp =>
          have z := off' p hp
          fc z.1 (fc z.2.1 (fc z.2.2.1 (fc z.2.2.2 fun _ h => nomatch h)))
        have back : ∀ (ys' : List Value) (h₅ : Heap) (tk₅ : Nat) (nw₅ : Led) (D' : Led), ys'.length ≤ i + 1 → Fr h₀ L h₅ m → News h₀ L h₅ ((e, oE) :: (it, oI) :: (C, oC) :: (D, lst ys') :: nw₅) → (∀ p ∈ nw₅, p.1 ≠ e ∧ p.1 ≠ it ∧ p.1 ≠ C ∧ p.1 ≠ D) → J (i + 1) ys' nw₅ →
            ∃ q', q' < its.size + 1 - i ∧ ∃ h' tk i ys m' nw, ({ s₂ with heap := h₅, toks := tk₅ } : Shared) = { s₂ with heap := h', toks := tk } ∧ i ≤ its.size ∧ q' = its.size + 1 - i ∧ ys.length ≤ i ∧ ((∃ old, IsEnum h' e it i old) ∧ h'.IsListIter it l i ∧ h'.IsList l its) ∧ Fr h₀ L h' m ∧ h'.Ns C m' ∧
              News h₀ L h' ((D, lst ys) :: nw) ∧ (∀ p ∈ nw, p.1 ≠ e ∧ p.1 ≠ it ∧ p.1 ≠ C ∧ p.1 ≠ D) ∧ J i ys nw := by
          intro ys' h₅ tk₅ nw₅ _ hl5 F₅ N₅ o5 j5
          refine ⟨its.size + 1 - (i + 1), by omega, h₅, tk₅, i + 1, ys', _, nw₅, rfl, hlt, rfl, hl5, stup (h := h₄) ⟨⟨old3, hE4⟩, hI4⟩ (fun o q => ?_) (fun o q => ?_) F₅ (fun p hp => N₅ p (.tail _ (.tail _ (.tail _ (.tail _ hp))))) (hS _ _ _ j5), F₅, hnC.ns (N₅ (C, oC) (.tail _ (.tail _ (.head _)))).1, fun p hp => N₅ p (.tail _ (.tail _ (.tail _ hp))), o5, j5⟩
          · rw [hoE] at q; cases q; exact (N₅ (e, oE) (.head _)).1
          · rw [hoI] at q; cases q; exact (N₅ (it, oI) (.tail _ (.head _))).1
        refine wpAny_mono (turn i v oE oI C oC D _ h₄ _ ys nw _ hv hJ hnC ⟨t, by simp [hab]⟩ (by simp) F₄ N₄ off₄) (fun ok s₅ h₅ => ?_) fun _ _ z => z
        cases ok with
        | false =>
          simp only [Bool.false_eq_true, if_false] at h₅ ⊢
          refine hide fun G hG => ?_
          obtain ⟨h₅, tk₅, nw₅, rfl, F₅, N₅, off₅, j5⟩ := h₅
          refine hG ?_
          clear hG G
          exact back ys h₅ tk₅ nw₅ [] (Nat.le_succ_of_le hyl) F₅ N₅ (fun p hp => ⟨off₅ p hp (e, oE) (.head _), off₅ p hp (it, oI) (.tail _ (.head _)), off₅ p hp (C, oC) (.tail _ (.tail _ (.head _))), off₅ p hp (D, lst ys) (.tail _ (.tail _ (.tail _ (.head _))))⟩) j5
        | true =>
          simp only [if_true] at h₅ ⊢
          refine wpAny_mono h₅ (fun y s₆ h₆ => ?_) fun _ _ z => z
          refine hide fun G hG => ?_
          obtain ⟨h₅, tk₅, nw₅, rfl, F₅, N₅, off₅, j5⟩ := h₆
          refine hG ?_
          clear hG G
          have o5 : ∀ p ∈ nw₅, p.1 ≠ e ∧ p.1 ≠ it ∧ p.1 ≠ C ∧ p.1 ≠ D := fun p hp => ⟨off₅ p hp (e, oE) (.head _), off₅ p hp (it, oI) (.tail _ (.head _)), off₅ p hp (C, oC) (.tail _ (.tail _ (.head _))), off₅ p hp (D, lst ys) (.tail _ (.tail _ (.tail _ (.head _))))⟩
          refine append_at (hsz := by show ys.toArray.size ≤ sizeLine; rw [List.size_toArray]; omega) (N₅ (D, lst ys) (.tail _ (.tail _ (.tail _ (.head _))))).1 fun h₆ hs₆ hD₆ => ?_
          refine back (ys ++ [y]) h₆ _ nw₅ [] (by rw [List.length_append, List.length_singleton]; omega) (F₅.change hs₆ hLD.1 hD₀) ?_ o5 j5
          exact fc ⟨hs₆.extBut _ _ heD.1 (N₅ (e, oE) (.head _)).1, (N₅ (e, oE) (.head _)).2⟩ (fc ⟨hs₆.extBut _ _ hiD.1 (N₅ (it, oI) (.tail _ (.head _))).1, (N₅ (it, oI) (.tail _ (.head _))).2⟩
            (fc ⟨hs₆.extBut _ _ (Ne.symm hDC) (N₅ (C, oC) (.tail _ (.tail _ (.head _)))).1, (N₅ (C, oC) (.tail _ (.tail _ (.head _)))).2⟩ (fc ⟨hD₆.trans (congrArg some (lst_snoc ys y)), hLD.1, hD₀⟩ fun p hp => by
              have z := N₅ p (.tail _ (.tail _ (.tail _ (.tail _ hp))))
              exact ⟨hs₆.extBut _ _ (o5 p hp).2.2.2 z.1, z.2⟩)))
      · have hin : i = its.size := by omega
        subst hin
        refine W.done _ _ _ hst' fun h₂ tk₂ hk₂ => ?_
        have k2 : ∀ x o, x ≠ e → x ≠ it → h'.get? x = some o → h₂.get? x = some o := fun x o q1 q2 q => hk₂ x o (by simp [q1, q2]) q
        refine fin D C h₂ tk₂ m' ys nw ⟨F'.ns.at' fun o q => k2 _ o hLe hLi q, fun x o q => k2 x o (fun z => by rw [z, he₀] at q; cases q) (fun z => by rw [z, hi₀] at q; cases q) (F'.keep x o q), F'.above⟩ (fun p hp => ?_) (fun p hp => (off' p hp).2.2.2) (hn'.at' fun o q => k2 _ o (Ne.symm heD.2) (Ne.symm hiD.2) q) hC₀ hD₀ hLD.2 hLD.1 (Ne.symm hDC) (fun p hp => (off' p hp).2.2.1) hJ
        rcases List.mem_cons.mp hp with rfl | hp'
        · exact ⟨k2 _ _ (Ne.symm heD.1) (Ne.symm hiD.1) (N' _ List.mem_cons_self).1, (N' _ List.mem_cons_self).2⟩
        · exact ⟨k2 _ _ (off' p hp').1 (off' p hp').2.1 (N' p hp).1, (N' p hp).2⟩
    · exact stup (h := s₂.heap) ⟨hst.1, hst.2.1⟩ (fun o q => up1 _ _ q) (fun o q => up1 _ _ q) (F.keeps up1) (fun p hp => ⟨up1 _ _ (N p hp).1, (N p hp).2⟩) (hS _ _ _ h0)
    · intro p hp
      rcases List.mem_cons.mp hp with rfl | hp
      · exact ⟨hacc, hLD.1, hD₀⟩
      · exact ⟨up1 _ _ (N p hp).1, (N p hp).2⟩
    · intro p hp
      have := lowD _ _ (N p hp).1
      exact ⟨offe p hp, offi p hp, this.2, this.1⟩
  refine codeAny_compStart_list (loop _ rfl) ?_
  obtain ⟨⟨old, q⟩, _⟩ := hst
  exact wpAny_pyIter_enum (up1 _ _ q) (loop _ rfl)

structure EnumAt (h₀ : Heap) (L : Addr) (h : Heap) (e it l : Addr) (its : Array Value) (news : Led) : Prop where
  hei : e ≠ it
  hle : l ≠ e
  hli : l ≠ it
  hst : (∃ old, IsEnum h e it (0 : Nat) old) ∧ h.IsListIter it l 0 ∧ h.IsList l its
  hLe : L ≠ e
  hLi : L ≠ it
  he₀ : h₀.get? e = none
  hi₀ : h₀.get? it = none
  offe : ∀ p ∈ news, p.1 ≠ e
  offi : ∀ p ∈ news, p.1 ≠ it
theorem enum_new {s : Shared} {l : Addr} {its : Array Value} {news : Led} {Q : Value → Shared → Prop} (F : Fr h₀ L s.heap m) (N : News h₀ L s.heap news) (hS : SrcAt h₀ l its news)
    (h : ∀ e it h', Fr h₀ L h' m → News h₀ L h' news → EnumAt h₀ L h' e it l its news → Q (.ref e) { s with heap := h' }) : wpAny (model prog w) A (call (.type "enumerate") [.ref l]) Q E s := by
  have hl := hS.list F.keep N
  have hlt : l < s.heap.objs.size := by obtain ⟨_, q, _⟩ := hl; exact Heap.lt_size q
  refine call_enumerate_list hl fun h' hE hI hsz hk => ?_
  have free : ∀ x, s.heap.objs.size ≤ x → h₀.get? x = none := fun x hx => by
    cases q : h₀.get? x with
    | none => rfl
    | some o => exact absurd (Heap.lt_size (F.keep x o q)) (Nat.not_lt.mpr hx)
  have hLlt : L < s.heap.objs.size := F.ns.lt
  have n1 : ∀ x, x < s.heap.objs.size → x ≠ s.heap.objs.size + 1 := fun x hx => Nat.ne_of_lt (Nat.lt_succ_of_lt hx)
  exact h _ _ h' (F.keeps hk) (N.grown hk)
    ⟨Nat.succ_ne_self _, n1 _ hlt, Nat.ne_of_lt hlt, ⟨⟨_, hE⟩, hI, hl.at fun o e => hk _ _ e⟩, n1 _ hLlt, Nat.ne_of_lt hLlt, free _ (Nat.le_succ _), free _ (Nat.le_refl _), fun p hp => n1 _ (Heap.lt_size (N p hp).1), fun p hp => Nat.ne_of_lt (Heap.lt_size (N p hp).1)⟩

theorem EvalE {elt iter ct : PySem.Expr} {a b : Str} {pa pb tp : Pos} {kk : Nat} {scope : Scope} {cl : List (Str × Addr)} {pos : Pos} {s : Shared} {Q : Value → Shared → Prop} (_F₀ : Fr h₀ L s.heap m) (hh : A.handled = none)
    (hclos : closureFor scope env = pure cl) (hcell : ∀ z ∈ scope.names, z.2 ≠ .cell) (hkind : scope.kind = .function)
    (hnames : ∀ z ∈ scope.names, z.2 = .local → scope.names.lookup z.1 = some .local) (hxa : scope.names.lookup a = some .local) (hxb : scope.names.lookup b = some .local) (hab : ¬ a = b)
    (h : wpAny (model prog w) A (eval iter env) (fun xv s₂ => Stop (∃ (e it l : Addr) (its : Array Value) (news : Led) (J : Nat → List Value → Led → Prop), xv = .ref e ∧ EnumAt h₀ L s₂.heap e it l its news ∧ its.size ≤ sizeLine ∧ Fr h₀ L s₂.heap m ∧ News h₀ L s₂.heap news ∧ (∀ i ys nw, J i ys nw → SrcAt h₀ l its nw) ∧ J 0 [] news ∧
      (∀ i v oE oI C oC D m₂ h tk ys nw E', its[i]? = some v → J i ys nw → NsObj oC m₂ → (∃ t, m₂ a = some (.int ((i : Nat) : Int) t)) → m₂ b = some v → Fr h₀ L h m → News h₀ L h ([(e, oE), (it, oI), (C, oC), (D, lst ys)] ++ nw) →
        (∀ p ∈ nw, ∀ q ∈ [(e, oE), (it, oI), (C, oC), (D, lst ys)], p.1 ≠ q.1) →
        wpAny (model prog w) A (isTrue ct (compEnvC scope cl C env) (eval ct (compEnvC scope cl C env))) (fun ok s' => if ok = true then
          wpAny (model prog w) A (eval elt (compEnvC scope cl C env)) (EndF h₀ L m { s₂ with heap := h, toks := tk } [(e, oE), (it, oI), (C, oC), (D, lst ys)] (fun yv nw' => J (i + 1) (ys ++ [yv]) nw')) E' s'
          else EndF h₀ L m { s₂ with heap := h, toks := tk } [(e, oE), (it, oI), (C, oC), (D, lst ys)] (fun _ nw' => J (i + 1) ys nw') Value.none s') E' { s₂ with heap := h, toks := tk }) ∧
      (∀ D h tk ys nw, Fr h₀ L h m → News h₀ L h ((D, lst ys) :: nw) → (∀ p ∈ nw, p.1 ≠ D) → J its.size ys nw → Q (.ref D) { s₂ with heap := h, toks := tk }))) E s)
    (hs : ∀ x, foldedSetIterable iter env x = pure x := by intro _; rfl) :
    wpAny (model prog w) A (eval (.ListComp elt [⟨.Tuple [.Name a pa, .Name b pb] kk tp, iter, [ct], 0⟩] scope pos) env) Q E s := by
  rw [eval_ListComp]
  refine wpAny_comprehension_free (use := none) rfl hs hclos hkind hnames (wpAny_mono h (fun xv s₂ h₁ => ?_) fun _ _ e => e)
  refine hide fun G hG => ?_
  obtain ⟨e, it, l, its, news, J, rfl, X, hsz, F, N, hS, h0, turn, fin⟩ := h₁
  refine hG ?_
  clear hG G
  obtain ⟨old, hE⟩ := X.hst.1
  refine wpAny_pyIter_enum hE ?_
  refine block_E J hh X.hei X.hle X.hli hsz hcell hkind hxa hxb hab F N X.hst X.hLe X.hLi X.he₀ X.hi₀ X.offe X.offi hS h0 turn ?_
  intro D C h' tk m' ys nw F' N' o1 hn hC₀ hD₀ hCL hDL hCD offC hj
  refine ⟨m', hn, fun h'' hs'' => fin D h'' tk ys nw (F'.change hs'' hCL hC₀) (fun p hp => ?_) o1 hj⟩
  refine ⟨hs''.extBut _ _ ?_ (N' p hp).1, (N' p hp).2⟩
  rcases List.mem_cons.mp hp with rfl | hp
  · exact Ne.symm hCD
  · exact offC p hp
end
end Mine
end

section
open PySem PySem.W PyProof.Rows PySem.Calls PySem.Spec PySem.SeqAt
set_option Elab.async false
set_option maxRecDepth 100000
set_option maxHeartbeats 8000000
namespace Mine
theorem offLawW : True := by
  w_top off
  trivial
open LCg LCt
/-- what stands where in the row of the pack -/
def RowOk (g : Heap) (tl : Led) (lr : Addr) (ns : List Int) : Prop := ∃ vs k, IntsAre vs ns ∧ (g.get? lr = some (TO vs k) ∨ (lr, LO vs k) ∈ tl)
theorem RowOk.mono {g : Heap} {tl tl' : Led} {lr : Addr} {ns : List Int} (x : RowOk g tl lr ns) (h : ∀ p ∈ tl, p ∈ tl') : RowOk g tl' lr ns := let ⟨vs, k, a, b⟩ := x; ⟨vs, k, a, b.imp id (h _)⟩
theorem dealt_L {prog : Program} {w : World} {dp un : Nat} {fr : Option (List Env)} {gd : Option (List Code)} {s : Shared} {g : Heap} {loose : List Str} {mean : ExcName → Option Value} {mg mb : Str → Option Value} {L : Addr} {m : Str → Option Value} {nw tl : Led} {gg : Obj → Led}
   {d lr : Addr} {o : Obj} {t3 tm : Tok} {at0 many : Int} {ns : List Int} {Q E : Value → Shared → Prop} (G : GG w loose mean mg mb g g) (F : Fr g L s.heap m) (N : News g L s.heap nw) (U : UpdF d o nw gg)
   (hdi : Obj.IsDictOf (PySem.strKind prog w) o [(Str.ofString "row", Value.ref lr), (Str.ofString "at", Value.int at0 t3)]) (hr : RowOk g tl lr ns) (hst : ∀ p ∈ tl, p ∈ nw) (hoff : ∀ p ∈ tl, p.1 ≠ d) (hlen : ns.length < 100)
   (hl : -1 ≤ at0) (hh : at0 < 1000) (hm : 0 < many) (hm' : many < 1000) (hdp : dp < 900) (hun : un < 1000)
   (hQ : ∀ v t t' h' tk' o', Fr g L h' m → News g L h' (gg o') → Obj.IsDictOf (PySem.strKind prog w) o' [(Str.ofString "row", Value.ref lr), (Str.ofString "at", Value.int (at0 + 1) t')] → 0 ≤ v → v < many → Q (.int v t) { s with heap := h', toks := tk' }) :
   wpAny (model prog w) ⟨none, dp, fr, gd, un⟩ (call (.ref 85) [.ref d, .int many tm]) Q E s := by
  refine hide fun G hG => ?_
  obtain ⟨vs, k, hI, hrow⟩ := hr
  refine hG ?_
  clear hG G
  refine hide fun G hG => ?_
  obtain ⟨pre, post, rfl, hg, h1, h2⟩ := U.split
  refine hG ?_
  clear hG G
  have hm9 : (d, o) ∈ pre ++ (d, o) :: post := List.mem_append_right _ (.head _)
  have hne : lr ≠ d := by
    rcases hrow with e | e
    · rintro rfl; rw [(N _ hm9).2.2] at e; cases e
    · exact hoff _ e
  refine dealt_call (G.at F) (ours_of G N (muts := [(d, o)]) fun p hp => by rw [List.mem_singleton] at hp; subst hp; exact hm9) hdi ?_ hne hlen hl hh hm hm' hdp hun ?_
  · rcases hrow with e | e
    · exact .inr ⟨vs, k, hI, F.keep _ _ e⟩
    · exact .inl ⟨vs, k, hI, (N _ (hst _ e)).1⟩
  · intro v t t' h' tk' o' kb hd' hdi' v0 v1
    refine hQ v t t' h' tk' o' (fr_after F kb (by simpa using Ne.symm (N _ hm9).2.1) fun a ha => by rw [List.mem_singleton] at ha; subst ha; exact (N _ hm9).2.2) ?_ hdi' v0 v1
    rw [hg]
    intro p hp
    rcases List.mem_append.mp hp with hp | hp
    · have P := N p (List.mem_append_left _ hp)
      exact ⟨kb _ _ P.1 (by simpa using h1 p hp), P.2⟩
    · rcases List.mem_cons.mp hp with rfl | hp
      · exact ⟨hd', (N (d, o) hm9).2⟩
      · have P := N p (List.mem_append_right _ (.tail _ hp))
        exact ⟨kb _ _ P.1 (by simpa using h2 p hp), P.2⟩
local macro_rules | `(tactic| walk_at "exec Assign cons ListComp") => `(tactic| refine stop_here ?_)
local macro_rules | `(tactic| walk_at "eval ListComp") => `(tactic| refine stop_here ?_)
local macro_rules | `(tactic| walk_at "call ref") => `(tactic| refine stop_here ?_)
local macro_rules | `(tactic| walk_at "call ref") => `(tactic| ((with_reducible show wpAny _ _ (call (Value.ref 85) _) _ _ _); k_dflt (refine' dealt_L ?G ?F ?N ?U ?d ?r ?st ?of ?le ?l ?h ?m ?n ?dp ?un ?_; (case G => with_reducible assumption); (case F | N => k_asm); (case U => k_updF); (case d | r => with_reducible assumption); (case st => (intro p hp; repeat (first | exact hp | refine List.Mem.tail _ ?_))); (case of | le => with_reducible assumption); (case l => (first | assumption | omega)); (case h => (first | assumption | decide | omega)); (case m | n => (first | decide | assumption | omega)); (case dp => (show callerA.depth + 1 < 900; decide)); (case un => (show callerA.units + 3 < 1000; decide))); intro v t t' h' tk' o' F' N' hd' v0 v1; (try dsimp only at N')))
local macro_rules | `(tactic| walk_at "exec For Name Call cons nil") => `(tactic| refine stop_here ?_)
local macro_rules | `(tactic| walk_at "call type:enumerate") => `(tactic| refine stop_here ?_)
local macro_rules | `(tactic| walk_at "subscriptTail") => `(tactic| ((with_reducible show wpAny _ _ (subscriptTail _ _ (Value.ref _) (Value.int _ _)) _ _ _); refine stop_here ?_))
local macro_rules | `(tactic| walk_at "call builtin:list.append") => `(tactic| refine stop_here ?_)
local macro_rules | `(tactic| walk_at "setAttr ref") => `(tactic| refine stop_here ?_)
local macro_rules | `(tactic| walk_at "compareOp Eq ref ref") => `(tactic| refine stop_here ?_)
local macro_rules | `(tactic| walk_at "call type:list") => `(tactic| refine stop_here ?_)
local macro_rules | `(tactic| walk_at "call builtin:len") => `(tactic| refine stop_here ?_)
section
variable {prog : Program} {w : World} {A : Around} {E : Value → Shared → Prop} {s : Shared} {h₀ : Heap} {L : Addr} {m : Str → Option Value}
theorem append_U {a : Addr} {vs : List Value} {n : Nat} {x : Value} {news news' : Led} {Q : Value → Shared → Prop} (F : Fr h₀ L s.heap m) (N : News h₀ L s.heap news) (hz : vs.length ≤ sizeLine) (U : Upd a (LO vs n) (LO (vs ++ [x]) (n + 1)) news news')
    (h : ∀ h', Fr h₀ L h' m → News h₀ L h' news' → Q .none { s with heap := h' }) : wpAny (model prog w) A (call (.builtin "list.append") [.ref a, x]) Q E s :=
  append_K (its := vs.toArray) (n := n) F N (by rw [List.push_toArray]; exact U) h (by rw [List.size_toArray]; exact hz)
theorem item_lastN {value slice : Expr} {a : Addr} {vi : List Value} {v : Value} {n : Nat} {u : Tok} {news : Led} {Q : Value → Shared → Prop} (N : News h₀ L s.heap news) (hm : (a, LO (vi ++ [v]) n) ∈ news) (h : Q v s)
    (hs : subscripted slice false (.ref a) (.int (-1) u) = operate [.ref a, .int (-1) u] (getItem (.ref a) (.int (-1) u)) := by with_unfolding_all rfl) (hg : ∀ r, letTemporaryGo value (.ref a) r = pure () := by intro _; with_unfolding_all rfl) :
    wpAny (model prog w) A (subscriptTail value slice (.ref a) (.int (-1) u)) Q E s := item_last (isList_of (N _ hm).1) h hs hg
theorem len_N {a : Addr} {vs : List Value} {n : Nat} {news : Led} {Q : Value → Shared → Prop} (N : News h₀ L s.heap news) (hm : (a, LO vs n) ∈ news) (hz : vs.length < 1000)
    (h : Q (.int vs.length (s.toks + 1)) { s with toks := s.toks + 1 + 1 }) : wpAny (model prog w) A (call (.builtin "len") [.ref a]) Q E s := by
  have e : vs.toArray.size = vs.length := List.size_toArray
  have b : (vs.length : Int) < 2 ^ 63 := Int.lt_trans (Int.ofNat_lt.mpr hz) (by decide)
  exact len_list (isList_of (N _ hm).1) (by rw [e]; exact b) (by rw [e]; exact h)
end
noncomputable abbrev instE (w : World) (t₁ t₂ t₃ t₄ t₅ : Tok) (ab lo hi at' cn : Addr) : List DictEntry :=
  [⟨PyData.keyHash w.params (Str.ofString "able"), .str (Str.ofString "able") t₁, .ref ab⟩, ⟨PyData.keyHash w.params (Str.ofString "lows"), .str (Str.ofString "lows") t₂, .ref lo⟩,
    ⟨PyData.keyHash w.params (Str.ofString "highs"), .str (Str.ofString "highs") t₃, .ref hi⟩, ⟨PyData.keyHash w.params (Str.ofString "at"), .str (Str.ofString "at") t₄, .ref at'⟩,
    ⟨PyData.keyHash w.params (Str.ofString "counts"), .str (Str.ofString "counts") t₅, .ref cn⟩]
theorem put_at {w : World} {t₁ t₂ t₃ t₄ t₅ : Tok} {ab lo hi at' cn b : Addr} {k : Value} {n : Nat} {h : Int} :
    (putL (Str.ofString "at") h k (.ref b) (instE w t₁ t₂ t₃ t₄ t₅ ab lo hi at' cn), putN (Str.ofString "at") (instE w t₁ t₂ t₃ t₄ t₅ ab lo hi at' cn) n) = (instE w t₁ t₂ t₃ t₄ t₅ ab lo hi b cn, n) := rfl
theorem put_counts {w : World} {t₁ t₂ t₃ t₄ t₅ : Tok} {ab lo hi at' cn b : Addr} {k : Value} {n : Nat} {h : Int} :
    (putL (Str.ofString "counts") h k (.ref b) (instE w t₁ t₂ t₃ t₄ t₅ ab lo hi at' cn), putN (Str.ofString "counts") (instE w t₁ t₂ t₃ t₄ t₅ ab lo hi at' cn) n) = (instE w t₁ t₂ t₃ t₄ t₅ ab lo hi at' b, n) := rfl
theorem getD_mem {us : List Int} {v : Int} (h0 : 0 ≤ v) (h1 : v < (us.length : Int)) : us.getD v.toNat 0 ∈ us := by
  have h : v.toNat < us.length := by omega
  rw [List.getD_eq_getElem?_getD, List.getElem?_eq_getElem h]
  exact List.getElem_mem h
theorem off_map {nw nw' qs : Led} (e : nw'.map (·.1) = nw.map (·.1)) (off : ∀ p ∈ nw, ∀ q ∈ qs, p.1 ≠ q.1) : ∀ p ∈ nw', ∀ q ∈ qs, p.1 ≠ q.1 := fun p hp q hq => by
  have h : p.1 ∈ nw'.map (·.1) := List.mem_map_of_mem hp
  rw [e] at h
  obtain ⟨p', hp', h'⟩ := List.mem_map.mp h
  rw [← h']
  exact off p' hp' q hq
theorem plain78 (w : World) : (hd.heap_39 w.params).lookup 78 = some (TO [.int 1 282, .int 1 283, .int 1 284, .int 0 285, .int 2 286, .int 1 287, .int 2 288, .int 0 289, .int 0 290, .int 2 291, .int 0 292, .int 1 293, .int 0 294, .int 0 295, .int 0 296, .int 0 297] 0) := by k_is
local macro_rules | `(tactic| k_all) => `(tactic| assumption)
local macro_rules | `(tactic| k_all) => `(tactic| (refine' List.forall_mem_cons.mpr ⟨?a, ?b⟩; (case a => ((try dsimp only); assumption)); (case b => k_all)))
local macro_rules | `(tactic| k_updF) => `(tactic| (refine' UpdF.tail ?a ?b; (case a => ((try dsimp only); assumption)); (case b => k_updF)))
theorem off5 {a d : Nat} (h : a + 1 + 1 + 1 + 1 + 1 < d) : a + 1 + 1 ≠ d ∧ a + 1 ≠ d := by omega
theorem b10 (i LN : Nat) (a : Int) (h : i < LN) (h3 : LN ≤ 3) (b : a ≤ 200 + 10 * (i : Int)) : a < 1000 := by omega
theorem all2_off {nw : Led} {c : Addr} (off : ∀ p ∈ nw, p.1 ≠ c) : ∀ {as : List Addr} {rows : List (List Int)}, All2 (LstIn nw) as rows → ∀ a ∈ as, a ≠ c := fun h => by
  induction h with
  | nil => exact fun _ h => nomatch h
  | cons h _ ih =>
    obtain ⟨vs, n, _, h⟩ := h
    exact fc (off _ h) ih
theorem nin2 {a b c : Addr} (h1 : a ≠ b) (h2 : a ≠ c) : a ∉ [b, c] := by simp [h1, h2]
theorem news_kb {h₀ h h' : Heap} {L : Addr} {nw : Led} {as : List Addr} (N : News h₀ L h nw) (kb : Kb h h' as) (p : Addr × Obj) (hp : p ∈ nw) (hn : p.1 ∉ as) : h'.get? p.1 = some p.2 ∧ p.1 ≠ L ∧ h₀.get? p.1 = none := ⟨kb _ _ (N p hp).1 hn, (N p hp).2⟩
theorem ways_le {rows : List (List Int)} {K : Nat} (h : ∀ r ∈ rows, r.length ≤ 3) (hl : rows.length = K) (hK : K ≤ 5) : (waysOf rows).length ≤ 243 :=
  Nat.le_trans (waysOf_length rows h) (by rw [hl]; exact Nat.le_trans (Nat.pow_le_pow_right (by decide) hK) (by decide))
theorem b12 {i K : Nat} {a : Int} (h : i < K) (h5 : K ≤ 5) (b : a ≤ 20 + 10 * (i : Int)) : a < 100 := by omega
theorem bu0 {a : Int} (h : a < 100) : a < 1000 ∧ a + 1 < 1000 ∧ a + 1 + 1 < 1000 ∧ a + 1 + 1 + 1 < 1000 := by omega
theorem bd0 {a : Int} (h : -1 ≤ a) : -1 ≤ a + 1 ∧ -1 ≤ a + 1 + 1 ∧ -1 ≤ a + 1 + 1 + 1 ∧ -1 ≤ a + 1 + 1 + 1 + 1 := by omega
theorem b13 {i : Nat} {a : Int} (b : a ≤ 20 + 10 * (i : Int)) : a + 1 + 1 + 1 + 1 ≤ 20 + 10 * ((i + 1 : Nat) : Int) := by omega
theorem b19 {K : Nat} {a : Int} (b : a ≤ 20 + 10 * (K : Int)) (h : K ≤ 5) : a + 1 ≤ 200 + 10 * ((0 : Nat) : Int) ∧ a < 1000 := by omega
theorem b14 {M : Nat} {v : Int} (h : 2 + v = (M : Int)) (h0 : 0 ≤ v) (h1 : v < 3) : 2 ≤ M ∧ M ≤ 4 ∧ (0 : Int) < (M : Int) ∧ (M : Int) < 1000 := by omega
theorem b15 {K : Nat} {v : Int} (h : 2 + v = (K : Int)) (h0 : 0 ≤ v) (h1 : v < 4) : 2 ≤ K ∧ K ≤ 5 := by omega
theorem b16 {P : Nat} {v : Int} (h : 1 + v = (P : Int)) (h0 : 0 ≤ v) (h1 : v < 3) : 0 < P ∧ P ≤ 3 := by omega
theorem bex {c v : Int} (h0 : 0 ≤ c) (h1 : 0 ≤ v) : ∃ n : Nat, c + v = (n : Int) := ⟨(c + v).toNat, (Int.toNat_of_nonneg (Int.add_nonneg h0 h1)).symm⟩
theorem sl5 {n : Nat} (h : n ≤ 5) : n ≤ sizeLine := Nat.le_trans h (by decide)
theorem sl4 {n : Nat} (h : n ≤ 4) : n ≤ sizeLine := Nat.le_trans h (by decide)
theorem sl3 {n : Nat} (h : n ≤ 3) : n ≤ sizeLine := Nat.le_trans h (by decide)
theorem b17 {n : Nat} (h : 0 < n) (h3 : n ≤ 3) : (0 : Int) < (n : Int) ∧ (n : Int) < 1000 ∧ n < 1000 ∧ n < 2 ^ 62 := by omega
theorem b11 (i : Nat) (a : Int) (b : a ≤ 200 + 10 * (i : Int)) : a + 1 ≤ 200 + 10 * ((i + 1 : Nat) : Int) := by omega
theorem rcAt_lst {A : Around} {s : Shared} {l : Addr} {as : List Int} (h : LstI s.heap l as) (hu : A.units < cLine) : RcAt A s (.ref l) (.ref l) true := by
  refine hide fun G hG => ?_
  obtain ⟨vs, n, hI, ho⟩ := h
  refine hG ?_
  clear hG G
  have := rcAt_lsts ho ho hI hI hu
  rw [decide_eq_true rfl] at this
  exact this
def Hold (P : Prop) : Prop := P
theorem split_eval {prog : Program} {w : World} {A : Around} {E : Value → Shared → Prop} {s : Shared} {g : Heap} {L : Addr} {m : Str → Option Value} {t : Sem Value} {Q : Value → Shared → Prop} (_F : Fr g L s.heap m) (mid : (Str → Option Value) → Value → Shared → Prop)
    (h1 : wpAny (model prog w) A t (mid m) E s) (h2 : ∀ v s', mid m v s' → Q v s') : wpAny (model prog w) A t Q E s := wpAny_mono h1 h2 fun _ _ e => e
theorem law_holds : PySem.Challenge.rw_pc0025_01.Holds := by
  exact hd (by
    k_go0
    (all_goals try k_fold)
    rename_i w s0 s₁ mg mb G0 Y0 fa oL pm doc hoL hgens KX XF VV GL T B TE TW aM oM MM a1 a2 hcd script hs hlay0 hLz hrz hl2 la1 la2 sA svs la3 hL ra w1 r0 hI hrz2 hlen1 hlen2 K0 hD h₁ tk₁ F o5 o4 o3 o2 o1 c5 c4 c3 c2 c1 N X0
    clear X0 hD K0 hlen2 hrz2 r0 w1 ra la1 la2 la3 hlay0 hLz hrz hl2
    replace c1 : o1.data = .cell none := c1
    replace c2 : o2.data = .cell none := c2
    replace c3 : o3.data = .cell none := c3
    replace c4 : o4.data = .cell none := c4
    replace c5 : o5.data = .cell none := c5
    walk1
    walk1
    let B0 :=
        fun (d : Addr) (o : Obj) (lr : Addr) (ns : List Int) (tt : Tok) (h' : Heap) (tk : Nat) (tl : List (Addr × Obj)) (m : Str → Option Value) (v : Value) (s' : Shared) =>
          (v = .ref d ∧ s' = { s₁ with heap := h', toks := tk } ∧ Fr s₁.heap s₁.heap.objs.size h' m ∧
      News s₁.heap s₁.heap.objs.size h' ((d, o) :: (s₁.heap.objs.size + 1 + 1 + 1 + 1 + 1, o5) :: (s₁.heap.objs.size + 1 + 1 + 1 + 1, o4) :: (s₁.heap.objs.size + 1 + 1 + 1, o3) :: (s₁.heap.objs.size + 1 + 1, o2) :: (s₁.heap.objs.size + 1, o1) :: tl) ∧
      (d == sysModules) = false ∧ s₁.heap.objs.size + 1 + 1 + 1 + 1 + 1 < d ∧ (∀ p ∈ tl, p.1 ≠ d) ∧ (∀ p ∈ tl, p.1 ≠ s₁.heap.objs.size + 1 + 1 + 1 + 1 + 1) ∧ (∀ p ∈ tl, p.1 ≠ s₁.heap.objs.size + 1 + 1 + 1 + 1) ∧ (∀ p ∈ tl, p.1 ≠ s₁.heap.objs.size + 1 + 1 + 1) ∧ (∀ p ∈ tl, p.1 ≠ s₁.heap.objs.size + 1 + 1) ∧ (∀ p ∈ tl, p.1 ≠ s₁.heap.objs.size + 1) ∧ Obj.IsDictOf (PySem.strKind PySem.Challenge.rw_pc0025_01.row.prog w) o [(Str.ofString "row", Value.ref lr), (Str.ofString "at", Value.int (-1) tt)] ∧
      ns.length < 100 ∧ RowOk s₁.heap tl lr ns : Prop)
    refine split_eval F (fun m v s' => Hold (∃ d o lr ns tt h' tk tl, B0 d o lr ns tt h' tk tl m v s')) ?_ ?_
    ·
      k_steps
      · rename Fr _ _ _ _ => F1
        rename News _ _ _ _ => N1
        rename Obj.IsDictOf _ _ _ => hd1
        rename ((_ == sysModules) = false) => hlo1
        rename (_ ∧ _) => l1
        refine ⟨_, _, 78, [1, 1, 1, 0, 2, 1, 2, 0, 0, 2, 0, 1, 0, 0, 0, 0], _, _, _, [], rfl, rfl, F1, ?hN, hlo1, ?hl, (fun _ h => nomatch h), (fun _ h => nomatch h), (fun _ h => nomatch h), (fun _ h => nomatch h), (fun _ h => nomatch h), (fun _ h => nomatch h), hd1, (by decide), ?_⟩
        case hN => exact fun p hp => N1 p (.tail _ hp)
        case hl => (refine ltN ?_; omega)
        exact ⟨_, 0, by repeat (first | exact IntsAre.nil | refine IntsAre.cons _ _ ?_), .inl (KX 78 _ (plain78 w))⟩
      · rename_i d1 hh1 o1' hlo1 hd1 l1a l1' hh2 F1 N1 l1b aF
        unfold Stop
        refine EvalU F1 (cl := []) (by with_unfolding_all rfl) (by decide) rfl (by decide) rfl ?_
        k_steps
        rename_i D2 ws2 hh3 F2 N2 hI2 hC2 hL2 l2
        unfold Stop
        obtain ⟨LL, hLL, N2', hmL⟩ : ∃ LL, LL = _ ∧ News _ _ _ LL ∧ (_, _) ∈ LL := ⟨_, rfl, N2, .head _⟩
        have hz : (1000 : Nat) ≤ sizeLine := by decide
        have hlen50 : (List.take 50 script).length ≤ 50 := List.length_take_le _ _
        refine ex5 _ _ _ LL (fun i zs nw => nw = LL ∧ ∃ ns, IntsAre zs ns ∧ ns.length = i) ⟨Src.list rfl F2 N2' (.inr ⟨_, hmL, rfl, _, rfl⟩), ?_, F2, N2', ?_, ⟨rfl, [], .nil, rfl⟩, ?_, ?_⟩
        · rw [List.size_toArray, hI2.length]; omega
        · rintro i zs nw ⟨rfl, _⟩
          exact .inr ⟨_, hmL, rfl, _, rfl⟩
        · rintro i v I oI C oC D m₂ h tk zs nw E' hi9 hv hz15 hC hm F N off
          refine hide fun G hG => ?_
          obtain ⟨rfl, ns, hns, hnl⟩ := hz15
          refine hG ?_
          clear hG G
          refine hide fun G hG => ?_
          obtain ⟨z, tz, hz1, rfl⟩ := intsAre_at hI2 i v (by simpa using hv)
          refine hG ?_
          clear hG G
          k_steps
          exact ⟨h, _, _, rfl, F, N, off, rfl, _, hns.append (.cons _ _ .nil), by simp [hnl]⟩
        · rintro D h tk zs nw F N off hz8
          refine hide fun G hG => ?_
          obtain ⟨rfl, ns, hns, hnl⟩ := hz8
          refine hG ?_
          clear hG G
          rw [List.size_toArray, hI2.length] at hnl
          subst hLL
          have x1 := neN (off (d1, o1') (by k_mem))
          have x2 := neN (off (s₁.heap.objs.size + 1 + 1 + 1 + 1 + 1, o5) (by k_mem))
          have x3 := neN (off (s₁.heap.objs.size + 1 + 1 + 1 + 1, o4) (by k_mem))
          have x4 := neN (off (s₁.heap.objs.size + 1 + 1 + 1, o3) (by k_mem))
          have x5 := neN (off (s₁.heap.objs.size + 1 + 1, o2) (by k_mem))
          have x6 := neN (off (s₁.heap.objs.size + 1, o1) (by k_mem))
          dsimp only at x1 x2 x3 x4 x5 x6
          k_steps
          rename Fr _ _ _ _ => F8
          rename News _ _ _ _ => N8
          rename Obj.IsDictOf _ _ (strPairs _) => hd8
          refine ⟨d1, _, D, ns, _, _, _, [(D, LO zs zs.length)], rfl, rfl, F8, ?hN, hlo1, ?hl, ?g1, ?g2, ?g3, ?g4, ?g5, ?g6, hd8, by omega, zs, zs.length, hns, .inr (.head _)⟩
          case hN =>
            iterate 7 refine fc (N8 _ (by k_mem)) ?_
            exact fun _ h => nomatch h
          case hl => (refine ltN ?_; omega)
          all_goals (intro p hp; rw [List.mem_singleton] at hp; subst hp; (try dsimp only); k_ne)
    · rintro v s' hz2
      refine hide fun G hG => ?_
      obtain ⟨d, o, lr, ns, tt, h', tk, tl, rfl, rfl, F1, N1, hlo, hdl, y1, y2, y3, y4, y5, y6, hod, hnl, hrok⟩ := hz2
      refine hG ?_
      clear hG G
      have hdl := ltN hdl
      have G9 : GG w _ _ _ _ s₁.heap s₁.heap := ⟨KX, T, fun _ _ h => h⟩
      dsimp only
      k_steps
      rename_i oP dP tkA v3 tA tA' hB tkB oD hd v0 v1 aL hC lA sL hD' lS T9 hE lT hF hG oM dM hH hI F2 N2
      have y7 : ∀ p ∈ tl, p.1 ≠ aL := fun p hp => Nat.ne_of_lt (kst_ltOf lA.2.2.2.2.2.2 p hp)
      have y8 : ∀ p ∈ tl, p.1 ≠ sL := fun p hp => Nat.ne_of_lt (kst_ltOf lS.2.2.2.2.2.2.2 p hp)
      unfold Stop
      obtain ⟨M, hM⟩ : ∃ M : Nat, 2 + v3 = (M : Int) := bex (by decide) v0
      rw [hM] at dM
      refine hide fun G hG => ?_
      obtain ⟨hM2, hM4, hM0, hM1000⟩ := b14 hM v0 v1
      refine hG ?_
      clear hG G
      have hz : (1000 : Nat) ≤ sizeLine := by decide
      refine AssignU F2 (cl := [(Str.ofString "pack", s₁.heap.objs.size + 1)]) rfl (by with_unfolding_all rfl) (by with_unfolding_all rfl) (by decide) rfl (by decide) rfl rfl rfl ?_
      k_steps
      rename IsRange _ _ _ _ _ _ _ _ => hR
      rename Fr _ _ _ _ => F3
      rename News _ _ _ _ => N3
      unfold Stop
      let C1 : Nat → List Value → Led → Prop :=
          fun i ys nw => ∃ oD a t, nw = (sL, LO [] 0) :: (aL, LO [] 0) :: (d, oD) :: (s₁.heap.objs.size + 1 + 1 + 1 + 1 + 1, o5) :: (s₁.heap.objs.size + 1 + 1 + 1 + 1, o4) :: (s₁.heap.objs.size + 1 + 1 + 1, o3) :: (s₁.heap.objs.size + 1 + 1, oM) :: (s₁.heap.objs.size + 1, oP) :: tl ∧ Obj.IsDictOf (PySem.strKind PySem.Challenge.rw_pc0025_01.row.prog w) oD [(Str.ofString "row", Value.ref lr), (Str.ofString "at", Value.int a t)] ∧ -1 ≤ a ∧ a ≤ (i : Int) ∧ ∃ zs, IntsAre ys zs ∧ zs.length = i
      refine ex5 _ M _ ((sL, LO [] 0) :: (aL, LO [] 0) :: (d, oD) :: (s₁.heap.objs.size + 1 + 1 + 1 + 1 + 1, o5) :: (s₁.heap.objs.size + 1 + 1 + 1 + 1, o4) :: (s₁.heap.objs.size + 1 + 1 + 1, o3) :: (s₁.heap.objs.size + 1 + 1, oM) :: (s₁.heap.objs.size + 1, oP) :: tl) C1 ⟨Src.range rfl hR (range_small (by omega)) (range_size _), sl4 hM4, F3, ?_, fun _ _ _ _ => trivial, ⟨oD, _, _, rfl, hd, by omega, by omega, [], .nil, rfl⟩, ?_, ?_⟩
      · iterate 8 refine fc (N3 _ (by k_mem)) ?_
        intro p hp
        exact N3 p (by repeat (first | exact hp | refine List.Mem.tail _ ?_))
      ·
        rintro i v I oI C oC D m₂ h tk ys nw E' hi9 hz14 hz15 hC9 hm F N off
        refine hide fun G hG => ?_
        obtain ⟨tv, rfl⟩ := hz14
        refine hide fun G hG => ?_
        obtain ⟨oD, at0, ta, rfl, hdD, ha1, ha2, zs, hzs, hzl⟩ := hz15
        refine hG ?_
        clear hG G
        refine hG ?_
        clear hG G
        try simp only [List.cons_append, List.nil_append] at N
        have n1 := neN (off (d, oD) (by k_mem) (I, oI) (by k_mem))
        have n2 := neN (off (d, oD) (by k_mem) (C, oC) (by k_mem))
        have n3 := neN (off (d, oD) (by k_mem) (D, lst ys) (by k_mem))
        dsimp only at n1 n2 n3
        k_steps
        rename Fr _ _ _ _ => F9
        rename News _ _ _ _ => N9
        rename Obj.IsDictOf _ _ _ => hd9
        rename_i o9 _ _
        exact ⟨_, _, (sL, LO [] 0) :: (aL, LO [] 0) :: (d, o9) :: (s₁.heap.objs.size + 1 + 1 + 1 + 1 + 1, o5) :: (s₁.heap.objs.size + 1 + 1 + 1 + 1, o4) :: (s₁.heap.objs.size + 1 + 1 + 1, o3) :: (s₁.heap.objs.size + 1 + 1, oM) :: (s₁.heap.objs.size + 1, oP) :: tl, rfl, F9, N9, off_map (nw := (sL, LO [] 0) :: (aL, LO [] 0) :: (d, oD) :: (s₁.heap.objs.size + 1 + 1 + 1 + 1 + 1, o5) :: (s₁.heap.objs.size + 1 + 1 + 1 + 1, o4) :: (s₁.heap.objs.size + 1 + 1 + 1, o3) :: (s₁.heap.objs.size + 1 + 1, oM) :: (s₁.heap.objs.size + 1, oP) :: tl) rfl off,
          ⟨_, _, _, rfl, hd9, by omega, by omega, _, hzs.append (.cons _ _ .nil), by simp [hzl]⟩⟩
      · rintro D h tk ys nw F4 N4 off hz8
        refine hide fun G hG => ?_
        obtain ⟨oD, at0, ta, rfl, hdD, ha1, ha2, zs, hzs, hzl⟩ := hz8
        refine hG ?_
        clear hG G
        try simp only [List.cons_append, List.nil_append] at N4
        have n1 := neN (off (d, oD) (by k_mem))
        have n2 := neN (off (aL, LO [] 0) (by k_mem))
        have n3 := neN (off (sL, LO [] 0) (by k_mem))
        have n4 := neN (off (s₁.heap.objs.size + 1 + 1 + 1 + 1 + 1, o5) (by k_mem))
        have n5 := neN (off (s₁.heap.objs.size + 1 + 1 + 1 + 1, o4) (by k_mem))
        have n6 := neN (off (s₁.heap.objs.size + 1 + 1 + 1, o3) (by k_mem))
        have n7 := neN (off (s₁.heap.objs.size + 1 + 1, oM) (by k_mem))
        have n8 := neN (off (s₁.heap.objs.size + 1, oP) (by k_mem))
        dsimp only at n1 n2 n3 n4 n5 n6 n7 n8
        k_steps
        unfold Stop
        let B1 :=
            fun (oD : Obj) (a : Int) (ta : Tok) (as : List Addr) (n : Nat) (sv : List Value) (sn : Nat) (oR : Obj) (oS : Obj) (oB : Obj) (vR : Option Value) (vS : Option Value) (vB : Option Value) (tl' : Led) (rows : List (List Int)) (sts : List Int) (i : Nat) (m : Str → Option Value) (nw : Led) =>
              (m (Str.ofString "able") = some (.ref aL) ∧ m (Str.ofString "stand") = some (.ref sL) ∧ m (Str.ofString "lows") = some (.ref D) ∧
              nw = (aL, LO (List.map Value.ref as) n) :: (sL, LO sv sn) :: (d, oD) :: (s₁.heap.objs.size + 1 + 1 + 1 + 1 + 1, oR) :: (s₁.heap.objs.size + 1 + 1 + 1 + 1, oS) :: (s₁.heap.objs.size + 1 + 1 + 1, oB) :: (s₁.heap.objs.size + 1 + 1, oM) :: (s₁.heap.objs.size + 1, oP) :: tl' ∧
              oR.data = .cell vR ∧ oS.data = .cell vS ∧ oB.data = .cell vB ∧
              Obj.IsDictOf (PySem.strKind PySem.Challenge.rw_pc0025_01.row.prog w) oD [(Str.ofString "row", Value.ref lr), (Str.ofString "at", Value.int a ta)] ∧ -1 ≤ a ∧ a ≤ 20 + 10 * (i : Int) ∧ RowOk s₁.heap tl' lr ns ∧
              (∀ p ∈ tl', ∀ x ∈ [aL, sL, d, s₁.heap.objs.size + 1 + 1 + 1 + 1 + 1, s₁.heap.objs.size + 1 + 1 + 1 + 1, s₁.heap.objs.size + 1 + 1 + 1, s₁.heap.objs.size + 1 + 1, s₁.heap.objs.size + 1], p.1 ≠ x) ∧ LstIn tl' D zs ∧
              IntsAre sv sts ∧ All2 (LstIn tl') as rows ∧ Fits sts rows ∧ rows.length = i ∧ ∀ r ∈ rows, r.length ≤ 3 ∧ ∀ v ∈ r, 0 ≤ v ∧ v < (M : Int) : Prop)
        let J1 : Nat → (Str → Option Value) → Led → Prop :=
            fun i m nw => ∃ oD a ta as n sv sn oR oS oB vR vS vB tl' rows sts, B1 oD a ta as n sv sn oR oS oB vR vS vB tl' rows sts i m nw
        refine For_rng (h₀ := s₁.heap) (L := s₁.heap.objs.size) J1 rfl rfl ?_
        k_steps
        rename IsRange _ _ _ _ _ _ _ _ => hR
        rename Fr _ _ _ _ => F5
        rename News _ _ _ _ => N5
        rename Obj.IsDictOf _ _ _ => hd5
        rename (_ < (4 : Int)) => v51
        rename (0 ≤ _) => v50
        rename_i v5 _ _ _ _ o6 _ _ _ _ _ _ _ _
        unfold Stop
        obtain ⟨K, hK⟩ : ∃ K : Nat, 2 + v5 = (K : Int) := bex (by decide) v50
        rw [hK] at hR
        have hK5 : K ≤ 5 := (b15 hK v50 v51).2
        refine ex9 _ _ _ _ _ _ K _ ((aL, LO (List.map Value.ref []) 0) :: (sL, LO [] 0) :: (d, o6) :: (s₁.heap.objs.size + 1 + 1 + 1 + 1 + 1, o5) :: (s₁.heap.objs.size + 1 + 1 + 1 + 1, o4) :: (s₁.heap.objs.size + 1 + 1 + 1, o3) :: (s₁.heap.objs.size + 1 + 1, oM) :: (s₁.heap.objs.size + 1, oP) :: (D, LO ys ys.length) :: tl) ⟨rfl, F5, ?_, hR, range_small (by omega), range_size _,
          ⟨_, _, _, [], _, [], _, _, _, _, _, _, _, (D, LO ys ys.length) :: tl, [], [], rfl, rfl, rfl, rfl, c5, c4, c3, hd5, by omega, by omega, hrok.mono (fun _ h => .tail _ h), ?_, ⟨ys, ys.length, by assumption, .head _⟩, .nil, .nil, .nil, rfl, (fun _ h => nomatch h)⟩, ?_, ?_⟩
        · iterate 9 refine fc (N5 _ (by k_mem)) ?_
          intro p hp
          exact N5 p (by repeat (first | exact hp | refine List.Mem.tail _ ?_))
        · refine fc ?_ fun p hp => ?_
          · iterate 8 refine fc (by k_ne) ?_
            exact fun _ h => nomatch h
          · exact fc (y7 p hp) (fc (y8 p hp) (fc (y1 p hp) (fc (y2 p hp) (fc (y3 p hp) (fc (y4 p hp) (fc (y5 p hp) (fc (y6 p hp) (fun _ h => nomatch h))))))))
        ·
          rintro i t m₁ nw I oI h tk hi9 hz9 F N off
          refine hide fun G hG => ?_
          obtain ⟨oD, a, ta, as, n, sv, sn, oR, oS, oB, vR, vS, vB, tl', rows, sts, ma, ms, ml, rfl, hoR, hoS, hoB, hdd, b1, b2, hrok', hoff, hlw, hsv, has, hfit, hrl, hrr⟩ := hz9
          refine hG ?_
          clear hG G
          refine hide fun G hG => ?_
          obtain ⟨b20, b21, b22, b23⟩ := bu0 (b12 hi9 hK5 b2)
          refine hG ?_
          clear hG G
          refine hide fun G hG => ?_
          obtain ⟨bd1, bd2, bd3, bd4⟩ := bd0 b1
          refine hG ?_
          clear hG G
          clear hrok y1 y2 y3 y4 y5 y6 y7 y8 hd5 hdD
          have i1 := neN (off (aL, LO (as.map .ref) n) (by k_mem))
          have i2 := neN (off (sL, LO sv sn) (by k_mem))
          have i3 := neN (off (d, oD) (by k_mem))
          have i4 := neN (off (s₁.heap.objs.size + 1 + 1 + 1 + 1 + 1, oR) (by k_mem))
          have i5 := neN (off (s₁.heap.objs.size + 1 + 1 + 1 + 1, oS) (by k_mem))
          have i6 := neN (off (s₁.heap.objs.size + 1 + 1 + 1, oB) (by k_mem))
          have i7 := neN (off (s₁.heap.objs.size + 1 + 1, oM) (by k_mem))
          have i8 := neN (off (s₁.heap.objs.size + 1, oP) (by k_mem))
          dsimp only at i1 i2 i3 i4 i5 i6 i7 i8
          have t1 : ∀ p ∈ tl', p.1 ≠ aL := fun p hp => hoff p hp _ (by simp)
          have t2 : ∀ p ∈ tl', p.1 ≠ sL := fun p hp => hoff p hp _ (by simp)
          have t3 : ∀ p ∈ tl', p.1 ≠ d := fun p hp => hoff p hp _ (by simp)
          have t4 : ∀ p ∈ tl', p.1 ≠ s₁.heap.objs.size + 1 + 1 + 1 + 1 + 1 := fun p hp => hoff p hp _ (by simp)
          have t5 : ∀ p ∈ tl', p.1 ≠ s₁.heap.objs.size + 1 + 1 + 1 + 1 := fun p hp => hoff p hp _ (by simp)
          have t6 : ∀ p ∈ tl', p.1 ≠ s₁.heap.objs.size + 1 + 1 + 1 := fun p hp => hoff p hp _ (by simp)
          have t7 : ∀ p ∈ tl', p.1 ≠ s₁.heap.objs.size + 1 + 1 := fun p hp => hoff p hp _ (by simp)
          have t8 : ∀ p ∈ tl', p.1 ≠ s₁.heap.objs.size + 1 := fun p hp => hoff p hp _ (by simp)
          have t9 : ∀ p ∈ tl', p.1 ≠ I := fun p hp => off p (.tail _ (.tail _ (.tail _ (.tail _ (.tail _ (.tail _ (.tail _ (.tail _ hp))))))))
          k_steps
          rename_i bg tb tb' _ tkb _ _ bg0 bg1 st tsx ts' _ tks oD2 hd2 st0 st1 T2 _ lT2 _ _ oB2 dB2 _ oS2 F6 N6 dS2
          unfold Stop
          refine wpAny_Assign_Name ?_
          refine EvalU F6 (cl := [(Str.ofString "step", s₁.heap.objs.size + 1 + 1 + 1 + 1), (Str.ofString "many", s₁.heap.objs.size + 1 + 1), (Str.ofString "begin", s₁.heap.objs.size + 1 + 1 + 1)]) (by with_unfolding_all rfl) (by decide) rfl (by decide) rfl ?_
          k_steps
          rename IsRange _ _ _ _ _ _ _ _ => hR7
          rename Fr _ _ _ _ => F7
          rename News _ _ _ _ => N7
          rename Obj.IsDictOf _ _ _ => hd7
          rename_i lp _ _ _ _ o7 _ _ lp0 lp1 _ _ _ _ _ _
          unfold Stop
          obtain ⟨P, hP⟩ : ∃ P : Nat, 1 + lp = (P : Int) := bex (by decide) lp0
          rw [hP] at hR7
          let C2 : Nat → List Value → Led → Prop :=
              fun i ys nw => nw = (I, oI) :: (aL, LO (List.map Value.ref as) n) :: (sL, LO sv sn) :: (d, o7) :: (s₁.heap.objs.size + 1 + 1 + 1 + 1 + 1, oR) :: (s₁.heap.objs.size + 1 + 1 + 1 + 1, oS2) :: (s₁.heap.objs.size + 1 + 1 + 1, oB2) :: (s₁.heap.objs.size + 1 + 1, oM) :: (s₁.heap.objs.size + 1, oP) :: tl' ∧
                ∃ zs, IntsAre ys zs ∧ zs.length = i ∧ ∀ v ∈ zs, 0 ≤ v ∧ v < (M : Int)
          refine ex5 _ P _ ((I, oI) :: (aL, LO (List.map Value.ref as) n) :: (sL, LO sv sn) :: (d, o7) :: (s₁.heap.objs.size + 1 + 1 + 1 + 1 + 1, oR) :: (s₁.heap.objs.size + 1 + 1 + 1 + 1, oS2) :: (s₁.heap.objs.size + 1 + 1 + 1, oB2) :: (s₁.heap.objs.size + 1 + 1, oM) :: (s₁.heap.objs.size + 1, oP) :: tl') C2 ⟨Src.range rfl hR7 (range_small (by omega)) (range_size _), sl3 (b16 hP lp0 lp1).2, F7, fun p hp => N7 p (.tail _ hp), fun _ _ _ _ => trivial, ⟨rfl, [], .nil, rfl, fun _ h => nomatch h⟩, ?_, ?_⟩
          ·
            rintro k v I₂ oI₂ C oC D₂ m₂ h9 tk9 ys nw E' hk hz14 hz15 hC hm F N off
            refine hide fun G hG => ?_
            obtain ⟨tv, rfl⟩ := hz14
            refine hide fun G hG => ?_
            obtain ⟨rfl, zs9, hz9, hz8, hz7⟩ := hz15
            refine hG ?_
            clear hG G
            refine hG ?_
            clear hG G
            try simp only [List.cons_append, List.nil_append] at N
            k_steps
            refine ⟨h9, _, _, rfl, F, N, off, rfl, _, hz9.append (.cons _ _ .nil), by simp [hz8], ?_⟩
            intro v hv
            rcases List.mem_append.mp hv with hv | hv
            · exact hz7 v hv
            · rw [List.mem_singleton] at hv
              subst hv
              have hM9 : 0 < (M : Int) := hM0
              exact ⟨Int.fmod_nonneg_of_pos _ hM9, Int.fmod_lt_of_pos _ hM9⟩
          · rintro D₂ h9 tk9 ys9 nw F9 N9 off9 hz8
            refine hide fun G hG => ?_
            obtain ⟨rfl, zs9, hz9, hz8, hz7⟩ := hz8
            refine hG ?_
            clear hG G
            try simp only [List.cons_append, List.nil_append] at N9
            have j1 := neN (off9 (aL, LO (as.map .ref) n) (by k_mem))
            have j2 := neN (off9 (sL, LO sv sn) (by k_mem))
            have j3 := neN (off9 (d, o7) (by k_mem))
            have j4 := neN (off9 (s₁.heap.objs.size + 1 + 1 + 1 + 1 + 1, oR) (by k_mem))
            have j5 := neN (off9 (s₁.heap.objs.size + 1 + 1 + 1 + 1, oS2) (by k_mem))
            have j6 := neN (off9 (s₁.heap.objs.size + 1 + 1 + 1, oB2) (by k_mem))
            have j7 := neN (off9 (s₁.heap.objs.size + 1 + 1, oM) (by k_mem))
            have j8 := neN (off9 (s₁.heap.objs.size + 1, oP) (by k_mem))
            have j9 := neN (off9 (I, oI) (by k_mem))
            dsimp only at j1 j2 j3 j4 j5 j6 j7 j8 j9
            dsimp only
            k_steps
            rename Fr _ _ _ _ => F10
            rename News _ _ _ _ => N10
            rename (Obj.data _ = Data.cell (some (Value.ref D₂))) => dR2
            rename_i oR2
            unfold Stop
            refine EvalE F10 rfl (cl := [(Str.ofString "row", s₁.heap.objs.size + 1 + 1 + 1 + 1 + 1)]) (by with_unfolding_all rfl) (by decide) rfl (by decide) rfl rfl (by decide) ?_
            k_steps
            unfold Stop
            refine enum_new F10 N10 (.inr ⟨_, .head _, rfl, _, rfl⟩) ?_
            intro e it h11 F11 N11 X11
            obtain ⟨hP0, hP3⟩ := b16 hP lp0 lp1
            dsimp only at F11 N11 X11 ⊢
            obtain ⟨LE, hLE⟩ : ∃ LE : Led, LE = (D₂, lst ys9) :: (I, oI) :: (aL, LO (List.map Value.ref as) n) :: (sL, LO sv sn) :: (d, o7) :: (s₁.heap.objs.size + 1 + 1 + 1 + 1 + 1, oR2) :: (s₁.heap.objs.size + 1 + 1 + 1 + 1, oS2) :: (s₁.heap.objs.size + 1 + 1 + 1, oB2) :: (s₁.heap.objs.size + 1 + 1, oM) :: (s₁.heap.objs.size + 1, oP) :: tl' := ⟨_, rfl⟩
            rw [← hLE] at N11 X11
            let C3 : Nat → List Value → Led → Prop :=
                fun k ys nw => nw = LE ∧ ∃ us, IntsAre ys us ∧ us.length ≤ k ∧ (0 < k → 0 < us.length) ∧ ∀ v ∈ us, 0 ≤ v ∧ v < (M : Int)
            refine ⟨e, it, D₂, _, LE, C3, rfl, X11, ?_, F11, N11, ?_, ⟨rfl, [], .nil, Nat.le_refl _, (fun h => absurd h (Nat.lt_irrefl _)), fun _ h => nomatch h⟩, ?_, ?_⟩
            · rw [List.size_toArray, hz9.length, hz8]; exact sl3 hP3
            · rintro k ys nw ⟨rfl, _⟩
              exact .inr ⟨_, by rw [hLE]; exact .head _, rfl, _, rfl⟩
            ·
              rintro k v oE oI₂ C oC D₃ m₂ h12 tk12 ys nw E' hk hz14 hC hz16 hop F N off
              refine hide fun G hG => ?_
              obtain ⟨rfl, us, hus, hul, hup, hur⟩ := hz14
              obtain ⟨tat, hat⟩ := hz16
              refine hG ?_
              clear hG G
              refine hide fun G hG => ?_
              obtain ⟨z, tz, hz1, rfl⟩ := intsAre_at hz9 k v (by simpa using hk)
              refine hG ?_
              clear hG G
              have hzr := hz7 z (List.mem_of_getElem? hz1)
              subst hLE
              try simp only [List.cons_append, List.nil_append] at N
              k_steps
              · rename ((List.any _ _) = true) => hany
                rename Fr _ _ _ _ => F15
                rename News _ _ _ _ => N15
                refine ⟨_, _, _, rfl, F15, fun p hp => N15 p (.tail _ hp), off, rfl, us, hus, Nat.le_succ_of_le hul, fun _ => hup ?_, hur⟩
                cases k with
                | zero => simp at hany
                | succ k => exact Nat.succ_pos k
              · rename Fr _ _ _ _ => F15
                rename News _ _ _ _ => N15
                refine ⟨_, _, _, rfl, F15, fun p hp => N15 p (.tail _ hp), off, rfl, _, hus.append (.cons _ _ .nil), by simp [hul], by simp, ?_⟩
                intro v hv
                rcases List.mem_append.mp hv with hv | hv
                · exact hur v hv
                · rw [List.mem_singleton] at hv
                  exact hv ▸ hzr
            · rintro D₃ h13 tk13 ys nw F13 N13 off13 hz8
              refine hide fun G hG => ?_
              obtain ⟨rfl, us, hus, hul, hup, hur⟩ := hz8
              refine hG ?_
              clear hG G
              subst hLE
              have k1 := neN (off13 (aL, LO (as.map .ref) n) (by k_mem))
              have k2 := neN (off13 (sL, LO sv sn) (by k_mem))
              have k3 := neN (off13 (d, o7) (by k_mem))
              have k4 := neN (off13 (s₁.heap.objs.size + 1 + 1 + 1 + 1 + 1, oR2) (by k_mem))
              have k5 := neN (off13 (s₁.heap.objs.size + 1 + 1 + 1 + 1, oS2) (by k_mem))
              have k6 := neN (off13 (s₁.heap.objs.size + 1 + 1 + 1, oB2) (by k_mem))
              have k7 := neN (off13 (s₁.heap.objs.size + 1 + 1, oM) (by k_mem))
              have k8 := neN (off13 (s₁.heap.objs.size + 1, oP) (by k_mem))
              have k9 := neN (off13 (I, oI) (by k_mem))
              have k10 := neN (off13 (D₂, lst ys9) (by k_mem))
              dsimp only at k1 k2 k3 k4 k5 k6 k7 k8 k9 k10
              k_steps
              unfold Stop
              have hasl : as.length = i := by rw [has.length, hrl]
              have hstl : sv.length = i := by rw [hsv.length, hfit.length, hrl]
              refine append_U (vs := as.map Value.ref) (n := n) F13 N13 (by rw [List.length_map, hasl]; exact sl5 (Nat.le_of_lt (Nat.lt_of_lt_of_le hi9 hK5))) (by k_upd) fun h14 F14 N14 => ?_
              have hyl : ys.length = us.length := hus.length
              have hy0 : 0 < ys.length := by rw [hyl]; exact hup (by rw [List.size_toArray, hz9.length, hz8]; exact hP0)
              have hy3 : ys.length ≤ 3 := by rw [List.size_toArray, hz9.length, hz8] at hul; rw [hyl]; exact Nat.le_trans hul hP3
              refine hide fun G hG => ?_
              obtain ⟨hy0i, hy3i, hy3n, hy62⟩ := b17 hy0 hy3
              refine hG ?_
              clear hG G
              k_steps
              unfold Stop
              refine item_lastN (vi := as.map Value.ref) (n := n + 1) (by assumption) (by k_mem) ?_
              k_steps
              unfold Stop
              refine item_lastN (vi := as.map Value.ref) (n := n + 1) (by assumption) (by k_mem) ?_
              k_steps
              unfold Stop
              refine len_N (vs := ys) (n := ys.length) (by assumption) (show (D₃, lst ys) ∈ _ by k_mem) hy3n ?_
              k_steps
              rename (_ < ((ys.length : Nat) : Int)) => v91
              rename ((0 : Int) ≤ _) => v90
              unfold Stop
              refine item_lstN (ns := us) (vs := ys) (n := ys.length) (by assumption) (show (D₃, lst ys) ∈ _ by k_mem) hus v90 (hyl ▸ v91) (hyl ▸ hy62) fun tv9 => ?_
              k_steps
              unfold Stop
              refine append_U (vs := sv) (n := sn) (by assumption) (by assumption) (by rw [hstl]; exact sl5 (Nat.le_of_lt (Nat.lt_of_lt_of_le hi9 hK5))) (by k_upd) fun h16 F16 N16 => ?_
              k_steps
              rename Obj.IsDictOf _ _ _ => hd16
              rename_i o16 _ _
              have hmem : us.getD _ 0 ∈ us := getD_mem v90 (hyl ▸ v91)
              refine TurnEnd.intro ((aL, LO (List.map Value.ref as ++ [Value.ref D₃]) (n + 1)) :: (sL, LO (sv ++ [Value.int _ tv9]) (sn + 1)) :: (d, o16) :: (s₁.heap.objs.size + 1 + 1 + 1 + 1 + 1, oR2) :: (s₁.heap.objs.size + 1 + 1 + 1 + 1, oS2) :: (s₁.heap.objs.size + 1 + 1 + 1, oB2) :: (s₁.heap.objs.size + 1 + 1, oM) :: (s₁.heap.objs.size + 1, oP) :: (D₃, lst ys) :: tl') F16 N16 ?sub ?off
                ⟨o16, _, _, as ++ [D₃], n + 1, sv ++ [Value.int _ tv9], sn + 1, oR2, oS2, oB2, _, _, _, (D₃, lst ys) :: tl', rows ++ [us], sts ++ [_], ma, ms, ml, by rw [List.map_append]; rfl, dR2, dS2, dB2, hd16, bd4, b13 b2, hrok'.mono fun p hp => .tail _ hp, ?of1, ?lw, hsv.append (.cons _ _ .nil),
                  (has.mono fun _ _ q => ?lm).snoc ⟨ys, ys.length, hus, .head _⟩, All2.snoc (R := fun (o : Int) (r : List Int) => o ∈ r) hmem hfit, by simp [hrl], ?rr⟩
              case lw => obtain ⟨e1, e2, e3, e4⟩ := hlw; exact ⟨e1, e2, e3, .tail _ e4⟩
              case lm => obtain ⟨e1, e2, e3, e4⟩ := q; exact ⟨e1, e2, e3, .tail _ e4⟩
              case rr =>
                intro r hr
                rcases List.mem_append.mp hr with hr | hr
                · exact hrr r hr
                · rw [List.mem_singleton] at hr
                  subst hr
                  exact ⟨hyl ▸ hy3, hur⟩
              case of1 =>
                exact fc (fc k1.symm (fc k2.symm (fc k3.symm (fc k4.symm (fc k5.symm (fc k6.symm (fc k7.symm (fc k8.symm (fun _ h => nomatch h))))))))) fun p hp => hoff p hp
              case off =>
                refine fc (i1) ?_
                refine fc (i2) ?_
                refine fc (i3) ?_
                refine fc (i4) ?_
                refine fc (i5) ?_
                refine fc (i6) ?_
                refine fc (i7) ?_
                refine fc (i8) ?_
                refine fc (k9.symm) ?_
                intro p hp
                · exact t9 p hp
              case sub =>
                iterate 10 refine fc (by k_mem) ?_
                intro p hp
                repeat (first | exact hp | refine List.Mem.tail _ ?_)
        · rintro m₁ nw h tk hz4 F N
          refine hide fun G hG => ?_
          obtain ⟨oD, a, ta, as, n, sv, sn, oR, oS, oB, vR, vS, vB, tl', rows, sts, ma, ms, ml, rfl, hoR, hoS, hoB, hdd, b1, b2, hrok', hoff, hlw, hsv, has, hfit, hrl, hrr⟩ := hz4
          refine hG ?_
          clear hG G
          clear hrok y1 y2 y3 y4 y5 y6 y7 y8 hd5 hdD
          have hasl : as.length = K := by rw [has.length, hrl]
          have hstl : sv.length = K := by rw [hsv.length, hfit.length, hrl]
          k_steps
          unfold Stop
          refine EvalU F (cl := []) (by with_unfolding_all rfl) (by decide) rfl (by decide) rfl ?_
          k_steps
          unfold Stop
          let C4 : Nat → List Value → Led → Prop :=
              fun k ys nw => ∃ bs tl2, ys = List.map Value.ref bs ∧ nw = (aL, LO (List.map Value.ref as) n) :: (sL, LO sv sn) :: (d, oD) :: (s₁.heap.objs.size + 1 + 1 + 1 + 1 + 1, oR) :: (s₁.heap.objs.size + 1 + 1 + 1 + 1, oS) :: (s₁.heap.objs.size + 1 + 1 + 1, oB) :: (s₁.heap.objs.size + 1 + 1, oM) :: (s₁.heap.objs.size + 1, oP) :: tl2 ∧
                (∀ p ∈ tl', p ∈ tl2) ∧ All2 (LstIn tl2) bs (rows.take k) ∧ (∀ p ∈ tl2, ∀ x ∈ [aL, sL, d, s₁.heap.objs.size + 1 + 1 + 1 + 1 + 1, s₁.heap.objs.size + 1 + 1 + 1 + 1, s₁.heap.objs.size + 1 + 1 + 1, s₁.heap.objs.size + 1 + 1, s₁.heap.objs.size + 1], p.1 ≠ x)
          refine ex5 _ _ _ ((aL, LO (List.map Value.ref as) n) :: (sL, LO sv sn) :: (d, oD) :: (s₁.heap.objs.size + 1 + 1 + 1 + 1 + 1, oR) :: (s₁.heap.objs.size + 1 + 1 + 1 + 1, oS) :: (s₁.heap.objs.size + 1 + 1 + 1, oB) :: (s₁.heap.objs.size + 1 + 1, oM) :: (s₁.heap.objs.size + 1, oP) :: tl') C4 ⟨Src.list rfl F N (.inr ⟨_, .head _, rfl, _, rfl⟩), by rw [List.size_toArray, List.length_map, hasl]; exact sl5 hK5, F, N, ?_, ⟨[], tl', rfl, rfl, fun _ h => h, .nil, hoff⟩, ?_, ?_⟩
          · rintro k ys nw ⟨bs, tl2, rfl, rfl, _⟩
            exact .inr ⟨_, .head _, rfl, _, rfl⟩
          · rintro k v I oI C oC D₂ m₂ h9 tk9 ys nw E' hk hv hz15 hC hm F N off
            refine hide fun G hG => ?_
            obtain ⟨bs, tl2, rfl, rfl, hsub, hbs, hoff2⟩ := hz15
            refine hG ?_
            clear hG G
            obtain ⟨r, hr, rfl⟩ := refs_at (by simpa using hv)
            refine hide fun G hG => ?_
            obtain ⟨row, hrow, vs9, n9, hi9, hm9⟩ := has.get k r hr
            refine hG ?_
            clear hG G
            try simp only [List.cons_append, List.nil_append] at N
            have hrl3 := (hrr row (List.mem_of_getElem? hrow)).1
            k_steps
            unfold Stop
            refine kup_listOf (b := r) (its2 := vs9.toArray) (n2 := n9) (zs := vs9) F N ?_ rfl (fun D₃ c h' F' N' l1 => ?_) (by show vs9.length ≤ _; rw [hi9.length]; exact sl3 hrl3)
            · exact .tail _ (.tail _ (.tail _ (.tail _ (.tail _ (.tail _ (.tail _ (.tail _ (.tail _ (.tail _ (.tail _ (hsub _ hm9)))))))))))
            refine ⟨_, _, (aL, LO (List.map Value.ref as) n) :: (sL, LO sv sn) :: (d, oD) :: (s₁.heap.objs.size + 1 + 1 + 1 + 1 + 1, oR) :: (s₁.heap.objs.size + 1 + 1 + 1 + 1, oS) :: (s₁.heap.objs.size + 1 + 1 + 1, oB) :: (s₁.heap.objs.size + 1 + 1, oM) :: (s₁.heap.objs.size + 1, oP) :: (D₃, LO vs9 c) :: tl2, rfl, F', ?nn, ?of,
              ⟨bs ++ [D₃], (D₃, LO vs9 c) :: tl2, by simp, rfl, fun p hp => .tail _ (hsub p hp), ?al, ?o8⟩⟩
            case nn =>
              iterate 12 refine fc (N' _ (by k_mem)) ?_
              intro p hp
              exact N' p (by repeat (first | exact hp | refine List.Mem.tail _ ?_))
            case of =>
              iterate 8 refine fc (fun q hq => off _ (by k_mem) q hq) ?_
              refine fc (fun q hq => by
                  refine Ne.symm (Nat.ne_of_lt (l1 q ?_))
                  simp only [List.mem_cons, List.not_mem_nil, or_false] at hq
                  rcases hq with rfl | rfl | rfl <;> k_mem) ?_
              intro p hp q hq
              · exact off p (by repeat (first | exact hp | refine List.Mem.tail _ ?_)) q hq
            case al =>
              have e : List.take (k + 1) rows = List.take k rows ++ [row] := by rw [List.take_add_one, hrow]; rfl
              rw [e]
              exact All2.snoc ⟨vs9, c, hi9, .head _⟩ (hbs.mono fun _ _ q => by obtain ⟨e1, e2, e3, e4⟩ := q; exact ⟨e1, e2, e3, .tail _ e4⟩)
            case o8 =>
              refine fc ?_ fun p hp => hoff2 p hp
              refine fc (Ne.symm (Nat.ne_of_lt (l1 (aL, LO (List.map Value.ref as) n) (by k_mem)))) ?_
              refine fc (Ne.symm (Nat.ne_of_lt (l1 (sL, LO sv sn) (by k_mem)))) ?_
              refine fc (Ne.symm (Nat.ne_of_lt (l1 (d, oD) (by k_mem)))) ?_
              refine fc (Ne.symm (Nat.ne_of_lt (l1 (s₁.heap.objs.size + 1 + 1 + 1 + 1 + 1, oR) (by k_mem)))) ?_
              refine fc (Ne.symm (Nat.ne_of_lt (l1 (s₁.heap.objs.size + 1 + 1 + 1 + 1, oS) (by k_mem)))) ?_
              refine fc (Ne.symm (Nat.ne_of_lt (l1 (s₁.heap.objs.size + 1 + 1 + 1, oB) (by k_mem)))) ?_
              refine fc (Ne.symm (Nat.ne_of_lt (l1 (s₁.heap.objs.size + 1 + 1, oM) (by k_mem)))) ?_
              refine fc (Ne.symm (Nat.ne_of_lt (l1 (s₁.heap.objs.size + 1, oP) (by k_mem)))) ?_
              exact fun _ h => nomatch h
          · rintro D₂ h9 tk9 ys nw F9 N9 off9 hz8
            refine hide fun G hG => ?_
            obtain ⟨bs, tl2, rfl, rfl, hsub, hbs, hoff2⟩ := hz8
            refine hG ?_
            clear hG G
            rw [List.size_toArray, List.length_map, hasl, ← hrl, List.take_length] at hbs
            have hbl : bs.length = K := by rw [hbs.length, hrl]
            have j1 := neN (off9 (aL, LO (as.map .ref) n) (by k_mem))
            have j2 := neN (off9 (sL, LO sv sn) (by k_mem))
            have j3 := neN (off9 (d, oD) (by k_mem))
            have j4 := neN (off9 (s₁.heap.objs.size + 1 + 1 + 1 + 1 + 1, oR) (by k_mem))
            have j5 := neN (off9 (s₁.heap.objs.size + 1 + 1 + 1 + 1, oS) (by k_mem))
            have j6 := neN (off9 (s₁.heap.objs.size + 1 + 1 + 1, oB) (by k_mem))
            have j7 := neN (off9 (s₁.heap.objs.size + 1 + 1, oM) (by k_mem))
            have j8 := neN (off9 (s₁.heap.objs.size + 1, oP) (by k_mem))
            dsimp only at j1 j2 j3 j4 j5 j6 j7 j8
            k_steps
            rename Fr _ _ _ _ => F20
            rename News _ _ _ _ => N20
            unfold Stop
            refine hide fun G hG => ?_
            obtain ⟨zv, zn, hzv, hzm⟩ := hlw
            refine hG ?_
            clear hG G
            have hzvl : zv.length = M := by rw [hzv.length, hzl]
            refine call_cls (K := Mine.hd.heap_39 w.params) (C := 73) (fI := 35) F20 KX N20 (by k_is) (by k_is) (by k_is) fun x dx h20 F21 N21 l20 l21 => ?_
            have hab := (N21 (D₂, LO (List.map Value.ref bs) (List.map Value.ref bs).length) (by k_mem)).1
            have hlo9 := (N21 (D, LO zv zn) (by have z := hsub _ hzm; repeat (first | exact z | refine List.Mem.tail _ ?_))).1
            have hDdx : D < dx := l20 (D, LO zv zn) (by have z := hsub _ hzm; repeat (first | exact z | refine List.Mem.tail _ ?_))
            have hD₂dx : D₂ < dx := l20 (D₂, LO (List.map Value.ref bs) (List.map Value.ref bs).length) (by k_mem)
            refine init_call (x := x) (dx := dx) (avs := List.map Value.ref bs) (lvs := zv) (G9.at F21) (ours_of (muts := [(x, instObj 73 dx), (dx, dictOf [] 0)]) G9 N21 fun p hp => ?_) hab hlo9 (by rw [List.length_map, hbl]; exact Nat.lt_of_le_of_lt hK5 (by decide)) (by rw [hzvl]; exact Nat.lt_of_le_of_lt hM4 (by decide)) (by first | (show callerA.depth + 1 < 900; decide) | (show callerA.depth + 1 + 1 < 900; decide)) ?_ ?_
            · simp only [List.mem_cons, List.not_mem_nil, or_false] at hp
              rcases hp with rfl | rfl <;> k_mem
            · refine ⟨?_, ?_, ?_, ?_, ?_⟩
              · exact Nat.ne_of_lt (Nat.lt_trans hD₂dx l21)
              · exact Nat.ne_of_lt hD₂dx
              · exact Nat.ne_of_lt (Nat.lt_trans hDdx l21)
              · exact Nat.ne_of_lt hDdx
              · exact Nat.ne_of_gt l21
            · intro h22 tk22 t₁ t₂ t₃ t₄ t₅ n2 at0 cn0 kb22 hdx22
              refine ⟨rfl, ?_⟩
              have Ndx := N21 (dx, dictOf [] 0) (by k_mem)
              obtain ⟨hiA, hdx22⟩ : ∃ q, h22.get? dx = some (instD w t₁ t₂ t₃ t₄ t₅ n2 D₂ D q at0 cn0) := ⟨_, hdx22⟩
              dsimp only at kb22 Ndx
              have F22 : Fr s₁.heap s₁.heap.objs.size h22 m₁ := fr_after F21 kb22 (by simpa using Ne.symm Ndx.2.1) (fun a ha => by rw [List.mem_singleton] at ha; subst ha; exact Ndx.2.2)
              have N22 : News s₁.heap s₁.heap.objs.size h22 ((x, instObj 73 dx) :: (dx, instD w t₁ t₂ t₃ t₄ t₅ n2 D₂ D hiA at0 cn0) :: (D₂, lst (List.map Value.ref bs)) :: (aL, LO (List.map Value.ref as) n) :: (sL, LO sv sn) :: (d, oD) :: (s₁.heap.objs.size + 1 + 1, oM) :: (s₁.heap.objs.size + 1, oP) :: tl2) := by
                have old : ∀ p : Addr × Obj, p ∈ (x, instObj 73 dx) :: (dx, dictOf [] 0) :: _ → p.1 ≠ dx → h22.get? p.1 = some p.2 ∧ p.1 ≠ s₁.heap.objs.size ∧ s₁.heap.get? p.1 = none := fun p hp hne => ⟨kb22 _ _ (N21 p hp).1 (by simpa using hne), (N21 p hp).2⟩
                have lt9 : ∀ p : Addr × Obj, p ∈ _ → p.1 ≠ dx := fun p hp => Nat.ne_of_lt (l20 p hp)
                refine fc (old _ (by k_mem) (Nat.ne_of_gt l21)) ?_
                refine fc (⟨hdx22, Ndx.2⟩) ?_
                iterate 6 refine fc (old _ (by k_mem) (lt9 _ (by k_mem))) ?_
                intro p hp
                · exact old _ (by repeat (first | exact hp | refine List.Mem.tail _ ?_)) (lt9 _ (by repeat (first | exact hp | refine List.Mem.tail _ ?_)))
              have x1 := neN (Nat.ne_of_gt (l20 (aL, LO (List.map Value.ref as) n) (by k_mem)))
              have x2 := neN (Nat.ne_of_gt (l20 (sL, LO sv sn) (by k_mem)))
              have x3 := neN (Nat.ne_of_gt (l20 (d, oD) (by k_mem)))
              have x4 := neN (Nat.ne_of_gt (l20 (s₁.heap.objs.size + 1 + 1, oM) (by k_mem)))
              have x5 := neN (Nat.ne_of_gt (l20 (s₁.heap.objs.size + 1, oP) (by k_mem)))
              have x6 := neN (Nat.ne_of_gt hD₂dx)
              have x7 := neN (Nat.ne_of_gt l21)
              have z1 := neN (Nat.ne_of_gt (Nat.lt_trans (l20 (aL, LO (List.map Value.ref as) n) (by k_mem)) l21))
              have z2 := neN (Nat.ne_of_gt (Nat.lt_trans (l20 (sL, LO sv sn) (by k_mem)) l21))
              have z3 := neN (Nat.ne_of_gt (Nat.lt_trans (l20 (d, oD) (by k_mem)) l21))
              have z4 := neN (Nat.ne_of_gt (Nat.lt_trans (l20 (s₁.heap.objs.size + 1 + 1, oM) (by k_mem)) l21))
              have z5 := neN (Nat.ne_of_gt (Nat.lt_trans (l20 (s₁.heap.objs.size + 1, oP) (by k_mem)) l21))
              have z6 := neN (Nat.ne_of_gt (Nat.lt_trans hD₂dx l21))
              have t1 : ∀ p ∈ tl2, p.1 ≠ aL := fun p hp => hoff2 p hp _ (by simp)
              have t2 : ∀ p ∈ tl2, p.1 ≠ sL := fun p hp => hoff2 p hp _ (by simp)
              have t3 : ∀ p ∈ tl2, p.1 ≠ d := fun p hp => hoff2 p hp _ (by simp)
              have t7 : ∀ p ∈ tl2, p.1 ≠ s₁.heap.objs.size + 1 + 1 := fun p hp => hoff2 p hp _ (by simp)
              have t8 : ∀ p ∈ tl2, p.1 ≠ s₁.heap.objs.size + 1 := fun p hp => hoff2 p hp _ (by simp)
              have t9 : ∀ p ∈ tl2, p.1 ≠ D₂ := fun p hp => off9 p (by repeat (first | exact hp | refine List.Mem.tail _ ?_))
              have t10 : ∀ p ∈ tl2, p.1 ≠ dx := fun p hp => Nat.ne_of_lt (l20 p (by repeat (first | exact hp | refine List.Mem.tail _ ?_)))
              have t11 : ∀ p ∈ tl2, p.1 ≠ x := fun p hp => Nat.ne_of_lt (Nat.lt_trans (l20 p (by repeat (first | exact hp | refine List.Mem.tail _ ?_))) l21)
              dsimp only at x1 x2 x3 x4 x5 x6 x7 z1 z2 z3 z4 z5 z6
              have has2 : All2 (LstIn tl2) as rows := has.mono fun _ _ q => by obtain ⟨e1, e2, e3, e4⟩ := q; exact ⟨e1, e2, e3, hsub _ e4⟩
              have hrok2 : RowOk s₁.heap tl2 lr ns := hrok'.mono hsub
              have hzm2 : (D, LO zv zn) ∈ tl2 := hsub _ hzm
              clear N21 N20 F20 F21 l20 hoff2 hoff has hrok' hzm hsub kb22 hab hlo9 off9
              dsimp only
              k_steps
              rename Fr _ _ _ _ => F23
              rename News _ _ _ _ => N23
              unfold Stop
              refine ways_call (rows := rows) (G9.at F23) ⟨as, n, (N23 (aL, LO (List.map Value.ref as) n) (by k_mem)).1, has2.mono fun a b q => ?_⟩ (by rw [hrl]; exact hK5) (fun r hr => (hrr r hr).1) (by show callerA.depth + 1 < 900; decide) (by show callerA.units + 3 < 1000; decide) ?_
              · refine hide fun G hG => ?_
                obtain ⟨e1, e2, e3, e4⟩ := q
                refine hG ?_
                clear hG G
                exact ⟨e1, e2, e3, (N23 (a, LO e1 e2) (by repeat (first | exact e4 | refine List.Mem.tail _ ?_))).1⟩
              intro wl h24 tk24 tlw was wn kbw htlw hwl hways
              have F24 := fr_after0 F23 kbw
              have N24 := news_after0 N23 kbw
              have Nw := news_tl F23 htlw
              have u1 := off_tl N23 htlw (c := aL) (o := LO (List.map Value.ref as) n) (by k_mem)
              have u2 := off_tl N23 htlw (c := sL) (o := LO sv sn) (by k_mem)
              have u3 := off_tl N23 htlw (c := d) (o := oD) (by k_mem)
              have u7 := off_tl N23 htlw (c := s₁.heap.objs.size + 1 + 1) (o := oM) (by k_mem)
              have u8 := off_tl N23 htlw (c := s₁.heap.objs.size + 1) (o := oP) (by k_mem)
              have u9 := off_tl N23 htlw (c := D₂) (o := lst (List.map Value.ref bs)) (by k_mem)
              have u10 := off_tl N23 htlw (c := dx) (o := instD w t₁ t₂ t₃ t₄ t₅ n2 D₂ D hiA at0 cn0) (by k_mem)
              have u11 := off_tl N23 htlw (c := x) (o := instObj 73 dx) (by k_mem)
              obtain ⟨tl3, htl3⟩ : ∃ tl3, tl3 = tlw ++ tl2 := ⟨_, rfl⟩
              have sub1 : ∀ p ∈ tlw, p ∈ tl3 := fun p hp => htl3 ▸ List.mem_append_left _ hp
              have sub2 : ∀ p ∈ tl2, p ∈ tl3 := fun p hp => htl3 ▸ List.mem_append_right _ hp
              have or3 : ∀ p ∈ tl3, p ∈ tlw ∨ p ∈ tl2 := fun p hp => List.mem_append.mp (htl3 ▸ hp)
              have t1 : ∀ p ∈ tl3, p.1 ≠ aL := fun p hp => (or3 p hp).elim (u1 p) (t1 p)
              have t2 : ∀ p ∈ tl3, p.1 ≠ sL := fun p hp => (or3 p hp).elim (u2 p) (t2 p)
              have t3 : ∀ p ∈ tl3, p.1 ≠ d := fun p hp => (or3 p hp).elim (u3 p) (t3 p)
              have t7 : ∀ p ∈ tl3, p.1 ≠ s₁.heap.objs.size + 1 + 1 := fun p hp => (or3 p hp).elim (u7 p) (t7 p)
              have t8 : ∀ p ∈ tl3, p.1 ≠ s₁.heap.objs.size + 1 := fun p hp => (or3 p hp).elim (u8 p) (t8 p)
              have t9 : ∀ p ∈ tl3, p.1 ≠ D₂ := fun p hp => (or3 p hp).elim (u9 p) (t9 p)
              have t10 : ∀ p ∈ tl3, p.1 ≠ dx := fun p hp => (or3 p hp).elim (u10 p) (t10 p)
              have t11 : ∀ p ∈ tl3, p.1 ≠ x := fun p hp => (or3 p hp).elim (u11 p) (t11 p)
              have has3 : All2 (LstIn tl3) as rows := has2.mono fun _ _ q => by obtain ⟨e1, e2, e3, e4⟩ := q; exact ⟨e1, e2, e3, sub2 _ e4⟩
              have hbs3 : All2 (LstIn tl3) bs rows := hbs.mono fun _ _ q => by obtain ⟨e1, e2, e3, e4⟩ := q; exact ⟨e1, e2, e3, sub2 _ e4⟩
              have hways3 : All2 (TupIn tl3) was (waysOf rows) := hways.mono fun _ _ q => by obtain ⟨e1, e2, e3, e4⟩ := q; exact ⟨e1, e2, e3, sub1 _ e4⟩
              have hrok3 : RowOk s₁.heap tl3 lr ns := hrok2.mono sub2
              have hzm3 : (D, LO zv zn) ∈ tl3 := sub2 _ hzm2
              have hwl3 : (wl, LO (List.map Value.ref was) wn) ∈ tl3 := sub1 _ hwl
              have N25 : News s₁.heap s₁.heap.objs.size h24 ((x, instObj 73 dx) :: (dx, instD w t₁ t₂ t₃ t₄ t₅ n2 D₂ D hiA at0 cn0) :: (D₂, lst (List.map Value.ref bs)) :: (aL, LO (List.map Value.ref as) n) :: (sL, LO sv sn) :: (d, oD) :: (s₁.heap.objs.size + 1 + 1, oM) :: (s₁.heap.objs.size + 1, oP) :: tl3) := by
                iterate 8 refine fc (N24 _ (by k_mem)) ?_
                intro p hp
                rcases or3 p hp with hp | hp
                · exact Nw p hp
                · exact N24 p (by repeat (first | exact hp | refine List.Mem.tail _ ?_))
              clear N24 Nw F23 N23 htlw or3 htl3 u1 u2 u3 u7 u8 u9 u10 u11 has2 hbs hways hrok2 hzm2 hwl sub1 sub2 kbw
              k_steps
              rename Fr _ _ _ _ => F26
              rename News _ _ _ _ => N26
              unfold Stop
              refine kup_listOf (b := sL) (its2 := sv.toArray) (n2 := sn) (zs := sv) F26 (fun p hp => N26 p (.tail _ hp)) (by k_mem) rfl (fun aA c28 h28 F28 N28 l28 => ?_) (by show sv.length ≤ _; rw [hstl]; exact sl5 hK5)
              k_steps
              rename Fr _ _ _ _ => F29
              rename News _ _ _ _ => N29
              unfold Stop
              refine counts_call (many := M) (sts := sts) (G9.at F29) (.inl ⟨sv, sn, hsv, (N29 (sL, LO sv sn) (by k_mem)).1⟩) (by rw [← hsv.length, hstl]; exact Nat.lt_of_le_of_lt hK5 (by decide)) (Nat.lt_of_le_of_lt hM4 (by decide)) (by show callerA.depth + 1 < 900; decide) (by show callerA.units + 3 < 1000; decide) ?_
              intro cA h30 tk30 kb30 hnew30 hlst30
              refine hide fun G hG => ?_
              obtain ⟨cv, cnn, hcv, hcA⟩ := hlst30
              refine hG ?_
              clear hG G
              have F30 := fr_after0 F29 kb30
              have N30 := news_new F29 (news_after0 N29 kb30) hnew30 hcA
              have off30 := off_new N29 hnew30
              have v1 := neN (Ne.symm (off30 (aL, LO (List.map Value.ref as) n) (by k_mem)))
              have v2 := neN (Ne.symm (off30 (sL, LO sv sn) (by k_mem)))
              have v3 := neN (Ne.symm (off30 (d, oD) (by k_mem)))
              have v4 := neN (Ne.symm (off30 (s₁.heap.objs.size + 1 + 1, oM) (by k_mem)))
              have v5 := neN (Ne.symm (off30 (s₁.heap.objs.size + 1, oP) (by k_mem)))
              have v6 := neN (Ne.symm (off30 (D₂, lst (List.map Value.ref bs)) (by k_mem)))
              have v7 := neN (Ne.symm (off30 (dx, instD w t₁ t₂ t₃ t₄ t₅ n2 D₂ D hiA at0 cn0) (by k_mem)))
              have v8 := neN (Ne.symm (off30 (x, instObj 73 dx) (by k_mem)))
              have v9 := neN (Ne.symm (off30 (aA, LO sv c28) (by k_mem)))
              have q1 := neN (Nat.ne_of_gt (l28 (aL, LO (List.map Value.ref as) n) (by k_mem)))
              have q2 := neN (Nat.ne_of_gt (l28 (sL, LO sv sn) (by k_mem)))
              have q3 := neN (Nat.ne_of_gt (l28 (d, oD) (by k_mem)))
              have q4 := neN (Nat.ne_of_gt (l28 (s₁.heap.objs.size + 1 + 1, oM) (by k_mem)))
              have q5 := neN (Nat.ne_of_gt (l28 (s₁.heap.objs.size + 1, oP) (by k_mem)))
              have q6 := neN (Nat.ne_of_gt (l28 (D₂, lst (List.map Value.ref bs)) (by k_mem)))
              have q7 := neN (Nat.ne_of_gt (l28 (dx, instD w t₁ t₂ t₃ t₄ t₅ n2 D₂ D hiA at0 cn0) (by k_mem)))
              have q8 := neN (Nat.ne_of_gt (l28 (x, instObj 73 dx) (by k_mem)))
              have t12 : ∀ p ∈ tl3, p.1 ≠ aA := fun p hp => Nat.ne_of_lt (l28 p (by repeat (first | exact hp | refine List.Mem.tail _ ?_)))
              have t13 : ∀ p ∈ tl3, p.1 ≠ cA := fun p hp => off30 p (by repeat (first | exact hp | refine List.Mem.tail _ ?_))
              dsimp only at v1 v2 v3 v4 v5 v6 v7 v8 v9 q1 q2 q3 q4 q5 q6 q7 q8
              clear N29 F29 kb30 hnew30 off30 l28 hcA
              k_steps
              rename Fr _ _ _ _ => F31
              rename News _ _ _ _ => N31
              unfold Stop
              have N32 : News s₁.heap s₁.heap.objs.size _ _ := fun p hp => N31 p (.tail _ hp)
              clear N31
              have y1 : ∀ p ∈ (D₂, lst (List.map Value.ref bs)) :: (aL, LO (List.map Value.ref as) n) :: (sL, LO sv sn) :: (d, oD) :: (s₁.heap.objs.size + 1 + 1, oM) :: (s₁.heap.objs.size + 1, oP) :: tl3, p.1 ≠ dx :=
                List.forall_mem_cons.mpr ⟨x6.symm, List.forall_mem_cons.mpr ⟨x1.symm, List.forall_mem_cons.mpr ⟨x2.symm, List.forall_mem_cons.mpr ⟨x3.symm, List.forall_mem_cons.mpr ⟨x4.symm, List.forall_mem_cons.mpr ⟨x5.symm, t10⟩⟩⟩⟩⟩⟩
              k_dflt (refine' set_dict (es' := instE w t₁ t₂ t₃ t₄ t₅ D₂ D hiA aA cn0) (n' := n2) ?k1 ?k2 ?k3 ?k4 ?k5 ?k6 ?k7 ?k8 ?k9 ?k10 ?k11 ?k12 ?k13 ?_)
              case k1 => k_asm
              case k2 => k_asm
              case k3 => k_asm
              case k4 => k_inst
              case k5 => exact rfl
              case k6 => k_is
              case k7 => k_is
              case k8 => k_is
              case k9 => k_is
              case k10 => k_get
              case k11 => exact put_at ..
              case k12 => exact .tail v7 (.tail q7 (.tail x7 (.head y1)))
              case k13 => exact Nat.le_of_ble_eq_true rfl
              intro h32 F32 N33
              clear F31 N32
              k_steps
              unfold Stop
              k_dflt (refine' set_dict (es' := instE w t₁ t₂ t₃ t₄ t₅ D₂ D hiA aA cA) (n' := n2) ?k1 ?k2 ?k3 ?k4 ?k5 ?k6 ?k7 ?k8 ?k9 ?k10 ?k11 ?k12 ?k13 ?_)
              case k1 => k_asm
              case k2 => k_asm
              case k3 => k_asm
              case k4 => k_inst
              case k5 => exact rfl
              case k6 => k_is
              case k7 => k_is
              case k8 => k_is
              case k9 => k_is
              case k10 => k_get
              case k11 => exact put_counts ..
              case k12 => exact .tail v7 (.tail q7 (.tail x7 (.head y1)))
              case k13 => exact Nat.le_of_ble_eq_true rfl
              intro h34 F34 N34
              clear F32 N33
              k_steps
              unfold Stop
              have w1 : D₂ ≠ d := j3.symm
              have w2 : aL ≠ d := neN (Nat.ne_of_gt lA.1)
              have w3 : sL ≠ d := neN (Nat.ne_of_gt lS.2.1)
              obtain ⟨w4, w5⟩ := off5 hdl
              clear y1
              have hM0 : (0 : Int) < (M : Int) := Int.ofNat_lt.mpr (Nat.lt_of_lt_of_le (by decide) hM2)
              have hM9 : (M : Int) < 1000 := Int.ofNat_lt.mpr (Nat.lt_of_le_of_lt hM4 (by decide))
              have b4 : a + 1 ≤ 200 + 10 * ((0 : Nat) : Int) := (b19 b2 hK5).1
              have b3 : a < 1000 := (b19 b2 hK5).2
              let B2 :=
                  fun (oD : Obj) (a : Int) (ta : Tok) (avs : List Value) (an : Nat) (cvs : List Value) (cn : Nat) (ats : List Int) (i : Nat) (m : Str → Option Value) (nw : Led) =>
                    (m (Str.ofString "placing") = some (.ref x) ∧ m (Str.ofString "ways") = some (.ref wl) ∧ m (Str.ofString "able") = some (.ref aL) ∧ m (Str.ofString "lows") = some (.ref D) ∧
                    nw = (cA, LO cvs cn) :: (aA, LO avs an) :: (x, instObj 73 dx) :: (dx, instD w t₁ t₂ t₃ t₄ t₅ n2 D₂ D hiA aA cA) :: (D₂, lst (List.map Value.ref bs)) :: (aL, LO (List.map Value.ref as) n) :: (d, oD) :: (s₁.heap.objs.size + 1 + 1, oM) :: (s₁.heap.objs.size + 1, oP) :: tl3 ∧
                    Obj.IsDictOf (PySem.strKind PySem.Challenge.rw_pc0025_01.row.prog w) oD [(Str.ofString "row", Value.ref lr), (Str.ofString "at", Value.int a ta)] ∧ -1 ≤ a ∧ a ≤ 200 + 10 * (i : Int) ∧
                    IntsAre avs ats ∧ IntsAre cvs (countsOf ats M) ∧ Fits ats rows : Prop)
              let J2 : Nat → (Str → Option Value) → Led → Prop :=
                  fun i m nw => ∃ oD a ta avs an cvs cn ats, B2 oD a ta avs an cvs cn ats i m nw
              refine For_rng (h₀ := s₁.heap) (L := s₁.heap.objs.size) J2 rfl rfl ?_
              k_steps
              rename IsRange _ _ _ _ _ _ _ _ => hR9
              rename Fr _ _ _ _ => F36
              rename News _ _ _ _ => N36
              rename Obj.IsDictOf _ _ _ => hd36
              rename (_ < (3 : Int)) => g1
              rename (0 ≤ _) => g0
              rename_i lv _ _ _ _ oD3 _ _ _ _ _ _ _ _
              unfold Stop
              obtain ⟨LN, hLN⟩ : ∃ LN : Nat, 1 + lv = (LN : Int) := bex (by decide) g0
              have hLN3 : LN ≤ 3 := (b16 hLN g0 g1).2
              rw [hLN] at hR9
              refine ex9 _ _ _ _ _ _ LN _ ((cA, LO cv cnn) :: (aA, LO sv c28) :: (x, instObj 73 dx) :: (dx, instD w t₁ t₂ t₃ t₄ t₅ n2 D₂ D hiA aA cA) :: (D₂, lst (List.map Value.ref bs)) :: (aL, LO (List.map Value.ref as) n) :: (d, oD3) :: (s₁.heap.objs.size + 1 + 1, oM) :: (s₁.heap.objs.size + 1, oP) :: tl3) ⟨rfl, F36, ?_, hR9, range_small (Nat.lt_of_le_of_lt hLN3 (by decide)), range_size _,
                ⟨_, _, _, _, _, _, _, _, rfl, rfl, ma, ml, rfl, hd36, ?_, ?_, hsv, hcv, hfit⟩, ?_, ?_⟩
              · iterate 9 refine fc (N36 _ (by k_mem)) ?_
                intro p hp
                exact N36 p (by repeat (first | exact hp | refine List.Mem.tail _ ?_))
              · exact Int.le_trans b1 (Int.le_add_of_nonneg_right (by decide))
              · exact b4
              · rintro i t m₁ nw I oI h tk hi9 hz9 F N off
                refine hide fun G hG => ?_
                obtain ⟨oD2, a2, ta2, avs, an, cvs, cn, ats, mp, mw, ma2, ml2, rfl, hdd2, b5, b6, hai, hci, hft⟩ := hz9
                refine hG ?_
                clear hG G
                clear F36 N36 hd36 hR9 F34 N34 hdd
                have i3 : I ≠ d := neN (Ne.symm (off (d, oD2) (by k_mem)))
                have b7 : a2 < 1000 := b10 i LN a2 hi9 hLN3 b6
                k_steps
                rename Fr _ _ _ _ => F38
                rename News _ _ _ _ => N38
                rename Obj.IsDictOf _ _ _ => hd38
                rename (_ < (M : Int)) => g1'
                rename (0 ≤ _) => g0'
                rename_i h37 _ _ tk37 wv wt _ h38 tk38 oD4
                unfold Stop
                have hm3 : ∀ p ∈ tl3, p ∈ (I, oI) :: (cA, LO cvs cn) :: (aA, LO avs an) :: (x, instObj 73 dx) :: (dx, instD w t₁ t₂ t₃ t₄ t₅ n2 D₂ D hiA aA cA) :: (D₂, lst (List.map Value.ref bs)) :: (aL, LO (List.map Value.ref as) n) :: (d, oD4) :: (s₁.heap.objs.size + 1 + 1, oM) :: (s₁.heap.objs.size + 1, oP) :: tl3 := fun p hp => by repeat (first | exact hp | refine List.Mem.tail _ ?_)
                refine filled_call (many := M) (ables := rows) (lows := zs) (ways := waysOf rows) (ras := bs) (rn0 := (List.map Value.ref bs).length) (was := was) (wn := wn) (avs := avs) (cvs := cvs) (an := an) (cn := cn) (aA := aA) (cA := cA) (ats := ats) (cs := countsOf ats M) (G9.at F38)
                  (ours_of (muts := [(x, instObj 73 dx), (dx, instD w t₁ t₂ t₃ t₄ t₅ n2 D₂ D hiA aA cA), (aA, LO avs an), (cA, LO cvs cn)]) G9 N38 fun p hp => ?_) hai hci
                  (N38 (D₂, LO (List.map Value.ref bs) (List.map Value.ref bs).length) (by k_mem)).1 (hbs3.mono fun a b q => ?_) ⟨zv, zn, hzv, (N38 (D, LO zv zn) (hm3 _ hzm3)).1⟩ hft.length.symm hzl (countsOf_length _ _)
                  (N38 (wl, LO (List.map Value.ref was) wn) (hm3 _ hwl3)).1 (hways3.mono fun a b q => ?_) (ways_le (fun r hr => (hrr r hr).1) hrl hK5) (fun way hw => by rw [waysOf_mem rows way hw, hrl]; exact Nat.lt_of_le_of_lt hK5 (by decide)) ⟨t12 _ hwl3, t13 _ hwl3⟩
                  g0' g1' (fits_rng (fun r hr => (hrr r hr).2) hft) (fun r hr => Nat.lt_of_le_of_lt (hrr r hr).1 (by decide)) (by rw [hft.length, hrl]; exact Nat.lt_of_le_of_lt hK5 (by decide)) (Nat.lt_of_le_of_lt hM4 (by decide)) rfl rfl hft (fun r hr => (hrr r hr).2)
                  (by show callerA.depth + 1 < 880; decide) (by show callerA.units + 3 < 800; decide) ⟨x7, q8.symm, v8.symm, q7.symm, v7.symm, v9.symm⟩ ⟨q6.symm, v6.symm, t12 _ hzm3, t13 _ hzm3⟩ (fun a ha => ⟨all2_off t12 hbs3 a ha, all2_off t13 hbs3 a ha⟩) ?_
                · simp only [List.mem_cons, List.not_mem_nil, or_false] at hp
                  rcases hp with rfl | rfl | rfl | rfl <;> k_mem
                · refine hide fun G hG => ?_
                  obtain ⟨e1, e2, e3, e4⟩ := q
                  refine hG ?_
                  clear hG G
                  exact ⟨e1, e2, e3, (N38 (a, LO e1 e2) (hm3 _ e4)).1⟩
                · refine hide fun G hG => ?_
                  obtain ⟨e1, e2, e3, e4⟩ := q
                  refine hG ?_
                  clear hG G
                  exact ⟨e1, e2, e3, (N38 (a, TO e1 e2) (hm3 _ e4)).1⟩
                · intro h40 tk40 avs' an' cvs' cn' ats' kb40 hA40 hC40 hai' hci' hft'
                  have iA : I ≠ aA := neN (Ne.symm (off (aA, LO avs an) (by k_mem)))
                  have iC : I ≠ cA := neN (Ne.symm (off (cA, LO cvs cn) (by k_mem)))
                  have NA := (N38 (aA, LO avs an) (by k_mem)).2
                  have NC := (N38 (cA, LO cvs cn) (by k_mem)).2
                  have F40 : Fr s₁.heap s₁.heap.objs.size h40 _ := fr_after F38 kb40 (nin2 NA.1.symm NC.1.symm) (fun a ha => by
                    simp only [List.mem_cons, List.not_mem_nil, or_false] at ha
                    rcases ha with ha | ha <;> rw [ha]
                    · exact NA.2
                    · exact NC.2)
                  have N40 : News s₁.heap s₁.heap.objs.size h40 ((I, oI) :: (cA, LO cvs' cn') :: (aA, LO avs' an') :: (x, instObj 73 dx) :: (dx, instD w t₁ t₂ t₃ t₄ t₅ n2 D₂ D hiA aA cA) :: (D₂, lst (List.map Value.ref bs)) :: (aL, LO (List.map Value.ref as) n) :: (d, oD4) :: (s₁.heap.objs.size + 1 + 1, oM) :: (s₁.heap.objs.size + 1, oP) :: tl3) := by
                    refine fc (news_kb N38 kb40 _ (by k_mem) (nin2 iA iC)) ?_
                    refine fc (⟨hC40, NC⟩) ?_
                    refine fc (⟨hA40, NA⟩) ?_
                    refine fc (news_kb N38 kb40 _ (by k_mem) (nin2 q8.symm v8.symm)) ?_
                    refine fc (news_kb N38 kb40 _ (by k_mem) (nin2 q7.symm v7.symm)) ?_
                    refine fc (news_kb N38 kb40 _ (by k_mem) (nin2 q6.symm v6.symm)) ?_
                    refine fc (news_kb N38 kb40 _ (by k_mem) (nin2 q1.symm v1.symm)) ?_
                    refine fc (news_kb N38 kb40 _ (by k_mem) (nin2 q3.symm v3.symm)) ?_
                    refine fc (news_kb N38 kb40 _ (by k_mem) (nin2 q4.symm v4.symm)) ?_
                    refine fc (news_kb N38 kb40 _ (by k_mem) (nin2 q5.symm v5.symm)) ?_
                    intro p hp
                    · exact news_kb N38 kb40 _ (hm3 p hp) (nin2 (t12 p hp) (t13 p hp))
                  clear F38 N38 kb40 hA40 hC40
                  dsimp only
                  k_steps
                  refine TurnEnd.intro ((cA, LO cvs' cn') :: (aA, LO avs' an') :: (x, instObj 73 dx) :: (dx, instD w t₁ t₂ t₃ t₄ t₅ n2 D₂ D hiA aA cA) :: (D₂, lst (List.map Value.ref bs)) :: (aL, LO (List.map Value.ref as) n) :: (d, oD4) :: (s₁.heap.objs.size + 1 + 1, oM) :: (s₁.heap.objs.size + 1, oP) :: tl3) F40 N40 (fun _ hp => hp) ?_
                    ⟨oD4, _, _, _, _, _, _, _, mp, mw, ma2, ml2, rfl, hd38, Int.le_trans b5 (Int.le_add_of_nonneg_right (by decide)), b11 i a2 b6, hai', hci', hft'⟩
                  refine fc (iC.symm) ?_
                  refine fc (iA.symm) ?_
                  iterate 4 refine fc (off _ (by k_mem)) ?_
                  refine fc (i3.symm) ?_
                  iterate 2 refine fc (off _ (by k_mem)) ?_
                  intro p hp
                  · exact off p (by repeat (first | exact hp | refine List.Mem.tail _ ?_))
              · rintro m₁ nw h tk hz4 F N
                refine hide fun G hG => ?_
                obtain ⟨oD2, a2, ta2, avs, an, cvs, cn, ats, mp, mw, ma2, ml2, rfl, hdd2, b5, b6, hai, hci, hft⟩ := hz4
                refine hG ?_
                clear hG G
                clear F36 N36 hd36 hR9 F34 N34 hdd
                k_steps
                unfold Stop
                have hm4 : ∀ p ∈ tl3, p ∈ (cA, LO cvs cn) :: (aA, LO avs an) :: (x, instObj 73 dx) :: (dx, instD w t₁ t₂ t₃ t₄ t₅ n2 D₂ D hiA aA cA) :: (D₂, lst (List.map Value.ref bs)) :: (aL, LO (List.map Value.ref as) n) :: (d, oD2) :: (s₁.heap.objs.size + 1 + 1, oM) :: (s₁.heap.objs.size + 1, oP) :: tl3 := fun p hp => by repeat (first | exact hp | refine List.Mem.tail _ ?_)
                refine cmp_ofEq (rcAt_rows (rows := rows) (N (D₂, LO (List.map Value.ref bs) (List.map Value.ref bs).length) (by k_mem)).1 (N (aL, LO (List.map Value.ref as) n) (by k_mem)).1 (hbs3.mono fun a b q => ?_) (has3.mono fun a b q => ?_) ?_ _ _ _ _ ?_)
                · refine hide fun G hG => ?_
                  obtain ⟨e1, e2, e3, e4⟩ := q
                  refine hG ?_
                  clear hG G
                  exact ⟨e1, e2, e3, (N (a, LO e1 e2) (hm4 _ e4)).1⟩
                · refine hide fun G hG => ?_
                  obtain ⟨e1, e2, e3, e4⟩ := q
                  refine hG ?_
                  clear hG G
                  exact ⟨e1, e2, e3, (N (a, LO e1 e2) (hm4 _ e4)).1⟩
                · first | (show callerA.units + 1 < cLine; decide) | (show callerA.units + 1 + 1 < cLine; decide) | (show callerA.units + 3 + 1 < cLine; decide)
                · k_steps
                  unfold Stop
                  refine cmp_ofEq (rcAt_lst (as := zs) ⟨zv, zn, hzv, (N (D, LO zv zn) (hm4 _ hzm3)).1⟩ ?_ _ _ _ _ ?_)
                  · first | (show callerA.units < cLine; decide) | (show callerA.units + 1 < cLine; decide) | (show callerA.units + 3 < cLine; decide)
                  · k_steps)
end Mine
end

theorem PySem.Challenge.cw_pc0025_01_holds : PySem.Challenge.rw_pc0025_01.Holds := by
  exact Mine.law_holds
