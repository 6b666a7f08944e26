import PyProof.Rows.All
import Wide.All
import OpenK.AllK
import Wide.FinOn
import PySem.Challenge.RW_on0355_01
open PySem PySem.W PyProof.Rows
set_option Elab.async false
set_option compiler.extract_closed false
set_option maxRecDepth 100000
set_option maxHeartbeats 8000000
namespace Mine
set_option maxRecDepth 100000 in
set_option maxHeartbeats 8000000 in
open_top hd for PySem.Challenge.rw_on0355_01
/-- what a call comes back with -/
def RetK (s : Shared) (P : Value → Heap → Prop) (r : Result) (s' : Shared) : Prop :=
  ∃ v h' tk, r = .ok (.ret v) ∧ s' = { s with heap := h', toks := tk } ∧ s.heap.StaysIn h' ∧ P v h'

section
variable {prog : Program} {w : World} {A : Around} {s : Shared} {p : Program} {loose : List Str} {mean : ExcName → Option Value} {mg mb : Str → Option Value}

theorem code_my {K : Frag} {R : Result → Shared → Prop} {name qual : Str} {params : Arguments} {body : List Stmt} {scope : Scope} {dV kV doc pm cdv ct oc : Value} {an od : Option Addr} {osl : Array (Option Value)} {f : Addr} {args : Args} {binds : List (Str × Value)}
    (T : Top p loose mean mg mb s.heap) (X : K.In s.heap)
    (ho : K.lookup f = some ⟨oc, od, .func (fnOf name qual params body scope dV kV doc pm an cdv ct), osl⟩) (hcd : codeIn K cdv qual = true) (hroom : A.depth < recursionLimit)
    (hbind : BindsTo s (fnOf name qual params body scope dV kV doc pm an cdv ct) args binds) (hloc : ∀ y ∈ binds, scope.names.lookup y.1 = some .local)
    (hcell : ∀ x ∈ scope.names, x.2 ≠ .cell)
    (hco : scope.isCoroutine = false) (hgen : scope.isGenerator = false) (hk : scope.kind = .function)
    (h : ∀ L' h₁, Fr s.heap L' h₁ (fun y => binds.reverse.lookup y) → News s.heap L' h₁ [] →
      wpAny (model prog w) (A.deeper (envOf qual scope L' f cdv)) (execs body (envOf qual scope L' f cdv))
        (fun fl s' => R (.ok (.ret (match fl with | .ret v => v | _ => .none))) s') (fun _ _ => False)
        { s with heap := h₁, toks := s.toks + binds.length }) : codeAny (model prog w) A (.call (.ref f) args) R s := by
  refine codeAny_call_def (fd := fnOf name qual params body scope dV kV doc pm an cdv ct) (body := body) (binds := binds) hroom (X _ _ ho) rfl T.nolimit (codeRec_of X hcd) rfl hbind hcell hloc (fun h₁ hns hk₁ => ?_) hco hgen hk
  exact wpAny_mono (h s.heap.objs.size h₁ ⟨hns, hk₁, Nat.le_refl _⟩ News.nil) (fun _ _ x => x) fun _ _ x => x.elim
end

section
variable {prog : Program} {w : World} {A : Around} {E : Value → Shared → Prop} {s : Shared} {env : Env} {h₀ : Heap} {target : Expr} {body : List Stmt} {Q : Flow → Shared → Prop}

/-- a loop by an invariant over its ledger, whatever it goes over -/
theorem turns_inv {I : Addr} {fp wr : List Addr} {n : Nat} {P Md : Nat → Value → Heap → Prop} {St : Nat → Heap → Prop} {m₀ : Str → Option Value} {news : List (Addr × Obj)}
    (J : Nat → (Str → Option Value) → List (Addr × Obj) → Prop) (W : KTurns prog w A target I fp wr n P Md St)
    (hfp : ∀ b ∈ fp, b ∈ wr ∨ (∃ o, h₀.get? b = some o) ∨ ∃ o, ∀ i m nx, J i m nx → (b, o) ∈ nx)
    (halive : ∀ i h, St i h → ∀ b ∈ wr, ∃ o, h.get? b = some o)
    (hLf : env.locals ∉ fp) (hwr : ∀ b ∈ wr, h₀.get? b = none) (hnw : ∀ p ∈ news, p.1 ∉ wr) (hst : St 0 s.heap) (F : Fr h₀ env.locals s.heap m₀) (N : News h₀ env.locals s.heap news) (h0 : J 0 m₀ news)
    (turn : ∀ i v m₁ nx h tk own, i < n → P i v h → J i m₁ nx → OwnOff own (nx.map (·.1)) → (∀ b ∈ wr, ∃ o, (b, o) ∈ own) → Fr h₀ env.locals h m₁ → News h₀ env.locals h (nx ++ own) →
      wpAny (model prog w) A (assign target env v) (fun _ s₃ => wpAny (model prog w) A (execs body env) (InvPostG h₀ env.locals (J (i + 1)) own { s with heap := h, toks := tk } Q) E s₃) E { s with heap := h, toks := tk })
    (done : ∀ m' nx h' tk, J n m' nx → Fr h₀ env.locals h' m' → News h₀ env.locals h' nx → Q .next { s with heap := h', toks := tk }) :
    TurnsAt prog w A h₀ env target body Q E (.ref I) s := by
  refine ⟨I, fp, wr, n, P, Md, St, m₀, news, J, rfl, W, hLf, hwr, hnw, hst, F, N, h0, ?_, fun h' tk m' nx F' N' _ hJ => done m' nx h' tk hJ F' N'⟩
  intro i v m₁ nx h tk own hi hP hJ hoff hown hget hall hst' F₁ N₁
  let ow : List (Addr × Obj) := own.filter fun p => decide (p.1 ∈ wr)
  have how : ∀ p ∈ ow, p ∈ own ∧ p.1 ∈ wr := fun p hp => ⟨(List.mem_filter.mp hp).1, of_decide_eq_true (List.mem_filter.mp hp).2⟩
  have hsep : OwnOff ow (nx.map (·.1)) := by
    intro q hq b hb e
    obtain ⟨r, hr, rfl⟩ := List.mem_map.mp hb
    exact hoff r hr (e ▸ (how q hq).2)
  have hlive : ∀ b ∈ wr, ∃ o, (b, o) ∈ ow := by
    intro b hb
    obtain ⟨o, ho⟩ := halive _ _ hst' b hb
    exact ⟨o, List.mem_filter.mpr ⟨hall b (W.sub b hb) (hwr b hb) o ho, decide_eq_true hb⟩⟩
  have N₂ : News h₀ env.locals h (nx ++ ow) := fun p hp => N₁ p ((List.mem_append.mp hp).elim (fun x => List.mem_append.mpr (.inr x)) fun x => List.mem_append.mpr (.inl (how p x).1))
  refine wpAny_mono (turn i v m₁ nx h tk ow hi hP hJ hsep hlive F₁ N₂) (fun _ s₃ h₃ => wpAny_mono h₃ (fun f s₂ p => ?_) fun _ _ e => e) fun _ _ e => e
  have fin : InvEndG h₀ env.locals (J (i + 1)) ow { s with heap := h, toks := tk } s₂ → LoopStepU h₀ env.locals wr own (J (i + 1)) { s with heap := h, toks := tk } .next s₂ := by
    rintro ⟨h', tk', m', news', nx', e, F', N', hn, ho, ha, hm⟩
    refine ⟨rfl, h', tk', m', nx', e, F', fun p hp => ?_, fun p hp hq => ?_, hm⟩
    · rcases List.mem_append.mp hp with hp | hp
      · rcases hfp p.1 (hown p hp) with h1 | ⟨o, h1⟩ | ⟨o, h1⟩
        · exact N' p (ho p (List.mem_filter.mpr ⟨hp, decide_eq_true h1⟩))
        · have h2 := (N₁ p (List.mem_append_left _ hp)).2.2
          rw [h1] at h2; cases h2
        · have h2 := (N₁ _ (List.mem_append_right _ (h1 _ _ _ hJ))).1
          have h3 := hget p hp
          have h4 : p = (p.1, o) := by
            have : p.2 = o := by
              have q : (some p.2 : Option Obj) = some o := h3.symm.trans h2
              exact Option.some.inj q
            rw [← this]
          rw [h4]
          exact N' _ (hn _ (h1 _ _ _ hm))
      · exact N' p (hn p hp)
    · obtain ⟨o, ho'⟩ := hlive _ hq
      exact ha _ ho' p.1 (List.mem_map.mpr ⟨p, hp, rfl⟩) rfl
  cases f with
  | ret v => exact .ret p
  | brk => exact .brk p
  | next => exact .next (fin p)
  | cont => exact .cont (fin p)
end

section
variable {prog : Program} {w : World} {A : Around} {E : Value → Shared → Prop} {s : Shared} {env : Env} {h₀ : Heap} {body : List Stmt} {Q : Flow → Shared → Prop}

theorem new_at {L : Addr} {m : Str → Option Value} (F : Fr h₀ L s.heap m) {b : Addr} (hb : s.heap.objs.size ≤ b) : h₀.get? b = none := by
  cases q : h₀.get? b with
  | none => rfl
  | some o => exact absurd (Nat.lt_of_lt_of_le (Heap.lt_size (F.keep _ _ q)) hb) (Nat.lt_irrefl _)

/-- where a list stands that a loop goes over: in the base or in the ledger -/
def Stands (h₀ : Heap) (J : Nat → (Str → Option Value) → List (Addr × Obj) → Prop) (l : Addr) (o : Obj) : Prop :=
  h₀.get? l = some o ∨ ∀ i m nx, J i m nx → (l, o) ∈ nx

/-- for x, y in enumerate(l) -/
theorem for_enum {xs : List Value} {l : Addr} {lo : Obj} {nn : Nat} {elts : List Expr} {k : Nat} {pos : Pos} {m₀ : Str → Option Value} {news : List (Addr × Obj)} {env : Env}
    (J : Nat → (Str → Option Value) → List (Addr × Obj) → Prop)
    (hh : A.handled = none) (hl : Stands h₀ J l lo) (hc : lo.cls = .type "list") (hd : lo.data = .seq xs.toArray nn) (F : Fr h₀ env.locals s.heap m₀) (N : News h₀ env.locals s.heap news) (h0 : J 0 m₀ news)
    (turn : ∀ i v T t m₁ nx h tk own, xs[i]? = some v → J i m₁ nx → OwnOff own (nx.map (·.1)) → Fr h₀ env.locals h m₁ → News h₀ env.locals h (nx ++ own) → IsTup h T #[.int (i : Int) t, v] →
      wpAny (model prog w) A (assign (.Tuple elts k pos) env (.ref T)) (fun _ s₃ => wpAny (model prog w) A (execs body env) (InvPostG h₀ env.locals (J (i + 1)) own { s with heap := h, toks := tk } Q) E s₃) E { s with heap := h, toks := tk })
    (done : ∀ m' nx h' tk, J xs.length m' nx → Fr h₀ env.locals h' m' → News h₀ env.locals h' nx → Q .next { s with heap := h', toks := tk }) :
    wpAny (model prog w) A (call (.type "enumerate") [.ref l]) (fun xv s₁ => wpAny (model prog w) A (pyIter xv) (fun it s₂ => TurnsAt prog w A h₀ env (.Tuple elts k pos) body Q E it s₂) E s₁) E s := by
  have hlo : s.heap.get? l = some lo := hl.elim (fun e => F.keep _ _ e) fun e => (N _ (e _ _ _ h0)).1
  have hL : s.heap.IsList l xs.toArray := ⟨lo, hlo, hc, nn, hd⟩
  have hlt : l < s.heap.objs.size := Heap.lt_size hlo
  have hLs : @LT.lt Nat _ env.locals s.heap.objs.size := F.ns.lt
  have hlL : l ≠ env.locals := hl.elim (fun e => Nat.ne_of_lt (Nat.lt_of_lt_of_le (Heap.lt_size e) F.above)) fun e => (N _ (e _ _ _ h0)).2.1
  refine call_enumerate_list hL fun h' hE hI hsz hk => ?_
  refine wpAny_pyIter_enum hE ?_
  have e1 : l ≠ s.heap.objs.size + 1 := Nat.ne_of_lt (Nat.lt_succ_of_lt hlt)
  have e2 : l ≠ s.heap.objs.size := Nat.ne_of_lt hlt
  refine turns_inv (s := { s with heap := h' }) J (KTurns.ofWalksU (WalksT.enumerate hh (s.heap.objs.size + 1) s.heap.objs.size l (Nat.succ_ne_self _) e1 e2 xs.toArray).toU) ?_ ?_ ?_ ?_ ?_ ?_ (F.keeps hk) (N.grown hk) h0 ?_ ?_
  · intro b hb
    have hb' : b = s.heap.objs.size + 1 ∨ b = s.heap.objs.size ∨ b = l := by simpa using hb
    rcases hb' with rfl | rfl | rfl
    · exact .inl (by simp)
    · exact .inl (by simp)
    · exact .inr (hl.elim (fun e => .inl ⟨_, e⟩) fun e => .inr ⟨lo, e⟩)
  · rintro i h ⟨⟨old, he⟩, ⟨oi, hoi, _⟩, _⟩ b hb
    have hb' : b = s.heap.objs.size + 1 ∨ b = s.heap.objs.size := by simpa using hb
    rcases hb' with rfl | rfl
    · exact ⟨_, he⟩
    · exact ⟨_, hoi⟩
  · intro hb
    have hb' : env.locals = s.heap.objs.size + 1 ∨ env.locals = s.heap.objs.size ∨ env.locals = l := by simpa using hb
    rcases hb' with e | e | e
    · replace e : @Eq Nat env.locals (s.heap.objs.size + 1) := e
      (first | lia | omega)
    · replace e : @Eq Nat env.locals s.heap.objs.size := e
      (first | lia | omega)
    · exact hlL e.symm
  · intro b hb
    have hb' : b = s.heap.objs.size + 1 ∨ b = s.heap.objs.size := by simpa using hb
    rcases hb' with rfl | rfl
    · exact new_at F (Nat.le_add_right _ _)
    · exact new_at F (Nat.le_refl _)
  · intro p hp hb
    have hb' : @Eq Nat p.1 (s.heap.objs.size + 1) ∨ @Eq Nat p.1 s.heap.objs.size := by simpa using hb
    have hz : @LT.lt Nat _ p.1 s.heap.objs.size := Heap.lt_size (N p hp).1
    (first | lia | omega)
  · exact ⟨⟨_, hE⟩, hI, hL.at fun o e => hk _ _ e⟩
  · rintro i v m₁ nx h tk own hi ⟨T, vals, rfl, ⟨t, x, hx, rfl⟩, hT⟩ hJ hoff _ F₁ N₁
    exact turn i x T t m₁ nx h tk own (by simpa using hx) hJ hoff F₁ N₁ hT
  · intro m' nx h'' tk hJ F' N'
    exact done m' nx h'' tk (by simpa using hJ) F' N'

/-- for x in l -/
theorem for_list {xs : List Value} {l : Addr} {lo : Obj} {nn : Nat} {x : Str} {px : Pos} {m₀ : Str → Option Value} {news : List (Addr × Obj)} {env : Env}
    (J : Nat → (Str → Option Value) → List (Addr × Obj) → Prop)
    (hh : A.handled = none) (hl : Stands h₀ J l lo) (hc : lo.cls = .type "list") (hd : lo.data = .seq xs.toArray nn) (F : Fr h₀ env.locals s.heap m₀) (N : News h₀ env.locals s.heap news) (h0 : J 0 m₀ news)
    (turn : ∀ i v m₁ nx h tk own, xs[i]? = some v → J i m₁ nx → OwnOff own (nx.map (·.1)) → Fr h₀ env.locals h m₁ → News h₀ env.locals h (nx ++ own) →
      wpAny (model prog w) A (assign (.Name x px) env v) (fun _ s₃ => wpAny (model prog w) A (execs body env) (InvPostG h₀ env.locals (J (i + 1)) own { s with heap := h, toks := tk } Q) E s₃) E { s with heap := h, toks := tk })
    (done : ∀ m' nx h' tk, J xs.length m' nx → Fr h₀ env.locals h' m' → News h₀ env.locals h' nx → Q .next { s with heap := h', toks := tk }) :
    wpAny (model prog w) A (pyIter (.ref l)) (fun it s₂ => TurnsAt prog w A h₀ env (.Name x px) body Q E it s₂) E s := by
  have hlo : s.heap.get? l = some lo := hl.elim (fun e => F.keep _ _ e) fun e => (N _ (e _ _ _ h0)).1
  have hL : s.heap.IsList l xs.toArray := ⟨lo, hlo, hc, nn, hd⟩
  have hlt : l < s.heap.objs.size := Heap.lt_size hlo
  have hLs : @LT.lt Nat _ env.locals s.heap.objs.size := F.ns.lt
  have hlL : l ≠ env.locals := hl.elim (fun e => Nat.ne_of_lt (Nat.lt_of_lt_of_le (Heap.lt_size e) F.above)) fun e => (N _ (e _ _ _ h0)).2.1
  refine wpAny_pyIter_list hL ?_
  have e2 : l ≠ s.heap.objs.size := Nat.ne_of_lt hlt
  refine turns_inv J (KTurns.ofWalks (Walks.list hh s.heap.objs.size l e2 xs.toArray) (fun i v s Q E _ hq => wpAny_pure hq)) ?_ ?_ ?_ ?_ ?_ ?_ (F.push _) (fun p hp => ⟨Heap.get?_push_of_some _ (N p hp).1, (N p hp).2⟩) h0 ?_ ?_
  · intro b hb
    have hb' : b = s.heap.objs.size ∨ b = l := by simpa using hb
    rcases hb' with rfl | rfl
    · exact .inl (by simp)
    · exact .inr (hl.elim (fun e => .inl ⟨_, e⟩) fun e => .inr ⟨lo, e⟩)
  · rintro i h ⟨⟨oi, hoi, _⟩, _⟩ b hb
    have hb' : b = s.heap.objs.size := by simpa using hb
    subst hb'
    exact ⟨_, hoi⟩
  · intro hb
    have hb' : env.locals = s.heap.objs.size ∨ env.locals = l := by simpa using hb
    rcases hb' with e | e
    · replace e : @Eq Nat env.locals s.heap.objs.size := e
      (first | lia | omega)
    · exact hlL e.symm
  · intro b hb
    have hb' : b = s.heap.objs.size := by simpa using hb
    subst hb'
    exact new_at F (Nat.le_refl _)
  · intro p hp hb
    have hb' : @Eq Nat p.1 s.heap.objs.size := by simpa using hb
    have hz : @LT.lt Nat _ p.1 s.heap.objs.size := Heap.lt_size (N p hp).1
    (first | lia | omega)
  · exact ⟨⟨_, Heap.get?_push_size _ rfl, rfl, rfl⟩, hL.at fun o e => Heap.get?_push_of_some _ e⟩
  · rintro i v m₁ nx h tk own hi hP hJ hoff _ F₁ N₁
    exact turn i v m₁ nx h tk own (by simpa using hP) hJ hoff F₁ N₁
  · intro m' nx h'' tk hJ F' N'
    exact done m' nx h'' tk (by simpa using hJ) F' N'

/-- made by the call -/
def Fresh (h h' : Heap) (led : List (Addr × Obj)) : Prop := ∀ p ∈ led, h'.get? p.1 = some p.2 ∧ h.get? p.1 = none
theorem Fresh.of {h h' : Heap} {L : Addr} {led news : List (Addr × Obj)} (N : News h L h' news) (hs : ∀ p ∈ led, p ∈ news) : Fresh h h' led := fun p hp => ⟨(N p (hs p hp)).1, (N p (hs p hp)).2.2⟩
/-- a call by its contract -/
theorem call_ret {A : Around} {f : Value} {args : List Value} {L : Addr} {m : Str → Option Value} {news : List (Addr × Obj)} {P : Value → Heap → Prop} {Q : Value → Shared → Prop}
    (hc : codeAny (model prog w) A (.call f ⟨args, []⟩) (RetK s P) s) (F : Fr h₀ L s.heap m) (N : News h₀ L s.heap news)
    (h : ∀ v h' tk, P v h' → Fr h₀ L h' m → News h₀ L h' news → s.heap.StaysIn h' → (∀ led, Fresh s.heap h' led → News h₀ L h' led ∧ ∀ p ∈ led, ∀ q ∈ news, p.1 ≠ q.1) → Q v { s with heap := h', toks := tk }) :
    wpAny (model prog w) A (call f args []) Q E s := by
  refine wpAny_call (codeAny_mono hc fun r s' hr => ?_)
  obtain ⟨v, h', tk, rfl, rfl, st, hp⟩ := hr
  refine h v h' tk hp (F.keeps st) (fun q hq => ⟨st _ _ (N q hq).1, (N q hq).2⟩) st fun led hl => ⟨fun q hq => ⟨(hl q hq).1, fun e => ?_, ?_⟩, fun q hq r hr e => ?_⟩
  · obtain ⟨oL, _, _, hL, _⟩ := F.ns
    have := (hl q hq).2
    rw [e, hL] at this; cases this
  · cases g : h₀.get? q.1 with
    | none => rfl
    | some o => have := (hl q hq).2; rw [F.keep _ _ g] at this; cases this
  · have := (hl q hq).2
    rw [e, (N r hr).1] at this; cases this

def ov (stored : List Str) (u m : Str → Option Value) : Str → Option Value := fun z => if stored.contains z then u z else m z
theorem ov_eq {stored : List Str} {m₁ m₀ : Str → Option Value} (h : ∀ z, stored.contains z = false → m₁ z = m₀ z) : m₁ = ov stored m₁ m₀ := by
  funext z
  unfold ov
  cases q : stored.contains z with
  | true => simp
  | false => simpa using h z q
/-- the invariant with the names that the loop stores -/
def JJ (stored : List Str) (m₀ : Str → Option Value) (J : Nat → (Str → Option Value) → List (Addr × Obj) → Prop) (i : Nat) (m : Str → Option Value) (nx : List (Addr × Obj)) : Prop :=
  (∀ z, stored.contains z = false → m z = m₀ z) ∧ J i m nx

theorem for_enumS {xs : List Value} {l : Addr} {lo : Obj} {nn : Nat} {elts : List Expr} {k : Nat} {pos : Pos} {m₀ : Str → Option Value} {news : List (Addr × Obj)} {env : Env}
    (stored : List Str) (J : Nat → (Str → Option Value) → List (Addr × Obj) → Prop)
    (hh : A.handled = none) (hl : Stands h₀ J l lo) (hc : lo.cls = .type "list") (hd : lo.data = .seq xs.toArray nn) (F : Fr h₀ env.locals s.heap m₀) (N : News h₀ env.locals s.heap news) (h0 : J 0 m₀ news)
    (turn : ∀ i v T t m₁ nx h tk own, xs[i]? = some v → J i m₁ nx → OwnOff own (nx.map (·.1)) → Fr h₀ env.locals h (ov stored m₁ m₀) → News h₀ env.locals h (nx ++ own) → IsTup h T #[.int (i : Int) t, v] →
      wpAny (model prog w) A (assign (.Tuple elts k pos) env (.ref T)) (fun _ s₃ => wpAny (model prog w) A (execs body env) (InvPostG h₀ env.locals (JJ stored m₀ J (i + 1)) own { s with heap := h, toks := tk } Q) E s₃) E { s with heap := h, toks := tk })
    (done : ∀ m' nx h' tk, J xs.length m' nx → Fr h₀ env.locals h' (ov stored m' m₀) → News h₀ env.locals h' nx → Q .next { s with heap := h', toks := tk }) :
    wpAny (model prog w) A (call (.type "enumerate") [.ref l]) (fun xv s₁ => wpAny (model prog w) A (pyIter xv) (fun it s₂ => TurnsAt prog w A h₀ env (.Tuple elts k pos) body Q E it s₂) E s₁) E s := by
  refine for_enum (JJ stored m₀ J) hh (hl.imp id fun e i m nx hJ => e i m nx hJ.2) hc hd F N ⟨fun _ _ => rfl, h0⟩ ?_ ?_
  · rintro i v T t m₁ nx h tk own hv ⟨hm, hJ⟩ hoff F₁ N₁ hT
    rw [ov_eq hm] at F₁
    exact turn i v T t m₁ nx h tk own hv hJ hoff F₁ N₁ hT
  · rintro m' nx h' tk ⟨hm, hJ⟩ F' N'
    rw [ov_eq hm] at F'
    exact done m' nx h' tk hJ F' N'

theorem for_listS {xs : List Value} {l : Addr} {lo : Obj} {nn : Nat} {x : Str} {px : Pos} {m₀ : Str → Option Value} {news : List (Addr × Obj)} {env : Env}
    (stored : List Str) (J : Nat → (Str → Option Value) → List (Addr × Obj) → Prop)
    (hh : A.handled = none) (hl : Stands h₀ J l lo) (hc : lo.cls = .type "list") (hd : lo.data = .seq xs.toArray nn) (F : Fr h₀ env.locals s.heap m₀) (N : News h₀ env.locals s.heap news) (h0 : J 0 m₀ news)
    (turn : ∀ i v m₁ nx h tk own, xs[i]? = some v → J i m₁ nx → OwnOff own (nx.map (·.1)) → Fr h₀ env.locals h (ov stored m₁ m₀) → News h₀ env.locals h (nx ++ own) →
      wpAny (model prog w) A (assign (.Name x px) env v) (fun _ s₃ => wpAny (model prog w) A (execs body env) (InvPostG h₀ env.locals (JJ stored m₀ J (i + 1)) own { s with heap := h, toks := tk } Q) E s₃) E { s with heap := h, toks := tk })
    (done : ∀ m' nx h' tk, J xs.length m' nx → Fr h₀ env.locals h' (ov stored m' m₀) → News h₀ env.locals h' nx → Q .next { s with heap := h', toks := tk }) :
    wpAny (model prog w) A (pyIter (.ref l)) (fun it s₂ => TurnsAt prog w A h₀ env (.Name x px) body Q E it s₂) E s := by
  refine for_list (JJ stored m₀ J) hh (hl.imp id fun e i m nx hJ => e i m nx hJ.2) hc hd F N ⟨fun _ _ => rfl, h0⟩ ?_ ?_
  · rintro i v m₁ nx h tk own hv ⟨hm, hJ⟩ hoff F₁ N₁
    rw [ov_eq hm] at F₁
    exact turn i v m₁ nx h tk own hv hJ hoff F₁ N₁
  · rintro m' nx h' tk ⟨hm, hJ⟩ F' N'
    rw [ov_eq hm] at F'
    exact done m' nx h' tk hJ F' N'
end
theorem warm_B2 : (Mine.hd.heap_39 = Mine.hd.heap_39) ∧ (PySem.Challenge.rw_on0355_01.foot = 6) := by
  w_top off
  k_fill
  exact ⟨rfl, rfl⟩
/-! a dict of ints -/
def mapD (f : List (Int × Int)) : List (PyData × PyData) := f.map fun p => (.int p.1, .int p.2)
def DictI (prog : Program) (w : World) (o : Obj) (f : List (Int × Int)) : Prop := ∃ kvs, o.IsDictOf (intKind prog w) kvs ∧ PyProof.V.FlatPairs PyData.int kvs (mapD f)
def put (f : List (Int × Int)) (k v : Int) : List (Int × Int) := if f.any (fun p => p.1 == k) then f.map (fun p => if p.1 == k then (p.1, v) else p) else f ++ [(k, v)]
theorem put_len (f : List (Int × Int)) (k v : Int) : (put f k v).length ≤ f.length + 1 := by
  unfold put
  split
  · rw [List.length_map]; (first | lia | omega)
  · simp
theorem put_mapD (f : List (Int × Int)) (k v : Int) : PyProof.V.putD (.int k) (.int v) (mapD f) = mapD (put f k v) := by
  have same_eq : ∀ a b : Int, PySem.Spec.same (.int a) (.int b) = (a == b) := fun a b => by rw [PyProof.V.same_int]; rfl
  have e1 : (mapD f).any (fun p => PySem.Spec.same p.1 (.int k)) = f.any (fun p => p.1 == k) := by
    unfold mapD; rw [List.any_map]; show f.any (fun p => PySem.Spec.same (.int p.1) (.int k)) = _; simp only [same_eq]
  unfold PyProof.V.putD put
  rw [e1]
  by_cases h : f.any (fun p => p.1 == k) = true
  · rw [if_pos h, if_pos h]
    unfold mapD
    rw [List.map_map, List.map_map]
    refine List.map_congr_left fun p _ => ?_
    show (if PySem.Spec.same (.int p.1) (.int k) = true then _ else _) = _
    rw [same_eq]
    have e' : ∀ b : Bool, (if b = true then (PyData.int p.1, PyData.int v) else (PyData.int p.1, PyData.int p.2)) = (PyData.int (if b = true then (p.1, v) else p).1, PyData.int (if b = true then (p.1, v) else p).2) := fun b => by cases b <;> rfl
    exact e' _
  · rw [if_neg h, if_neg h]
    unfold mapD
    rw [List.map_append]; rfl
theorem look_mapD (f : List (Int × Int)) (k : Int) : PySem.Spec.lookup (.int k) (mapD f) = (f.lookup k).map .int := by
  induction f with
  | nil => rfl
  | cons p r ih =>
    obtain ⟨a, b⟩ := p
    show (if PySem.Spec.same (.int a) (.int k) = true then some (PyData.int b) else PySem.Spec.lookup (.int k) (mapD r)) = _
    rw [PyProof.V.same_int, List.lookup_cons]
    by_cases e : a = k
    · subst e; simp
    · have e' : ¬ k = a := fun h => e h.symm
      have e'' : (k == a) = false := by simpa using e'
      rw [e'']
      simp [e, ih]
theorem DictI.nil {prog : Program} {w : World} {o : Obj} (h : o.IsDictOf (intKind prog w) []) : DictI prog w o [] := ⟨_, h, .nil⟩

section
variable {prog : Program} {w : World} {A : Around} {E : Value → Shared → Prop} {s : Shared} {h₀ : Heap} {L : Addr} {m : Str → Option Value} {news : List (Addr × Obj)} {d : Addr} {o : Obj} {f : List (Int × Int)} {g : Obj → List (Addr × Obj)}
theorem DictI.tab {h : Heap} (hD : DictI prog w o f) (hl : h.get? d = some o) (lo : (d == sysModules) = false) : IntTab prog w h d (mapD f) :=
  let ⟨_, hd, hf⟩ := hD; TabAt.ofObj lo hl hd hf
theorem dict_in {k : Int} {t : Tok} {Q : Value → Shared → Prop} (hl : s.heap.get? d = some o) (hd : DictI prog w o f) (lo : (d == sysModules) = false) (h : Q (.bool (f.lookup k).isSome) { s with toks := s.toks + 1 }) :
    wpAny (model prog w) A (compareOp .In (.int k t) (.ref d)) Q E s := by
  refine in_intTab (hd.tab hl lo) ?_
  rw [look_mapD, Option.isSome_map]; exact h
theorem dict_notin {k : Int} {t : Tok} {Q : Value → Shared → Prop} (hl : s.heap.get? d = some o) (hd : DictI prog w o f) (lo : (d == sysModules) = false) (h : Q (.bool (!(f.lookup k).isSome)) { s with toks := s.toks + 1 }) :
    wpAny (model prog w) A (compareOp .NotIn (.int k t) (.ref d)) Q E s := by
  refine notin_intTab (hd.tab hl lo) ?_
  rw [look_mapD, Option.isSome_map]; exact h
theorem dict_in_none {k : Int} {t : Tok} {Q : Value → Shared → Prop} (hl : s.heap.get? d = some o) (hd : DictI prog w o f) (lo : (d == sysModules) = false) (hx : f.lookup k = none) (h : Q (.bool false) { s with toks := s.toks + 1 }) :
    wpAny (model prog w) A (compareOp .In (.int k t) (.ref d)) Q E s := dict_in hl hd lo (by rw [hx]; exact h)
theorem dict_in_some {k v : Int} {t : Tok} {Q : Value → Shared → Prop} (hl : s.heap.get? d = some o) (hd : DictI prog w o f) (lo : (d == sysModules) = false) (hx : f.lookup k = some v) (h : Q (.bool true) { s with toks := s.toks + 1 }) :
    wpAny (model prog w) A (compareOp .In (.int k t) (.ref d)) Q E s := dict_in hl hd lo (by rw [hx]; exact h)
theorem dict_item {value slice : Expr} {k v : Int} {t : Tok} {Q : Value → Shared → Prop} (hl : s.heap.get? d = some o) (hd : DictI prog w o f) (lo : (d == sysModules) = false) (hv : f.lookup k = some v)
    (h : ∀ u k', Q (.int v u) { s with toks := k' })
    (hs : subscripted slice false (.ref d) (.int k t) = operate [.ref d, .int k t] (getItem (.ref d) (.int k t)) := by with_unfolding_all rfl) (hg : ∀ r, letTemporaryGo value (.ref d) r = pure () := by intro _; with_unfolding_all rfl) :
    wpAny (model prog w) A (subscriptTail value slice (.ref d) (.int k t)) Q E s := by
  refine item_intTab (dv := .int v) (hd.tab hl lo) (by rw [look_mapD, hv]; rfl) (fun y hy => ?_) hs hg
  obtain ⟨u, rfl⟩ : ∃ u, y = .int v u := by cases hy {}; exact ⟨_, rfl⟩
  exact h u _
theorem dict_set {k v : Int} {t u : Tok} {Q : Unit → Shared → Prop} (hd : DictI prog w o f) (F : Fr h₀ L s.heap m) (N : News h₀ L s.heap news) (U : UpdF d o news g) (hlen : f.length ≤ 1000)
    (h : ∀ h' o', Fr h₀ L h' m → News h₀ L h' (g o') → DictI prog w o' (put f k v) → Q () { s with heap := h', toks := s.toks + 1 }) : wpAny (model prog w) A (setItem (.ref d) (.int k t) (.int v u)) Q E s := by
  obtain ⟨kvs, hd, hf⟩ := hd
  refine setItem_K PyProof.V.same_int (intKind_is _ _ _ _) (PyProof.V.Flat.int v u) F N U hd hf (fun h' o' F' N' hd' hf' => h h' o' F' N' ⟨_, hd', ?_⟩) ?_
  · rw [← put_mapD]; exact hf'
  · unfold mapD; rw [List.length_map, sizeLine_eq]; (first | lia | omega)
end

/-! the initiators -/
def isInit (k : Str) : Bool := k == Str.ofString "LRI" || k == Str.ofString "RLI" || k == Str.ofString "FSI"
theorem in_init {prog : Program} {w : World} {A : Around} {E : Value → Shared → Prop} {s : Shared} {h₀ : Heap} {L : Addr} {m : Str → Option Value} {k : Str} {u : Tok} {Q : Value → Shared → Prop}
    (F : Fr h₀ L s.heap m) (X : (Mine.hd.heap_39 w.params).In h₀) (h : Q (.bool (isInit k)) s) : wpAny (model prog w) A (compareOp .In (.str k u) (.ref 15)) Q E s := by
  have hT : s.heap.IsTuple 15 #[.str (Str.ofString "LRI") 189, .str (Str.ofString "RLI") 190, .str (Str.ofString "FSI") 191] := ⟨_, F.keep _ _ (X 15 _ (by k_is)), rfl, _, rfl⟩
  refine PySem.SeqAt.in_tupleAt (fun y => match y with | .str x _ => x == k | _ => false) hT ?_ ?_
  · intro y hy
    have hy' : y = .str (Str.ofString "LRI") 189 ∨ y = .str (Str.ofString "RLI") 190 ∨ y = .str (Str.ofString "FSI") 191 := by simpa using hy
    rcases hy' with rfl | rfl | rfl <;> exact PySem.SeqAt.EqAt.str_str _ _ _ _
  · have e : (#[Value.str (Str.ofString "LRI") 189, .str (Str.ofString "RLI") 190, .str (Str.ofString "FSI") 191] : Array Value).any (fun y => match y with | .str x _ => x == k | _ => false) = isInit k := by
      unfold isInit
      rw [← Array.any_toList]
      show ((Str.ofString "LRI" == k) || ((Str.ofString "RLI" == k) || ((Str.ofString "FSI" == k) || false))) = _
      rw [Bool.or_false, ← Bool.or_assoc, Bool.beq_comm (a := Str.ofString "LRI"), Bool.beq_comm (a := Str.ofString "RLI"), Bool.beq_comm (a := Str.ofString "FSI")]
    rw [e]; exact h

/-! a turn's end -/
theorem off_ov {stored : List Str} {u m₀ : Str → Option Value} : ∀ z, stored.contains z = false → ov stored u m₀ z = m₀ z := by
  intro z hz
  unfold ov
  rw [hz]; simp
theorem off_if {stored : List Str} {x : Str} {v : Option Value} {m m₀ : Str → Option Value} (hx : stored.contains x = true) (h : ∀ z, stored.contains z = false → m z = m₀ z) :
    ∀ z, stored.contains z = false → (fun y => if y = x then v else m y) z = m₀ z := by
  intro z hz
  show (if z = x then v else m z) = m₀ z
  by_cases e : z = x
  · rw [e, hx] at hz; cases hz
  · rw [if_neg e]; exact h z hz
theorem endG {h₀ : Heap} {L : Addr} {stored : List Str} {m₀ : Str → Option Value} {J : Nat → (Str → Option Value) → List (Addr × Obj) → Prop} {i : Nat} {m' : Str → Option Value} {own news' : List (Addr × Obj)} {s₁ : Shared} {h' : Heap} {tk : Nat}
    (nx : List (Addr × Obj)) (F : Fr h₀ L h' m') (N : News h₀ L h' news') (hn : ∀ p ∈ nx, p ∈ news') (ho : ∀ p ∈ own, p ∈ news') (ha : OwnOff own (nx.map (·.1)))
    (hm : ∀ z, stored.contains z = false → m' z = m₀ z) (hj : J (i + 1) m' nx) : InvEndG h₀ L (JJ stored m₀ J (i + 1)) own s₁ { s₁ with heap := h', toks := tk } :=
  InvEndG.intro F N ⟨hm, hj⟩ ha hn ho
theorem all2 {α : Type} {l : List α} {a b : α} (ha : a ∈ l) (hb : b ∈ l) : ∀ p ∈ [a, b], p ∈ l := by
  intro p hp
  rcases List.mem_cons.mp hp with rfl | hp
  · exact ha
  · rw [List.mem_singleton.mp hp]; exact hb
theorem all1 {α : Type} {l : List α} {a : α} (ha : a ∈ l) : ∀ p ∈ [a], p ∈ l := by
  intro p hp
  rw [List.mem_singleton.mp hp]; exact ha
theorem all3 {α : Type} {l : List α} {a b c : α} (ha : a ∈ l) (hb : b ∈ l) (hc : c ∈ l) : ∀ p ∈ [a, b, c], p ∈ l := by
  intro p hp
  rcases List.mem_cons.mp hp with rfl | hp
  · exact ha
  · exact all2 hb hc p hp
theorem all4 {α : Type} {l : List α} {a b c d : α} (ha : a ∈ l) (hb : b ∈ l) (hc : c ∈ l) (hd : d ∈ l) : ∀ p ∈ [a, b, c, d], p ∈ l := by
  intro p hp
  rcases List.mem_cons.mp hp with rfl | hp
  · exact ha
  · exact all3 hb hc hd p hp
theorem stays_of {h₀ : Heap} {L : Addr} {h : Heap} {m : Str → Option Value} (F : Fr h₀ L h m) : h₀.StaysIn h := F.keep
theorem RetK.intro {s : Shared} {P : Value → Heap → Prop} {v : Value} {h' : Heap} {tk : Nat} {L : Addr} {m : Str → Option Value} (F : Fr s.heap L h' m) (hp : P v h') : RetK s P (.ok (.ret v)) { s with heap := h', toks := tk } :=
  ⟨v, h', tk, rfl, rfl, F.keep, hp⟩

theorem pos_of_ne {ws : List Value} {st : List Int} (hI : IntsAre ws st) (h : decide (st = []) = false) : 0 < ws.length := by
  rw [hI.length]
  cases st with
  | nil => simp at h
  | cons _ _ => simp
/-! a list of ints and Nones -/
inductive OptsAre : List Value → List (Option Int) → Prop
  | nil : OptsAre [] []
  | none {vs ls} : OptsAre vs ls → OptsAre (.none :: vs) (Option.none :: ls)
  | int {vs ls} (k : Int) (t : Tok) : OptsAre vs ls → OptsAre (.int k t :: vs) (some k :: ls)
theorem OptsAre.length : ∀ {vs ls}, OptsAre vs ls → vs.length = ls.length := by
  intro _ _ h
  induction h with
  | nil => rfl
  | none _ ih => exact congrArg (· + 1) ih
  | int _ _ _ ih => exact congrArg (· + 1) ih
theorem OptsAre.append : ∀ {vs ls ws ms}, OptsAre vs ls → OptsAre ws ms → OptsAre (vs ++ ws) (ls ++ ms) := by
  intro _ _ _ _ h k
  induction h with
  | nil => exact k
  | none _ ih => exact .none ih
  | int a t _ ih => exact .int a t ih
theorem OptsAre.at : ∀ {vs ls}, OptsAre vs ls → ∀ (i : Nat) (o : Option Int), ls[i]? = some o → (o = Option.none ∧ vs[i]? = some .none) ∨ ∃ k t, o = some k ∧ vs[i]? = some (.int k t) := by
  intro _ _ h
  induction h with
  | nil => intro i o e; cases e
  | none _ ih =>
    intro i o e
    cases i with
    | zero => exact .inl ⟨(Option.some.inj e).symm, rfl⟩
    | succ j => exact ih j o e
  | int k t _ ih =>
    intro i o e
    cases i with
    | zero => exact .inr ⟨k, t, (Option.some.inj e).symm, rfl⟩
    | succ j => exact ih j o e
theorem OptsAre.item : ∀ {vs ls}, OptsAre vs ls → ∀ (i : Nat) (v : Value), vs[i]? = some v → (v = .none ∧ ls[i]? = some Option.none) ∨ ∃ k t, v = .int k t ∧ ls[i]? = some (some k) := by
  intro _ _ h
  induction h with
  | nil => intro i o e; cases e
  | none _ ih =>
    intro i o e
    cases i with
    | zero => exact .inl ⟨(Option.some.inj e).symm, rfl⟩
    | succ j => exact ih j o e
  | int k t _ ih =>
    intro i o e
    cases i with
    | zero => exact .inr ⟨k, t, (Option.some.inj e).symm, rfl⟩
    | succ j => exact ih j o e

section
variable {prog : Program} {w : World} {A : Around} {E : Value → Shared → Prop} {s : Shared} {h₀ : Heap} {L l : Addr} {m : Str → Option Value} {news : List (Addr × Obj)} {vs : List Value} {nn : Nat}
/-- an item of a list at a place that lies in it -/
theorem item_get {value slice : Expr} {k : Int} {u : Tok} {v : Value} {Q : Value → Shared → Prop} (hl : s.heap.get? l = some (W.listOf vs.toArray nn)) (h0 : 0 ≤ k) (hhi : k < 2 ^ 63) (hx : vs[k.toNat]? = some v) (h : Q v s)
    (hs : subscripted slice false (.ref l) (.int k u) = operate [.ref l, .int k u] (getItem (.ref l) (.int k u)) := by with_unfolding_all rfl) : wpAny (model prog w) A (subscriptTail value slice (.ref l) (.int k u)) Q E s :=
  have hL : s.heap.IsList l vs.toArray := ⟨_, hl, rfl, nn, rfl⟩
  tail_any hL.typeIs slot_list_getitem.lookup (wpAny_getItem_list hL h0 hhi (by simpa using hx) h) hs
theorem opt_split {value slice : Expr} {k : Int} {u : Tok} {ls : List (Option Int)} {Q : Value → Shared → Prop} (hl : s.heap.get? l = some (W.listOf vs.toArray nn)) (ho : OptsAre vs ls) (h0 : 0 ≤ k) (hk : k < ls.length) (hz : ls.length ≤ 100)
    (h1 : ls[k.toNat]? = some none → Q .none s) (h2 : ∀ x t, ls[k.toNat]? = some (some x) → Q (.int x t) s)
    (hs : subscripted slice false (.ref l) (.int k u) = operate [.ref l, .int k u] (getItem (.ref l) (.int k u)) := by with_unfolding_all rfl) : wpAny (model prog w) A (subscriptTail value slice (.ref l) (.int k u)) Q E s := by
  have hlt : k.toNat < ls.length := by (first | lia | omega)
  have e : ls[k.toNat]? = some ls[k.toNat] := List.getElem?_eq_getElem hlt
  rcases ho.at _ _ e with ⟨a, b⟩ | ⟨x, t, a, b⟩
  · exact item_get hl h0 (by (first | lia | omega)) b (h1 (by rw [e, a])) hs
  · exact item_get hl h0 (by (first | lia | omega)) b (h2 x t (by rw [e, a])) hs
theorem opt_some {value slice : Expr} {k : Int} {u : Tok} {ls : List (Option Int)} {x : Int} {Q : Value → Shared → Prop} (hl : s.heap.get? l = some (W.listOf vs.toArray nn)) (ho : OptsAre vs ls) (h0 : 0 ≤ k) (hz : ls.length ≤ 100) (hx : ls[k.toNat]? = some (some x))
    (h2 : ∀ t, Q (.int x t) s)
    (hs : subscripted slice false (.ref l) (.int k u) = operate [.ref l, .int k u] (getItem (.ref l) (.int k u)) := by with_unfolding_all rfl) : wpAny (model prog w) A (subscriptTail value slice (.ref l) (.int k u)) Q E s := by
  have hlt : k.toNat < ls.length := (List.getElem?_eq_some_iff.mp hx).1
  rcases ho.at _ _ hx with ⟨a, b⟩ | ⟨x', t, a, b⟩
  · cases a
  · cases a
    exact item_get hl h0 (by (first | lia | omega)) b (h2 t) hs
theorem str_at {value slice : Expr} {k : Int} {u : Tok} {ks : List Str} {x : Str} {Q : Value → Shared → Prop} (hl : s.heap.get? l = some (W.listOf vs.toArray nn)) (ho : StrsAre vs ks) (h0 : 0 ≤ k) (hz : ks.length ≤ 100) (hx : ks[k.toNat]? = some x)
    (h2 : ∀ t, Q (.str x t) s)
    (hs : subscripted slice false (.ref l) (.int k u) = operate [.ref l, .int k u] (getItem (.ref l) (.int k u)) := by with_unfolding_all rfl) : wpAny (model prog w) A (subscriptTail value slice (.ref l) (.int k u)) Q E s := by
  have hlt : k.toNat < ks.length := (List.getElem?_eq_some_iff.mp hx).1
  obtain ⟨t, b⟩ := ho.get _ _ hx
  exact item_get hl h0 (by (first | lia | omega)) b (h2 t) hs
theorem int_at {value slice : Expr} {k : Int} {u : Tok} {ks : List Int} {x : Int} {Q : Value → Shared → Prop} (hl : s.heap.get? l = some (W.listOf vs.toArray nn)) (ho : IntsAre vs ks) (h0 : 0 ≤ k) (hz : ks.length ≤ 100) (hx : ks[k.toNat]? = some x)
    (h2 : ∀ t, Q (.int x t) s)
    (hs : subscripted slice false (.ref l) (.int k u) = operate [.ref l, .int k u] (getItem (.ref l) (.int k u)) := by with_unfolding_all rfl) : wpAny (model prog w) A (subscriptTail value slice (.ref l) (.int k u)) Q E s := by
  have hlt : k.toNat < ks.length := (List.getElem?_eq_some_iff.mp hx).1
  obtain ⟨t, b⟩ := ho.get _ _ hx
  exact item_get hl h0 (by (first | lia | omega)) b (h2 t) hs
theorem item_last {value slice : Expr} {u : Tok} {v : Value} {ws : List Value} {Q : Value → Shared → Prop} (hl : s.heap.get? l = some (W.listOf (ws ++ [v]).toArray nn)) (hz : ws.length ≤ 1000) (h : Q v s)
    (hs : subscripted slice false (.ref l) (.int (-1) u) = operate [.ref l, .int (-1) u] (getItem (.ref l) (.int (-1) u)) := by with_unfolding_all rfl) : wpAny (model prog w) A (subscriptTail value slice (.ref l) (.int (-1) u)) Q E s := by
  have hL : s.heap.IsList l (ws ++ [v]).toArray := ⟨_, hl, rfl, nn, rfl⟩
  have hsz : (ws ++ [v]).toArray.size = ws.length + 1 := by simp
  have e : ((-1 : Int) + ((ws ++ [v]).toArray.size : Int)).toNat = ws.length := by rw [hsz]; (first | lia | omega)
  have hx : (ws ++ [v]).toArray[((-1 : Int) + ((ws ++ [v]).toArray.size : Int)).toNat]? = some v := by rw [e]; simp
  have g1 : (-1 : Int) < 0 := by decide
  have g2 : -((ws ++ [v]).toArray.size : Int) ≤ -1 := by rw [hsz]; (first | lia | omega)
  have g3 : -(2 ^ 63) ≤ (-1 : Int) := by decide
  refine tail_any hL.typeIs slot_list_getitem.lookup (wpAny_getItem_list_neg hL g1 g2 g3 hx h) hs
theorem item_lastP {value slice : Expr} {u : Tok} {v : Value} {ws : List Value} {Q : Value → Shared → Prop} (hl : s.heap.get? l = some (W.listOf (ws.toArray.push v) nn)) (hz : ws.length ≤ 1000) (h : Q v s)
    (hs : subscripted slice false (.ref l) (.int (-1) u) = operate [.ref l, .int (-1) u] (getItem (.ref l) (.int (-1) u)) := by with_unfolding_all rfl) : wpAny (model prog w) A (subscriptTail value slice (.ref l) (.int (-1) u)) Q E s := by
  rw [List.push_toArray] at hl
  exact item_last hl hz h hs
theorem len_get {Q : Value → Shared → Prop} (hl : s.heap.get? l = some (W.listOf vs.toArray nn)) (hfit : vs.length ≤ 1000) (h : ∀ t k, Q (.int vs.length t) { s with toks := k }) : wpAny (model prog w) A (call (.builtin "len") [.ref l]) Q E s := by
  refine PyProof.Rows.len_list (items := vs.toArray) ⟨_, hl, rfl, nn, rfl⟩ (by simp; (first | lia | omega)) ?_
  rw [List.size_toArray]
  exact h _ _
end
theorem while_next {h₀ : Heap} {L : Addr} {s : Shared} {J : Nat → (Str → Option Value) → List (Addr × Obj) → Prop} {Q : Flow → Shared → Prop} {n n' : Nat} {h' : Heap} {tk : Nat} {m₂ : Str → Option Value} {news₂ : List (Addr × Obj)}
    (F : Fr h₀ L h' m₂) (N : News h₀ L h' news₂) (hn : n' < n) (hJ : J n' m₂ news₂) : WhileStep2 h₀ L s J Q n .next { s with heap := h', toks := tk } := ⟨h', tk, m₂, news₂, n', rfl, F, N, hn, hJ⟩
theorem while_keep {prog : Program} {w : World} {A : Around} {E : Value → Shared → Prop} {Q : Flow → Shared → Prop} {s : Shared} {env : Env} {h₀ : Heap} {L : Addr} {test : Expr} {body : List Stmt} {pos : Pos} {m : Str → Option Value} {news : List (Addr × Obj)}
    (J : Nat → List (Addr × Obj) → Prop) {n₀ : Nat} (F : Fr h₀ L s.heap m) (N : News h₀ L s.heap news) (hJ : J n₀ news)
    (turn : ∀ n news₁ h₁ tk₁, Fr h₀ L h₁ m → News h₀ L h₁ news₁ → J n news₁ →
      wpAny (model prog w) A (isTrue test env (eval test env)) (fun b s₂ =>
        if b = true then wpAny (model prog w) A (execs body env) (WhileStep2 h₀ L s (fun n m' nx => m' = m ∧ J n nx) Q n) E s₂ else Q .next s₂) E { s with heap := h₁, toks := tk₁ })
    (hE : PassesOwn (model prog w) A env E := by passes_own) : wpAny (model prog w) A (exec (.While test body [] pos) env) Q E s :=
  While_inv2 (fun n m' nx => m' = m ∧ J n nx) F N ⟨rfl, hJ⟩ (fun n m₁ news₁ h₁ tk₁ F₁ N₁ hj => by obtain ⟨rfl, hj⟩ := hj; exact turn n news₁ h₁ tk₁ F₁ N₁ hj) hE
theorem allLt_lt {d : Addr} {l : List (Addr × Obj)} (h : AllLt d l) : ∀ p ∈ l, @LT.lt Nat _ p.1 d := by
  induction l with
  | nil => intro p hp; cases hp
  | cons q r ih =>
    intro p hp
    rcases List.mem_cons.mp hp with rfl | hp
    · exact h.1
    · exact ih h.2 p hp
theorem ints_snoc {us : List Value} {q : List Int} (h : IntsAre us q) (hn : q ≠ []) : ∃ us₀ q₀ x t, us = us₀ ++ [Value.int x t] ∧ q = q₀ ++ [x] ∧ IntsAre us₀ q₀ := by
  induction h with
  | nil => exact absurd rfl hn
  | @cons k t vs ns r ih =>
    by_cases e : ns = []
    · subst e
      cases r
      exact ⟨[], [], k, t, rfl, rfl, .nil⟩
    · obtain ⟨us₀, q₀, x, t', e1, e2, e3⟩ := ih e
      exact ⟨.int k t :: us₀, k :: q₀, x, t', by rw [e1]; rfl, by rw [e2]; rfl, .cons k t e3⟩
theorem extend_my {prog : Program} {w : World} {A : Around} {E : Value → Shared → Prop} {s : Shared} {h₀ : Heap} {L D b : Addr} {m : Str → Option Value} {news news' : List (Addr × Obj)} {us vs : List Value} {n n2 : Nat} {Q : Value → Shared → Prop}
    (F : Fr h₀ L s.heap m) (N : News h₀ L s.heap news) (hb : (b, W.listOf vs.toArray n2) ∈ news) (hne : 0 < vs.length) (hu : us.length ≤ 10000) (hv : vs.length ≤ 10000)
    (U : Upd D (W.listOf us.toArray n) (W.listOf (us ++ vs).toArray (n + 1)) news news')
    (h : ∀ h', Fr h₀ L h' m → News h₀ L h' news' → Q .none { s with heap := h' }) : wpAny (model prog w) A (call (.builtin "list.extend") [.ref D, .ref b]) Q E s := by
  refine kl_extend F N hb rfl (by simp only [List.length_pos_iff] at hne; simpa using hne) U ?_ (by rw [sizeLine_eq]; simp; (first | lia | omega)) (by rw [sizeLine_eq]; simp; (first | lia | omega)) h
  simp only [List.size_toArray]
  have : Builtin.List.listTooLong (us.length + vs.length) = false := by
    unfold Builtin.List.listTooLong
    rw [sizeLine_eq]
    simp
    (first | lia | omega)
  rw [this]; simp
theorem getLastD_mem {q : List Int} (h : q ≠ []) : q.getLastD 0 ∈ q := by
  rw [List.getLastD_eq_getLast?, List.getLast?_eq_some_getLast h]; exact List.getLast_mem h
theorem ov_set {stored : List Str} {u m₀ : Str → Option Value} {x : Str} {v : Option Value} (hx : stored.contains x = true) (h : u x = v) : ov stored u m₀ = fun z => if z = x then v else ov stored u m₀ z := by
  funext z
  by_cases e : z = x
  · rw [if_pos e, e]
    unfold ov
    rw [hx]; simpa using h
  · rw [if_neg e]
theorem allLt_ne {d : Addr} {l : List (Addr × Obj)} (h : AllLt d l) : ∀ p ∈ l, p.1 ≠ d := by
  induction l with
  | nil => intro p hp; cases hp
  | cons q r ih =>
    intro p hp
    rcases List.mem_cons.mp hp with rfl | hp
    · exact Nat.ne_of_lt h.1
    · exact ih h.2 p hp
theorem OwnOff.app {a b : List (Addr × Obj)} {adr : List Addr} (ha : OwnOff a adr) (hb : OwnOff b adr) : OwnOff (a ++ b) adr := by
  intro p hp
  rcases List.mem_append.mp hp with h | h
  · exact ha p h
  · exact hb p h
theorem shadow {x : Str} {a b : Option Value} {m : Str → Option Value} : (fun y => if y = x then a else if y = x then b else m y) = fun y => if y = x then a else m y := by
  funext y
  by_cases h : y = x
  · rw [if_pos h, if_pos h]
  · rw [if_neg h, if_neg h, if_neg h]
def Stop (P : Prop) : Prop := P
theorem stop_of {P : Prop} (h : Stop P) : P := h
theorem Stop.out {P : Prop} (h : P) : Stop P := h
/-- ways that meet behind a statement -/
def Join (P : Shared → Prop) (fl : Flow) (s : Shared) : Prop := fl = .next ∧ P s
theorem exec_join {M : Model} {A : Around} {E : Value → Shared → Prop} {s : Shared} {st : Stmt} {env : Env} {Q : Flow → Shared → Prop} (P : Shared → Prop) (h1 : wpAny M A (exec st env) (Join P) E s) (h2 : ∀ s', P s' → Q .next s') : wpAny M A (exec st env) Q E s :=
  wpAny_mono h1 (fun fl s' h => by obtain ⟨rfl, p⟩ := h; exact h2 s' p) fun _ _ e => e
inductive JSt (h₀ : Heap) (L : Addr) (m : Str → Option Value) (news : List (Addr × Obj)) (x : Str) (R : Value → Prop) (s s' : Shared) : Prop
  | mk (h : Heap) (tk : Nat) (v : Value) (e : s' = { s with heap := h, toks := tk }) (r : R v) (F : Fr h₀ L h (fun y => if y = x then some v else m y)) (N : News h₀ L h news)
inductive JN (h₀ : Heap) (L : Addr) (m : Str → Option Value) (R : List (Addr × Obj) → Prop) (s s' : Shared) : Prop
  | mk (h : Heap) (tk : Nat) (news : List (Addr × Obj)) (e : s' = { s with heap := h, toks := tk }) (r : R news) (F : Fr h₀ L h m) (N : News h₀ L h news)
theorem exec_join_fr {M : Model} {A : Around} {E : Value → Shared → Prop} {s : Shared} {st : Stmt} {env : Env} {Q : Flow → Shared → Prop} {h₀ : Heap} {L : Addr} {m : Str → Option Value} {news : List (Addr × Obj)} {x : Str} {v0 : Value}
    (F : Fr h₀ L s.heap (fun y => if y = x then some v0 else m y)) (N : News h₀ L s.heap news) (R : Value → Prop)
    (h1 : wpAny M A (exec st env) (Join (JSt h₀ L m news x R s)) E s)
    (h2 : ∀ h tk v, R v → Fr h₀ L h (fun y => if y = x then some v else m y) → News h₀ L h news → Q .next { s with heap := h, toks := tk }) : wpAny M A (exec st env) Q E s :=
  exec_join _ h1 fun s' x => by
    obtain ⟨h, tk, v, e, r, F', N'⟩ := x
    subst e
    exact h2 h tk v r F' N'
def Join2 (P : Shared → Prop) (Q : Flow → Shared → Prop) (fl : Flow) (s : Shared) : Prop := match fl with | .next => P s | f => Q f s
theorem exec_join2 {M : Model} {A : Around} {E : Value → Shared → Prop} {s : Shared} {st : Stmt} {env : Env} {Q : Flow → Shared → Prop} (P : Shared → Prop) (h1 : wpAny M A (exec st env) (Join2 P Q) E s) (h2 : ∀ s', P s' → Q .next s') : wpAny M A (exec st env) Q E s :=
  wpAny_mono h1 (fun fl s' h => by cases fl <;> first | exact h | exact h2 s' h) fun _ _ e => e
theorem exec_join_n {M : Model} {A : Around} {E : Value → Shared → Prop} {s : Shared} {st : Stmt} {env : Env} {Q : Flow → Shared → Prop} {h₀ : Heap} {L : Addr} {m : Str → Option Value} (_F : Fr h₀ L s.heap m) (R : List (Addr × Obj) → Prop)
    (h1 : wpAny M A (exec st env) (Join (JN h₀ L m R s)) E s)
    (h2 : ∀ h tk news, R news → Fr h₀ L h m → News h₀ L h news → Q .next { s with heap := h, toks := tk }) : wpAny M A (exec st env) Q E s :=
  exec_join _ h1 fun s' x => by
    obtain ⟨h, tk, v, e, r, F', N'⟩ := x
    subst e
    exact h2 h tk v r F' N'
theorem exec_join_st {M : Model} {A : Around} {E : Value → Shared → Prop} {s : Shared} {st : Stmt} {env : Env} {Q : Flow → Shared → Prop} {h₀ : Heap} {L : Addr} {m : Str → Option Value} {news : List (Addr × Obj)} (x : Str)
    (_F : Fr h₀ L s.heap m) (_N : News h₀ L s.heap news) (R : Value → Prop)
    (h1 : wpAny M A (exec st env) (Join (JSt h₀ L m news x R s)) E s)
    (h2 : ∀ h tk v, R v → Fr h₀ L h (fun y => if y = x then some v else m y) → News h₀ L h news → Q .next { s with heap := h, toks := tk }) : wpAny M A (exec st env) Q E s :=
  exec_join _ h1 fun s' x => by
    obtain ⟨h, tk, v, e, r, F', N'⟩ := x
    subst e
    exact h2 h tk v r F' N'
/-- ways that meet behind an expression -/
def JoinV (P : Value → Shared → Prop) (v : Value) (s : Shared) : Prop := P v s
theorem eval_join {M : Model} {A : Around} {E : Value → Shared → Prop} {s : Shared} {e : Expr} {env : Env} {Q : Value → Shared → Prop} (P : Value → Shared → Prop) (h1 : wpAny M A (eval e env) (JoinV P) E s) (h2 : ∀ v s', P v s' → Q v s') : wpAny M A (eval e env) Q E s :=
  wpAny_mono h1 h2 fun _ _ e => e
theorem eval_join_t {M : Model} {A : Around} {E : Value → Shared → Prop} {s : Shared} {e : Expr} {env : Env} {Q : Value → Shared → Prop} (R : Value → Prop) (h1 : wpAny M A (eval e env) (JoinV fun v s' => ∃ tk, s' = { s with toks := tk } ∧ R v) E s)
    (h2 : ∀ v tk, R v → Q v { s with toks := tk }) : wpAny M A (eval e env) Q E s :=
  eval_join _ h1 fun v s' ⟨tk, e, r⟩ => e ▸ h2 v tk r
theorem fm {α : Type} {P : α → Prop} {a : α} {l : List α} (h1 : P a) (h2 : ∀ p ∈ l, P p) : ∀ p ∈ a :: l, P p := fun p hp => by
  rcases List.mem_cons.mp hp with rfl | hp
  · exact h1
  · exact h2 p hp
theorem fm1 {α : Type} {P : α → Prop} {a : α} (h1 : P a) : ∀ p ∈ [a], P p := fm h1 fun _ h => nomatch h
theorem newsOf {h₀ h : Heap} {L : Addr} {l k : List (Addr × Obj)} (N : News h₀ L h k) (s : ∀ p ∈ l, p ∈ k) : News h₀ L h l := fun p hp => N p (s p hp)
theorem stop_add {M : Model} {A : Around} {E : Value → Shared → Prop} {s : Shared} {a b : Addr} {Q : Value → Shared → Prop} (h : Stop (wpAny M A (binaryOp .Add (.ref a) (.ref b)) Q E s)) : wpAny M A (binaryOp .Add (.ref a) (.ref b)) Q E s := h
theorem stop_ne {M : Model} {A : Around} {E : Value → Shared → Prop} {s : Shared} {a b : Addr} {Q : Value → Shared → Prop} (h : Stop (wpAny M A (compareOp .NotEq (.ref a) (.ref b)) Q E s)) : wpAny M A (compareOp .NotEq (.ref a) (.ref b)) Q E s := h
theorem stop_in {M : Model} {A : Around} {E : Value → Shared → Prop} {s : Shared} {a : Int} {u : Tok} {b : Addr} {Q : Value → Shared → Prop} (h : Stop (wpAny M A (compareOp .In (.int a u) (.ref b)) Q E s)) : wpAny M A (compareOp .In (.int a u) (.ref b)) Q E s := h
theorem stop_mul {M : Model} {A : Around} {E : Value → Shared → Prop} {s : Shared} {a : Addr} {b : Int} {u : Tok} {Q : Value → Shared → Prop} (h : Stop (wpAny M A (binaryOp .Mult (.ref a) (.int b u)) Q E s)) : wpAny M A (binaryOp .Mult (.ref a) (.int b u)) Q E s := h
theorem stop_eq {M : Model} {A : Around} {E : Value → Shared → Prop} {s : Shared} {a b : Addr} {Q : Value → Shared → Prop} (h : Stop (wpAny M A (compareOp .Eq (.ref a) (.ref b)) Q E s)) : wpAny M A (compareOp .Eq (.ref a) (.ref b)) Q E s := h
theorem stop_sorted {M : Model} {A : Around} {E : Value → Shared → Prop} {s : Shared} {a : Addr} {Q : Value → Shared → Prop} (h : Stop (wpAny M A (call (.builtin "sorted") [.ref a]) Q E s)) : wpAny M A (call (.builtin "sorted") [.ref a]) Q E s := h
theorem stop_if {M : Model} {A : Around} {E : Value → Shared → Prop} {s : Shared} {a : Expr} {r : List Expr} {p p' : Pos} {b o : List Stmt} {env : Env} {Q : Flow → Shared → Prop} (h : Stop (wpAny M A (exec (.If (.Compare a [.In] r p) b o p') env) Q E s)) : wpAny M A (exec (.If (.Compare a [.In] r p) b o p') env) Q E s := h
theorem stop_and {M : Model} {A : Around} {E : Value → Shared → Prop} {s : Shared} {r : List Expr} {p p' : Pos} {b o : List Stmt} {env : Env} {Q : Flow → Shared → Prop} (h : Stop (wpAny M A (exec (.If (.BoolOp .And r p) b o p') env) Q E s)) : wpAny M A (exec (.If (.BoolOp .And r p) b o p') env) Q E s := h
theorem in_join {M : Model} {A : Around} {E : Value → Shared → Prop} {s : Shared} {c : Sem Flow} {P : Shared → Prop} (h : wpAny M A c (Join P) E s) : wpAny M A c (Join P) E s := h
theorem in_join2 {M : Model} {A : Around} {E : Value → Shared → Prop} {s : Shared} {c : Sem Flow} {P : Shared → Prop} {Q : Flow → Shared → Prop} (h : wpAny M A c (Join2 P Q) E s) : wpAny M A c (Join2 P Q) E s := h
theorem in_joinV {M : Model} {A : Around} {E : Value → Shared → Prop} {s : Shared} {c : Sem Value} {P : Value → Shared → Prop} (h : wpAny M A c (JoinV P) E s) : wpAny M A c (JoinV P) E s := h
/-- what stands behind is hidden while the walk goes on -/
theorem hideQ {α : Type} {M : Model} {A : Around} {E : Value → Shared → Prop} {s : Shared} {c : Sem α} {Q : α → Shared → Prop} (h : ∀ Q' : α → Shared → Prop, (∀ x s', Q x s' → Q' x s') → wpAny M A c Q' E s) : wpAny M A c Q E s := h Q fun _ _ x => x
theorem hideR {M : Model} {A : Around} {c : Code} {s₀ s : Shared} {R : Value → Heap → Prop} (h : ∀ R' : Value → Heap → Prop, (∀ v h', R v h' → R' v h') → codeAny M A c (RetK s₀ R') s) : codeAny M A c (RetK s₀ R) s := h R fun _ _ x => x
theorem hideI {α : Type} {M : Model} {A : Around} {E : Value → Shared → Prop} {s s₁ : Shared} {c1 : Sem α} {c2 : Sem Flow} {h₀ : Heap} {L : Addr} {J : (Str → Option Value) → List (Addr × Obj) → Prop} {own : List (Addr × Obj)} {Q : Flow → Shared → Prop}
    (h : ∀ Q' : Flow → Shared → Prop, (∀ f s', InvPostG h₀ L J own s₁ Q f s' → Q' f s') → wpAny M A c1 (fun _ s₃ => wpAny M A c2 Q' E s₃) E s) : wpAny M A c1 (fun _ s₃ => wpAny M A c2 (InvPostG h₀ L J own s₁ Q) E s₃) E s := h _ fun _ _ x => x
theorem exec_join2_t {M : Model} {A : Around} {E : Value → Shared → Prop} {s : Shared} {st : Stmt} {env : Env} {Q : Flow → Shared → Prop} (R : Prop) (h1 : wpAny M A (exec st env) (Join2 (fun s' => ∃ tk, s' = { s with toks := tk } ∧ R) Q) E s)
    (h2 : ∀ tk, R → Q .next { s with toks := tk }) : wpAny M A (exec st env) Q E s := exec_join2 _ h1 fun s' x => by
    obtain ⟨tk, e, r⟩ := x
    subst e
    exact h2 tk r
local macro_rules | `(tactic| walk_at "MINE enter") => `(tactic| (
  (case T | X => assumption); (case k6 | k7 => k_is); (case k8 => k_room); (case k9 => first | exact BindsTo.of_eq rfl | exact binds_K (by k_in) rfl (by k_is) rfl rfl rfl);
  (case c5 => decide); (case kB => exact locs rfl); (case c2 | c3 | c4 => exact rfl); k_whole))
local macro_rules | `(tactic| walk_at "exec For Tuple Call cons nil") => `(tactic| (k_here; (rename Fr _ _ _ _ => lF'); with_unfolding_all (refine For_turns lF' ?_)))
local macro_rules | `(tactic| walk_at "compareOp In str ref") => `(tactic| (k_here; (with_reducible show wpAny _ _ (compareOp CmpOp.In (Value.str _ _) (Value.ref 15)) _ _ _); (with_reducible rename Fr _ _ _ _ => kF); with_unfolding_all (refine in_init kF ?kx ?_; (case kx => assumption))))
local macro_rules | `(tactic| kpa_ne) => `(tactic| exact pos_of_ne (by assumption) (by assumption))
local macro_rules | `(tactic| walk_at "setItem ref int") => `(tactic| (k_here; k_dflt (refine' dict_set ?hd ?F ?N ?U ?hl ?_; (case hd | F | N => k_asm); (case U => k_updF); (case hl => (first | lia | (have hp9 := put_len; grind))); k_whole); intro h' o' F' N' hd'; (try dsimp only at N'); (try k_sweep)))
local macro_rules | `(tactic| walk_at "compareOp In int ref") => `(tactic| (k_here; k_dflt (first
  | (refine' dict_in_none ?a ?b ?c ?d ?_; (case a => walk_at "MINE at"); (case b | c => k_asm); (case d => with_reducible assumption); k_whole)
  | (refine' dict_in_some ?a ?b ?c ?d ?_; (case a => walk_at "MINE at"); (case b | c => k_asm); (case d => with_reducible assumption); k_whole)
  | (refine' dict_in ?a ?b ?c ?_; (case a => walk_at "MINE at"); (case b | c => k_asm); k_whole))))
local macro_rules | `(tactic| walk_at "compareOp NotIn int ref") => `(tactic| (k_here; k_dflt (refine' dict_notin ?a ?b ?c ?_; (case a => walk_at "MINE at"); (case b | c => k_asm); k_whole)))


local macro_rules | `(tactic| walk_at "MINE hm") => `(tactic| ((repeat (refine off_if (by decide) ?_)); exact off_ov))
local macro_rules | `(tactic| walk_at "MINE own") => `(tactic| (intro p hp; k_ownIn))
local macro_rules | `(tactic| walk_at "MINE at") => `(tactic| first | exact Fr.keep (by k_asm) _ _ (by with_reducible assumption) | exact News.get (by k_asm) (by k_mem))
local macro_rules | `(tactic| walk_at "exec While Compare cons nil") => `(tactic| refine stop_of ?_)
local macro_rules | `(tactic| walk_at "exec While BoolOp cons nil") => `(tactic| refine stop_of ?_)
local macro_rules | `(tactic| walk_at "subscriptTail") => `(tactic| (k_here; (with_reducible show wpAny _ _ (subscriptTail _ _ (Value.ref _) (Value.int _ _)) _ _ _); k_dflt (first
  | (refine' opt_some ?a ?b ?c ?d ?e ?_; (case a => walk_at "MINE at"); (case b | e => k_asm); (case c | d => lia); k_whole; intro t')
  | (refine' opt_split ?a ?b ?c ?d ?e (fun e' => ?_) (fun x' t' e' => ?_); (case a => walk_at "MINE at"); (case b => k_asm); (case c | d | e => lia); k_whole))))
local macro_rules | `(tactic| walk_at "call builtin:len") => `(tactic| (k_here; (with_reducible show wpAny _ _ (call (Value.builtin "len") [Value.ref _]) _ _ _); k_dflt (refine' len_get ?a ?b ?_; (case a => walk_at "MINE at"); (case b => lia); k_whole; intro t' k')))
local macro_rules | `(tactic| walk_at "subscriptTail") => `(tactic| (k_here; (with_reducible show wpAny _ _ (subscriptTail _ _ (Value.ref _) (Value.int (-1) _)) _ _ _); k_dflt (first
  | (refine' item_last ?a ?b ?_; (case a => walk_at "MINE at"); (case b => lia); k_whole)
  | (refine' item_lastP ?a ?b ?_; (case a => walk_at "MINE at"); (case b => lia); k_whole))))
local macro_rules | `(tactic| k_all) => `(tactic| first | exact allLt_ne (by assumption) | exact allLt_ne (And.right (by assumption)) | exact allLt_ne (And.right (And.right (by assumption))) | exact allLt_ne (And.right (And.right (And.right (by assumption)))))
local macro_rules | `(tactic| walk_at "subscriptTail") => `(tactic| (k_here; (with_reducible show wpAny _ _ (subscriptTail _ _ (Value.ref _) (Value.int _ _)) _ _ _); k_dflt (first
  | (refine' str_at ?a ?b ?c ?d ?e ?_; (case a => walk_at "MINE at"); (case b | e => k_asm); (case c | d => lia); k_whole; intro t')
  | (refine' int_at ?a ?b ?c ?d ?e ?_; (case a => walk_at "MINE at"); (case b | e => k_asm); (case c | d => lia); k_whole; intro t')
  | (refine' item_get ?a ?b ?c ?d ?_; (case a => walk_at "MINE at"); (case d => k_asm); (case b | c => lia); k_whole)
  | (refine' dict_item ?a ?b ?c ?d ?_; (case a => walk_at "MINE at"); (case b | c | d => k_asm); k_whole; intro t' k'))))
local macro_rules | `(tactic| walk_at "call ref") => `(tactic| refine stop_of ?_)
local macro_rules | `(tactic| walk_at "exec For Name Name cons nil") => `(tactic| (k_here; (rename Fr _ _ _ _ => lF'); with_unfolding_all (refine For_turns lF' ?_)))
local macro_rules | `(tactic| walk_at "exec For Name Call cons nil") => `(tactic| (k_here; (rename Fr _ _ _ _ => lF'); with_unfolding_all (refine For_turns lF' ?_)))
local macro_rules | `(tactic| walk_at "pyIter ref") => `(tactic| ((with_reducible show wpAny _ _ (pyIter (Value.ref _)) (fun it s₂ => TurnsAt _ _ _ _ _ _ _ _ _ it s₂) _ _); refine stop_of ?_))
local macro_rules | `(tactic| walk_at "call builtin:list.extend") => `(tactic| (k_here; (with_reducible show wpAny _ _ (call (Value.builtin _) [Value.ref _, Value.ref _]) _ _ _); k_dflt (refine' extend_my ?F ?N ?b ?ne ?z ?y ?U ?_; (case F | N => k_asm); (case b => k_mem); (case U => k_upd); (case ne => lia); (case z => first | lia | (simp only [List.length_append, List.length_cons, List.length_nil]; lia)); (case y => lia); k_whole); intro h' F' N'; (try dsimp only at N')))
theorem warm_F1 : (Mine.hd.heap_39 = Mine.hd.heap_39) ∧ (PySem.Challenge.rw_on0355_01.foot = 6) := by
  w_top off
  k_fill
  exact ⟨rfl, rfl⟩
/-! isolate_pairs -/
def pairsStep (x : List Int × List (Int × Int)) (i : Nat) (k : Str) : List Int × List (Int × Int) :=
  if isInit k then (x.1 ++ [(i : Int)], x.2)
  else if k = Str.ofString "PDI" ∧ x.1 ≠ [] then (x.1.dropLast, put (put x.2 (x.1.getLastD 0) i) i (x.1.getLastD 0)) else x
def pairsAt (ks : List Str) : Nat → List Int × List (Int × Int)
  | 0 => ([], [])
  | i + 1 => match ks[i]? with | some k => pairsStep (pairsAt ks i) i k | none => pairsAt ks i
theorem pairsAt_succ {ks : List Str} {i : Nat} {k : Str} (h : ks[i]? = some k) : pairsAt ks (i + 1) = pairsStep (pairsAt ks i) i k := by
  show (match ks[i]? with | some k => pairsStep (pairsAt ks i) i k | none => pairsAt ks i) = _
  rw [h]
theorem pairsStep_len (x : List Int × List (Int × Int)) (i : Nat) (k : Str) : (pairsStep x i k).1.length ≤ x.1.length + 1 ∧ (pairsStep x i k).2.length ≤ x.2.length + 2 := by
  unfold pairsStep
  split
  · simp only [List.length_append, List.length_cons, List.length_nil]; (first | lia | omega)
  · split
    · have h1 := put_len x.2 (x.1.getLastD 0) i
      have h2 := put_len (put x.2 (x.1.getLastD 0) i) i (x.1.getLastD 0)
      simp only [List.length_dropLast]; (first | lia | omega)
    · (first | lia | omega)
theorem pairsAt_len (ks : List Str) : ∀ i, (pairsAt ks i).1.length ≤ i ∧ (pairsAt ks i).2.length ≤ 2 * i
  | 0 => ⟨Nat.le_refl _, Nat.le_refl _⟩
  | i + 1 => by
    have ih := pairsAt_len ks i
    unfold pairsAt
    split
    · rename_i k _
      have := pairsStep_len (pairsAt ks i) i k
      (first | lia | omega)
    · (first | lia | omega)

inductive PairJ (prog : Program) (w : World) (l' d' : Addr) (ks : List Str) (i : Nat) (m : Str → Option Value) (nx : List (Addr × Obj)) : Prop
  | mk (ws : List Value) (n : Nat) (st : List Int) (o : Obj) (f : List (Int × Int)) (x1 : nx = [(l', W.listOf ws.toArray n), (d', o)]) (x2 : IntsAre ws st) (x3 : DictI prog w o f) (x4 : (st, f) = pairsAt ks i)
inductive PairsR (prog : Program) (w : World) (f : List (Int × Int)) (g : Heap) (v : Value) (h' : Heap) : Prop
  | mk (d : Addr) (o : Obj) (e : v = .ref d) (x1 : Fresh g h' [(d, o)]) (x2 : (d == sysModules) = false) (x3 : DictI prog w o f)
section
variable {prog : Program} {w : World} {A : Around} {s : Shared} {p : Program} {loose : List Str} {mean : ExcName → Option Value} {mg mb : Str → Option Value}
theorem pairs_spec {e₁ e₂ : Env} (T : Top p loose mean mg mb s.heap) (KX : (Mine.hd.heap_39 w.params).In s.heap)
    {ak : Addr} {vs : List Value} {nn : Nat} {ks : List Str} (hk : s.heap.get? ak = some (listOf vs.toArray nn)) (hs : StrsAre vs ks) (hlen : ks.length ≤ 64) (hB : Str.ofString "B" ∉ ks) :
    codeAny (model prog w) ((callerA.deeper e₁).deeper e₂) (.call (.ref 22) ⟨[.ref ak], []⟩) (RetK s (PairsR prog w (pairsAt ks ks.length).2 s.heap)) s := by
  refine hideR fun R hR => ?_
  refine' code_my (binds := [(Str.ofString "kinds", .ref ak)]) ?T ?X ?k6 ?k7 ?k8 ?k9 ?kB ?c5 ?c2 ?c3 ?c4 ?_
  walk_at "MINE enter"
  intro L' h₁ F N
  k_fold
  k_steps
  rename Fr _ _ _ _ => F
  rename News _ _ _ _ => N
  rename Obj.IsDictOf (intKind _ _) _ _ => hD0
  rename (_ == sysModules) = false => hlo
  rename PyProof.V.FlatPairs PyData.int _ _ => hF0
  rename_i d' _ o' _ _ _ _ l' _ hlt _
  refine for_enumS (nn := nn) [Str.ofString "at", Str.ofString "kind", Str.ofString "begin"] (PairJ prog w l' d' ks) rfl (.inl hk) rfl rfl F N ⟨[], 0, [], o', [], rfl, .nil, .nil hD0, rfl⟩ ?_ ?_
  · rintro i v T t m₁ nx h tk own hv ⟨ws, n, st, o, f, rfl, hI, hd, hst⟩ hoff F N hT
    obtain ⟨k, u, rfl, hki⟩ := hs.item _ _ hv
    replace hoff : OwnOff own [l', d'] := hoff
    simp only [List.cons_append, List.nil_append] at N
    have hi : i < ks.length := (List.getElem?_eq_some_iff.mp hki).1
    have hl1 : ws.length ≤ 64 := by
      have := (pairsAt_len ks i).1
      rw [← hst] at this
      rw [hI.length]; simp only at this; (first | lia | omega)
    have hl2 : f.length ≤ 500 := by
      have := (pairsAt_len ks i).2
      rw [← hst] at this
      simp only at this; (first | lia | omega)
    have hnB : (k == Str.ofString "B") = true → False := fun e => hB (by rw [← eq_of_beq e]; exact List.mem_of_getElem? hki)
    refine hideI fun Q' hQ => ?_
    k_steps
    · rename News _ _ _ _ => nE'
      try simp only [List.push_toArray] at nE'
      refine hQ _ _ (endG [(l', listOf _ _), (d', _)] (by assumption) nE' (all2 (by k_mem) (by k_mem)) (by walk_at "MINE own") hoff (by walk_at "MINE hm") ?_)
      exact ⟨_, _, _, _, _, rfl, hI.append (.cons _ _ .nil), hd, by rw [pairsAt_succ hki, ← hst]; simp [pairsStep, *]⟩
    · rename News _ _ _ _ => nE'
      try simp only [List.push_toArray] at nE'
      refine hQ _ _ (endG [(l', listOf _ _), (d', _)] (by assumption) nE' (all2 (by k_mem) (by k_mem)) (by walk_at "MINE own") hoff (by walk_at "MINE hm") ?_)
      exact ⟨_, _, _, _, _, rfl, hI, hd, by rw [pairsAt_succ hki, ← hst]; simp_all [pairsStep]⟩
    · rename News _ _ _ _ => nE'
      try simp only [List.push_toArray] at nE'
      refine hQ _ _ (endG [(l', listOf _ _), (d', _)] (by assumption) nE' (all2 (by k_mem) (by k_mem)) (by walk_at "MINE own") hoff (by walk_at "MINE hm") ?_)
      exact ⟨_, _, _, _, _, rfl, by assumption, by assumption, by rw [pairsAt_succ hki, ← hst]; simp_all [pairsStep]⟩
    · rename News _ _ _ _ => nE'
      try simp only [List.push_toArray] at nE'
      refine hQ _ _ (endG [(l', listOf _ _), (d', _)] (by assumption) nE' (all2 (by k_mem) (by k_mem)) (by walk_at "MINE own") hoff (by walk_at "MINE hm") ?_)
      exact ⟨_, _, _, _, _, rfl, hI, hd, by rw [pairsAt_succ hki, ← hst]; simp_all [pairsStep]⟩
  · rintro m' nx h' tk ⟨ws, n, st, o, f, rfl, hI, hd, hst⟩ F N
    k_steps
    exact .intro (by assumption) (hR _ _ ⟨d', o, rfl, .of N (all1 (.tail _ (.head _))), hlo, by rw [← hs.length, ← hst]; exact hd⟩)
end
theorem warm_F2 : (Mine.hd.heap_39 = Mine.hd.heap_39) ∧ (PySem.Challenge.rw_on0355_01.foot = 6) := by
  w_top off
  k_fill
  exact ⟨rfl, rfl⟩
/-! bidi_direction, _law_way -/
def dirOf (a b : Int) : Str := if max a b % 2 = 1 then Str.ofString "R" else Str.ofString "L"
section
variable {prog : Program} {w : World} {A : Around} {s : Shared} {p : Program} {loose : List Str} {mean : ExcName → Option Value} {mg mb : Str → Option Value}
theorem max_fmod (a b : Int) : (if b > a then b else a).fmod 2 = max a b % 2 := by
  rw [Int.fmod_eq_emod_of_nonneg _ (by decide)]
  have : (if b > a then b else a) = max a b := by split <;> (first | lia | omega)
  rw [this]
theorem way_spec {e₁ e₂ : Env} (T : Top p loose mean mg mb s.heap) (KX : (Mine.hd.heap_39 w.params).In s.heap)
    {a b : Int} {t u : Tok} :
    codeAny (model prog w) ((callerA.deeper e₁).deeper e₂) (.call (.ref 94) ⟨[.int a t, .int b u], []⟩) (RetK s fun v _ => ∃ tk, v = .str (dirOf a b) tk) s := by
  refine' code_my (binds := [(Str.ofString "near", .int a t), (Str.ofString "far", .int b u)]) ?T ?X ?k6 ?k7 ?k8 ?k9 ?kB ?c5 ?c2 ?c3 ?c4 ?_
  walk_at "MINE enter"
  intro L' h₁ F N
  k_fold
  k_steps
  · rename _ = (0 : Int) => h
    rw [max_fmod] at h
    exact .intro (by assumption) ⟨_, by unfold dirOf; rw [if_neg (by (first | lia | omega))]⟩
  · rename _ = (1 : Int) => h
    rw [max_fmod] at h
    exact .intro (by assumption) ⟨_, by unfold dirOf; rw [if_pos h]⟩
theorem dir_spec {e₁ e₂ : Env} (T : Top p loose mean mg mb s.heap) (KX : (Mine.hd.heap_39 w.params).In s.heap)
    {a b : Int} {t u : Tok} :
    codeAny (model prog w) ((callerA.deeper e₁).deeper e₂) (.call (.ref 59) ⟨[.int a t, .int b u], []⟩) (RetK s fun v _ => ∃ tk, v = .str (dirOf a b) tk) s := by
  refine' code_my (binds := [(Str.ofString "one", .int a t), (Str.ofString "other", .int b u)]) ?T ?X ?k6 ?k7 ?k8 ?k9 ?kB ?c5 ?c2 ?c3 ?c4 ?_
  walk_at "MINE enter"
  intro L' h₁ F N
  k_fold
  k_steps
  · rename _ = (1 : Int) => h
    rw [max_fmod] at h
    exact .intro (by assumption) ⟨_, by unfold dirOf; rw [if_pos h]⟩
  · rename _ ≠ (1 : Int) => h
    rw [max_fmod] at h
    exact .intro (by assumption) ⟨_, by unfold dirOf; rw [if_neg h]⟩

theorem beside_spec {e₁ e₂ : Env} (T : Top p loose mean mg mb s.heap) (KX : (Mine.hd.heap_39 w.params).In s.heap)
    {ak : Addr} {vs : List Value} {nn : Nat} {ls : List (Option Int)} (hk : s.heap.get? ak = some (W.listOf vs.toArray nn)) (hs : OptsAre vs ls) (hlen : ls.length ≤ 64)
    {at' step base : Int} {t1 t2 t3 : Tok} (I : Int → Prop) (μ : Int → Nat) (P : Int → Prop) (h0 : I (at' + step))
    (hnone : ∀ j, I j → 0 ≤ j → j < ls.length → ls[j.toNat]? = some none → I (j + step) ∧ μ (j + step) < μ j)
    (hsome : ∀ j v, I j → 0 ≤ j → j < ls.length → ls[j.toNat]? = some (some v) → P v)
    (hend : ∀ j, I j → ¬ (0 ≤ j ∧ j < ls.length) → P base) :
    codeAny (model prog w) ((callerA.deeper e₁).deeper e₂) (.call (.ref 66) ⟨[.ref ak, .int at' t1, .int step t2, .int base t3], []⟩) (RetK s fun v _ => ∃ r tk, v = .int r tk ∧ P r) s := by
  refine' code_my (binds := [(Str.ofString "levels", .ref ak), (Str.ofString "at", .int at' t1), (Str.ofString "step", .int step t2), (Str.ofString "base", .int base t3)]) ?T ?X ?k6 ?k7 ?k8 ?k9 ?kB ?c5 ?c2 ?c3 ?c4 ?_
  walk_at "MINE enter"
  intro L' h₁ F N
  k_fold
  k_steps
  unfold Stop
  have hvl := hs.length
  rename Fr _ _ _ _ => F
  rename News _ _ _ _ => N
  refine While_inv2 (fun n m nx => ∃ j t, (m = fun y => if y = Str.ofString "at" then some (.int j t) else [(Str.ofString "levels", Value.ref ak), (Str.ofString "at", .int at' t1), (Str.ofString "step", .int step t2), (Str.ofString "base", .int base t3)].reverse.lookup y) ∧ I j ∧ n = μ j ∧ nx = []) F N ⟨_, _, rfl, h0, rfl, rfl⟩ ?_
  rintro n m₁ nx h₁ tk₁ F N ⟨j, t, rfl, hI, rfl, rfl⟩
  k_steps
  · rename ls[j.toNat]? = some none => e
    obtain ⟨a, b⟩ := hnone j hI (by assumption) (by (first | lia | omega)) e
    exact while_next (by assumption) (by assumption) b ⟨_, _, shadow, a, rfl, rfl⟩
  · rename ls[j.toNat]? = some (some _) => e
    exact RetK.intro (by assumption) ⟨_, _, rfl, hsome j _ hI (by assumption) (by (first | lia | omega)) e⟩
  · exact RetK.intro (by assumption) ⟨_, _, rfl, hend j hI (by (first | lia | omega))⟩
  · exact RetK.intro (by assumption) ⟨_, _, rfl, hend j hI (by (first | lia | omega))⟩

def befL (ls : List (Option Int)) (base : Int) (i : Nat) : Int := ((ls.take i).reverse.findSome? id).getD base
def aftL (ls : List (Option Int)) (base : Int) (i : Nat) : Int := ((ls.drop (i + 1)).findSome? id).getD base

theorem bef_spec {e₁ e₂ : Env} (T : Top p loose mean mg mb s.heap) (KX : (Mine.hd.heap_39 w.params).In s.heap)
    {ak : Addr} {vs : List Value} {nn : Nat} {ls : List (Option Int)} (hk : s.heap.get? ak = some (W.listOf vs.toArray nn)) (hs : OptsAre vs ls) (hlen : ls.length ≤ 64)
    {i base : Int} {t1 t2 t3 : Tok} (h0 : 0 ≤ i) (hi : i ≤ ls.length) :
    codeAny (model prog w) ((callerA.deeper e₁).deeper e₂) (.call (.ref 66) ⟨[.ref ak, .int i t1, .int (-1) t2, .int base t3], []⟩) (RetK s fun v _ => ∃ tk, v = .int (befL ls base i.toNat) tk) s := by
  refine codeAny_mono (beside_spec T KX hk hs hlen (fun j => -1 ≤ j ∧ j < i ∧ ((ls.take (j + 1).toNat).reverse.findSome? id) = ((ls.take i.toNat).reverse.findSome? id)) (fun j => (j + 1).toNat) (fun v => v = befL ls base i.toNat)
    ⟨by (first | lia | omega), by (first | lia | omega), by rw [show (i + -1 + 1).toNat = i.toNat by (first | lia | omega)]⟩ ?_ ?_ ?_) ?_
  · rintro j ⟨h1, h2, h3⟩ h4 h5 h6
    refine ⟨⟨by (first | lia | omega), by (first | lia | omega), ?_⟩, by (first | lia | omega)⟩
    rw [← h3, show (j + -1 + 1).toNat = j.toNat by (first | lia | omega), show (j + 1).toNat = j.toNat + 1 by (first | lia | omega), List.take_add_one, h6]
    simp
  · rintro j v ⟨h1, h2, h3⟩ h4 h5 h6
    unfold befL
    rw [← h3, show (j + 1).toNat = j.toNat + 1 by (first | lia | omega), List.take_add_one, h6]
    simp
  · rintro j ⟨h1, h2, h3⟩ h4
    have : j = -1 := by (first | lia | omega)
    subst this
    unfold befL
    rw [← h3]
    simp
  · rintro r s' ⟨v, h', tk, rfl, rfl, st, x, tk', rfl, rfl⟩
    exact ⟨_, h', tk, rfl, rfl, st, tk', rfl⟩
theorem aft_spec {e₁ e₂ : Env} (T : Top p loose mean mg mb s.heap) (KX : (Mine.hd.heap_39 w.params).In s.heap)
    {ak : Addr} {vs : List Value} {nn : Nat} {ls : List (Option Int)} (hk : s.heap.get? ak = some (W.listOf vs.toArray nn)) (hs : OptsAre vs ls) (hlen : ls.length ≤ 64)
    {i base : Int} {t1 t2 t3 : Tok} (h0 : 0 ≤ i) :
    codeAny (model prog w) ((callerA.deeper e₁).deeper e₂) (.call (.ref 66) ⟨[.ref ak, .int i t1, .int 1 t2, .int base t3], []⟩) (RetK s fun v _ => ∃ tk, v = .int (aftL ls base i.toNat) tk) s := by
  refine codeAny_mono (beside_spec T KX hk hs hlen (fun j => 0 ≤ j ∧ ((ls.drop j.toNat).findSome? id) = ((ls.drop (i.toNat + 1)).findSome? id)) (fun j => ls.length - j.toNat) (fun v => v = aftL ls base i.toNat)
    ⟨by (first | lia | omega), by rw [show (i + 1).toNat = i.toNat + 1 by (first | lia | omega)]⟩ ?_ ?_ ?_) ?_
  · rintro j ⟨h1, h3⟩ h4 h5 h6
    have hj : j.toNat < ls.length := by (first | lia | omega)
    refine ⟨⟨by (first | lia | omega), ?_⟩, by (first | lia | omega)⟩
    rw [← h3, show (j + 1).toNat = j.toNat + 1 by (first | lia | omega)]
    rw [List.drop_eq_getElem_cons hj]
    rw [List.getElem?_eq_getElem hj] at h6
    simp [Option.some.inj h6]
  · rintro j v ⟨h1, h3⟩ h4 h5 h6
    have hj : j.toNat < ls.length := by (first | lia | omega)
    unfold aftL
    rw [← h3, List.drop_eq_getElem_cons hj]
    rw [List.getElem?_eq_getElem hj] at h6
    simp [Option.some.inj h6]
  · rintro j ⟨h1, h3⟩ h4
    unfold aftL
    rw [← h3, List.drop_of_length_le (by (first | lia | omega))]
    rfl
  · rintro r s' ⟨v, h', tk, rfl, rfl, st, x, tk', rfl, rfl⟩
    exact ⟨_, h', tk, rfl, rfl, st, tk', rfl⟩
end
theorem warm_F3 : (Mine.hd.heap_39 = Mine.hd.heap_39) ∧ (PySem.Challenge.rw_on0355_01.foot = 6) := by
  w_top off
  k_fill
  exact ⟨rfl, rfl⟩
/-! level_runs -/
/-- made lists of ints, each an entry of the ledger -/
inductive RunsAre : List (Addr × Obj) → List (List Int) → Prop
  | nil : RunsAre [] []
  | cons {a : Addr} {vs : List Value} {n : Nat} {r : List Int} {es : List (Addr × Obj)} {rs : List (List Int)} : IntsAre vs r → RunsAre es rs → RunsAre ((a, W.listOf vs.toArray n) :: es) (r :: rs)
theorem RunsAre.length : ∀ {es rs}, RunsAre es rs → es.length = rs.length := by
  intro _ _ h
  induction h with
  | nil => rfl
  | cons _ _ ih => exact congrArg (· + 1) ih
theorem RunsAre.append : ∀ {es rs fs ss}, RunsAre es rs → RunsAre fs ss → RunsAre (es ++ fs) (rs ++ ss) := by
  intro _ _ _ _ h k
  induction h with
  | nil => exact k
  | cons a _ ih => exact .cons a ih
theorem RunsAre.snoc {es : List (Addr × Obj)} {rs : List (List Int)} (h : RunsAre es rs) : es ≠ [] → ∃ es₀ rs₀ a vs n r, es = es₀ ++ [(a, W.listOf vs.toArray n)] ∧ rs = rs₀ ++ [r] ∧ IntsAre vs r ∧ RunsAre es₀ rs₀ := by
  induction h with
  | nil => intro e; exact absurd rfl e
  | @cons a vs n r es rs hi hr ih =>
    intro _
    cases es with
    | nil =>
      cases hr
      exact ⟨[], [], a, vs, n, r, rfl, rfl, hi, .nil⟩
    | cons e es =>
      obtain ⟨es₀, rs₀, a', vs', n', r', e1, e2, h1, h2⟩ := ih (by simp)
      exact ⟨(a, W.listOf vs.toArray n) :: es₀, r :: rs₀, a', vs', n', r', by rw [e1]; rfl, by rw [e2]; rfl, h1, .cons hi h2⟩
def refsOf (es : List (Addr × Obj)) : List Value := es.map fun p => .ref p.1
def runsStep (x : List (List Int) × Option Int) (i : Nat) (l : Option Int) : List (List Int) × Option Int :=
  match l with
  | none => x
  | some k => if x.2 = some k then (x.1.dropLast ++ [x.1.getLastD [] ++ [(i : Int)]], some k) else (x.1 ++ [[(i : Int)]], some k)
def runsAt (ls : List (Option Int)) : Nat → List (List Int) × Option Int
  | 0 => ([], none)
  | i + 1 => match ls[i]? with | some l => runsStep (runsAt ls i) i l | none => runsAt ls i
theorem runsAt_succ {ls : List (Option Int)} {i : Nat} {l : Option Int} (h : ls[i]? = some l) : runsAt ls (i + 1) = runsStep (runsAt ls i) i l := by
  show (match ls[i]? with | some l => runsStep (runsAt ls i) i l | none => runsAt ls i) = _
  rw [h]
theorem runsAt_len (ls : List (Option Int)) : ∀ i, (runsAt ls i).1.length ≤ i ∧ (∀ r ∈ (runsAt ls i).1, r.length ≤ i) ∧ ((runsAt ls i).2 ≠ none → (runsAt ls i).1 ≠ [])
  | 0 => ⟨Nat.le_refl _, (fun r hr => by cases hr), fun h => absurd rfl h⟩
  | i + 1 => by
    obtain ⟨h1, h2, h3⟩ := runsAt_len ls i
    unfold runsAt
    split
    · rename_i l _
      unfold runsStep
      cases l with
      | none => exact ⟨by simp only; (first | lia | omega), fun r hr => Nat.le_succ_of_le (h2 r hr), h3⟩
      | some k =>
        simp only
        split
        · rename_i hk
          have hne := h3 (by rw [hk]; simp)
          have hlast : (runsAt ls i).1.getLastD [] ∈ (runsAt ls i).1 := by
            rw [List.getLastD_eq_getLast?, List.getLast?_eq_some_getLast hne]; exact List.getLast_mem hne
          have hl := h2 _ hlast
          refine ⟨by simp only [List.length_append, List.length_dropLast, List.length_cons, List.length_nil]; (first | lia | omega), fun r hr => ?_, fun _ => by simp⟩
          rcases List.mem_append.mp hr with hr | hr
          · exact Nat.le_succ_of_le (h2 r (List.dropLast_subset _ hr))
          · rw [List.mem_singleton.mp hr]; simp only [List.length_append, List.length_cons, List.length_nil]; (first | lia | omega)
        · refine ⟨by simp only [List.length_append, List.length_cons, List.length_nil]; (first | lia | omega), fun r hr => ?_, fun _ => by simp⟩
          rcases List.mem_append.mp hr with hr | hr
          · exact Nat.le_succ_of_le (h2 r hr)
          · rw [List.mem_singleton.mp hr]; simp
    · exact ⟨by (first | lia | omega), fun r hr => Nat.le_succ_of_le (h2 r hr), h3⟩

def OptV (v : Value) (o : Option Int) : Prop := match o with | none => v = .none | some k => ∃ t, v = .int k t

inductive RunsJ (fa : Addr) (ls : List (Option Int)) (i : Nat) (m : Str → Option Value) (nx : List (Addr × Obj)) : Prop
  | mk (es : List (Addr × Obj)) (n : Nat) (lv : Value) (lo : Option Int) (fs : List (List Int))
    (x1 : m (Str.ofString "last") = some lv) (x2 : nx = (fa, W.listOf (refsOf es).toArray n) :: es) (x3 : RunsAre es fs) (x4 : OptV lv lo) (x5 : (fs, lo) = runsAt ls i) (x6 : ∀ p ∈ es, p.1 ≠ fa) (x7 : (es.map (·.1)).Nodup)
theorem runs_new {h₀ : Heap} {L fa : Addr} {ls : List (Option Int)} {i : Nat} {k : Int} {stored : List Str} {m₀ m' : Str → Option Value} {s₁ : Shared} {own es : List (Addr × Obj)} {fs : List (List Int)} {lo : Option Int} {t' : Tok}
    {h' : Heap} {tk' : Nat} {a' : Addr} {t : Tok} {nf : Nat} (hli : ls[i]? = some (some k)) (hlo : lo ≠ some k) (hR : RunsAre es fs) (hst : (fs, lo) = runsAt ls i) (hnf : ∀ p ∈ es, p.1 ≠ fa) (hnd : (es.map (·.1)).Nodup)
    (hoff : OwnOff own (fa :: es.map (·.1))) (hlt : AllLt a' (es ++ own)) (hfa : @LT.lt Nat _ fa a')
    (F' : Fr h₀ L h' m') (N' : News h₀ L h' ((a', W.listOf ([] ++ [Value.int (i : Int) t]).toArray (0 + 1)) :: (fa, W.listOf (refsOf es ++ [Value.ref a']).toArray nf) :: (es ++ own)))
    (hm : ∀ z, stored.contains z = false → m' z = m₀ z) (hl' : m' (Str.ofString "last") = some (.int k t')) :
    InvEndG h₀ L (JJ stored m₀ (RunsJ fa ls) (i + 1)) own s₁ { s₁ with heap := h', toks := tk' } := by
  have hne : ∀ p ∈ es ++ own, p.1 ≠ a' := allLt_ne hlt
  have hrf : refsOf (es ++ [(a', W.listOf [Value.int (i : Int) t].toArray 1)]) = refsOf es ++ [Value.ref a'] := by unfold refsOf; rw [List.map_append]; rfl
  refine endG ((fa, W.listOf (refsOf es ++ [Value.ref a']).toArray nf) :: (es ++ [(a', W.listOf [Value.int (i : Int) t].toArray 1)])) F' N' ?_ (fun p hp => .tail _ (.tail _ (List.mem_append_right _ hp))) ?_ hm
    ⟨es ++ [(a', W.listOf [Value.int (i : Int) t].toArray 1)], nf, _, some k, fs ++ [[(i : Int)]], hl', by rw [hrf], hR.append (.cons (.cons _ _ .nil) .nil), ⟨_, rfl⟩, ?_, ?_, ?_⟩
  · intro p hp
    rcases List.mem_cons.mp hp with rfl | hp
    · exact .tail _ (.head _)
    · rcases List.mem_append.mp hp with hp | hp
      · exact .tail _ (.tail _ (List.mem_append_left _ hp))
      · rw [List.mem_singleton.mp hp]; exact .head _
  · intro p hp b hb
    rcases List.mem_cons.mp hb with rfl | hb
    · exact hoff p hp _ (.head _)
    · rw [List.map_append] at hb
      rcases List.mem_append.mp hb with hb | hb
      · exact hoff p hp _ (.tail _ hb)
      · rw [List.mem_singleton.mp hb]; exact hne p (List.mem_append_right _ hp)
  · rw [runsAt_succ hli, ← hst]; simp only [runsStep, hlo, if_false]
  · intro p hp
    rcases List.mem_append.mp hp with hp | hp
    · exact hnf p hp
    · rw [List.mem_singleton.mp hp]; exact Nat.ne_of_gt hfa
  · rw [List.map_append]
    refine List.nodup_append.mpr ⟨hnd, List.nodup_cons.mpr ⟨by simp, .nil⟩, fun a ha b hb => ?_⟩
    obtain ⟨q, hq, rfl⟩ := List.mem_map.mp ha
    rw [List.mem_singleton.mp hb]
    exact hne q (List.mem_append_left _ hq)

inductive ListsR (rs : List (List Int)) (g : Heap) (v : Value) (h' : Heap) : Prop
  | mk (fa : Addr) (n : Nat) (es : List (Addr × Obj)) (e : v = .ref fa) (x1 : RunsAre es rs) (x2 : Fresh g h' ((fa, W.listOf (refsOf es).toArray n) :: es))
section
variable {prog : Program} {w : World} {A : Around} {s : Shared} {p : Program} {loose : List Str} {mean : ExcName → Option Value} {mg mb : Str → Option Value}
theorem runs_spec {e₁ e₂ e₃ : Env} (T : Top p loose mean mg mb s.heap) (KX : (Mine.hd.heap_39 w.params).In s.heap)
    {ak : Addr} {vs : List Value} {nn : Nat} {ls : List (Option Int)} (hk : s.heap.get? ak = some (W.listOf vs.toArray nn)) (hs : OptsAre vs ls) (hlen : ls.length ≤ 64) :
    codeAny (model prog w) (((callerA.deeper e₁).deeper e₂).deeper e₃) (.call (.ref 29) ⟨[.ref ak], []⟩) (RetK s (ListsR (runsAt ls ls.length).1 s.heap)) s := by
  refine hideR fun R hRR => ?_
  refine' code_my (binds := [(Str.ofString "levels", .ref ak)]) ?T ?X ?k6 ?k7 ?k8 ?k9 ?kB ?c5 ?c2 ?c3 ?c4 ?_
  walk_at "MINE enter"
  intro L' h₁ F N
  k_fold
  k_steps
  rename Fr _ _ _ _ => F
  rename News _ _ _ _ => N
  rename_i fa _ _ _ _
  have hvl := hs.length
  refine for_enumS (nn := nn) [Str.ofString "at", Str.ofString "level", Str.ofString "last"] (RunsJ fa ls) rfl (.inl hk) rfl rfl F N
    ⟨[], 0, .none, none, [], rfl, rfl, .nil, rfl, rfl, (fun _ h => nomatch h), .nil⟩ ?_ ?_
  · rintro i v T t m₁ nx h tk own hv ⟨es, n, lv, lo, fs, hlast, rfl, hR, hO, hst, hnf, hnd⟩ hoff F N hT
    rw [ov_set (x := Str.ofString "last") (by decide) hlast] at F
    have hi : i < ls.length := by rw [← hvl]; exact (List.getElem?_eq_some_iff.mp hv).1
    have hb := runsAt_len ls i
    rw [← hst] at hb
    have hesl : es.length ≤ 64 := by rw [hR.length]; have := hb.1; simp only at this; (first | lia | omega)
    have hrl : (refsOf es).length ≤ 64 := by unfold refsOf; rw [List.length_map]; exact hesl
    refine hideI fun Q' hQ => ?_
    rcases hs.item _ _ hv with ⟨rfl, hli⟩ | ⟨k, t', rfl, hli⟩
    · k_steps
      exact hQ _ _ (endG _ (by assumption) (by assumption) (fun p hp => List.mem_append_left _ hp) (fun p hp => List.mem_append_right _ hp) hoff (by walk_at "MINE hm")
        ⟨es, n, lv, lo, fs, rfl, rfl, hR, hO, by rw [runsAt_succ hli, ← hst]; rfl, hnf, hnd⟩)
    · have hofft : OwnOff (es ++ own) [fa] := OwnOff.app (fun p hp b hb => by rw [List.mem_singleton.mp hb]; exact hnf p hp) (fun p hp b hb => hoff p hp b (by rw [List.mem_singleton.mp hb]; exact .head _))
      cases lo with
      | none =>
        cases hO
        obtain ⟨tl, htl⟩ : ∃ tl, tl = es ++ own := ⟨_, rfl⟩
        rw [List.cons_append, ← htl] at N
        rw [← htl] at hofft
        k_steps
        rename_i a' _ l1 _ _ _ _ F' N'
        simp only [List.push_toArray] at N'
        rw [htl] at N' l1
        exact hQ _ _ (runs_new hli (by simp) hR hst hnf hnd hoff l1.2 l1.1 F' N' (by walk_at "MINE hm") rfl)
      | some k' =>
        obtain ⟨t'', rfl⟩ := hO
        by_cases hkk : k = k'
        · subst hkk
          obtain ⟨es₀, rs₀, al, us, na, r, rfl, rfl, hI, hR₀⟩ := hR.snoc (by intro e; subst e; cases hR; exact hb.2.2 (by simp) rfl)
          obtain ⟨tl, htl⟩ : ∃ tl, tl = es₀ ++ own := ⟨_, rfl⟩
          have hrf : ∀ x, refsOf (es₀ ++ [(al, x)]) = refsOf es₀ ++ [Value.ref al] := fun x => by unfold refsOf; rw [List.map_append]; rfl
          rw [hrf] at N hrl
          replace N : News s.heap L' h ((fa, W.listOf (refsOf es₀ ++ [Value.ref al]).toArray n) :: (al, W.listOf us.toArray na) :: tl) := fun p hp => N p (by
            rcases List.mem_cons.mp hp with rfl | hp
            · exact List.mem_append_left _ (.head _)
            · rcases List.mem_cons.mp hp with rfl | hp
              · exact List.mem_append_left _ (.tail _ (List.mem_append_right _ (.head _)))
              · rw [htl] at hp
                rcases List.mem_append.mp hp with hp | hp
                · exact List.mem_append_left _ (.tail _ (List.mem_append_left _ hp))
                · exact List.mem_append_right _ hp)
          rw [List.map_append, List.nodup_append] at hnd
          have hoff1 : ∀ p ∈ own, p.1 ≠ al := fun p hp => hoff p hp al (.tail _ (by rw [List.map_append]; exact List.mem_append_right _ (.head _)))
          have hofft : OwnOff tl [fa, al] := by
            intro p hp b hb
            rw [htl] at hp
            rcases List.mem_cons.mp hb with rfl | hb
            · rcases List.mem_append.mp hp with hp | hp
              · exact hnf p (List.mem_append_left _ hp)
              · exact hoff p hp _ (.head _)
            · rw [List.mem_singleton.mp hb]
              rcases List.mem_append.mp hp with hp | hp
              · exact hnd.2.2 _ (List.mem_map.mpr ⟨p, hp, rfl⟩) _ (.head _)
              · exact hoff1 p hp
          have hal : @Ne Nat al fa := hnf (al, _) (List.mem_append_right _ (.head _))
          have hus : us.length ≤ 64 := by rw [hI.length]; have := hb.2.1 r (List.mem_append_right _ (.head _)); (first | lia | omega)
          have hrl' : (refsOf es₀).length ≤ 64 := by simp only [List.length_append, List.length_cons, List.length_nil] at hrl; (first | lia | omega)
          k_steps
          · exact absurd rfl (by assumption : k ≠ k)
          · rename News _ _ _ _ => N'
            rename Fr _ _ _ _ => F'
            simp only [List.push_toArray] at N'
            refine hQ _ _ (endG ((fa, W.listOf (refsOf es₀ ++ [Value.ref al]).toArray n) :: (es₀ ++ [(al, W.listOf (us ++ [Value.int (i : Int) t]).toArray (na + 1))])) F' N' ?_ (fun p hp => .tail _ (.tail _ (by rw [htl]; exact List.mem_append_right _ hp))) ?_ (by walk_at "MINE hm")
              ⟨es₀ ++ [(al, W.listOf (us ++ [Value.int (i : Int) t]).toArray (na + 1))], n, _, some k, rs₀ ++ [r ++ [(i : Int)]], rfl, by rw [hrf], hR₀.append (.cons (hI.append (.cons _ _ .nil)) .nil), ⟨_, rfl⟩, ?_, ?_, ?_⟩)
            · intro p hp
              rcases List.mem_cons.mp hp with rfl | hp
              · exact .head _
              · rcases List.mem_append.mp hp with hp | hp
                · exact .tail _ (.tail _ (by rw [htl]; exact List.mem_append_left _ hp))
                · rw [List.mem_singleton.mp hp]; exact .tail _ (.head _)
            · intro p hp b hb
              rcases List.mem_cons.mp hb with rfl | hb
              · exact hoff p hp _ (.head _)
              · refine hoff p hp b (.tail _ ?_)
                rw [List.map_append] at hb ⊢
                exact hb
            · rw [runsAt_succ hli, ← hst]; simp [runsStep]
            · intro p hp
              rcases List.mem_append.mp hp with hp | hp
              · exact hnf p (List.mem_append_left _ hp)
              · rw [List.mem_singleton.mp hp]; exact hal
            · rw [List.map_append, List.nodup_append]; exact hnd
        · obtain ⟨tl, htl⟩ : ∃ tl, tl = es ++ own := ⟨_, rfl⟩
          rw [List.cons_append, ← htl] at N
          rw [← htl] at hofft
          k_steps
          · rename_i a' _ l1 _ _ _ _ F' N'
            simp only [List.push_toArray] at N'
            rw [htl] at N' l1
            exact hQ _ _ (runs_new hli (by simpa using fun e => hkk e.symm) hR hst hnf hnd hoff l1.2 l1.1 F' N' (by walk_at "MINE hm") rfl)
  · rintro m' nx h' tk ⟨es, n, lv, lo, fs, hlast, rfl, hR, hO, hst, hnf, hnd⟩ F N
    k_steps
    exact .intro (by assumption) (hRR _ _ ⟨fa, n, es, rfl, by rw [hvl] at hst; rw [← hst]; exact hR, Fresh.of N fun _ h => h⟩)
end
local macro_rules | `(tactic| walk_at "exec If") => `(tactic| (k_here; (fail_if_success (with_reducible refine in_join ?_)); (fail_if_success (with_reducible refine in_join2 ?_)); with_reducible refine stop_and ?_))
local macro_rules | `(tactic| walk_at "eval IfExp") => `(tactic| (k_here; (fail_if_success (with_reducible refine in_joinV ?_)); refine stop_of ?_))
theorem warm_F4 : (Mine.hd.heap_39 = Mine.hd.heap_39) ∧ (PySem.Challenge.rw_on0355_01.foot = 6) := by
  w_top off
  k_fill
  exact ⟨rfl, rfl⟩
/-! bidi_joined_runs -/
theorem RunsAre.get : ∀ {es rs}, RunsAre es rs → ∀ (i : Nat) (r : List Int), rs[i]? = some r → ∃ a vs n, es[i]? = some (a, W.listOf vs.toArray n) ∧ IntsAre vs r := by
  intro _ _ h
  induction h with
  | nil => intro i r e; cases e
  | @cons a vs n r' es rs hi _ ih =>
    intro i r e
    cases i with
    | zero => cases e; exact ⟨a, vs, n, rfl, hi⟩
    | succ j => exact ih j r e
def runOf (fs : List (List Int)) : Nat → List (Int × Int)
  | 0 => []
  | i + 1 => match fs[i]? with | some r => put (runOf fs i) (r.headD 0) i | none => runOf fs i
theorem runOf_succ {fs : List (List Int)} {i : Nat} {r : List Int} (h : fs[i]? = some r) : runOf fs (i + 1) = put (runOf fs i) (r.headD 0) i := by
  show (match fs[i]? with | some r => put (runOf fs i) (r.headD 0) i | none => runOf fs i) = _
  rw [h]
theorem runOf_len (fs : List (List Int)) : ∀ i, (runOf fs i).length ≤ i
  | 0 => Nat.le_refl _
  | i + 1 => by
    have ih := runOf_len fs i
    unfold runOf
    split
    · rename_i r _
      have := put_len (runOf fs i) (r.headD 0) i
      (first | lia | omega)
    · (first | lia | omega)
/-- the kind at a place -/
def kAt (ks : List Str) (x : Int) : Str := ks.getD x.toNat Str.empty
/-- the run that goes on behind a place -/
def nextRun (ks : List Str) (f : List (Int × Int)) (fs : List (List Int)) (x : Int) : Option (List Int) :=
  if isInit (kAt ks x) then (f.lookup x).bind fun c => ((runOf fs fs.length).lookup c).bind fun n => fs[n.toNat]? else none
def joinGo (ks : List Str) (f : List (Int × Int)) (fs : List (List Int)) : Nat → List Int → List Int
  | 0, q => q
  | n + 1, q => match nextRun ks f fs (q.getLastD 0) with | none => q | some r => joinGo ks f fs n (q ++ r)
def skips (ks : List Str) (f : List (Int × Int)) (r : List Int) : Bool := kAt ks (r.headD 0) == Str.ofString "PDI" && (f.lookup (r.headD 0)).isSome
def joinAt (ks : List Str) (f : List (Int × Int)) (fs : List (List Int)) : Nat → List (List Int)
  | 0 => []
  | i + 1 => match fs[i]? with | some r => if skips ks f r then joinAt ks f fs i else joinAt ks f fs i ++ [joinGo ks f fs 64 r] | none => joinAt ks f fs i

theorem RunsAre.item : ∀ {es rs}, RunsAre es rs → ∀ (i : Nat) (v : Value), (refsOf es)[i]? = some v → ∃ a vs n r, v = .ref a ∧ (a, W.listOf vs.toArray n) ∈ es ∧ rs[i]? = some r ∧ IntsAre vs r := by
  intro _ _ h
  induction h with
  | nil => intro i v e; cases e
  | @cons a vs n r es rs hi _ ih =>
    intro i v e
    cases i with
    | zero => exact ⟨a, vs, n, r, (Option.some.inj e).symm, .head _, rfl, hi⟩
    | succ j =>
      obtain ⟨a', vs', n', r', e1, e2, e3, e4⟩ := ih j v e
      exact ⟨a', vs', n', r', e1, .tail _ e2, e3, e4⟩
theorem refsOf_len (es : List (Addr × Obj)) : (refsOf es).length = es.length := by unfold refsOf; rw [List.length_map]
theorem joinAt_len (ks : List Str) (f : List (Int × Int)) (fs : List (List Int)) : ∀ i, (joinAt ks f fs i).length ≤ i
  | 0 => Nat.le_refl _
  | i + 1 => by
    have ih := joinAt_len ks f fs i
    unfold joinAt
    split
    · split
      · (first | lia | omega)
      · simp only [List.length_append, List.length_cons, List.length_nil]; (first | lia | omega)
    · (first | lia | omega)
theorem joinAt_succ {ks : List Str} {f : List (Int × Int)} {fs : List (List Int)} {i : Nat} {r : List Int} (h : fs[i]? = some r) :
    joinAt ks f fs (i + 1) = if skips ks f r then joinAt ks f fs i else joinAt ks f fs i ++ [joinGo ks f fs 64 r] := by
  show (match fs[i]? with | some r => if skips ks f r then joinAt ks f fs i else joinAt ks f fs i ++ [joinGo ks f fs 64 r] | none => joinAt ks f fs i) = _
  rw [h]
theorem kAt_get {ks : List Str} {x : Int} (h : x.toNat < ks.length) : ks[x.toNat]? = some (kAt ks x) := by
  unfold kAt
  rw [List.getD_eq_getElem?_getD, List.getElem?_eq_getElem h]; rfl
theorem runsAt_range (ls : List (Option Int)) : ∀ i, ∀ r ∈ (runsAt ls i).1, ∀ x ∈ r, 0 ≤ x ∧ x < i
  | 0 => fun r hr => by cases hr
  | i + 1 => by
    have ih := runsAt_range ls i
    have up : ∀ r ∈ (runsAt ls i).1, ∀ x ∈ r, 0 ≤ x ∧ x < (i + 1 : Nat) := fun r hr x hx => by have := ih r hr x hx; (first | lia | omega)
    unfold runsAt
    split
    · rename_i l _
      unfold runsStep
      cases l with
      | none => exact up
      | some k =>
        simp only
        split
        · intro r hr x hx
          rcases List.mem_append.mp hr with hr | hr
          · exact up r (List.dropLast_subset _ hr) x hx
          · rw [List.mem_singleton.mp hr] at hx
            rcases List.mem_append.mp hx with hx | hx
            · by_cases he : (runsAt ls i).1 = []
              · rw [he] at hx; cases hx
              · rw [List.getLastD_eq_getLast?, List.getLast?_eq_some_getLast he] at hx
                exact up _ (List.getLast_mem he) x hx
            · rw [List.mem_singleton.mp hx]; (first | lia | omega)
        · intro r hr x hx
          rcases List.mem_append.mp hr with hr | hr
          · exact up r hr x hx
          · rw [List.mem_singleton.mp hr] at hx
            rw [List.mem_singleton.mp hx]; (first | lia | omega)
    · exact up
theorem runsAt_ne (ls : List (Option Int)) : ∀ i, ∀ r ∈ (runsAt ls i).1, r ≠ []
  | 0 => fun r hr => by cases hr
  | i + 1 => by
    have ih := runsAt_ne ls i
    unfold runsAt
    split
    · rename_i l _
      unfold runsStep
      cases l with
      | none => exact ih
      | some k =>
        simp only
        split
        · intro r hr
          rcases List.mem_append.mp hr with hr | hr
          · exact ih r (List.dropLast_subset _ hr)
          · rw [List.mem_singleton.mp hr]; simp
        · intro r hr
          rcases List.mem_append.mp hr with hr | hr
          · exact ih r hr
          · rw [List.mem_singleton.mp hr]; simp
    · exact ih
/-- an entry set ahead of a ledger that holds it -/
theorem news_ahead {h₀ h : Heap} {L : Addr} {a : Addr × Obj} {b : Addr × Obj} {tl : List (Addr × Obj)} (N : News h₀ L h (b :: tl)) (hm : a ∈ tl) : News h₀ L h (b :: a :: tl) := (fm (N _ (.head _)) (fm (N _ (.tail _ hm)) (fun p hp => N _ (.tail _ hp))))

theorem joinGo_stop {ks : List Str} {f : List (Int × Int)} {fs : List (List Int)} {q : List Int} (h : nextRun ks f fs (q.getLastD 0) = none) : ∀ n, joinGo ks f fs n q = q
  | 0 => rfl
  | n + 1 => by unfold joinGo; rw [h]
theorem joinGo_step {ks : List Str} {f : List (Int × Int)} {fs : List (List Int)} {q r : List Int} (h : nextRun ks f fs (q.getLastD 0) = some r) (n : Nat) : joinGo ks f fs (n + 1) q = joinGo ks f fs n (q ++ r) := by
  conv => lhs; unfold joinGo
  rw [h]
inductive JoinJ (fo : Addr) (fx : List (Addr × Obj)) (ks : List Str) (f : List (Int × Int)) (fs : List (List Int)) (i : Nat) (_m : Str → Option Value) (nx : List (Addr × Obj)) : Prop
  | mk (fos : List (Addr × Obj)) (nf : Nat) (x1 : nx = (fo, W.listOf (refsOf fos).toArray nf) :: (fos ++ fx)) (x2 : RunsAre fos (joinAt ks f fs i)) (x3 : OwnOff fos [fo])
theorem joins_end {h₀ : Heap} {L fo pl : Addr} {ks : List Str} {f : List (Int × Int)} {fs : List (List Int)} {i kk cc nf : Nat} {r q : List Int} {us : List Value} {stored : List Str} {m₀ m' : Str → Option Value} {s₁ : Shared} {own fos fx : List (Addr × Obj)}
    {h' : Heap} {tk' : Nat} (hri : fs[i]? = some r) (hskip : skips ks f r = false) (hgo : joinGo ks f fs kk q = joinGo ks f fs 64 r) (hnx : nextRun ks f fs (q.getLastD 0) = none) (hIq : IntsAre us q)
    (hRf : RunsAre fos (joinAt ks f fs i)) (hff : OwnOff fos [fo]) (hoff : OwnOff own (fo :: (fos ++ fx).map (·.1))) (hlt : AllLt pl ((fos ++ fx) ++ own)) (hfp : @LT.lt Nat _ fo pl)
    (F' : Fr h₀ L h' m') (N' : News h₀ L h' ((pl, W.listOf us.toArray cc) :: (fo, W.listOf (refsOf fos ++ [Value.ref pl]).toArray nf) :: ((fos ++ fx) ++ own)))
    (hm : ∀ z, stored.contains z = false → m' z = m₀ z) : InvEndG h₀ L (JJ stored m₀ (JoinJ fo fx ks f fs) (i + 1)) own s₁ { s₁ with heap := h', toks := tk' } := by
  have hne := allLt_ne hlt
  have hrf : refsOf (fos ++ [(pl, W.listOf us.toArray cc)]) = refsOf fos ++ [Value.ref pl] := by unfold refsOf; rw [List.map_append]; rfl
  refine endG ((fo, W.listOf (refsOf fos ++ [Value.ref pl]).toArray nf) :: ((fos ++ [(pl, W.listOf us.toArray cc)]) ++ fx)) F' N' ?_ (fun p hp => .tail _ (.tail _ (List.mem_append_right _ hp))) ?_ hm
    ⟨fos ++ [(pl, W.listOf us.toArray cc)], nf, by rw [hrf], ?_, ?_⟩
  · intro p hp
    rcases List.mem_cons.mp hp with rfl | hp
    · exact .tail _ (.head _)
    · rcases List.mem_append.mp hp with hp | hp
      · rcases List.mem_append.mp hp with hp | hp
        · exact .tail _ (.tail _ (List.mem_append_left _ (List.mem_append_left _ hp)))
        · rw [List.mem_singleton.mp hp]; exact .head _
      · exact .tail _ (.tail _ (List.mem_append_left _ (List.mem_append_right _ hp)))
  · intro p hp b hb
    rcases List.mem_cons.mp hb with rfl | hb
    · exact hoff p hp _ (.head _)
    · obtain ⟨q', hq', rfl⟩ := List.mem_map.mp hb
      rcases List.mem_append.mp hq' with hq' | hq'
      · rcases List.mem_append.mp hq' with hq' | hq'
        · exact hoff p hp _ (.tail _ (List.mem_map.mpr ⟨q', List.mem_append_left _ hq', rfl⟩))
        · rw [List.mem_singleton.mp hq']; exact hne p (List.mem_append_right _ hp)
      · exact hoff p hp _ (.tail _ (List.mem_map.mpr ⟨q', List.mem_append_right _ hq', rfl⟩))
  · rw [joinAt_succ hri, hskip, ← hgo, joinGo_stop hnx]
    exact hRf.append (.cons hIq .nil)
  · exact OwnOff.app hff fun p hp b hb => by rw [List.mem_singleton.mp hp, List.mem_singleton.mp hb]; exact Nat.ne_of_gt hfp

inductive GoJ (pl : Addr) (a : Addr × Obj) (tl : List (Addr × Obj)) (ks : List Str) (f : List (Int × Int)) (fs : List (List Int)) (r : List Int) (n : Nat) (nx : List (Addr × Obj)) : Prop
  | mk (us : List Value) (cc : Nat) (q : List Int) (kk : Nat) (x1 : nx = (pl, W.listOf us.toArray cc) :: a :: tl) (x2 : IntsAre us q) (x3 : q ≠ []) (x4 : ∃ r' ∈ fs, q.getLastD 0 = r'.getLastD 0)
    (x5 : joinGo ks f fs kk q = joinGo ks f fs 64 r) (x6 : 64 ≤ kk + q.getLastD 0) (x7 : q.length + 64 * kk ≤ 64 * 65) (x8 : n = (64 - q.getLastD 0).toNat)
section
variable {prog : Program} {w : World} {A : Around} {s : Shared} {p : Program} {loose : List Str} {mean : ExcName → Option Value} {mg mb : Str → Option Value}
theorem joined_spec {e₁ e₂ : Env} (T : Top p loose mean mg mb s.heap) (KX : (Mine.hd.heap_39 w.params).In s.heap)
    {ak al ad : Addr} {vs us : List Value} {nn n2 : Nat} {ks : List Str} {ls : List (Option Int)} {od : Obj} {f : List (Int × Int)}
    (hk : s.heap.get? ak = some (W.listOf vs.toArray nn)) (hs : StrsAre vs ks) (hl : s.heap.get? al = some (W.listOf us.toArray n2)) (hlo : OptsAre us ls) (hdo : s.heap.get? ad = some od) (hD : DictI prog w od f) (hsm : (ad == sysModules) = false)
    (hlen : ls.length ≤ 64) (hlk : ks.length = ls.length)
    (hjoin : ∀ r ∈ (runsAt ls ls.length).1, ∀ c, isInit (kAt ks (r.getLastD 0)) = true → f.lookup (r.getLastD 0) = some c →
      ∃ (n : Nat) (r' : List Int), (runOf (runsAt ls ls.length).1 (runsAt ls ls.length).1.length).lookup c = some (n : Int) ∧ (runsAt ls ls.length).1[n]? = some r' ∧ r.getLastD 0 < r'.getLastD 0) :
    codeAny (model prog w) ((callerA.deeper e₁).deeper e₂) (.call (.ref 73) ⟨[.ref ak, .ref al, .ref ad], []⟩) (RetK s (ListsR (joinAt ks f (runsAt ls ls.length).1 (runsAt ls ls.length).1.length) s.heap)) s := by
  refine hideR fun R hRR => ?_
  refine' code_my (binds := [(Str.ofString "kinds", .ref ak), (Str.ofString "levels", .ref al), (Str.ofString "pairs", .ref ad)]) ?T ?X ?k6 ?k7 ?k8 ?k9 ?kB ?c5 ?c2 ?c3 ?c4 ?_
  walk_at "MINE enter"
  intro L' h₁ F N
  k_fold
  k_steps
  unfold Stop
  rename Fr _ _ _ _ => F
  rename News _ _ _ _ => N
  refine call_ret (runs_spec (s := _) (T.keeps F.keep) (KX.keeps F.keep) (F.keep _ _ hl) hlo hlen) F N ?_
  rintro v h' tk ⟨fa, n, es, rfl, hR, hfr⟩ F N st fresh
  obtain ⟨N1, -⟩ := fresh _ hfr
  clear fresh hfr st N
  k_steps
  rename Fr _ _ _ _ => F
  rename News _ _ _ _ => N
  rename Obj.IsDictOf (intKind _ _) _ _ => hD0
  rename (_ == sysModules) = false => hsm2
  rename_i rd _ o' _ _ _ l1 _
  generalize hfs : (runsAt ls ls.length).1 = fs at hR
  have hb := runsAt_len ls ls.length
  have hne := runsAt_ne ls ls.length
  have hrg := runsAt_range ls ls.length
  rw [hfs] at hb hne hrg hjoin
  have hesl : es.length ≤ 64 := by rw [hR.length]; (first | lia | omega)
  have hrd : OwnOff ((fa, W.listOf (refsOf es).toArray n) :: es) [rd] := fun p hp b hb => by
    rw [List.mem_singleton.mp hb]
    rcases List.mem_cons.mp hp with rfl | hp
    · exact Nat.ne_of_lt l1.1
    · exact allLt_ne l1.2 p hp
  refine for_enumS (nn := n) [Str.ofString "number", Str.ofString "run"] (fun i m nx => ∃ o, nx = (rd, o) :: (fa, W.listOf (refsOf es).toArray n) :: es ∧ DictI prog w o (runOf fs i)) rfl
    (.inr fun i m nx hJ => by obtain ⟨o, rfl, _⟩ := hJ; exact .tail _ (.head _)) rfl rfl F N ⟨o', rfl, .nil hD0⟩ ?_ ?_
  · rintro i v T' t m₁ nx h tk own hv ⟨o, rfl, hd⟩ hoff F N hT
    obtain ⟨a, vs', c, r, rfl, hmem, hri, hI⟩ := hR.item _ _ hv
    obtain ⟨tl, htl⟩ : ∃ tl, tl = ((fa, W.listOf (refsOf es).toArray n) :: es) ++ own := ⟨_, rfl⟩
    rw [List.cons_append, ← htl] at N
    replace N := news_ahead (a := (a, W.listOf vs'.toArray c)) N (by rw [htl]; exact List.mem_append_left _ (.tail _ hmem))
    have hofft : OwnOff tl [rd] := by rw [htl]; exact OwnOff.app hrd fun p hp b hb => hoff p hp b (by rw [List.mem_singleton.mp hb]; exact .head _)
    have hard : @Ne Nat a rd := hrd (a, _) (.tail _ hmem) rd (.head _)
    have hrm : r ∈ fs := List.mem_of_getElem? hri
    have hrl := hb.2.1 r hrm
    have hrn := hne r hrm
    have hr0 : r[(0 : Int).toNat]? = some (r.headD 0) := by cases r with | nil => exact absurd rfl hrn | cons x r => rfl
    have hrol := runOf_len fs i
    have hil : i < fs.length := (List.getElem?_eq_some_iff.mp hri).1
    replace hoff : OwnOff own (rd :: fa :: es.map (·.1)) := hoff
    refine hideI fun Q' hQ => ?_
    k_steps
    rename News _ _ _ _ => N'
    refine hQ _ _ (endG ((rd, _) :: (fa, W.listOf (refsOf es).toArray n) :: es) (by assumption) N' ?_ (fun p hp => .tail _ (.tail _ (by rw [htl]; exact List.mem_append_right _ hp))) hoff (by walk_at "MINE hm") ⟨_, rfl, by rw [runOf_succ hri]; assumption⟩)
    exact (fm (.head _) (fun p hp => .tail _ (.tail _ (by rw [htl]; exact List.mem_append_left _ hp))))
  · rintro m' nx h' tk ⟨o, rfl, hd⟩ F N
    have hfe : (refsOf es).length = fs.length := by rw [refsOf_len, hR.length]
    rw [hfe] at hd
    clear hD0
    k_steps
    unfold Stop
    rename Fr _ _ _ _ => F
    rename News _ _ _ _ => N
    rename_i fo _ _ _ l2 _
    have hfo : OwnOff ((rd, o) :: (fa, W.listOf (refsOf es).toArray n) :: es) [fo] := fun p hp b hb => by
      rw [List.mem_singleton.mp hb]
      rcases List.mem_cons.mp hp with rfl | hp
      · exact Nat.ne_of_lt l2.1
      · rcases List.mem_cons.mp hp with rfl | hp
        · exact Nat.ne_of_lt l2.2.1
        · exact allLt_ne l2.2.2 p hp
    obtain ⟨fx, hfx⟩ : ∃ fx, fx = (rd, o) :: (fa, W.listOf (refsOf es).toArray n) :: es := ⟨_, rfl⟩
    rw [← hfx] at hfo N
    have hfx0 := hfx
    refine for_listS (nn := n) [Str.ofString "run", Str.ofString "places"] (JoinJ fo fx ks f fs) rfl
      (.inr fun i m nx hJ => by obtain ⟨fos, nf, rfl, _⟩ := hJ; exact .tail _ (List.mem_append_right _ (by rw [hfx]; exact .tail _ (.head _)))) rfl rfl F N ⟨[], 0, rfl, .nil, fun p hp => nomatch hp⟩ ?_ ?_
    · rintro i v m₁ nx h tk own hv ⟨fos, nf, rfl, hRf, hff⟩ hoff F N
      obtain ⟨a, vs', c, r, rfl, hmem, hri, hI⟩ := hR.item _ _ hv
      obtain ⟨tl, htl⟩ : ∃ tl, tl = (fos ++ fx) ++ own := ⟨_, rfl⟩
      rw [List.cons_append, ← htl] at N
      have hmx : ∀ p ∈ fx, p ∈ tl := fun p hp => by rw [htl]; exact List.mem_append_left _ (List.mem_append_right _ hp)
      have hme : ∀ p ∈ es, p ∈ tl := fun p hp => hmx p (by rw [hfx]; exact .tail _ (.tail _ hp))
      replace N := news_ahead (a := (a, W.listOf vs'.toArray c)) N (hme _ hmem)
      replace hoff : OwnOff own (fo :: (fos ++ fx).map (·.1)) := hoff
      have hofft : OwnOff tl [fo] := by rw [htl]; exact OwnOff.app (OwnOff.app hff hfo) fun p hp b hb => hoff p hp b (by rw [List.mem_singleton.mp hb]; exact .head _)
      have hao : @Ne Nat a fo := hofft (a, _) (hme _ hmem) fo (.head _)
      have hrm : r ∈ fs := List.mem_of_getElem? hri
      have hrl := hb.2.1 r hrm
      have hrn := hne r hrm
      have hr0 : r[(0 : Int).toNat]? = some (r.headD 0) := by cases r with | nil => exact absurd rfl hrn | cons x r => rfl
      have hil : i < fs.length := (List.getElem?_eq_some_iff.mp hri).1
      have hx0 := hrg r hrm (r.headD 0) (by cases r with | nil => exact absurd rfl hrn | cons x r => exact .head _)
      have hk0 : ks[(r.headD 0).toNat]? = some (kAt ks (r.headD 0)) := kAt_get (by (first | lia | omega))
      have hfl := joinAt_len ks f fs i
      rw [← hRf.length] at hfl
      have hfr := refsOf_len fos
      refine hideI fun Q' hQ => ?_
      k_steps
      unfold Stop
      rename Fr _ _ _ _ => F
      rename News _ _ _ _ => N
      refine exec_join2_t (skips ks f r = false) ?_ ?_
      · k_steps
        · rename News _ _ _ _ => N'
          refine hQ _ _ (endG ((fo, W.listOf (refsOf fos).toArray nf) :: (fos ++ fx)) (by assumption) N' (fun p hp => ?_) (fun p hp => .tail _ (.tail _ (by rw [htl]; exact List.mem_append_right _ hp))) hoff (by walk_at "MINE hm") ⟨fos, nf, rfl, by rw [joinAt_succ hri, if_pos (by unfold skips; rw [(by assumption : (kAt ks (r.headD 0) == Str.ofString "PDI") = true), (by assumption : (f.lookup (r.headD 0)).isSome = true)]; rfl)]; exact hRf, hff⟩)
          rcases List.mem_cons.mp hp with rfl | hp
          · exact .head _
          · exact .tail _ (.tail _ (by rw [htl]; exact List.mem_append_left _ hp))
        · exact ⟨_, rfl, by unfold skips; rw [(by assumption : (f.lookup (r.headD 0)).isSome = false)]; exact Bool.and_false _⟩
        · exact ⟨_, rfl, by unfold skips; rw [(by assumption : (kAt ks (r.headD 0) == Str.ofString "PDI") = false)]; rfl⟩
      · intro tk hskip
        k_steps
        unfold Stop
        rename Fr _ _ _ _ => F
        rename News _ _ _ _ => N
        rename_i pl c' _ l3 _
        refine while_keep (GoJ pl (fo, W.listOf (refsOf fos).toArray nf) tl ks f fs r) (news := (pl, W.listOf vs'.toArray c') :: (fo, W.listOf (refsOf fos).toArray nf) :: tl)
          F (fun p hp => N p ?_) ⟨vs', c', r, 64, rfl, hI, hrn, ⟨r, hrm, rfl⟩, rfl, ?_, ?_, rfl⟩ ?_
        · rcases List.mem_cons.mp hp with rfl | hp
          · exact .head _
          · rcases List.mem_cons.mp hp with rfl | hp
            · exact .tail _ (.head _)
            · exact .tail _ (.tail _ (.tail _ hp))
        · have := (hrg r hrm _ (getLastD_mem hrn)).1; (first | lia | omega)
        · have := hrl; (first | lia | omega)
        · rintro n' nx' h₁ tk₁ F N ⟨us', cc, q, kk, rfl, hIq, hqn, ⟨r', hr', hlast⟩, hgo, hkk, hql, rfl⟩
          obtain ⟨us₀, q₀, x, tx, rfl, rfl, hI₀⟩ := ints_snoc hIq hqn
          have hxl : (q₀ ++ [x]).getLastD 0 = x := by simp
          rw [hxl] at hlast hkk
          have hxr : x ∈ r' := by rw [hlast]; exact getLastD_mem (hne r' hr')
          have hx := hrg r' hr' x hxr
          have hkx : ks[x.toNat]? = some (kAt ks x) := kAt_get (by (first | lia | omega))
          have hlu : us₀.length ≤ 5000 := by have := hI₀.length; simp only [List.length_append, List.length_cons, List.length_nil] at hql; (first | lia | omega)
          cases hin : isInit (kAt ks x) with
          | false =>
            k_steps
            rename News _ _ _ _ => N'
            simp only [List.push_toArray] at N'
            rw [htl] at N' l3
            exact hQ _ _ (joins_end hri hskip hgo (by rw [hxl]; unfold nextRun; rw [hin]; rfl) hIq hRf hff hoff l3.2.2 l3.1 (by assumption) N' (by walk_at "MINE hm"))
          | true =>
            cases hfx : f.lookup x with
            | none =>
              k_steps
              rename News _ _ _ _ => N'
              simp only [List.push_toArray] at N'
              rw [htl] at N' l3
              exact hQ _ _ (joins_end hri hskip hgo (by rw [hxl]; unfold nextRun; rw [hin, hfx]; rfl) hIq hRf hff hoff l3.2.2 l3.1 (by assumption) N' (by walk_at "MINE hm"))
            | some c =>
              obtain ⟨n', r'', h1, h2, h3⟩ := hjoin r' hr' c (by rw [← hlast]; exact hin) (by rw [← hlast]; exact hfx)
              obtain ⟨a'', vs'', c'', he'', hI''⟩ := hR.get n' r'' h2
              have hm'' : (a'', W.listOf vs''.toArray c'') ∈ tl := hme _ (List.mem_of_getElem? he'')
              have hrn'' : (refsOf es)[((n' : Nat) : Int).toNat]? = some (Value.ref a'') := by
                rw [Int.toNat_natCast]; unfold refsOf; rw [List.getElem?_map, he'']; rfl
              have hfa : (fa, W.listOf (refsOf es).toArray n) ∈ tl := hmx _ (by rw [hfx0]; exact .tail _ (.head _))
              have hrdm : (rd, o) ∈ tl := hmx _ (by rw [hfx0]; exact .head _)
              replace N : News s.heap L' h₁ ((pl, W.listOf (us₀ ++ [Value.int x tx]).toArray cc) :: (fo, W.listOf (refsOf fos).toArray nf) :: (a'', W.listOf vs''.toArray c'') :: (fa, W.listOf (refsOf es).toArray n) :: (rd, o) :: tl) := (fm (N _ (.head _)) (fm (N _ (.tail _ (.head _))) (fm (N _ (.tail _ (.tail _ hm''))) (fm (N _ (.tail _ (.tail _ hfa))) (fm (N _ (.tail _ (.tail _ hrdm))) (fun p hp => N _ (.tail _ (.tail _ hp))))))))
              have g1 := allLt_lt l3.2.2 _ hm''
              have g2 := allLt_lt l3.2.2 _ hfa
              have g3 := allLt_lt l3.2.2 _ hrdm
              dsimp only at g1 g2 g3
              have hl'' := hb.2.1 r'' (List.mem_of_getElem? h2)
              have hnl : n' < fs.length := (List.getElem?_eq_some_iff.mp h2).1
              have hlv'' := hI''.length
              have hrp : 0 < r''.length := List.length_pos_iff.mpr (hne r'' (List.mem_of_getElem? h2))
              k_steps
              rename News _ _ _ _ => N'
              have hnr : nextRun ks f fs ((q₀ ++ [x]).getLastD 0) = some r'' := by
                rw [hxl]; unfold nextRun; rw [hin, hfx]
                show ((runOf fs fs.length).lookup c).bind (fun n => fs[n.toNat]?) = _
                rw [h1]
                show fs[((n' : Nat) : Int).toNat]? = _
                rw [Int.toNat_natCast]; exact h2
              have hkk1 : 1 ≤ kk := by have := hx.2; (first | lia | omega)
              obtain ⟨k1, rfl⟩ : ∃ k1, kk = k1 + 1 := ⟨kk - 1, by (first | lia | omega)⟩
              have hlq : (q₀ ++ [x] ++ r'').getLastD 0 = r''.getLastD 0 := by
                rw [List.getLastD_eq_getLast?, List.getLastD_eq_getLast?, List.getLast?_append]
                rw [List.getLast?_eq_some_getLast (hne r'' (List.mem_of_getElem? h2))]; rfl
              have hmono : (64 - r''.getLastD 0).toNat < (64 - (q₀ ++ [x]).getLastD 0).toNat := by
                rw [hxl]
                have := hrg r'' (List.mem_of_getElem? h2) _ (getLastD_mem (hne r'' (List.mem_of_getElem? h2)))
                (first | lia | omega)
              have hqb : (q₀ ++ [x] ++ r'').length + 64 * k1 ≤ 64 * 65 := by simp only [List.length_append, List.length_cons, List.length_nil] at hql ⊢; (first | lia | omega)
              refine ⟨_, _, _, (pl, W.listOf ((us₀ ++ [Value.int x tx]) ++ vs'').toArray (cc + 1)) :: (fo, W.listOf (refsOf fos).toArray nf) :: tl, (64 - r''.getLastD 0).toNat, rfl, by assumption, fun p hp => N' p ?_, hmono,
                by exact rfl, _, _, q₀ ++ [x] ++ r'', k1, rfl, hIq.append hI'', by simp, ⟨r'', List.mem_of_getElem? h2, hlq⟩, by rw [← hgo, joinGo_step hnr], by rw [hlq]; (first | lia | omega), hqb, by rw [hlq]⟩
              · rcases List.mem_cons.mp hp with rfl | hp
                · exact .head _
                · rcases List.mem_cons.mp hp with rfl | hp
                  · exact .tail _ (.head _)
                  · exact .tail _ (.tail _ (.tail _ (.tail _ (.tail _ hp))))
    · rintro m'' nx h'' tk'' ⟨fos, nf, rfl, hRf, hff⟩ F N
      rw [hfe] at hRf
      k_steps
      exact .intro (by assumption) (hRR _ _ ⟨fo, nf, fos, rfl, by rw [hfs]; exact hRf, Fresh.of N fun p hp => by
        rcases List.mem_cons.mp hp with rfl | hp
        · exact .head _
        · exact .tail _ (List.mem_append_left _ hp)⟩)
end
/-! comprehensions by an invariant -/
section
variable {prog : Program} {w : World} {A : Around} {E : Value → Shared → Prop} {R : Result → Shared → Prop} {s : Shared}

theorem compLoop_any {elt target iter : Expr} {ifs : List Expr} {scope : Scope} {pos : Pos} {it acc : Value} {env : Env} (I : Nat → Shared → Prop)
    (turn : ∀ n s, I n s → wpAny (model prog w) A (pyNext it) (fun r s₁ => match r with
      | none => R (.ok .next) s₁
      | some v => wpAny (model prog w) A (letOwnedTupleGo target it v) (fun _ s₁' => wpAny (model prog w) A (assign target env v) (fun _ s₂ =>
          wpAny (model prog w) A (forIn ifs true fun c r => if r = true then do let ok ← isTrue c env (eval c env); pure (ForInStep.yield ok) else pure (ForInStep.yield r)) (fun ok s₃ =>
            if ok = true then wpAny (model prog w) A (eval elt env) (fun x s₄ =>
              wpAny (model prog w) A (call (.builtin "list.append") [acc, x]) (fun _ s₅ => ∃ m, m < n ∧ I m s₅) (fun _ _ => False) s₄) (fun _ _ => False) s₃
            else ∃ m, m < n ∧ I m s₃) (fun _ _ => False) s₂) (fun _ _ => False) s₁') (fun _ _ => False) s₁) (fun _ _ => False) s)
    (n : Nat) (h : I n s) :
    codeAny (model prog w) A (.compLoop (.ListComp elt [⟨target, iter, ifs, 0⟩] scope pos) 0 it acc env) R s := by
  refine codeAny_loop rfl I (fun n s hI => ?_) n h
  show wpAny _ A ((compTurn (.ListComp elt [⟨target, iter, ifs, 0⟩] scope pos) 0 it acc env).onRaise (fun x => do noteFrame x env; theTreesLotGoes x)) _ _ s
  refine wpAny_noted ?_
  rw [compTurn_list]
  refine wpAny_bind (wpAny_standAt (wpAny_bind (wpAny_mono (turn n s hI) (fun r s₁ h₁ => ?_) fun _ _ h' => h'.elim)))
  cases r with
  | none => exact wpAny_pure h₁
  | some v =>
    refine wpAny_bind (wpAny_mono h₁ (fun _ s₁' h₁' => ?_) fun _ _ h' => h'.elim)
    refine wpAny_bind (wpAny_mono h₁' (fun _ s₂ h₂ => wpAny_bind (wpAny_mono h₂ (fun ok s₃ h₃ => ?_) fun _ _ h' => h'.elim)) fun _ _ h' => h'.elim)
    cases ok with
    | false => exact wpAny_pure ⟨rfl, h₃⟩
    | true =>
      exact wpAny_bind (wpAny_bind (wpAny_mono h₃ (fun x s₄ h₄ => wpAny_bind (wpAny_mono h₄ (fun _ s₅ h₅ => wpAny_pure (wpAny_pure ⟨rfl, h₅⟩)) fun _ _ h' => h'.elim)) fun _ _ h' => h'.elim))

/-- how a turn's element ends -/
inductive CompEnd (base : Heap) (C D : Addr) (J : List Value → List (Addr × Obj) → Prop) (own : List (Addr × Obj)) (ys : List Value) (c : Nat) (s₁ s₂ : Shared) : Prop
  | mk (h' : Heap) (tk : Nat) (mc : Str → Option Value) (made : List (Addr × Obj)) (e : s₂ = { s₁ with heap := h', toks := tk }) (F : Fr base C h' mc) (N : ∀ p ∈ (D, W.listOf ys.toArray c) :: (made ++ own), h'.get? p.1 = some p.2 ∧ p.1 ≠ C ∧ base.get? p.1 = none)
    (ho : OwnOff own (made.map (·.1))) (hd : ∀ p ∈ made, p.1 ≠ D) (hj : J ys made)
theorem CompEnd.intro {base : Heap} {C D : Addr} {J : List Value → List (Addr × Obj) → Prop} {own : List (Addr × Obj)} {ys : List Value} {c : Nat} {s₁ : Shared} {h' : Heap} {tk : Nat} {mc : Str → Option Value} {led : List (Addr × Obj)}
    (made : List (Addr × Obj)) (F : Fr base C h' mc) (N : News base C h' led) (hD : (D, W.listOf ys.toArray c) ∈ led) (hm : ∀ p ∈ made, p ∈ led) (ho : ∀ p ∈ own, p ∈ led) (hoff : OwnOff own (made.map (·.1))) (hd : ∀ p ∈ made, p.1 ≠ D) (hj : J ys made) :
    CompEnd base C D J own ys c s₁ { s₁ with heap := h', toks := tk } :=
  ⟨h', tk, mc, made, rfl, F, fun p hp => by
    rcases List.mem_cons.mp hp with rfl | hp
    · exact N _ hD
    · exact (List.mem_append.mp hp).elim (fun h => N _ (hm p h)) fun h => N _ (ho p h), hoff, hd, hj⟩

inductive CompAt (prog : Program) (w : World) (A : Around) (env : Env) (scope : Scope) (cl : List (Str × Addr)) (target elt : Expr) (ifs : List Expr) (RR : Addr → Addr → Shared → Prop) (s₁ : Shared) (it : Value) (s₂ : Shared) : Prop
  | mk (I : Addr) (fp wr : List Addr) (n : Nat) (P Md : Nat → Value → Heap → Prop) (St : Nat → Heap → Prop) (J : Nat → List Value → List (Addr × Obj) → Prop)
    (x0 : it = .ref I)
    (x1 : KTurns prog w A target I fp wr n P Md St)
    (x2 : (∀ i s' (Q' : Value → Shared → Prop), St i s'.heap → Q' (.ref I) s' → wpAny (model prog w) A (pyIter (.ref I)) Q' (fun _ _ => False) s'))
    (x3 : n ≤ 1000)
    (x4 : (∀ b ∈ wr, s₁.heap.get? b = none))
    (x5 : (∀ b ∈ wr, b < s₂.heap.objs.size))
    (x6 : (∀ i h, St i h → ∀ b ∈ wr, ∃ o, h.get? b = some o))
    (x7 : (∀ b ∈ fp, b ∈ wr ∨ ∃ o, s₁.heap.get? b = some o))
    (x8 : (∃ h tk, s₂ = { s₁ with heap := h, toks := tk }))
    (x9 : s₁.heap.StaysIn s₂.heap)
    (x10 : s₁.heap.objs.size ≤ s₂.heap.objs.size)
    (x11 : St 0 s₂.heap)
    (x12 : J 0 [] [])
    (x13 : (∀ i v ys made C D c h tk mc own, i < n → P i v h → J i ys made → ys.length ≤ i → Fr s₁.heap C h mc → News s₁.heap C h ((D, W.listOf ys.toArray c) :: (made ++ own)) → OwnOff own (D :: made.map (·.1)) → (∀ p ∈ made, p.1 ≠ D) →
      wpAny (model prog w) A (assign target (compEnvC scope cl C env) v) (fun _ s₃ => wpAny (model prog w) A (forIn ifs true fun c r => if r = true then do let ok ← isTrue c (compEnvC scope cl C env) (eval c (compEnvC scope cl C env)); pure (ForInStep.yield ok) else pure (ForInStep.yield r)) (fun ok s₄ =>
        if ok = true then wpAny (model prog w) A (eval elt (compEnvC scope cl C env)) (fun y s₅ => CompEnd s₁.heap C D (fun ys' made' => J (i + 1) (ys' ++ [y]) made') own ys c { s₁ with heap := h, toks := tk } s₅) (fun _ _ => False) s₄
        else CompEnd s₁.heap C D (fun ys' made' => J (i + 1) ys' made') own ys c { s₁ with heap := h, toks := tk } s₄) (fun _ _ => False) s₃) (fun _ _ => False) { s₁ with heap := h, toks := tk }))
    (x14 : (∀ ys made D C c h' tk mc, J n ys made → Fr s₁.heap C h' mc → News s₁.heap C h' ((D, W.listOf ys.toArray c) :: made) → (∀ p ∈ made, p.1 ≠ D) → RR D C { s₁ with heap := h', toks := tk }))

theorem comp_block {env : Env} {elt target iter : Expr} {ifs : List Expr} {scope : Scope} {cl : List (Str × Addr)} {pos : Pos} {s₁ s₂ : Shared} {it : Value} {use : Option (Value → Sem Unit)} {Q : Value → Shared → Prop}
    (hcell : ∀ y ∈ scope.names, y.2 ≠ .cell) (hkind : scope.kind = .function)
    (H : CompAt prog w A env scope cl target elt ifs (fun D C s' => compPost (model prog w) A E use Q (.ref D) C (.ok .next) s') s₁ it s₂) :
    wpAny (model prog w) A (newList []) (fun acc s₃ => wpAny (model prog w) A (newFunctionEnv scope env.globals cl [] env.qual none .none (some env)) (fun cenv s₄ =>
      codeAny (model prog w) A (.compStart (.ListComp elt [⟨target, iter, ifs, 0⟩] scope pos) 0 it acc { cenv with scope := relabel scope env }) (compPost (model prog w) A E use Q acc cenv.locals) s₄) E s₃) E s₂ := by
  obtain ⟨I, fp, wr, n, P, Md, St, J, rfl, K, hself, hn, hwr, hwlt, halive, hfp, ⟨hh₂, tt₂, rfl⟩, hst₁₂, hle, hst, hJ0, turn, done⟩ := H
  replace hst₁₂ : s₁.heap.StaysIn hh₂ := hst₁₂
  replace hwlt : ∀ b ∈ wr, b < hh₂.objs.size := hwlt
  replace hst : St 0 hh₂ := hst
  refine wpAny_newObj_type (wpAny_newFunctionEnv hcell (by intro y hy; simp at hy) (fun h₁ hns₁ hsb₁ => ?_) hkind)
  dsimp only at hns₁ hsb₁ ⊢
  generalize hH2 : hh₂.push { cls := .type "list", dict := none, data := .seq ([] : List Value).toArray } = H2 at hns₁ hsb₁ ⊢
  have hC : H2.objs.size = hh₂.objs.size + 1 := by rw [← hH2, Heap.size_push]
  have hDC : hh₂.objs.size ≠ H2.objs.size := by rw [hC]; exact Nat.ne_of_lt (Nat.lt_succ_self _)
  have below : ∀ b, b < hh₂.objs.size → b ≠ H2.objs.size ∧ b ≠ hh₂.objs.size := fun b hb => ⟨by rw [hC]; exact Nat.ne_of_lt (Nat.lt_succ_of_lt hb), Nat.ne_of_lt hb⟩
  replace hle : s₁.heap.objs.size ≤ hh₂.objs.size := hle
  have old : ∀ b o, hh₂.get? b = some o → h₁.get? b = some o := fun b o e => hsb₁.extBut b o (below b (Heap.lt_size e)).1 (Heap.get?_push_of_some _ (hH2 ▸ Heap.get?_push_of_some _ e))
  have fresh : ∀ a, hh₂.objs.size ≤ a → s₁.heap.get? a = none := fun a ha => by
    cases e : s₁.heap.get? a with
    | none => rfl
    | some o' => exact absurd (Heap.lt_size (hst₁₂ _ _ e)) (Nat.not_lt.mpr ha)
  have hst₁ : St 0 h₁ := K.frame _ _ _ hst fun b _ o e => old b o e
  have F₁ : Fr s₁.heap H2.objs.size h₁ (fun y => ([] : List (Str × Value)).reverse.lookup y) := ⟨hns₁, fun b o e => old b o (hst₁₂ b o e), by rw [hC]; exact Nat.le_succ_of_le hle⟩
  have N₁ : News s₁.heap H2.objs.size h₁ [(hh₂.objs.size, W.listOf ([] : List Value).toArray 0)] := fun p hp => by
    rw [List.mem_singleton.mp hp]
    exact ⟨hsb₁.extBut _ _ hDC (Heap.get?_push_of_some _ (hH2 ▸ Heap.get?_push_size _ rfl)), hDC, fresh _ (Nat.le_refl _)⟩
  have loop : ∀ s₃ : Shared, s₃ = { s₁ with heap := h₁, toks := tt₂ + ([] : List (Str × Value)).length } →
      codeAny (model prog w) A (.compLoop (.ListComp elt [⟨target, iter, ifs, 0⟩] scope pos) 0 (.ref I) (.ref hh₂.objs.size) (compEnvC scope cl H2.objs.size env))
        (compPost (model prog w) A E use Q (.ref hh₂.objs.size) H2.objs.size) s₃ := by
    rintro s₃ rfl
    generalize hD : hh₂.objs.size = D at N₁ hDC hwlt fresh ⊢
    generalize hCC : H2.objs.size = C at N₁ F₁ hDC ⊢
    have hDw : D ∉ wr := fun hm => Nat.lt_irrefl _ (hwlt _ hm)
    have hCw : ∀ h i, St i h → Fr s₁.heap C h (fun _ => none) → True := fun _ _ _ _ => trivial
    have hCf : C ∉ fp := fun hm => by
      have hCge : D ≤ C := by rw [← hCC, ← hD, hC]; exact Nat.le_succ _
      rcases hfp C hm with h | ⟨o, h⟩
      · exact absurd (hwlt _ h) (Nat.not_lt.mpr hCge)
      · rw [fresh C hCge] at h; cases h
    have hCwr : C ∉ wr := fun h => hCf (K.sub _ h)
    have oldw : ∀ b o, s₁.heap.get? b = some o → b ∉ wr := fun b o e hb => by rw [hwr b hb] at e; cases e
    refine compLoop_any
      (fun k s' => ∃ h tk mc ys c made i, s' = { s₁ with heap := h, toks := tk } ∧ St i h ∧ Fr s₁.heap C h mc ∧ News s₁.heap C h ((D, W.listOf ys.toArray c) :: made) ∧ (∀ p ∈ made, p.1 ∉ wr) ∧ (∀ p ∈ made, p.1 ≠ D) ∧ J i ys made ∧ ys.length ≤ i ∧ i ≤ n ∧ k = n + 1 - i) ?_ (n + 1)
      ⟨h₁, _, _, [], 0, [], 0, rfl, hst₁, F₁, N₁, (fun _ h => nomatch h), (fun _ h => nomatch h), hJ0, Nat.le_refl _, Nat.zero_le _, rfl⟩
    rintro k s' ⟨h, tk, mc, ys, c, made, i, rfl, hst', F', N', hmw, hmD, hJ, hyl, hi, rfl⟩
    have next : ∀ h₁ : Heap, (∀ b o, b ∉ wr → h.get? b = some o → h₁.get? b = some o) → Fr s₁.heap C h₁ mc ∧ News s₁.heap C h₁ ((D, W.listOf ys.toArray c) :: made) := fun h₁ hk₁ =>
      ⟨⟨F'.ns.at' fun o e => hk₁ _ o hCwr e, fun b o e => hk₁ b o (oldw b o e) (F'.keep b o e), F'.above⟩, fun p hp => ⟨hk₁ _ _ (by
        rcases List.mem_cons.mp hp with rfl | hp
        · exact hDw
        · exact hmw p hp) (N' p hp).1, (N' p hp).2⟩⟩
    by_cases hlt : i < n
    · refine K.item i _ _ _ hlt hst' fun v h₁ tk₁ hMd hk₁ => ?_
      refine K.go i v _ _ _ hMd fun h₂ hP hst₂ hk₂ => ?_
      obtain ⟨F₂, N₂⟩ := next h₂ fun b o hb x => hk₂ b o hb (hk₁ b o hb x)
      obtain ⟨own, hown⟩ : ∃ own : List (Addr × Obj), own = (PyProof.Rows.ownOf s₁.heap fp h₂).filter fun p => decide (p.1 ∈ wr) := ⟨_, rfl⟩
      have how : ∀ p ∈ own, p ∈ PyProof.Rows.ownOf s₁.heap fp h₂ ∧ p.1 ∈ wr := fun p hp => by
        rw [hown] at hp
        exact ⟨(List.mem_filter.mp hp).1, of_decide_eq_true (List.mem_filter.mp hp).2⟩
      have Nown : News s₁.heap C h₂ (PyProof.Rows.ownOf s₁.heap fp h₂) := news_ownOf hCf
      have N₃ : News s₁.heap C h₂ ((D, W.listOf ys.toArray c) :: (made ++ own)) := fun p hp => by
        rcases List.mem_cons.mp hp with rfl | hp
        · exact N₂ _ (.head _)
        · exact (List.mem_append.mp hp).elim (fun x => N₂ _ (.tail _ x)) fun x => Nown p (how p x).1
      have hlive : ∀ b ∈ wr, ∃ o, (b, o) ∈ own := fun b hb => by
        obtain ⟨o, ho⟩ := halive _ _ hst₂ b hb
        exact ⟨o, by rw [hown]; exact List.mem_filter.mpr ⟨mem_ownOf (K.sub b hb) (hwr b hb) ho, decide_eq_true hb⟩⟩
      have hoff : OwnOff own (D :: made.map (·.1)) := fun p hp b hb e => by
        rcases List.mem_cons.mp hb with rfl | hb
        · exact hDw (e ▸ (how p hp).2)
        · obtain ⟨q, hq, rfl⟩ := List.mem_map.mp hb
          exact hmw q hq (e ▸ (how p hp).2)
      have back : ∀ {J' : List Value → List (Addr × Obj) → Prop} {s₅ : Shared}, CompEnd s₁.heap C D J' own ys c { s₁ with heap := h₂, toks := tk₁ } s₅ →
          ∃ h' tk' mc' made', s₅ = { s₁ with heap := h', toks := tk' } ∧ Fr s₁.heap C h' mc' ∧ News s₁.heap C h' ((D, W.listOf ys.toArray c) :: (made' ++ own)) ∧ (∀ p ∈ made', p.1 ∉ wr) ∧ (∀ p ∈ made', p.1 ≠ D) ∧ J' ys made' ∧ St (i + 1) h' := by
        rintro J' s₅ ⟨h', tk', mc', made', rfl, F₅, N₅, ho₅, hd₅, hj₅⟩
        refine ⟨h', tk', mc', made', rfl, F₅, N₅, fun p hp hw => ?_, hd₅, hj₅, K.frame _ _ _ hst₂ fun b hb o e => ?_⟩
        · obtain ⟨o, ho⟩ := hlive _ hw
          exact ho₅ _ ho p.1 (List.mem_map.mpr ⟨p, hp, rfl⟩) rfl
        · cases hq : s₁.heap.get? b with
          | some o₀ =>
            have : o₀ = o := by have q := F₂.keep b o₀ hq; rw [e] at q; exact (Option.some.inj q).symm
            exact this ▸ F₅.keep b o₀ hq
          | none =>
            have hbw : b ∈ wr := (hfp b hb).elim id fun ⟨o', h'⟩ => by rw [hq] at h'; cases h'
            exact (N₅ _ (.tail _ (List.mem_append_right _ (by rw [hown]; exact List.mem_filter.mpr ⟨mem_ownOf hb hq e, decide_eq_true hbw⟩)))).1
      refine wpAny_mono (turn i v ys made C D c h₂ tk₁ mc own hlt hP hJ hyl F₂ N₃ hoff hmD) (fun _ s₃ h₃ => wpAny_mono h₃ (fun ok s₄ h₄ => ?_) fun _ _ e => e) fun _ _ e => e
      cases ok with
      | false =>
        simp only [Bool.false_eq_true, if_false] at h₄ ⊢
        obtain ⟨h', tk', mc', made', rfl, F₅, N₅, hw₅, hd₅, hj₅, hs₅⟩ := back h₄
        exact ⟨n + 1 - (i + 1), by (first | lia | omega), h', tk', mc', ys, c, made', i + 1, rfl, hs₅, F₅, fun p hp => N₅ p (by
          rcases List.mem_cons.mp hp with rfl | hp
          · exact .head _
          · exact .tail _ (List.mem_append_left _ hp)), hw₅, hd₅, hj₅, Nat.le_succ_of_le hyl, hlt, rfl⟩
      | true =>
        simp only [if_true] at h₄ ⊢
        refine wpAny_mono h₄ (fun y s₅ h₅ => ?_) fun _ _ e => e
        obtain ⟨h', tk', mc', made', rfl, F₅, N₅, hw₅, hd₅, hj₅, hs₅⟩ := back h₅
        have hDown : ∀ p ∈ made' ++ own, p.1 ≠ D := fun p hp => (List.mem_append.mp hp).elim (hd₅ p) fun hq => hoff p hq D (.head _)
        refine append_K F₅ N₅ (.head hDown) (fun h₆ F₆ N₆ => ?_) (by rw [sizeLine_eq]; simp; (first | lia | omega))
        rw [List.push_toArray] at N₆
        refine ⟨n + 1 - (i + 1), by (first | lia | omega), h₆, tk', mc', ys ++ [y], c + 1, made', i + 1, rfl, ?_, F₆, fun p hp => N₆ p (by
          rcases List.mem_cons.mp hp with rfl | hp
          · exact .head _
          · exact .tail _ (List.mem_append_left _ hp)), hw₅, hd₅, hj₅, by simp; (first | lia | omega), hlt, rfl⟩
        refine K.frame _ _ _ hs₅ fun b hb o e => ?_
        cases hq : s₁.heap.get? b with
        | some o₀ =>
          have : o₀ = o := by have q := F₅.keep b o₀ hq; rw [e] at q; exact (Option.some.inj q).symm
          exact this ▸ F₆.keep b o₀ hq
        | none =>
          have hbw : b ∈ wr := (hfp b hb).elim id fun ⟨o', h'⟩ => by rw [hq] at h'; cases h'
          obtain ⟨ob, hob⟩ := hlive b hbw
          have e₅ := (N₅ _ (.tail _ (List.mem_append_right _ hob))).1
          have : ob = o := by
            have q : h'.get? b = some ob := e₅
            rw [e] at q; exact (Option.some.inj q).symm
          rw [← this]
          exact (N₆ _ (.tail _ (List.mem_append_right _ hob))).1
    · have hin : i = n := by (first | lia | omega)
      subst hin
      refine K.done _ _ _ hst' fun h₁ tk₁ hk₁ => ?_
      obtain ⟨F₁, N₁⟩ := next h₁ hk₁
      exact done ys made D C c h₁ tk₁ mc hJ F₁ N₁ hmD
  refine codeAny_compStart_list (loop _ rfl) ?_
  exact wpAny_mono (hself 0 _ (fun v s' => codeAny (model prog w) A (.compLoop (.ListComp elt [⟨target, iter, ifs, 0⟩] scope pos) 0 v (.ref hh₂.objs.size) (compEnvC scope cl H2.objs.size env)) (compPost (model prog w) A E use Q (.ref hh₂.objs.size) H2.objs.size) s') hst₁ (loop _ rfl)) (fun _ _ x => x) fun _ _ x => x.elim

theorem comp_eval {env : Env} {elt target iter : Expr} {ifs : List Expr} {scope : Scope} {cl : List (Str × Addr)} {pos : Pos} {Q : Value → Shared → Prop}
    (hclos : closureFor scope env = pure cl) (hcell : ∀ y ∈ scope.names, y.2 ≠ .cell) (hkind : scope.kind = .function) (hnames : ∀ y ∈ scope.names, y.2 = .local → scope.names.lookup y.1 = some .local)
    (h : wpAny (model prog w) A (eval iter env) (fun xv s₁ => wpAny (model prog w) A (pyIter xv) (fun it s₂ => ∃ sb, CompAt prog w A env scope cl target elt ifs (fun D C s' => ∃ m, s'.heap.Ns C m ∧ ∀ h', Heap.SameBut C s'.heap h' → Q (.ref D) { s' with heap := h' }) sb it s₂) E s₁) E s)
    (hs : ∀ x, foldedSetIterable iter env x = pure x) :
    wpAny (model prog w) A (eval (.ListComp elt [⟨target, iter, ifs, 0⟩] scope pos) env) Q E s := by
  rw [eval_ListComp]
  refine wpAny_comprehension_free (use := none) rfl hs hclos hkind hnames (wpAny_mono h (fun xv s₁ h₁ => wpAny_mono h₁ (fun it s₂ h₂ => ?_) fun _ _ e => e) fun _ _ e => e)
  obtain ⟨sb, H⟩ := h₂
  exact comp_block (use := none) hcell hkind H

theorem comp_assign {env : Env} {elt target iter : Expr} {ifs : List Expr} {scope : Scope} {cl : List (Str × Addr)} {pos spos py : Pos} {y : Str} {Q : Flow → Shared → Prop}
    (hsw : swapsWith (.ListComp elt [⟨target, iter, ifs, 0⟩] scope pos) (some (.Name y py)) spos.line env = pure true)
    (hclos : closureFor scope env = pure cl) (hcell : ∀ y ∈ scope.names, y.2 ≠ .cell) (hkind : scope.kind = .function) (hnames : ∀ y ∈ scope.names, y.2 = .local → scope.names.lookup y.1 = some .local)
    (h : wpAny (model prog w) A (eval iter env) (fun xv s₁ => wpAny (model prog w) A (pyIter xv) (fun it s₂ => ∃ sb, CompAt prog w A env scope cl target elt ifs (fun D C s' =>
      wpAny (model prog w) A (assign (.Name y py) env (.ref D)) (fun _ s'' => ∃ m, s''.heap.Ns C m ∧ ∀ h', Heap.SameBut C s''.heap h' → Q .next { s'' with heap := h' }) E s') sb it s₂) E s₁) E s)
    (hs : ∀ x, foldedSetIterable iter env x = pure x) :
    wpAny (model prog w) A (exec (.Assign [.Name y py] (.ListComp elt [⟨target, iter, ifs, 0⟩] scope pos) spos) env) Q E s := by
  rw [exec_Assign_Name_used _ _ _ _ hsw]
  refine wpAny_bind (wpAny_standAt (wpAny_bind ?_))
  show wpAny _ A (do let _ ← comprehension (.ListComp elt [⟨target, iter, ifs, 0⟩] scope pos) scope env _ (newList []) false (eval iter env) (some (assign (.Name y py) env))) _ _ s
  refine wpAny_bind (wpAny_mono (wpAny_comprehension_free (use := some (assign (.Name y py) env)) (Q := fun _ s' => Q .next s') rfl hs hclos hkind hnames
    (wpAny_mono h (fun xv s₁ h₁ => wpAny_mono h₁ (fun it s₂ h₂ => ?_) fun _ _ e => e) fun _ _ e => e)) (fun _ s' hq => wpAny_pure (wpAny_pure hq)) fun _ _ e => e)
  obtain ⟨sb, H⟩ := h₂
  exact comp_block (use := some (assign (.Name y py) env)) hcell hkind H

/-- over a list -/
theorem comp_list {env : Env} {x : Str} {px : Pos} {elt : Expr} {ifs : List Expr} {scope : Scope} {cl : List (Str × Addr)} {l : Addr} {xs : List Value} {nn : Nat} {RR : Addr → Addr → Shared → Prop}
    (J : Nat → List Value → List (Addr × Obj) → Prop) (hh : A.handled = none) (hx : scope.names.lookup x = some .local) (hkind : scope.kind = .function)
    (hl : s.heap.get? l = some (W.listOf xs.toArray nn)) (hn : xs.length ≤ 1000) (h0 : J 0 [] [])
    (turn : ∀ i v ys made C D c h tk (mc : Str → Option Value) own, xs[i]? = some v → J i ys made → ys.length ≤ i → Fr s.heap C h (fun z => if z = x then some v else mc z) → News s.heap C h ((D, W.listOf ys.toArray c) :: (made ++ own)) → OwnOff own (D :: made.map (·.1)) → (∀ p ∈ made, p.1 ≠ D) →
      wpAny (model prog w) A (forIn ifs true fun c r => if r = true then do let ok ← isTrue c (compEnvC scope cl C env) (eval c (compEnvC scope cl C env)); pure (ForInStep.yield ok) else pure (ForInStep.yield r)) (fun ok s₄ =>
        if ok = true then wpAny (model prog w) A (eval elt (compEnvC scope cl C env)) (fun y s₅ => CompEnd s.heap C D (fun ys' made' => J (i + 1) (ys' ++ [y]) made') own ys c { s with heap := h, toks := tk } s₅) (fun _ _ => False) s₄
        else CompEnd s.heap C D (fun ys' made' => J (i + 1) ys' made') own ys c { s with heap := h, toks := tk } s₄) (fun _ _ => False) { s with heap := h, toks := tk })
    (done : ∀ ys made D C c h' tk mc, J xs.length ys made → Fr s.heap C h' mc → News s.heap C h' ((D, W.listOf ys.toArray c) :: made) → (∀ p ∈ made, p.1 ≠ D) → RR D C { s with heap := h', toks := tk }) :
    wpAny (model prog w) A (pyIter (.ref l)) (fun it s₂ => ∃ sb, CompAt prog w A env scope cl (.Name x px) elt ifs RR sb it s₂) E s := by
  have hL : s.heap.IsList l xs.toArray := ⟨_, hl, rfl, nn, rfl⟩
  have hlt : l < s.heap.objs.size := Heap.lt_size hl
  have hne : l ≠ s.heap.objs.size := Nat.ne_of_lt hlt
  refine wpAny_pyIter_list hL ⟨s, ?_⟩
  have WL := Walks.list (prog := prog) (w := w) hh s.heap.objs.size l hne xs.toArray
  refine ⟨_, _, _, _, _, _, _, J, rfl, KTurns.ofWalks WL (fun i v s Q E _ hq => wpAny_pure hq), (fun i s' Q' st hq => WL.self i s' Q' _ st hq), ?_, ?_, ?_, ?_, ?_, ⟨_, _, rfl⟩, ?_, ?_, ⟨⟨_, Heap.get?_push_size _ rfl, rfl, rfl⟩, hL.at fun o e => Heap.get?_push_of_some _ e⟩, h0, ?_, ?_⟩
  · simpa using hn
  · intro b hb
    have hb' : b = s.heap.objs.size := by simpa using hb
    subst hb'
    cases e : s.heap.get? s.heap.objs.size with
    | none => rfl
    | some o => exact absurd (Heap.lt_size e) (Nat.lt_irrefl _)
  · intro b hb
    have hb' : b = s.heap.objs.size := by simpa using hb
    subst hb'
    show s.heap.objs.size < (s.heap.push _).objs.size
    rw [Heap.size_push]; exact Nat.lt_succ_self _
  · rintro i h ⟨⟨oi, hoi, _⟩, _⟩ b hb
    have hb' : b = s.heap.objs.size := by simpa using hb
    subst hb'
    exact ⟨_, hoi⟩
  · intro b hb
    have hb' : b = s.heap.objs.size ∨ b = l := by simpa using hb
    rcases hb' with rfl | rfl
    · exact .inl (by simp)
    · exact .inr ⟨_, hl⟩
  · intro b o e; exact Heap.get?_push_of_some _ e
  · show s.heap.objs.size ≤ (s.heap.push _).objs.size
    rw [Heap.size_push]; exact Nat.le_succ _
  · rintro i v ys made C D c h tk mc own hi hP hJ hyl F N hoff hd
    refine wpAny_assign_Name (wpAny_storeName_local (env := compEnvC scope cl C env) (lookup_relabel_local hx) F.ns (fun h₂ hn₂ hs₂ => ?_) (by simp [compEnvC, relabel, hkind]))
    have := turn i v ys made C D c h₂ (tk + 1) mc own (by simpa using hP) hJ hyl (F.set hn₂ hs₂) (N.set hs₂) hoff hd
    refine wpAny_mono this (fun ok s₄ h₄ => ?_) fun _ _ e => e
    have up : ∀ {J' : List Value → List (Addr × Obj) → Prop} {s₅ : Shared}, CompEnd s.heap C D J' own ys c { s with heap := h₂, toks := tk + 1 } s₅ → CompEnd s.heap C D J' own ys c { s with heap := h, toks := tk } s₅ := fun x => by
      obtain ⟨a, b, c, d, e, f, g, i, j, k⟩ := x
      exact ⟨a, b, c, d, e, f, g, i, j, k⟩
    cases ok with
    | true => simp only [if_true] at h₄ ⊢; exact wpAny_mono h₄ (fun _ _ q => up q) fun _ _ e => e
    | false => simp only [Bool.false_eq_true, if_false] at h₄ ⊢; exact up h₄
  · intro ys made D C c h' tk mc hJ F' N' hd
    exact done ys made D C c h' tk mc (by simpa using hJ) F' N' hd
end
theorem warm_B5 : (Mine.hd.heap_39 = Mine.hd.heap_39) ∧ (PySem.Challenge.rw_on0355_01.foot = 6) := by
  w_top off
  k_fill
  exact ⟨rfl, rfl⟩
section
variable {prog : Program} {w : World} {A : Around} {s : Shared} {p : Program} {loose : List Str} {mean : ExcName → Option Value} {mg mb : Str → Option Value}

/-- a def with cells -/
theorem code_myC {K : Frag} {R : Result → Shared → Prop} {name qual : Str} {params : Arguments} {body : List Stmt} {scope : Scope} {dV kV doc pm cdv ct oc : Value} {an od : Option Addr} {osl : Array (Option Value)} {f : Addr} {args : Args} {binds : List (Str × Value)}
    (T : Top p loose mean mg mb s.heap) (X : K.In s.heap)
    (ho : K.lookup f = some ⟨oc, od, .func (fnOf name qual params body scope dV kV doc pm an cdv ct), osl⟩) (hcd : codeIn K cdv qual = true) (hroom : A.depth < recursionLimit)
    (hbind : BindsTo s (fnOf name qual params body scope dV kV doc pm an cdv ct) args binds)
    (hkind : (binds.all fun y => scope.names.lookup y.1 == some .local || scope.names.lookup y.1 == some .cell) = true)
    (hnd : ((cellsFrom 0 scope.names []).map (·.1)).Nodup)
    (hco : scope.isCoroutine = false) (hgen : scope.isGenerator = false) (hk : scope.kind = .function)
    (h : ∀ L' h₁ tk cells, Fr s.heap L' h₁ (bindL (envOfC qual scope L' f cdv).kindOf binds fun _ => none) → News s.heap L' h₁ cells →
      CellsAre (bindC (envOfC qual scope L' f cdv).kindOf binds fun _ => none) (cellsFrom (L' + 1) scope.names []) cells → (∀ p ∈ cells, L' < p.1) →
      wpAny (model prog w) (A.deeper (envOfC qual scope L' f cdv)) (execs body (envOfC qual scope L' f cdv))
        (fun fl s' => R (.ok (.ret (match fl with | .ret v => v | _ => .none))) s') (fun _ _ => False)
        { s with heap := h₁, toks := tk }) : codeAny (model prog w) A (.call (.ref f) args) R s := by
  refine codeAny_call_function (fd := fnOf name qual params body scope dV kV doc pm an cdv ct) hroom (X _ _ ho) rfl hco hgen rfl (codeRec_of X hcd) (hbind _ _ _ _ ?_)
  refine wpAny_newFunctionEnv_cells hk (kindsX hkind _) fun env' he s' x => ?_
  subst he
  refine ⟨T.nolimit.keeps x.toInCall.keep, codeAny_func ?_⟩
  obtain ⟨h₁, tk, rfl, _⟩ := x.done
  have hk₁ := x.toInCall.keep
  have habove : ∀ n c, (n, c) ∈ cellsFrom (s.heap.objs.size + 1) scope.names [] → s.heap.objs.size < c := fun n c hm => x.above n c hm
  obtain ⟨cells, NC, Y⟩ := Cl.news (h₀ := s.heap) (Nat.le_refl _) fun n c hm => ⟨x.cell n c (lookup_of_mem_nodup (cellsFrom_names scope.names 0 (s.heap.objs.size + 1) [] [] rfl ▸ hnd) hm), habove n c hm⟩
  have hup : ∀ {cs : List (Str × Addr)} {cells : List (Addr × Obj)} {cm : Str → Option Value}, CellsAre cm cs cells → (∀ n c, (n, c) ∈ cs → s.heap.objs.size < c) → ∀ p ∈ cells, s.heap.objs.size < p.1 := by
    intro cs cells cm hY
    induction hY with
    | nil => intro _ p hp; cases hp
    | cons _ _ ih =>
      intro hc p hp
      rcases List.mem_cons.mp hp with rfl | hp
      · exact hc _ _ (.head _)
      · exact ih (fun n c hm => hc n c (.tail _ hm)) p hp
  exact wpAny_mono (h s.heap.objs.size h₁ tk cells ⟨x.toInCall.ns, hk₁, Nat.le_refl _⟩ NC Y (hup Y habove)) (fun _ _ x => x) fun _ _ x => x.elim
end

section
variable {M : Model} {A : Around} {E : Value → Shared → Prop} {s : Shared} {K : Frag} {h₀ : Heap} {C : Addr} {m mg mb : Str → Option Value} {scope : Scope} {cl : List (Str × Addr)} {env : Env} {p : Program} {loose : List Str}
  {x : Str} {pos : Pos} {v : Value} {Q : Value → Shared → Prop} {c : Addr}
theorem nmC_local (F : Fr h₀ C s.heap m) (hv : m x = some v) (h : Q v s)
    (hk : (compEnvC scope cl C env).scope.kind = .function) (hl : (compEnvC scope cl C env).kindOf x = some .local) (hd : (x == ("__debug__" : Str)) = false := by decide) : wpAny M A (eval (.Name x pos) (compEnvC scope cl C env)) Q E s :=
  wpAny_Name (wpAny_loadName_local hk hl F.ns hv h) hd
theorem nmC_cell {o : Obj} (hc : cl.lookup x = some c) (hg : s.heap.get? c = some o) (ho : o.data = .cell (some v)) (h : Q v s)
    (hk : (compEnvC scope cl C env).scope.kind = .function) (hl : (compEnvC scope cl C env).kindOf x = some .cell) (hd : (x == ("__debug__" : Str)) = false := by decide) : wpAny M A (eval (.Name x pos) (compEnvC scope cl C env)) Q E s :=
  wpAny_Name (wpAny_loadName_cell hk hl hc ⟨o, hg, ho⟩ h) hd
theorem nmC_B (F : Fr h₀ C s.heap m) (X : K.In h₀) (T : TopRead p loose mg mb h₀) (e : nsIn K mainGlobals x = some none) (hv : bootBuiltins x = some v) (hn : x ≠ "__name__") (h : Q v s)
    (hk : (compEnvC scope cl C env).scope.kind = .function) (hx : (compEnvC scope cl C env).kindOf x = some .globalImplicit) (hgl : env.globals = mainGlobals) (hbl : env.builtins = builtinsNs) (hd : (x == ("__debug__" : Str)) = false := by decide) :
    wpAny M A (eval (.Name x pos) (compEnvC scope cl C env)) Q E s := by
  obtain ⟨sc, lc, gl, ce, qu, fu, co, fr, bu⟩ := env
  simp only at hgl hbl
  subst hgl hbl
  exact PySem.Calls.Name_function_global hk hx (PySem.Calls.loadGlobal_builtin (env := compEnvC scope cl C _) (T.g.keeps F.keep) (mg_none_of X T.g e) (T.b.keeps F.keep) ((T.builtins x hn).trans hv) h) hd
end

/-! BidiSequence -/
/-- an instance and its attributes -/
inductive SeqIn (led : List (Addr × Obj)) (v pl cv lv sv ev cd : Value) : Prop
  | mk (x dx : Addr) (es : List DictEntry) (k : Nat) (e : v = .ref x) (a : (x, instObj 48 dx) ∈ led) (b : (dx, dictOf es k) ∈ led) (g1 : getL (Str.ofString "places") es = some (some pl)) (g2 : getL (Str.ofString "classes") es = some (some cv))
    (g3 : getL (Str.ofString "level") es = some (some lv)) (g4 : getL (Str.ofString "sos") es = some (some sv)) (g5 : getL (Str.ofString "eos") es = some (some ev)) (g6 : getL (Str.ofString "codes") es = some (some cd))

section
variable {prog : Program} {w : World} {A : Around} {s : Shared} {p : Program} {loose : List Str} {mean : ExcName → Option Value} {mg mb : Str → Option Value}

theorem init_code {e₁ e₂ : Env} {g : Heap} {x dx cc : Addr} {pl cv lv sv ev : Value} {cs : List Value} {nn : Nat} {R : Result → Shared → Prop} (hg : g = hideAll s.heap [x, dx, cc])
    (T : Top p loose mean mg mb g) (KX : (Mine.hd.heap_39 w.params).In g)
    (hx : s.heap.get? x = some (instObj 48 dx)) (hdx : s.heap.get? dx = some (dictOf [] 0)) (hcc : s.heap.get? cc = some (W.listOf cs.toArray nn)) (h1 : @LT.lt Nat _ dx x) (h2 : @LT.lt Nat _ cc dx) (hl : cs.length ≤ 100)
    (h : ∀ h' tk nc k es k2, (∀ b o, b ≠ dx → s.heap.get? b = some o → h'.get? b = some o) → s.heap.get? nc = none → h'.get? nc = some (W.listOf cs.toArray k) → h'.get? dx = some (dictOf es k2) → getL (Str.ofString "places") es = some (some pl) → getL (Str.ofString "classes") es = some (some cv) → getL (Str.ofString "level") es = some (some lv) →
      getL (Str.ofString "sos") es = some (some sv) → getL (Str.ofString "eos") es = some (some ev) → getL (Str.ofString "codes") es = some (some (.ref nc)) → R (.ok (.ret .none)) { s with heap := h', toks := tk }) :
    codeAny (model prog w) (((callerA.deeper e₁).deeper e₂).under (.builtin "type.__call__" ⟨[.ref 48, pl, cv, lv, sv, ev, .ref cc], []⟩)) (.call (.ref 45) ⟨[.ref x, pl, cv, lv, sv, ev, .ref cc], []⟩) R s := by
  have hsz : g.objs.size = s.heap.objs.size := by rw [hg]; exact hideAll_size _ _
  have hof : ∀ b o, g.get? b = some o → s.heap.get? b = some o := fun b o e => by rw [hg] at e; exact of_hideAll _ e
  have hnl : s.heap.NoLimit := T.nolimit.keeps hof
  refine codeAny_call_def (fd := ?fd) (binds := [(Str.ofString "self", .ref x), (Str.ofString "places", pl), (Str.ofString "classes", cv), (Str.ofString "level", lv), (Str.ofString "sos", sv), (Str.ofString "eos", ev), (Str.ofString "codes", .ref cc)])
    ?k8 (hof _ _ (KX 45 _ (by k_is))) (by exact rfl) hnl (codeRec_of (KX.keeps hof) (by k_is)) (by exact rfl) ?k9 (by decide) (by exact locs rfl) (fun h₁ hns hk₁ => ?_) rfl rfl rfl
  case k8 => k_room
  case k9 => exact binds_K (KX.keeps hof) rfl (by k_is) rfl rfl rfl
  have F : Fr g s.heap.objs.size h₁ (fun y => [(Str.ofString "self", .ref x), (Str.ofString "places", pl), (Str.ofString "classes", cv), (Str.ofString "level", lv), (Str.ofString "sos", sv), (Str.ofString "eos", ev), (Str.ofString "codes", .ref cc)].reverse.lookup y) :=
    ⟨hns, fun b o e => hk₁ b o (hof b o e), Nat.le_of_eq hsz⟩
  have N : News g s.heap.objs.size h₁ [(x, instObj 48 dx), (dx, dictOf [] 0), (cc, W.listOf cs.toArray nn)] := fun q hq => by
    rcases List.mem_cons.mp hq with rfl | hq
    · exact ⟨hk₁ _ _ hx, Nat.ne_of_lt (Heap.lt_size hx), by rw [hg]; exact hideAll_none _ (.head _)⟩
    · rcases List.mem_cons.mp hq with rfl | hq
      · exact ⟨hk₁ _ _ hdx, Nat.ne_of_lt (Heap.lt_size hdx), by rw [hg]; exact hideAll_none _ (.tail _ (.head _))⟩
      · rw [List.mem_singleton.mp hq]
        exact ⟨hk₁ _ _ hcc, Nat.ne_of_lt (Heap.lt_size hcc), by rw [hg]; exact hideAll_none _ (.tail _ (.tail _ (.head _)))⟩
  clear hns
  refine wpAny_mono (E := fun _ _ => False) ?_ (fun _ _ x => x) (fun _ _ x => x.elim)
  k_fold
  k_steps
  rename Fr _ _ _ _ => F'
  rename News _ _ _ _ => N'
  rename_i nc k' _ l1 _
  have hnot : nc ∉ [x, dx, cc] := by
    intro hm
    have a1 := l1.1
    have a2 := l1.2.1
    have a3 := l1.2.2
    rcases List.mem_cons.mp hm with rfl | hm
    · exact Nat.lt_irrefl _ a1
    · rcases List.mem_cons.mp hm with rfl | hm
      · exact Nat.lt_irrefl _ a2
      · rw [List.mem_singleton.mp hm] at a3; exact Nat.lt_irrefl _ a3
  refine h _ _ nc k' _ _ (fun b o hb e => ?_) ?_ (N' _ (.head _)).1 (N' _ (.tail _ (.tail _ (.head _)))).1 (by k_get) (by k_get) (by k_get) (by k_get) (by k_get) (by k_get)
  · by_cases hm : b ∈ [x, dx, cc]
    · rcases List.mem_cons.mp hm with rfl | hm
      · rw [hx] at e; cases e; exact (N' _ (.tail _ (.head _))).1
      · rcases List.mem_cons.mp hm with rfl | hm
        · exact absurd rfl hb
        · have hbc := List.mem_singleton.mp hm
          subst hbc
          rw [hcc] at e; cases e; exact (N' _ (.tail _ (.tail _ (.tail _ (.head _))))).1
    · exact F'.keep _ _ (by rw [hg]; exact hideAll_get _ e hm)
  · cases e : s.heap.get? nc with
    | none => rfl
    | some o =>
      have a := (N' _ (.head _)).2.2
      rw [hg, hideAll_get _ e hnot] at a; cases a
end

section
variable {prog : Program} {w : World} {s : Shared} {p : Program} {loose : List Str} {mean : ExcName → Option Value} {mg mb : Str → Option Value} {h₀ : Heap} {L : Addr} {m : Str → Option Value} {news : List (Addr × Obj)} {E : Value → Shared → Prop}
/-- an instance made -/
theorem new_seq {e₁ e₂ : Env} {cc : Addr} {pl cv lv sv ev : Value} {cs : List Value} {nn : Nat} {Q : Value → Shared → Prop} (F : Fr h₀ L s.heap m) (N : News h₀ L s.heap news) (T : Top p loose mean mg mb h₀) (KX : (Mine.hd.heap_39 w.params).In h₀)
    (hcc : (cc, W.listOf cs.toArray nn) ∈ news) (hl : cs.length ≤ 100)
    (h : ∀ h' tk v nc k x dx es k2, Fr h₀ L h' m → News h₀ L h' ((x, instObj 48 dx) :: (dx, dictOf es k2) :: (nc, W.listOf cs.toArray k) :: news) → (∀ q ∈ news, q.1 < dx) → @LT.lt Nat _ dx x → (∀ q ∈ news, q.1 ≠ nc) → x ≠ nc → dx ≠ nc →
      SeqIn [(x, instObj 48 dx), (dx, dictOf es k2), (nc, W.listOf cs.toArray k)] v pl cv lv sv ev (.ref nc) → Q v { s with heap := h', toks := tk }) :
    wpAny (model prog w) ((callerA.deeper e₁).deeper e₂) (call (.ref 48) [pl, cv, lv, sv, ev, .ref cc] []) Q E s := by
  refine call_cls (fI := 45) F KX N (by k_is) (by k_is) (by k_is) fun x dx h₁ F₁ N₁ hlt hdx => ?_
  have hd1 := (N₁ _ (.tail _ (.head _)))
  have hx1 := (N₁ _ (.head _))
  have hc1 := (N₁ _ (.tail _ (.tail _ hcc)))
  have hst : h₀.StaysIn (hideAll h₁ [x, dx, cc]) := fun b o e => hideAll_get _ (F₁.keep b o e) (by
    intro hm
    rcases List.mem_cons.mp hm with rfl | hm
    · rw [hx1.2.2] at e; cases e
    · rcases List.mem_cons.mp hm with rfl | hm
      · rw [hd1.2.2] at e; cases e
      · rw [List.mem_singleton.mp hm, hc1.2.2] at e; cases e)
  refine init_code (s := { s with heap := h₁ }) rfl (T.keeps hst) (KX.keeps hst) hx1.1 hd1.1 hc1.1 hdx (hlt _ hcc) hl ?_
  intro h' tk nc k es k2 keep hnc hncl hdxe g1 g2 g3 g4 g5 g6
  refine ⟨rfl, ?_⟩
  have hnd : ∀ b o, h₁.get? b = some o → b ≠ nc := fun b o e q => by rw [q, hnc] at e; cases e
  have hxd : x ≠ dx := Nat.ne_of_gt hdx
  have hLd : L ≠ dx := fun e => hd1.2.1 e.symm
  have hncb : h₀.get? nc = none := by
    cases q : h₀.get? nc with
    | none => rfl
    | some o => exact absurd rfl (hnd _ _ (F₁.keep _ _ q))
  have hncL : nc ≠ L := fun e => by
    obtain ⟨oL, _, _, hL, _⟩ := F₁.ns
    exact hnd _ _ hL e.symm
  refine h h' tk (.ref x) nc k x dx es k2 ⟨F₁.ns.at' fun o e => keep _ _ hLd e, fun b o e => keep b o (fun q => by rw [q, hd1.2.2] at e; cases e) (F₁.keep b o e), F₁.above⟩ (fun q hq => ?_) hlt hdx (fun q hq => hnd _ _ (N₁ q (.tail _ (.tail _ hq))).1) (hnd _ _ hx1.1) (hnd _ _ hd1.1)
    ⟨x, dx, es, k2, rfl, .head _, .tail _ (.head _), g1, g2, g3, g4, g5, g6⟩
  rcases List.mem_cons.mp hq with rfl | hq
  · exact ⟨keep _ _ hxd hx1.1, hx1.2⟩
  · rcases List.mem_cons.mp hq with rfl | hq
    · exact ⟨hdxe, hd1.2⟩
    · rcases List.mem_cons.mp hq with rfl | hq
      · exact ⟨hncl, hncL, hncb⟩
      · exact ⟨keep _ _ (Nat.ne_of_lt (hlt q hq)) (N₁ q (.tail _ (.tail _ hq))).1, (N₁ q (.tail _ (.tail _ hq))).2⟩
end
/-- the end of a comprehension, back in the function's frame -/
theorem comp_back {h₀ : Heap} {L : Addr} {m mc : Str → Option Value} {news made : List (Addr × Obj)} {sb : Heap} {ys : List Value} {c : Nat} {D C : Addr} {h' h'' : Heap} (F : Fr h₀ L sb m) (N : News h₀ L sb news)
    (F' : Fr sb C h' mc) (N' : News sb C h' ((D, W.listOf ys.toArray c) :: made)) (hs : Heap.SameBut C h' h'') :
    Fr h₀ L h'' m ∧ News h₀ L h'' ((D, W.listOf ys.toArray c) :: (made ++ news)) ∧ (∀ p ∈ (D, W.listOf ys.toArray c) :: made, ∀ q ∈ news, p.1 ≠ q.1) := by
  have st : sb.StaysIn h'' := fun b o e => hs.extBut b o (fun (hb : b = C) => by
    have := F'.above
    rw [hb] at e
    exact absurd (Heap.lt_size e) (Nat.not_lt.mpr this)) (F'.keep b o e)
  have fr : ∀ p ∈ (D, W.listOf ys.toArray c) :: made, h''.get? p.1 = some p.2 ∧ sb.get? p.1 = none := fun p hp => ⟨hs.extBut _ _ (N' p hp).2.1 (N' p hp).1, (N' p hp).2.2⟩
  have up : ∀ p ∈ (D, W.listOf ys.toArray c) :: made, h''.get? p.1 = some p.2 ∧ p.1 ≠ L ∧ h₀.get? p.1 = none := fun p hp => by
    refine ⟨(fr p hp).1, fun e => ?_, ?_⟩
    · obtain ⟨oL, _, _, hL, _⟩ := F.ns
      have := (fr p hp).2
      rw [e, hL] at this; cases this
    · cases g : h₀.get? p.1 with
      | none => rfl
      | some o => have := (fr p hp).2; rw [F.keep _ _ g] at this; cases this
  refine ⟨F.keeps st, fun p hp => ?_, fun p hp q hq e => ?_⟩
  · rcases List.mem_cons.mp hp with rfl | hp
    · exact up _ (.head _)
    · rcases List.mem_append.mp hp with hp | hp
      · exact up p (.tail _ hp)
      · exact ⟨st _ _ (N p hp).1, (N p hp).2⟩
  · have := (fr p hp).2
    rw [e, (N q hq).1] at this; cases this
/-! comprehensions over enumerate, over a range, over a list of tuples -/
section
variable {prog : Program} {w : World} {A : Around} {E : Value → Shared → Prop} {s : Shared}
theorem comp_store {env : Env} {x : Str} {px : Pos} {scope : Scope} {cl : List (Str × Addr)} {h₀ : Heap} {C : Addr} {mc : Str → Option Value} {v : Value} {news : List (Addr × Obj)} {Q : Unit → Shared → Prop}
    (hx : scope.names.lookup x = some .local) (hkind : scope.kind = .function) (F : Fr h₀ C s.heap mc) (N : News h₀ C s.heap news)
    (h : ∀ h', Fr h₀ C h' (fun z => if z = x then some v else mc z) → News h₀ C h' news → Q () { s with heap := h', toks := s.toks + 1 }) :
    wpAny (model prog w) A (assign (.Name x px) (compEnvC scope cl C env) v) Q E s :=
  wpAny_assign_Name (wpAny_storeName_local (env := compEnvC scope cl C env) (lookup_relabel_local hx) F.ns (fun h₂ hn₂ hs₂ => h h₂ (F.set hn₂ hs₂) (N.set hs₂)) (by simp [compEnvC, relabel, hkind]))

theorem CompEnd.same {base : Heap} {C D : Addr} {J : List Value → List (Addr × Obj) → Prop} {own : List (Addr × Obj)} {ys : List Value} {c : Nat} {s₁ s₁' s₂ : Shared} (e : ∃ h tk, s₁' = { s₁ with heap := h, toks := tk }) (h : CompEnd base C D J own ys c s₁' s₂) : CompEnd base C D J own ys c s₁ s₂ := by
  obtain ⟨h1, tk1, rfl⟩ := e
  obtain ⟨a, b, c, d, e, f, g, i, j, k⟩ := h
  exact ⟨a, b, c, d, e, f, g, i, j, k⟩
theorem comp_relax {env : Env} {scope : Scope} {cl : List (Str × Addr)} {ifs : List Expr} {elt : Expr} {base : Heap} {C D : Addr} {J1 : Value → List Value → List (Addr × Obj) → Prop} {J2 : List Value → List (Addr × Obj) → Prop} {own : List (Addr × Obj)} {ys : List Value} {c : Nat} {s₁ s₁' s₃ : Shared} (e : ∃ h tk, s₁' = { s₁ with heap := h, toks := tk })
    (h : wpAny (model prog w) A (forIn ifs true fun c r => if r = true then do let ok ← isTrue c (compEnvC scope cl C env) (eval c (compEnvC scope cl C env)); pure (ForInStep.yield ok) else pure (ForInStep.yield r)) (fun ok s₄ =>
        if ok = true then wpAny (model prog w) A (eval elt (compEnvC scope cl C env)) (fun y s₅ => CompEnd base C D (J1 y) own ys c s₁' s₅) (fun _ _ => False) s₄
        else CompEnd base C D J2 own ys c s₁' s₄) (fun _ _ => False) s₃) :
    wpAny (model prog w) A (forIn ifs true fun c r => if r = true then do let ok ← isTrue c (compEnvC scope cl C env) (eval c (compEnvC scope cl C env)); pure (ForInStep.yield ok) else pure (ForInStep.yield r)) (fun ok s₄ =>
        if ok = true then wpAny (model prog w) A (eval elt (compEnvC scope cl C env)) (fun y s₅ => CompEnd base C D (J1 y) own ys c s₁ s₅) (fun _ _ => False) s₄
        else CompEnd base C D J2 own ys c s₁ s₄) (fun _ _ => False) s₃ := by
  refine wpAny_mono h (fun ok s₄ h₄ => ?_) fun _ _ e => e
  cases ok with
  | true => simp only [if_true] at h₄ ⊢; exact wpAny_mono h₄ (fun _ _ q => q.same e) fun _ _ e => e
  | false => simp only [Bool.false_eq_true, if_false] at h₄ ⊢; exact h₄.same e

/-- over enumerate(l) -/
theorem comp_enum {env : Env} {x y : Str} {px py pk : Pos} {k : Nat} {elt : Expr} {ifs : List Expr} {scope : Scope} {cl : List (Str × Addr)} {l : Addr} {xs : List Value} {nn : Nat} {RR : Addr → Addr → Shared → Prop}
    (J : Nat → List Value → List (Addr × Obj) → Prop) (hh : A.handled = none) (hx : scope.names.lookup x = some .local) (hy : scope.names.lookup y = some .local) (hkind : scope.kind = .function)
    (hl : s.heap.get? l = some (W.listOf xs.toArray nn)) (hn : xs.length ≤ 1000) (h0 : J 0 [] [])
    (turn : ∀ i t v ys made C D c h tk (mc : Str → Option Value) own, xs[i]? = some v → J i ys made → ys.length ≤ i → Fr s.heap C h (fun z => if z = y then some v else if z = x then some (.int (i : Int) t) else mc z) → News s.heap C h ((D, W.listOf ys.toArray c) :: (made ++ own)) → OwnOff own (D :: made.map (·.1)) → (∀ p ∈ made, p.1 ≠ D) →
      wpAny (model prog w) A (forIn ifs true fun c r => if r = true then do let ok ← isTrue c (compEnvC scope cl C env) (eval c (compEnvC scope cl C env)); pure (ForInStep.yield ok) else pure (ForInStep.yield r)) (fun ok s₄ =>
        if ok = true then wpAny (model prog w) A (eval elt (compEnvC scope cl C env)) (fun y s₅ => CompEnd s.heap C D (fun ys' made' => J (i + 1) (ys' ++ [y]) made') own ys c { s with heap := h, toks := tk } s₅) (fun _ _ => False) s₄
        else CompEnd s.heap C D (fun ys' made' => J (i + 1) ys' made') own ys c { s with heap := h, toks := tk } s₄) (fun _ _ => False) { s with heap := h, toks := tk })
    (done : ∀ ys made D C c h' tk mc, J xs.length ys made → Fr s.heap C h' mc → News s.heap C h' ((D, W.listOf ys.toArray c) :: made) → (∀ p ∈ made, p.1 ≠ D) → RR D C { s with heap := h', toks := tk }) :
    wpAny (model prog w) A (call (.type "enumerate") [.ref l]) (fun xv s₁ => wpAny (model prog w) A (pyIter xv) (fun it s₂ => ∃ sb, CompAt prog w A env scope cl (.Tuple [.Name x px, .Name y py] k pk) elt ifs RR sb it s₂) E s₁) E s := by
  have hL : s.heap.IsList l xs.toArray := ⟨_, hl, rfl, nn, rfl⟩
  have hlt : l < s.heap.objs.size := Heap.lt_size hl
  refine call_enumerate_list hL fun h' hE hI hsz hk => ?_
  refine wpAny_pyIter_enum hE ⟨s, ?_⟩
  have e1 : l ≠ s.heap.objs.size + 1 := Nat.ne_of_lt (Nat.lt_succ_of_lt hlt)
  have e2 : l ≠ s.heap.objs.size := Nat.ne_of_lt hlt
  have WL := WalksT.enumerate (prog := prog) (w := w) hh (s.heap.objs.size + 1) s.heap.objs.size l (Nat.succ_ne_self _) e1 e2 xs.toArray
  refine ⟨_, _, _, _, _, _, _, J, rfl, KTurns.ofWalksU WL.toU, (fun i s' Q' st hq => WL.self i s' Q' _ st hq), ?_, ?_, ?_, ?_, ?_, ⟨_, _, rfl⟩, hk, ?_, ⟨⟨_, hE⟩, hI, hL.at fun o e => hk _ _ e⟩, h0, ?_, ?_⟩
  · simpa using hn
  · intro b hb
    have hb' : b = s.heap.objs.size + 1 ∨ b = s.heap.objs.size := by simpa using hb
    rcases hb' with rfl | rfl
    · exact Heap.get?_none_of_le (Nat.le_succ _)
    · exact Heap.get?_none_of_le (Nat.le_refl _)
  · intro b hb
    have hb' : b = s.heap.objs.size + 1 ∨ b = s.heap.objs.size := by simpa using hb
    show @LT.lt Nat _ b h'.objs.size
    rw [hsz]
    rcases hb' with rfl | rfl
    · exact Nat.lt_succ_self _
    · exact Nat.lt_succ_of_lt (Nat.lt_succ_self _)
  · rintro i h ⟨⟨old, he⟩, ⟨oi, hoi, _⟩, _⟩ b hb
    have hb' : b = s.heap.objs.size + 1 ∨ b = s.heap.objs.size := by simpa using hb
    rcases hb' with rfl | rfl
    · exact ⟨_, he⟩
    · exact ⟨_, hoi⟩
  · intro b hb
    have hb' : b = s.heap.objs.size + 1 ∨ b = s.heap.objs.size ∨ b = l := by simpa using hb
    rcases hb' with rfl | rfl | rfl
    · exact .inl (by simp)
    · exact .inl (by simp)
    · exact .inr ⟨_, hl⟩
  · show s.heap.objs.size ≤ h'.objs.size
    rw [hsz]; exact Nat.le_add_right _ _
  · rintro i v ys made C D c h tk mc own hi ⟨T, vals, rfl, ⟨t, v, hv, rfl⟩, hT⟩ hJ hyl F N hoff hd
    refine unpackN_ F N hT hh rfl rfl fun h₁ F₁ N₁ => ?_
    refine assignInOrder_cons (comp_store (env := env) (cl := cl) hx hkind F₁ N₁ fun h₂ F₂ N₂ => ?_)
    refine assignInOrder_cons (comp_store (env := env) (cl := cl) hy hkind F₂ N₂ fun h₃ F₃ N₃ => assignInOrder_nil ?_)
    exact comp_relax ⟨_, _, rfl⟩ (turn i t v ys made C D c h₃ (tk + 1 + 1) mc own (by simpa using hv) hJ hyl F₃ N₃ hoff hd)
  · intro ys made D C c h' tk mc hJ F' N' hd
    exact done ys made D C c h' tk mc (by simpa using hJ) F' N' hd

theorem range_n (n : Nat) : Builtin.Range.rangeSize 0 (n : Int) 1 = (n : Int) := by rw [rangeSize_one]; split <;> (first | lia | omega)
theorem range_small {n : Nat} (hn : n ≤ 1000) : Builtin.Range.small 0 (n : Int) 1 = true := by
  have fit : ∀ i : Int, 0 ≤ i → i ≤ 2000 → Builtin.Range.rangeFitsLong i = true := fun i h1 h2 => by
    unfold Builtin.Range.rangeFitsLong
    rw [Bool.and_eq_true, decide_eq_true_eq, decide_eq_true_eq]
    (first | lia | omega)
  unfold Builtin.Range.small
  rw [range_n, fit 0 (by (first | lia | omega)) (by (first | lia | omega)), fit n (by (first | lia | omega)) (by (first | lia | omega)), fit 1 (by (first | lia | omega)) (by (first | lia | omega)), if_pos (by decide), fit (n + (1 - 1)) (by (first | lia | omega)) (by (first | lia | omega))]
  simp
/-- over range(n) -/
theorem comp_range {env : Env} {x : Str} {px : Pos} {elt : Expr} {ifs : List Expr} {scope : Scope} {cl : List (Str × Addr)} {n : Nat} {tn : Tok} {RR : Addr → Addr → Shared → Prop}
    (J : Nat → List Value → List (Addr × Obj) → Prop) (hh : A.handled = none) (hx : scope.names.lookup x = some .local) (hkind : scope.kind = .function)
    (hn : n ≤ 1000) (h0 : J 0 [] [])
    (turn : ∀ i t ys made C D c h tk (mc : Str → Option Value) own, i < n → J i ys made → ys.length ≤ i → Fr s.heap C h (fun z => if z = x then some (.int (i : Int) t) else mc z) → News s.heap C h ((D, W.listOf ys.toArray c) :: (made ++ own)) → OwnOff own (D :: made.map (·.1)) → (∀ p ∈ made, p.1 ≠ D) →
      wpAny (model prog w) A (forIn ifs true fun c r => if r = true then do let ok ← isTrue c (compEnvC scope cl C env) (eval c (compEnvC scope cl C env)); pure (ForInStep.yield ok) else pure (ForInStep.yield r)) (fun ok s₄ =>
        if ok = true then wpAny (model prog w) A (eval elt (compEnvC scope cl C env)) (fun y s₅ => CompEnd s.heap C D (fun ys' made' => J (i + 1) (ys' ++ [y]) made') own ys c { s with heap := h, toks := tk } s₅) (fun _ _ => False) s₄
        else CompEnd s.heap C D (fun ys' made' => J (i + 1) ys' made') own ys c { s with heap := h, toks := tk } s₄) (fun _ _ => False) { s with heap := h, toks := tk })
    (done : ∀ ys made D C c h' tk mc, J n ys made → Fr s.heap C h' mc → News s.heap C h' ((D, W.listOf ys.toArray c) :: made) → (∀ p ∈ made, p.1 ≠ D) → RR D C { s with heap := h', toks := tk }) :
    wpAny (model prog w) A (call (.type "range") [.int (n : Int) tn]) (fun xv s₁ => wpAny (model prog w) A (pyIter xv) (fun it s₂ => ∃ sb, CompAt prog w A env scope cl (.Name x px) elt ifs RR sb it s₂) E s₁) E s := by
  refine call_range_1 ?_
  generalize hH : s.heap.push { cls := .type "range", data := .fields #[.int 0 s.toks, .int (n : Int) tn, .int 1 (s.toks + 1)] } = H
  have hkH : s.heap.StaysIn H := fun b o e => by rw [← hH]; exact Heap.get?_push_of_some _ e
  have hszH : H.objs.size = s.heap.objs.size + 1 := by rw [← hH, Heap.size_push]
  have hr : IsRange H s.heap.objs.size 0 n 1 s.toks tn (s.toks + 1) := by rw [← hH]; exact IsRange.new _ _ _ _ _ _ _
  refine wpAny_pyIter_range hr (range_small hn) ⟨s, ?_⟩
  rw [range_n]
  dsimp only
  generalize hG : H.push { cls := .type "range_iterator", data := .fields #[rawInt 0, rawInt (n : Int), rawInt 1] } = G
  have hgi : IsRangeIter G H.objs.size 0 n 1 := by rw [← hG]; exact Heap.get?_push_size _ rfl
  have hkG : s.heap.StaysIn G := fun b o e => by rw [← hG]; exact Heap.get?_push_of_some _ (hkH b o e)
  have hszG : G.objs.size = s.heap.objs.size + 1 + 1 := by rw [← hG, Heap.size_push, hszH]
  have WL := Walks.range (prog := prog) (w := w) hh H.objs.size 0 1 n
  refine ⟨_, _, _, _, _, _, _, J, rfl, KTurns.ofWalks WL (fun i v s Q E _ hq => wpAny_pure hq), (fun i s' Q' st hq => WL.self i s' Q' _ st hq), hn, ?_, ?_, ?_, ?_, ⟨_, _, rfl⟩, hkG, ?_, ?_, h0, ?_, ?_⟩
  · intro b hb
    have hb' : b = H.objs.size := by simpa using hb
    subst hb'
    exact Heap.get?_none_of_le (by rw [hszH]; exact Nat.le_succ _)
  · intro b hb
    have hb' : b = H.objs.size := by simpa using hb
    subst hb'
    show @LT.lt Nat _ H.objs.size G.objs.size
    rw [hszG, hszH]; exact Nat.lt_succ_self _
  · rintro i h st b hb
    have hb' : b = H.objs.size := by simpa using hb
    subst hb'
    exact ⟨_, st⟩
  · intro b hb
    exact .inl hb
  · show s.heap.objs.size ≤ G.objs.size
    rw [hszG]; exact Nat.le_succ_of_le (Nat.le_succ _)
  · show IsRangeIter G H.objs.size (0 + ((0 : Nat) : Int) * 1) ((n : Int) - ((0 : Nat) : Int)) 1
    simpa using hgi
  · rintro i v ys made C D c h tk mc own hi ⟨t, rfl⟩ hJ hyl F N hoff hd
    refine comp_store (env := env) (cl := cl) hx hkind F N fun h₁ F₁ N₁ => ?_
    have ei : (0 + (i : Int) * 1) = (i : Int) := by (first | lia | omega)
    rw [ei] at F₁
    exact comp_relax ⟨_, _, rfl⟩ (turn i t ys made C D c h₁ (tk + 1) mc own hi hJ hyl F₁ N₁ hoff hd)
  · intro ys made D C c h' tk mc hJ F' N' hd
    exact done ys made D C c h' tk mc hJ F' N' hd
end
section
variable {prog : Program} {w : World} {A : Around} {E : Value → Shared → Prop} {s : Shared} {h₀ : Heap} {L l b : Addr} {m : Str → Option Value} {news : List (Addr × Obj)} {value slice : Expr} {vs ws : List Value} {nn n2 : Nat} {Q : Value → Shared → Prop}
theorem add_my (F : Fr h₀ L s.heap m) (N : News h₀ L s.heap news) (hl : s.heap.get? l = some (W.listOf vs.toArray nn)) (hb : s.heap.get? b = some (W.listOf ws.toArray n2)) (hz : vs.length + ws.length ≤ 1000)
    (h : ∀ D h', Fr h₀ L h' m → News h₀ L h' ((D, W.listOf (vs ++ ws).toArray 0) :: news) → (∀ q ∈ news, q.1 < D) → Q (.ref D) { s with heap := h' }) : wpAny (model prog w) A (binaryOp .Add (.ref l) (.ref b)) Q E s :=
  add_lists F N ⟨_, hl, rfl, nn, rfl⟩ ⟨_, hb, rfl, n2, rfl⟩ (fun h' F' N' => h _ h' F' N' fun q hq => Heap.lt_size (N q hq).1) (by rw [sizeLine_eq]; (first | lia | omega))
theorem pick_upto (vs : List Value) {y : Int} (h : 0 ≤ y) : (slicePick vs.toArray none (some y) none).toList = vs.take y.toNat := by
  have e : sliceBounds none (some y) none vs.toArray.size = (((0 : Nat) : Int), ((min y.toNat vs.toArray.size : Nat) : Int), 1) := by
    simp only [sliceBounds, Option.getD_none, show (1 : Int) > 0 by decide, if_true, if_neg (show ¬ (y < 0) by (first | lia | omega))]
    congr 1
    congr 1
    (first | lia | omega)
  rw [kmk_pick_nat _ e]
  show (vs.drop 0).take (min y.toNat vs.toArray.size - 0) = _
  rw [List.drop_zero, Nat.sub_zero, List.size_toArray, kmk_take_min]
theorem pick_from (vs : List Value) {x : Int} (h : 0 ≤ x) : (slicePick vs.toArray (some x) none none).toList = vs.drop x.toNat := by
  have e : sliceBounds (some x) none none vs.toArray.size = (((min x.toNat vs.toArray.size : Nat) : Int), ((vs.toArray.size : Nat) : Int), 1) := by
    simp only [sliceBounds, Option.getD_none, show (1 : Int) > 0 by decide, if_true, if_neg (show ¬ (x < 0) by (first | lia | omega))]
    congr 1
    (first | lia | omega)
  rw [kmk_pick_nat _ e]
  show (vs.drop (min x.toNat vs.toArray.size)).take (vs.toArray.size - min x.toNat vs.toArray.size) = _
  rw [List.size_toArray, kmk_drop_min, List.take_of_length_le (by rw [List.length_drop]; omega)]
theorem slice_to {y : Int} {t : Tok} (F : Fr h₀ L s.heap m) (N : News h₀ L s.heap news) (hl : s.heap.get? l = some (W.listOf vs.toArray nn)) (hy : 0 ≤ y) (hz : vs.length ≤ 1000)
    (h : ∀ D h', Fr h₀ L h' m → News h₀ L h' ((D, W.listOf (vs.take y.toNat).toArray 0) :: news) → (∀ p ∈ news, p.1 < D) → Q (.ref D) { s with heap := h' })
    (hs : subscripted slice false (.ref l) (.ref s.heap.objs.size) = operate [.ref s.heap.objs.size, .ref l] (getItem (.ref l) (.ref s.heap.objs.size))) (ht : ∀ r, letTemporaryGo value (.ref l) r = pure ()) :
    wpAny (model prog w) A (subscriptTail value slice (.ref l) (.ref s.heap.objs.size)) Q E { s with heap := s.heap.push { cls := .type "slice", data := .fields #[.none, .int y t, .none] } } :=
  kmk_slice_lit (s := s) F N ⟨_, hl, rfl, nn, rfl⟩ IsPart.none (IsPart.int _ _) (pick_upto vs hy) h hs ht (by rw [sizeLine_eq, List.size_toArray]; (first | lia | omega))
theorem slice_from {x : Int} {t : Tok} (F : Fr h₀ L s.heap m) (N : News h₀ L s.heap news) (hl : s.heap.get? l = some (W.listOf vs.toArray nn)) (hx : 0 ≤ x) (hz : vs.length ≤ 1000)
    (h : ∀ D h', Fr h₀ L h' m → News h₀ L h' ((D, W.listOf (vs.drop x.toNat).toArray 0) :: news) → (∀ p ∈ news, p.1 < D) → Q (.ref D) { s with heap := h' })
    (hs : subscripted slice false (.ref l) (.ref s.heap.objs.size) = operate [.ref s.heap.objs.size, .ref l] (getItem (.ref l) (.ref s.heap.objs.size))) (ht : ∀ r, letTemporaryGo value (.ref l) r = pure ()) :
    wpAny (model prog w) A (subscriptTail value slice (.ref l) (.ref s.heap.objs.size)) Q E { s with heap := s.heap.push { cls := .type "slice", data := .fields #[.int x t, .none, .none] } } :=
  kmk_slice_lit (s := s) F N ⟨_, hl, rfl, nn, rfl⟩ (IsPart.int _ _) IsPart.none (pick_from vs hx) h hs ht (by rw [sizeLine_eq, List.size_toArray]; (first | lia | omega))
end
section
variable {prog : Program} {w : World} {A : Around} {E : Value → Shared → Prop}
/-- a comprehension's list goes into a local of the function -/
theorem comp_asg {h₀ sb : Heap} {L C D : Addr} {env : Env} {m mc : Str → Option Value} {news made : List (Addr × Obj)} {ys : List Value} {c : Nat} {s' : Shared} {y : Str} {py : Pos} {R : Shared → Heap → Prop} (hL : env.locals = L) (hy : env.kindOf y = some .local)
    (hp : (env.scope.kind == .class || (env.scope.kind == .module && env.locals != env.globals)) = false) (F : Fr h₀ L sb m) (N : News h₀ L sb news)
    (F' : Fr sb C s'.heap mc) (N' : News sb C s'.heap ((D, W.listOf ys.toArray c) :: made))
    (h : ∀ h₂ h₃ tk, Fr h₀ L h₃ (fun z => if z = y then some (.ref D) else m z) → News h₀ L h₃ ((D, W.listOf ys.toArray c) :: (made ++ news)) → (∀ p ∈ (D, W.listOf ys.toArray c) :: made, ∀ q ∈ news, p.1 ≠ q.1) → R { s' with heap := h₂, toks := tk } h₃) :
    wpAny (model prog w) A (assign (.Name y py) env (.ref D)) (fun _ s'' => ∃ m, s''.heap.Ns C m ∧ ∀ h', Heap.SameBut C s''.heap h' → R s'' h') E s' := by
  subst hL
  have hLC : env.locals ≠ C := fun e => by
    obtain ⟨oL, _, _, hL, _⟩ := F.ns
    have := F'.above
    rw [e] at hL
    exact absurd (Heap.lt_size hL) (Nat.not_lt.mpr this)
  have up : ∀ p ∈ (D, W.listOf ys.toArray c) :: made, p.1 ≠ env.locals ∧ h₀.get? p.1 = none := fun p hp => by
    refine ⟨fun e => ?_, ?_⟩
    · obtain ⟨oL, _, _, hL, _⟩ := F.ns
      have := (N' p hp).2.2
      rw [e, hL] at this; cases this
    · cases g : h₀.get? p.1 with
      | none => rfl
      | some o => have := (N' p hp).2.2; rw [F.keep _ _ g] at this; cases this
  refine wpAny_assign_Name (wpAny_storeName_local hy (F.keeps F'.keep).ns (fun h₂ hn₂ hs₂ => ?_) hp)
  refine ⟨mc, F'.ns.sameBut hs₂ (Ne.symm hLC), fun h₃ hs₃ => ?_⟩
  have st : ∀ b o, b ≠ env.locals → b ≠ C → s'.heap.get? b = some o → h₃.get? b = some o := fun b o h1 h2 e => hs₃.extBut b o h2 (hs₂.extBut b o h1 e)
  have hbC : ∀ b o, sb.get? b = some o → b ≠ C := fun b o e (hb : b = C) => by
    have := F'.above
    rw [hb] at e
    exact absurd (Heap.lt_size e) (Nat.not_lt.mpr this)
  refine h _ h₃ _ ⟨hn₂.sameBut hs₃ hLC, fun b o e => st b o (Nat.ne_of_lt (Nat.lt_of_lt_of_le (Heap.lt_size e) F.above)) (hbC b o (F.keep b o e)) (F'.keep b o (F.keep b o e)), F.above⟩ (fun p hp => ?_) (fun p hp q hq e => ?_)
  · rcases List.mem_cons.mp hp with rfl | hp
    · exact ⟨st _ _ (up _ (.head _)).1 (N' _ (.head _)).2.1 (N' _ (.head _)).1, up _ (.head _)⟩
    · rcases List.mem_append.mp hp with hp | hp
      · exact ⟨st _ _ (up _ (.tail _ hp)).1 (N' _ (.tail _ hp)).2.1 (N' _ (.tail _ hp)).1, up _ (.tail _ hp)⟩
      · exact ⟨st _ _ (N p hp).2.1 (hbC _ _ (N p hp).1) (F'.keep _ _ (N p hp).1), (N p hp).2⟩
  · have := (N' p hp).2.2
    rw [e, (N q hq).1] at this; cases this
end
local macro_rules | `(tactic| walk_at "eval Name") => `(tactic| (k_here; (with_reducible show wpAny _ _ (eval (Expr.Name _ _) (compEnvC _ _ _ _)) _ _ _); k_dflt (first
  | (refine' nmC_local ?F ?v ?_ ?a ?b; (case F => k_asm); (case a | b | v => rfl); k_whole)
  | (refine' nmC_cell ?c ?g ?o ?_ ?a ?b; (case a | b | c => rfl); (case g => walk_at "MINE at"); (case o => k_asm); k_whole))))
local macro_rules | `(tactic| walk_at "eval ListComp") => `(tactic| (k_here; k_dflt (refine' comp_eval ?a ?b ?c ?d ?_ ?e; (case a => rfl); (case b => decide); (case c => rfl); (case d => decide); (case e => (intro _; rfl)))))
local macro_rules | `(tactic| walk_at "pyIter ref") => `(tactic| ((with_reducible show wpAny _ _ (pyIter (Value.ref _)) (fun it s₂ => ∃ sb, CompAt _ _ _ _ _ _ _ _ _ _ sb it s₂) _ _); refine stop_of ?_))
local macro_rules | `(tactic| walk_at "MINE enterC") => `(tactic| (
  (case T | X => assumption); (case k6 | k7 => k_is); (case k8 => k_room); (case k9 => first | exact BindsTo.of_eq rfl | exact binds_K (by k_in) rfl (by k_is) rfl rfl rfl);
  (case kB => exact rfl); (case c5 => decide +kernel); (case c2 | c3 | c4 => exact rfl); k_whole))
theorem warm_F5 : (Mine.hd.heap_39 = Mine.hd.heap_39) ∧ (PySem.Challenge.rw_on0355_01.foot = 6) := by
  w_top off
  k_fill
  exact ⟨rfl, rfl⟩
/-! isolating_sequences -/
structure SeqD where
  places : List Int
  classes : List Str
  level : Int
  sos : Str
  eos : Str
  codes : List Int
def lvAt (ls : List (Option Int)) (x : Int) : Int := (ls.getD x.toNat none).getD 0
def seqOf (ks : List Str) (ls : List (Option Int)) (cs : List Str) (base : Int) (codes : Option (List Int)) (f : List (Int × Int)) (r : List Int) : SeqD where
  places := r
  classes := r.map (kAt cs)
  level := lvAt ls (r.headD 0)
  sos := dirOf (lvAt ls (r.headD 0)) (befL ls base (r.headD 0).toNat)
  eos := if isInit (kAt ks (r.getLastD 0)) && (f.lookup (r.getLastD 0)).isNone then dirOf (lvAt ls (r.headD 0)) base else dirOf (lvAt ls (r.headD 0)) (aftL ls base (r.getLastD 0).toNat)
  codes := match codes with | none => [] | some zs => r.map fun x => zs.getD x.toNat 0
inductive SeqIs (led : List (Addr × Obj)) (v : Value) (d : SeqD) : Prop
  | mk (pa : Addr) (us : List Value) (pn : Nat) (ca : Addr) (ws : List Value) (cn : Nat) (oa : Addr) (zs : List Value) (on : Nat) (tl ts te : Tok) (hin : SeqIn led v (.ref pa) (.ref ca) (.int d.level tl) (.str d.sos ts) (.str d.eos te) (.ref oa))
    (m1 : (pa, W.listOf us.toArray pn) ∈ led) (hu : IntsAre us d.places) (m2 : (ca, W.listOf ws.toArray cn) ∈ led) (hw : StrsAre ws d.classes) (m3 : (oa, W.listOf zs.toArray on) ∈ led) (hz : IntsAre zs d.codes)
inductive SeqsAre (led : List (Addr × Obj)) : List Value → List SeqD → Prop
  | nil : SeqsAre led [] []
  | cons {v d vs ds} : SeqIs led v d → SeqsAre led vs ds → SeqsAre led (v :: vs) (d :: ds)
theorem SeqIn.mono {led led' : List (Addr × Obj)} {v pl cv lv sv ev cd : Value} (h : SeqIn led v pl cv lv sv ev cd) (hs : ∀ p ∈ led, p ∈ led') : SeqIn led' v pl cv lv sv ev cd := by
  obtain ⟨x, dx, es, k, e, a, b, g1, g2, g3, g4, g5, g6⟩ := h
  exact ⟨x, dx, es, k, e, hs _ a, hs _ b, g1, g2, g3, g4, g5, g6⟩
theorem SeqIs.mono {led led' : List (Addr × Obj)} {v : Value} {d : SeqD} (h : SeqIs led v d) (hs : ∀ p ∈ led, p ∈ led') : SeqIs led' v d := by
  obtain ⟨pa, us, pn, ca, ws, cn, oa, zs, on, tl, ts, te, a, b, c, e, f, g, i⟩ := h
  exact ⟨pa, us, pn, ca, ws, cn, oa, zs, on, tl, ts, te, a.mono hs, hs _ b, c, hs _ e, f, hs _ g, i⟩
theorem SeqsAre.mono {led led' : List (Addr × Obj)} {vs : List Value} {ds : List SeqD} (h : SeqsAre led vs ds) (hs : ∀ p ∈ led, p ∈ led') : SeqsAre led' vs ds := by
  induction h with
  | nil => exact .nil
  | cons a _ ih => exact .cons (a.mono hs) ih
theorem SeqsAre.snoc {led : List (Addr × Obj)} {vs : List Value} {ds : List SeqD} {v : Value} {d : SeqD} (h : SeqsAre led vs ds) (a : SeqIs led v d) : SeqsAre led (vs ++ [v]) (ds ++ [d]) := by
  induction h with
  | nil => exact .cons a .nil
  | cons b _ ih => exact .cons b ih
theorem SeqsAre.length {led : List (Addr × Obj)} {vs : List Value} {ds : List SeqD} (h : SeqsAre led vs ds) : vs.length = ds.length := by
  induction h with
  | nil => rfl
  | cons _ _ ih => simp [ih]

theorem SeqIs.of {led0 led : List (Addr × Obj)} {v : Value} {d : SeqD} {pa ca oa : Addr} {us ws zs : List Value} {pn cn on : Nat} {lv : Int} {sos eos : Str} {tl ts te : Tok}
    (h : SeqIn led0 v (.ref pa) (.ref ca) (.int lv tl) (.str sos ts) (.str eos te) (.ref oa)) (hs : ∀ p ∈ led0, p ∈ led) (h1 : d.level = lv) (h2 : d.sos = sos) (h3 : d.eos = eos)
    (a : (pa, W.listOf us.toArray pn) ∈ led) (b : IntsAre us d.places) (c : (ca, W.listOf ws.toArray cn) ∈ led) (e : StrsAre ws d.classes) (f : (oa, W.listOf zs.toArray on) ∈ led) (g : IntsAre zs d.codes) : SeqIs led v d := by
  subst h1 h2 h3
  exact ⟨pa, us, pn, ca, ws, cn, oa, zs, on, tl, ts, te, h.mono hs, a, b, c, e, f, g⟩
theorem isNone_y {α : Type} {o : Option α} (h : o.isSome = false) : o.isNone = true := by cases o with | none => rfl | some _ => cases h
theorem isNone_n {α : Type} {o : Option α} (h : o.isSome = true) : o.isNone = false := by cases o with | none => cases h | some _ => rfl
theorem st_if {c : Bool} {a b : Str} {t : Tok} (h : c = true) : ∃ t', Value.str a t = .str (if c then a else b) t' := ⟨t, by rw [h]; rfl⟩
theorem st_ifn {c : Bool} {a b : Str} {t : Tok} (h : c = false) : ∃ t', Value.str b t = .str (if c then a else b) t' := ⟨t, by rw [h]; rfl⟩
inductive JC (h₀ : Heap) (L : Addr) (m : Str → Option Value) (kn : List (Addr × Obj)) (cs : List Int) (s : Shared) (v : Value) (s' : Shared) : Prop
  | mk (h : Heap) (tk : Nat) (D : Addr) (ys : List Value) (cD : Nat) (e : s' = { s with heap := h, toks := tk }) (ev : v = .ref D) (r : IntsAre ys cs) (o : ∀ q ∈ kn, D ≠ q.1) (F : Fr h₀ L h m) (N : News h₀ L h ((D, W.listOf ys.toArray cD) :: kn))
theorem eval_join_c {M : Model} {A : Around} {E : Value → Shared → Prop} {s : Shared} {e : Expr} {env : Env} {Q : Value → Shared → Prop} {h₀ : Heap} {L : Addr} {m : Str → Option Value} {kn : List (Addr × Obj)} (_F : Fr h₀ L s.heap m) (_N : News h₀ L s.heap kn) (cs : List Int)
    (h1 : wpAny M A (eval e env) (JoinV (JC h₀ L m kn cs s)) E s)
    (h2 : ∀ D ys cD h tk, IntsAre ys cs → (∀ q ∈ kn, D ≠ q.1) → Fr h₀ L h m → News h₀ L h ((D, W.listOf ys.toArray cD) :: kn) → Q (.ref D) { s with heap := h, toks := tk }) : wpAny M A (eval e env) Q E s :=
  eval_join _ h1 fun v s' x => by
    obtain ⟨h, tk, D, ys, cD, e, ev, r, o, F', N'⟩ := x
    subst e ev
    exact h2 D ys cD h tk r o F' N'
theorem seqOf_some {ks : List Str} {ls : List (Option Int)} {cs : List Str} {base : Int} {cl : List Int} {f : List (Int × Int)} {r : List Int} : (seqOf ks ls cs base (some cl) f r).codes = r.map fun y => cl.getD y.toNat 0 := rfl
theorem seqOf_len {ks : List Str} {ls : List (Option Int)} {cs : List Str} {base : Int} {co : Option (List Int)} {f : List (Int × Int)} {r : List Int} : (seqOf ks ls cs base co f r).codes.length ≤ r.length := by
  cases co with | none => exact Nat.zero_le _ | some cl => rw [seqOf_some, List.length_map]; exact Nat.le_refl _
theorem tm_succ {α β : Type} {q : List α} {i : Nat} {y : α} (g : α → β) (h : q[i]? = some y) : (q.take (i + 1)).map g = (q.take i).map g ++ [g y] := by rw [List.take_add_one, h]; simp
theorem int_getD {q : List Int} {i : Nat} (h : i < q.length) : q[i]? = some (q.getD i 0) := by
  rw [List.getD_eq_getElem?_getD, List.getElem?_eq_getElem h]; rfl
inductive IsoJ (fo : Addr) (fx : List (Addr × Obj)) (SD : List Int → SeqD) (js : List (List Int)) (i : Nat) (_ : Str → Option Value) (nx : List (Addr × Obj)) : Prop
  | mk (xs : List Value) (n : Nat) (led : List (Addr × Obj)) (x1 : nx = (fo, W.listOf xs.toArray n) :: (led ++ fx)) (x2 : SeqsAre (led ++ fx) xs ((js.take i).map SD)) (x3 : OwnOff led [fo])
theorem iso_end {h₀ : Heap} {L fo : Addr} {i nf : Nat} {stored : List Str} {m₀ m' : Str → Option Value} {s₁ : Shared} {own led fx made news' : List (Addr × Obj)} {h' : Heap} {tk' : Nat} {SD : List Int → SeqD} {js : List (List Int)} {r : List Int} {xs : List Value} {v : Value}
    (hri : js[i]? = some r) (hS : SeqsAre (led ++ fx) xs ((js.take i).map SD)) (hff : OwnOff led [fo]) (hoff : OwnOff own (fo :: (led ++ fx).map (·.1))) (hmo : ∀ p ∈ made, ∀ q ∈ own, p.1 ≠ q.1) (hmf : OwnOff made [fo]) (hI : SeqIs (made ++ (led ++ fx)) v (SD r))
    (F' : Fr h₀ L h' m') (N' : News h₀ L h' news') (h1 : (fo, W.listOf (xs ++ [v]).toArray nf) ∈ news') (h2 : ∀ p ∈ made, p ∈ news') (h3 : ∀ p ∈ led ++ fx, p ∈ news') (ho : ∀ p ∈ own, p ∈ news')
    (hm : ∀ z, stored.contains z = false → m' z = m₀ z) : InvEndG h₀ L (JJ stored m₀ (IsoJ fo fx SD js) (i + 1)) own s₁ { s₁ with heap := h', toks := tk' } := by
  refine endG ((fo, W.listOf (xs ++ [v]).toArray nf) :: ((made ++ led) ++ fx)) F' N' ?_ ho ?_ hm ⟨xs ++ [v], nf, made ++ led, rfl, ?_, OwnOff.app hmf hff⟩
  · intro p hp
    rcases List.mem_cons.mp hp with rfl | hp
    · exact h1
    · rw [List.append_assoc] at hp
      exact (List.mem_append.mp hp).elim (h2 p) (h3 p)
  · intro p hp b hb
    rcases List.mem_cons.mp hb with rfl | hb
    · exact hoff p hp _ (.head _)
    · obtain ⟨q', hq', rfl⟩ := List.mem_map.mp hb
      rw [List.append_assoc] at hq'
      rcases List.mem_append.mp hq' with hq' | hq'
      · exact Ne.symm (hmo q' hq' p hp)
      · exact hoff p hp _ (.tail _ (List.mem_map.mpr ⟨q', hq', rfl⟩))
  · rw [tm_succ SD hri, List.append_assoc]
    exact (hS.mono fun p hp => List.mem_append_right _ hp).snoc hI
inductive IsoR (ds : List SeqD) (g : Heap) (v : Value) (h' : Heap) : Prop
  | mk (fo : Addr) (n : Nat) (xs : List Value) (led : List (Addr × Obj)) (e : v = .ref fo) (x1 : SeqsAre led xs ds) (x2 : Fresh g h' ((fo, W.listOf xs.toArray n) :: led))
section
variable {prog : Program} {w : World} {A : Around} {s : Shared} {p : Program} {loose : List Str} {mean : ExcName → Option Value} {mg mb : Str → Option Value}
theorem iso_gen {e₁ : Env} (T : Top p loose mean mg mb s.heap) (KX : (Mine.hd.heap_39 w.params).In s.heap)
    {ak al ac : Addr} {vs us ws : List Value} {n1 n2 n3 : Nat} {ks : List Str} {ls : List (Option Int)} {cs : List Str} {base : Int} {tb : Tok} {cv : Value} {co : Option (List Int)} {args : Args}
    (hargs : (args = ⟨[.ref ak, .ref al, .ref ac, .int base tb], []⟩ ∧ cv = .none) ∨ args = ⟨[.ref ak, .ref al, .ref ac, .int base tb, cv], []⟩)
    (hcv : (cv = .none ∧ co = none) ∨ ∃ ao zs n4 cl, cv = .ref ao ∧ co = some cl ∧ s.heap.get? ao = some (W.listOf zs.toArray n4) ∧ IntsAre zs cl ∧ cl.length = ls.length)
    (hk : s.heap.get? ak = some (W.listOf vs.toArray n1)) (hs : StrsAre vs ks) (hl : s.heap.get? al = some (W.listOf us.toArray n2)) (hlo : OptsAre us ls) (hc : s.heap.get? ac = some (W.listOf ws.toArray n3)) (hcs : StrsAre ws cs)
    (hlen : ls.length ≤ 64) (hlk : ks.length = ls.length) (hlc : cs.length = ls.length) (hB : Str.ofString "B" ∉ ks)
    (hjoin : ∀ r ∈ (runsAt ls ls.length).1, ∀ c, isInit (kAt ks (r.getLastD 0)) = true → (pairsAt ks ks.length).2.lookup (r.getLastD 0) = some c →
      ∃ (n : Nat) (r' : List Int), (runOf (runsAt ls ls.length).1 (runsAt ls ls.length).1.length).lookup c = some (n : Int) ∧ (runsAt ls ls.length).1[n]? = some r' ∧ r.getLastD 0 < r'.getLastD 0)
    (hgood : ∀ r ∈ joinAt ks (pairsAt ks ks.length).2 (runsAt ls ls.length).1 (runsAt ls ls.length).1.length, r ≠ [] ∧ r.length ≤ 64 ∧ (∀ x ∈ r, 0 ≤ x ∧ x < ls.length) ∧ ∃ l, ls[(r.headD 0).toNat]? = some (some l)) :
    codeAny (model prog w) (callerA.deeper e₁) (.call (.ref 79) args) (RetK s (IsoR ((joinAt ks (pairsAt ks ks.length).2 (runsAt ls ls.length).1 (runsAt ls ls.length).1.length).map (seqOf ks ls cs base co (pairsAt ks ks.length).2)) s.heap)) s := by
  refine hideR fun R hR => ?_
  refine' code_myC (binds := [(Str.ofString "kinds", .ref ak), (Str.ofString "levels", .ref al), (Str.ofString "classes", .ref ac), (Str.ofString "base", .int base tb), (Str.ofString "codes", cv)]) ?T ?X ?k6 ?k7 ?k8 ?k9 ?kB ?c5 ?c2 ?c3 ?c4 ?_
  case T => assumption
  case X => assumption
  case k6 => k_is
  case k7 => k_is
  case k8 => k_room
  case k9 =>
    rcases hargs with ⟨rfl, rfl⟩ | rfl
    · first | exact BindsTo.of_eq rfl | exact binds_K (by k_in) rfl (by k_is) rfl rfl rfl
    · first | exact BindsTo.of_eq rfl | exact binds_K (by k_in) rfl (by k_is) rfl rfl rfl
  case kB => exact rfl
  case c5 => decide +kernel
  case c2 => exact rfl
  case c3 => exact rfl
  case c4 => exact rfl
  intro L' h₁ tk cells F N Y hup
  obtain ⟨o1, o2, rfl, d1, d2⟩ := CellsAre.two Y
  k_fold
  k_steps
  unfold Stop
  rename Fr _ _ _ _ => F
  rename News _ _ _ _ => N
  refine call_ret (pairs_spec (T.keeps F.keep) (KX.keeps F.keep) (F.keep _ _ hk) hs (by (first | lia | omega)) hB) F N ?_
  rintro v h' tk ⟨pd, od, rfl, hfr, hsm, hD⟩ F N st fresh
  obtain ⟨N1, off1⟩ := fresh _ hfr
  replace N := N1.append N
  simp only [List.cons_append, List.nil_append] at N
  clear N1 fresh
  k_steps
  unfold Stop
  rename Fr _ _ _ _ => F
  rename News _ _ _ _ => N
  refine call_ret (joined_spec (T.keeps F.keep) (KX.keeps F.keep) (F.keep _ _ hk) hs (F.keep _ _ hl) hlo (N.get (.tail _ (.head _))) hD hsm hlen hlk hjoin) F N ?_
  rintro v h' tk ⟨ja, jn, jes, rfl, hJR, hfr2⟩ F N st2 fresh
  obtain ⟨N1, off2⟩ := fresh _ hfr2
  clear fresh st st2
  have N2 := N1.append N
  k_steps
  unfold Stop
  rename Fr _ _ _ _ => F
  rename News _ _ _ _ => N
  rename_i fo _ l1 _ _ _ _ _
  obtain ⟨fx, hfx⟩ : ∃ fx, fx = (ja, W.listOf (refsOf jes).toArray jn) :: jes ++ [(pd, od), (L' + 1 + 1, o1), (L' + 1, o2)] := ⟨_, rfl⟩
  have m0 : (ja, W.listOf (refsOf jes).toArray jn) ∈ fx := by rw [hfx]; exact .head _
  have m1 : (pd, od) ∈ fx := by rw [hfx]; exact List.mem_append_right _ (.head _)
  have m2 : (L' + 1 + 1, o1) ∈ fx := by rw [hfx]; exact List.mem_append_right _ (.tail _ (.head _))
  have m3 : (L' + 1, o2) ∈ fx := by rw [hfx]; exact List.mem_append_right _ (.tail _ (.tail _ (.head _)))
  have mj : ∀ p ∈ jes, p ∈ fx := fun p hp => by rw [hfx]; exact List.mem_append_left _ (.tail _ hp)
  have hfo : OwnOff fx [fo] := fun p hp b hb => by
    rw [List.mem_singleton.mp hb]
    rw [hfx] at hp
    rcases List.mem_append.mp hp with hp | hp
    · exact off2 p hp _ (.head _)
    · rcases List.mem_cons.mp hp with rfl | hp
      · exact Nat.ne_of_lt l1.1
      · rcases List.mem_cons.mp hp with rfl | hp
        · exact Nat.ne_of_lt l1.2.1
        · rw [List.mem_singleton.mp hp]; exact Nat.ne_of_lt l1.2.2
  replace N : News s.heap L' h' ((fo, W.listOf ([] : List Value).toArray 0) :: ([] ++ fx)) := fun p hp => by
    rcases List.mem_cons.mp hp with rfl | hp
    · exact N _ (List.mem_append_right _ (.head _))
    · rw [List.nil_append, hfx] at hp
      rcases List.mem_append.mp hp with hp | hp
      · exact N _ (List.mem_append_left _ hp)
      · exact N _ (List.mem_append_right _ (.tail _ hp))
  refine for_listS (nn := jn) [Str.ofString "places", Str.ofString "first", Str.ofString "last", Str.ofString "level", Str.ofString "sos", Str.ofString "eos", Str.ofString "there"]
    (IsoJ fo fx (seqOf ks ls cs base co (pairsAt ks ks.length).2) (joinAt ks (pairsAt ks ks.length).2 (runsAt ls ls.length).1 (runsAt ls ls.length).1.length)) rfl
    (.inr fun i m nx hJ => by obtain ⟨_, _, _, rfl, _⟩ := hJ; exact .tail _ (List.mem_append_right _ m0)) rfl rfl F N ⟨[], 0, [], rfl, .nil, fun p hp => nomatch hp⟩ ?_ ?_
  · rintro i v m₁ nx h tk own hv ⟨xs, nf, led, rfl, hS, hff⟩ hoff F N
    obtain ⟨a, vs', c, r, rfl, hmem, hri, hI⟩ := hJR.item _ _ hv
    obtain ⟨tl, htl⟩ : ∃ tl, tl = (led ++ fx) ++ own := ⟨_, rfl⟩
    rw [List.cons_append, ← htl] at N
    have hmx : ∀ p ∈ fx, p ∈ tl := fun p hp => by rw [htl]; exact List.mem_append_left _ (List.mem_append_right _ hp)
    replace hoff : OwnOff own (fo :: (led ++ fx).map (·.1)) := hoff
    have hofft : OwnOff tl [fo] := by rw [htl]; exact OwnOff.app (OwnOff.app hff hfo) fun p hp b hb => hoff p hp b (by rw [List.mem_singleton.mp hb]; exact .head _)
    have ha' := hmx _ (mj _ hmem)
    have hao : @Ne Nat a fo := hofft _ ha' fo (.head _)
    have hpo : @Ne Nat pd fo := hofft _ (hmx _ m1) fo (.head _)
    have hc1o : @Ne Nat (L' + 1 + 1) fo := hofft _ (hmx _ m2) fo (.head _)
    have hc2o : @Ne Nat (L' + 1) fo := hofft _ (hmx _ m3) fo (.head _)
    replace N : News s.heap L' h ((fo, W.listOf xs.toArray nf) :: (a, W.listOf vs'.toArray c) :: (pd, od) :: (L' + 1 + 1, o1) :: (L' + 1, o2) :: tl) := (fm (N _ (.head _)) (fm (N _ (.tail _ ha')) (fm (N _ (.tail _ (hmx _ m1))) (fm (N _ (.tail _ (hmx _ m2))) (fm (N _ (.tail _ (hmx _ m3))) (fun p hp => N _ (.tail _ hp)))))))
    obtain ⟨hrn, hrl, hrg, lv, hlv⟩ := hgood r (List.mem_of_getElem? hri)
    obtain ⟨us₀, q₀, x, tx, rfl, rfl, hI₀⟩ := ints_snoc hI hrn
    have hxl : (q₀ ++ [x]).getLastD 0 = x := by simp
    have hf0 : (q₀ ++ [x]).headD 0 = (q₀ ++ [x]).getD (Int.toNat 0) 0 := by cases q₀ <;> rfl
    have hfm : (q₀ ++ [x]).getD (Int.toNat 0) 0 ∈ q₀ ++ [x] := by rw [← hf0]; cases q₀ <;> simp
    rw [hf0] at hlv
    have hxr := hrg x (by simp)
    have hfr := hrg _ hfm
    have hkx : ks[x.toNat]? = some (kAt ks x) := kAt_get (by (first | lia | omega))
    have hlu : us₀.length + 1 ≤ 64 := by have := hI₀.length; simp only [List.length_append, List.length_cons, List.length_nil] at hrl; (first | lia | omega)
    have hvl := hs.length
    have hul := hlo.length
    have hwl := hcs.length
    have hJl := refsOf_len jes
    have hlv2 : lv = lvAt ls ((q₀ ++ [x]).getD (Int.toNat 0) 0) := by unfold lvAt; rw [List.getD_eq_getElem?_getD, hlv]; rfl
    refine hideI fun Q' hQ => ?_
    k_steps
    unfold Stop
    rename Fr _ _ _ _ => F
    rename News _ _ _ _ => N
    refine call_ret (bef_spec (T.keeps F.keep) (KX.keeps F.keep) (F.keep _ _ hl) hlo hlen hfr.1 (Int.le_of_lt hfr.2)) F N ?_
    rintro v h' tk ⟨ts1, rfl⟩ F N st fresh
    clear fresh st
    k_steps
    unfold Stop
    rename Fr _ _ _ _ => F
    rename News _ _ _ _ => N
    refine call_ret (dir_spec (T.keeps F.keep) (KX.keeps F.keep)) F N ?_
    rintro v h' tk ⟨ts1, rfl⟩ F N st fresh
    clear fresh st
    k_steps
    unfold Stop
    rename Fr _ _ _ _ => F
    rename News _ _ _ _ => N
    refine exec_join_st (Str.ofString "eos") F N (fun v => ∃ t, v = .str (if isInit (kAt ks x) && ((pairsAt ks ks.length).2.lookup x).isNone then dirOf lv base else dirOf lv (aftL ls base x.toNat)) t) ?_ ?_
    · cases hb8 : isInit (kAt ks x)
      all_goals k_steps
      all_goals (
        unfold Stop
        rename Fr _ _ _ _ => F
        rename News _ _ _ _ => N)
      all_goals first
      | (
        refine call_ret (dir_spec (T.keeps F.keep) (KX.keeps F.keep)) F N ?_
        rintro v h' tk ⟨ts1, rfl⟩ F N st fresh
        clear fresh st
        k_steps
        rename Fr _ _ _ _ => F
        rename News _ _ _ _ => N
        exact ⟨rfl, _, _, _, rfl, st_if (by rw [isNone_y (by assumption)]; rfl), F, N⟩)
      | (
        refine call_ret (aft_spec (T.keeps F.keep) (KX.keeps F.keep) (F.keep _ _ hl) hlo hlen hxr.1) F N ?_
        rintro v h' tk ⟨ts1, rfl⟩ F N st fresh
        clear fresh st
        k_steps
        unfold Stop
        rename Fr _ _ _ _ => F
        rename News _ _ _ _ => N
        refine call_ret (dir_spec (T.keeps F.keep) (KX.keeps F.keep)) F N ?_
        rintro v h' tk ⟨ts1, rfl⟩ F N st fresh
        clear fresh st
        k_steps
        rename Fr _ _ _ _ => F
        rename News _ _ _ _ => N
        exact ⟨rfl, _, _, _, rfl, st_ifn (by first | rfl | (rw [isNone_n (by assumption)]; rfl)), F, N⟩)
    · rintro h tk _ ⟨t9, rfl⟩ F N
      k_steps
      unfold Stop
      rename Fr _ _ _ _ => F
      rename News _ _ _ _ => N
      refine eval_join_c F N (seqOf ks ls cs base co (pairsAt ks ks.length).2 (q₀ ++ [x])).codes ?_ ?_
      · rcases hcv with ⟨rfl, rfl⟩ | ⟨ao, zs, n4, cl, rfl, rfl, ho, hz, hlz⟩
        · k_steps
          rename Fr _ _ _ _ => F
          rename News _ _ _ _ => N
          rename fo < _ ∧ _ => lD
          exact ⟨_, _, _, [], _, rfl, rfl, .nil, fun q hq => Nat.ne_of_gt (allLt_lt (by exact lD) q hq), F, N⟩
        · have hzl := hz.length
          k_steps
          unfold Stop
          rename Fr _ _ _ _ => F
          rename News _ _ _ _ => N
          have ga := (N.get (a := a) (by k_mem))
          have gc1 := (N.get (a := L' + 1 + 1) (by k_mem))
          have gao := F.keep _ _ ho
          refine comp_list (fun i ys made => made = [] ∧ IntsAre ys (((q₀ ++ [x]).take i).map fun y => cl.getD y.toNat 0)) rfl rfl rfl ga (by simp; (first | lia | omega)) ⟨rfl, .nil⟩ ?_ ?_
          · rintro i v ys made C D c h tk mc own hv ⟨rfl, hY⟩ hyl F N hoff hd
            obtain ⟨y, ty, rfl, hy⟩ := hI.at i v hv
            have hyr := hrg y (List.mem_of_getElem? hy)
            have hcl := int_getD (q := cl) (i := y.toNat) (by (first | lia | omega))
            refine wpAny_pure ?_
            simp only [if_true]
            refine hideQ fun Q9 hQ9 => ?_
            k_steps
            exact hQ9 _ _ (CompEnd.intro [] F N (.head _) (fun _ h => nomatch h) (fun p hp => .tail _ hp) (fun _ _ _ h => nomatch h) (fun _ h => nomatch h) ⟨rfl, by rw [tm_succ _ hy]; exact hY.append (IntsAre.cons _ _ IntsAre.nil)⟩)
          · rintro ys made D C cD h' tk' mc ⟨rfl, hY⟩ F' N' hd
            refine ⟨mc, F'.ns, fun h'' hsb => ?_⟩
            obtain ⟨F, N, offD⟩ := comp_back F N F' N' hsb
            simp only [List.nil_append] at N
            have hul2 : (us₀ ++ [Value.int x tx]).length = (q₀ ++ [x]).length := hI.length
            rw [hul2, List.take_length] at hY
            exact ⟨_, _, D, ys, cD, rfl, rfl, hY, offD _ (.head _), F, N⟩
      · rintro D ys cD h tk hY offD F N
        have hDfo : @Ne Nat D fo := offD _ (.head _)
        k_steps
        unfold Stop
        rename Fr _ _ _ _ => F
        rename News _ _ _ _ => N
        have ga := (N.get (a := a) (by k_mem))
        have gc1 := (N.get (a := L' + 1) (by k_mem))
        have gao := F.keep _ _ hc
        refine comp_list (fun i zs made => made = [] ∧ StrsAre zs (((q₀ ++ [x]).take i).map (kAt cs))) rfl rfl rfl ga (by simp; (first | lia | omega)) ⟨rfl, .nil⟩ ?_ ?_
        · rintro i v ys made D C c h tk mc own hv ⟨rfl, hY⟩ hyl F N hoff hd
          obtain ⟨y, ty, rfl, hy⟩ := hI.at i v hv
          have hyr := hrg y (List.mem_of_getElem? hy)
          have hcl : cs[y.toNat]? = some (kAt cs y) := kAt_get (by (first | lia | omega))
          refine wpAny_pure ?_
          simp only [if_true]
          refine hideQ fun Q9 hQ9 => ?_
          k_steps
          exact hQ9 _ _ (CompEnd.intro [] F N (.head _) (fun _ h => nomatch h) (fun p hp => .tail _ hp) (fun _ _ _ h => nomatch h) (fun _ h => nomatch h) ⟨rfl, by rw [tm_succ _ hy]; exact hY.append' (StrsAre.cons _ _ StrsAre.nil)⟩)
        · rintro zs made D2 C cE h' tk' mc ⟨rfl, hZ⟩ F' N' hd
          refine ⟨mc, F'.ns, fun h'' hsb => ?_⟩
          obtain ⟨F, N, off⟩ := comp_back F N F' N' hsb
          simp only [List.nil_append] at N
          have hDfo2 : @Ne Nat D2 fo := off _ (.head _) _ (.tail _ (.head _))
          clear F' N' hsb ga gc1 gao
          k_steps
          unfold Stop
          rename Fr _ _ _ _ => F
          rename News _ _ _ _ => N
          have hYl : ys.length ≤ (q₀ ++ [x]).length := hY.length ▸ seqOf_len
          refine new_seq (cs := ys) F N T KX (.tail _ (.head _)) (by (first | lia | omega)) ?_
          intro h' tk v nc k x9 dx es k2 F N hlt hgt hnn h1 h2 hSeq
          have hx1 : @Ne Nat x9 fo := fun e => by have := hlt _ (.tail _ (.tail _ (.head _))); dsimp only at this; rw [e] at hgt; exact Nat.lt_irrefl _ (Nat.lt_trans hgt this)
          have hx2 : @Ne Nat dx fo := fun e => by have := hlt _ (.tail _ (.tail _ (.head _))); dsimp only at this; rw [e] at this; exact Nat.lt_irrefl _ this
          have hx3 : @Ne Nat nc fo := fun e => hnn _ (.tail _ (.tail _ (.head _))) e.symm
          have hxl2 := hS.length
          have hq1 := joinAt_len ks (pairsAt ks ks.length).2 (runsAt ls ls.length).1 (runsAt ls ls.length).1.length
          have hq2 := (runsAt_len ls ls.length).1
          simp only [List.length_map, List.length_take] at hxl2
          have hxl3 : xs.length ≤ 64 := by rw [hxl2]; exact Nat.le_trans (Nat.min_le_right _ _) (Nat.le_trans hq1 (Nat.le_trans hq2 hlen))
          k_steps
          rename News _ _ _ _ => N'
          simp only [List.push_toArray] at N'
          have mtl : ∀ p ∈ tl, p ∈ (fo, W.listOf xs.toArray nf) :: (a, W.listOf (us₀ ++ [Value.int x tx]).toArray c) :: (pd, od) :: (L' + 1 + 1, o1) :: (L' + 1, o2) :: tl := fun p hp => .tail _ (.tail _ (.tail _ (.tail _ (.tail _ hp))))
          have mow : ∀ p ∈ own, p ∈ tl := fun p hp => by rw [htl]; exact List.mem_append_right _ hp
          have mlf : ∀ p ∈ led ++ fx, p ∈ tl := fun p hp => by rw [htl]; exact List.mem_append_left _ hp
          refine hQ _ _ (iso_end (made := [(x9, instObj 48 dx), (dx, dictOf es k2), (nc, W.listOf ys.toArray k), (D2, W.listOf zs.toArray cE), (D, W.listOf ys.toArray cD)]) hri hS hff hoff ?_ ?_ ?_ (by assumption) N' (by k_mem) ?_ ?_ ?_ (by walk_at "MINE hm"))
          · intro p hp q hq
            have hq' := mtl q (mow q hq)
            rcases List.mem_cons.mp hp with rfl | hp
            · exact Nat.ne_of_gt (Nat.lt_trans (hlt q (.tail _ (.tail _ hq'))) hgt)
            · rcases List.mem_cons.mp hp with rfl | hp
              · exact Nat.ne_of_gt (hlt q (.tail _ (.tail _ hq')))
              · rcases List.mem_cons.mp hp with rfl | hp
                · exact Ne.symm (hnn q (.tail _ (.tail _ hq')))
                · rcases List.mem_cons.mp hp with rfl | hp
                  · exact off _ (.head _) q (.tail _ hq')
                  · rw [List.mem_singleton.mp hp]; exact offD q hq'
          · intro p hp b hb
            rw [List.mem_singleton.mp hb]
            rcases List.mem_cons.mp hp with rfl | hp
            · exact hx1
            · rcases List.mem_cons.mp hp with rfl | hp
              · exact hx2
              · rcases List.mem_cons.mp hp with rfl | hp
                · exact hx3
                · rcases List.mem_cons.mp hp with rfl | hp
                  · exact hDfo2
                  · rw [List.mem_singleton.mp hp]; exact hDfo
          · have hul2 : (us₀ ++ [Value.int x tx]).length = (q₀ ++ [x]).length := hI.length
            rw [hul2, List.take_length] at hZ
            have hse : (seqOf ks ls cs base co (pairsAt ks ks.length).2 (q₀ ++ [x])).level = lv := by rw [hlv2, ← hf0]; rfl
            have hss : (seqOf ks ls cs base co (pairsAt ks ks.length).2 (q₀ ++ [x])).sos = dirOf lv (befL ls base ((q₀ ++ [x]).getD (Int.toNat 0) 0).toNat) := by rw [hlv2, ← hf0]; rfl
            have hee : (seqOf ks ls cs base co (pairsAt ks ks.length).2 (q₀ ++ [x])).eos = if isInit (kAt ks x) && ((pairsAt ks ks.length).2.lookup x).isNone then dirOf lv base else dirOf lv (aftL ls base x.toNat) := by
              rw [hlv2, ← hf0]
              unfold seqOf
              dsimp only
              rw [hxl]
            refine SeqIs.of hSeq (fun p hp => ?_) hse hss ?_ (List.mem_append_right _ (List.mem_append_right _ (mj _ hmem))) hI (.tail _ (.tail _ (.tail _ (.head _)))) hZ (.tail _ (.tail _ (.head _))) hY
            · rcases List.mem_cons.mp hp with rfl | hp
              · exact .head _
              · rcases List.mem_cons.mp hp with rfl | hp
                · exact .tail _ (.head _)
                · rw [List.mem_singleton.mp hp]; exact .tail _ (.tail _ (.head _))
            · exact hee
          · intro p hp; exact List.mem_append_left _ hp
          · intro p hp; exact .tail _ (.tail _ (.tail _ (.tail _ (.tail _ (.tail _ (.tail _ (.tail _ (.tail _ (.tail _ (mlf p hp))))))))))
          · intro p hp; exact .tail _ (.tail _ (.tail _ (.tail _ (.tail _ (.tail _ (.tail _ (.tail _ (.tail _ (.tail _ (mow p hp))))))))))
  · rintro m' nx h' tk ⟨xs, nf, led, rfl, hS, hff⟩ F N
    have hJl : (refsOf jes).length = (joinAt ks (pairsAt ks ks.length).2 (runsAt ls ls.length).1 (runsAt ls ls.length).1.length).length := by rw [refsOf_len, hJR.length]
    rw [hJl, List.take_length] at hS
    k_steps
    exact .intro (by assumption) (hR _ _ ⟨fo, nf, xs, led ++ fx, rfl, hS, Fresh.of N fun p hp => hp⟩)
theorem iso_spec {e₁ : Env} (T : Top p loose mean mg mb s.heap) (KX : (Mine.hd.heap_39 w.params).In s.heap)
    {ak al ac ao : Addr} {vs us ws zs : List Value} {n1 n2 n3 n4 : Nat} {ks : List Str} {ls : List (Option Int)} {cs : List Str} {base : Int} {tb : Tok} {cl : List Int}
    (hk : s.heap.get? ak = some (W.listOf vs.toArray n1)) (hs : StrsAre vs ks) (hl : s.heap.get? al = some (W.listOf us.toArray n2)) (hlo : OptsAre us ls) (hc : s.heap.get? ac = some (W.listOf ws.toArray n3)) (hcs : StrsAre ws cs)
    (ho : s.heap.get? ao = some (W.listOf zs.toArray n4)) (hz : IntsAre zs cl)
    (hlen : ls.length ≤ 64) (hlk : ks.length = ls.length) (hlc : cs.length = ls.length) (hlz : cl.length = ls.length) (hB : Str.ofString "B" ∉ ks)
    (hjoin : ∀ r ∈ (runsAt ls ls.length).1, ∀ c, isInit (kAt ks (r.getLastD 0)) = true → (pairsAt ks ks.length).2.lookup (r.getLastD 0) = some c →
      ∃ (n : Nat) (r' : List Int), (runOf (runsAt ls ls.length).1 (runsAt ls ls.length).1.length).lookup c = some (n : Int) ∧ (runsAt ls ls.length).1[n]? = some r' ∧ r.getLastD 0 < r'.getLastD 0)
    (hgood : ∀ r ∈ joinAt ks (pairsAt ks ks.length).2 (runsAt ls ls.length).1 (runsAt ls ls.length).1.length, r ≠ [] ∧ r.length ≤ 64 ∧ (∀ x ∈ r, 0 ≤ x ∧ x < ls.length) ∧ ∃ l, ls[(r.headD 0).toNat]? = some (some l)) :
    codeAny (model prog w) (callerA.deeper e₁) (.call (.ref 79) ⟨[.ref ak, .ref al, .ref ac, .int base tb, .ref ao], []⟩) (RetK s (IsoR ((joinAt ks (pairsAt ks ks.length).2 (runsAt ls ls.length).1 (runsAt ls ls.length).1.length).map (seqOf ks ls cs base (some cl) (pairsAt ks ks.length).2)) s.heap)) s :=
  iso_gen T KX (.inr rfl) (.inr ⟨ao, zs, n4, cl, rfl, rfl, ho, hz, hlz⟩) hk hs hl hlo hc hcs hlen hlk hlc hB hjoin hgood
theorem iso_spec0 {e₁ : Env} (T : Top p loose mean mg mb s.heap) (KX : (Mine.hd.heap_39 w.params).In s.heap)
    {ak al ac : Addr} {vs us ws : List Value} {n1 n2 n3 : Nat} {ks : List Str} {ls : List (Option Int)} {cs : List Str} {base : Int} {tb : Tok}
    (hk : s.heap.get? ak = some (W.listOf vs.toArray n1)) (hs : StrsAre vs ks) (hl : s.heap.get? al = some (W.listOf us.toArray n2)) (hlo : OptsAre us ls) (hc : s.heap.get? ac = some (W.listOf ws.toArray n3)) (hcs : StrsAre ws cs)
    (hlen : ls.length ≤ 64) (hlk : ks.length = ls.length) (hlc : cs.length = ls.length) (hB : Str.ofString "B" ∉ ks)
    (hjoin : ∀ r ∈ (runsAt ls ls.length).1, ∀ c, isInit (kAt ks (r.getLastD 0)) = true → (pairsAt ks ks.length).2.lookup (r.getLastD 0) = some c →
      ∃ (n : Nat) (r' : List Int), (runOf (runsAt ls ls.length).1 (runsAt ls ls.length).1.length).lookup c = some (n : Int) ∧ (runsAt ls ls.length).1[n]? = some r' ∧ r.getLastD 0 < r'.getLastD 0)
    (hgood : ∀ r ∈ joinAt ks (pairsAt ks ks.length).2 (runsAt ls ls.length).1 (runsAt ls ls.length).1.length, r ≠ [] ∧ r.length ≤ 64 ∧ (∀ x ∈ r, 0 ≤ x ∧ x < ls.length) ∧ ∃ l, ls[(r.headD 0).toNat]? = some (some l)) :
    codeAny (model prog w) (callerA.deeper e₁) (.call (.ref 79) ⟨[.ref ak, .ref al, .ref ac, .int base tb], []⟩) (RetK s (IsoR ((joinAt ks (pairsAt ks ks.length).2 (runsAt ls ls.length).1 (runsAt ls ls.length).1.length).map (seqOf ks ls cs base none (pairsAt ks ks.length).2)) s.heap)) s :=
  iso_gen T KX (.inl ⟨rfl, rfl⟩) (.inl ⟨rfl, rfl⟩) hk hs hl hlo hc hcs hlen hlk hlc hB hjoin hgood
end
/-! _law_parted -/
structure Part where
  op : List Int
  lv : List Int
  homes : List Int
  found : List (Option Int)
def upOf (l : Int) (k : Str) : Int := l + 1 + if l % 2 = (if k == Str.ofString "RLI" then 1 else 0) then 1 else 0
def partPop (x : Part) (k : Str) : Part := if (k == Str.ofString "PDI") = true ∧ 1 < x.op.length then { x with op := x.op.dropLast, lv := x.lv.dropLast } else x
def partStep (y : Part) (i : Nat) (k : Str) : Part :=
  let x := partPop y k
  let h := x.homes ++ [x.op.getLastD 0]
  let f := x.found ++ [if k == Str.ofString "BN" then none else some (x.lv.getLastD 0)]
  if (k == Str.ofString "LRI" || k == Str.ofString "RLI") = true then ⟨x.op ++ [(i : Int)], x.lv ++ [upOf (x.lv.getLastD 0) k], h, f⟩ else ⟨x.op, x.lv, h, f⟩
def partAt (ks : List Str) (base : Int) : Nat → Part
  | 0 => ⟨[-1], [base], [], []⟩
  | i + 1 => match ks[i]? with | some k => partStep (partAt ks base i) i k | none => partAt ks base i
theorem partAt_succ {ks : List Str} {base : Int} {i : Nat} {k : Str} (h : ks[i]? = some k) : partAt ks base (i + 1) = partStep (partAt ks base i) i k := by
  show (match ks[i]? with | some k => partStep (partAt ks base i) i k | none => partAt ks base i) = _
  rw [h]
theorem partPop_inv {x : Part} {k : Str} (h1 : x.op ≠ []) (h2 : x.lv.length = x.op.length) : (partPop x k).op ≠ [] ∧ (partPop x k).lv.length = (partPop x k).op.length ∧ (partPop x k).op.length ≤ x.op.length := by
  unfold partPop
  split
  · rename_i h
    refine ⟨fun e => ?_, by simp [h2], by simp⟩
    have := congrArg List.length e
    simp at this; (first | lia | omega)
  · exact ⟨h1, h2, Nat.le_refl _⟩
theorem partAt_inv (ks : List Str) (base : Int) : ∀ i, (partAt ks base i).op ≠ [] ∧ (partAt ks base i).lv.length = (partAt ks base i).op.length ∧ (partAt ks base i).op.length ≤ i + 1 ∧ (partAt ks base i).homes.length ≤ i ∧ (partAt ks base i).found.length ≤ i
  | 0 => ⟨by simp [partAt], rfl, Nat.le_refl _, Nat.le_refl _, Nat.le_refl _⟩
  | i + 1 => by
    obtain ⟨a, b, c, d, e⟩ := partAt_inv ks base i
    unfold partAt
    split
    · rename_i k _
      obtain ⟨f, g, h⟩ := partPop_inv (k := k) a b
      have j : (partPop (partAt ks base i) k).homes = (partAt ks base i).homes ∧ (partPop (partAt ks base i) k).found = (partAt ks base i).found := by unfold partPop; split <;> exact ⟨rfl, rfl⟩
      unfold partStep
      dsimp only
      split <;> simp only [List.length_append, List.length_cons, List.length_nil, j.1, j.2] <;> refine ⟨?_, ?_, ?_, ?_, ?_⟩ <;> first | (first | lia | omega) | exact f | simp
    · exact ⟨a, b, Nat.le_succ_of_le c, Nat.le_succ_of_le d, Nat.le_succ_of_le e⟩

theorem partStep_found (x : Part) (i : Nat) (k : Str) : (partStep x i k).found = (partPop x k).found ++ [if k == Str.ofString "BN" then none else some ((partPop x k).lv.getLastD 0)] := by
  unfold partStep; dsimp only; split <;> rfl
theorem partStep_homes (x : Part) (i : Nat) (k : Str) : (partStep x i k).homes = (partPop x k).homes ++ [(partPop x k).op.getLastD 0] := by
  unfold partStep; dsimp only; split <;> rfl
theorem partStep_op (x : Part) (i : Nat) (k : Str) : (partStep x i k).op = if (k == Str.ofString "LRI" || k == Str.ofString "RLI") = true then (partPop x k).op ++ [(i : Int)] else (partPop x k).op := by
  unfold partStep; dsimp only; split <;> rfl
theorem partStep_lv (x : Part) (i : Nat) (k : Str) : (partStep x i k).lv = if (k == Str.ofString "LRI" || k == Str.ofString "RLI") = true then (partPop x k).lv ++ [upOf ((partPop x k).lv.getLastD 0) k] else (partPop x k).lv := by
  unfold partStep; dsimp only; split <;> rfl
theorem getD_last (l : List Int) : l.getD (-1 + (l.length : Int)).toNat 0 = l.getLastD 0 := by
  by_cases h : l = []
  · subst h; rfl
  · have e : (-1 + (l.length : Int)).toNat = l.length - 1 := by (first | lia | omega)
    rw [e, List.getLastD_eq_getLast?, List.getLast?_eq_getElem?, List.getD_eq_getElem?_getD]
theorem up_eq (l : Int) (k : Str) : (l + 1 + if (l.fmod 2 == if (k == Str.ofString "RLI") = true then 1 else 0) = true then 1 else 0) = upOf l k := by
  unfold upOf
  rw [Int.fmod_eq_emod_of_nonneg _ (by decide)]
  simp only [beq_iff_eq]
theorem partPop_op (x : Part) (k : Str) : (partPop x k).op = if (k == Str.ofString "PDI") = true ∧ 1 < x.op.length then x.op.dropLast else x.op := by
  unfold partPop; split <;> rfl
theorem partPop_lv (x : Part) (k : Str) : (partPop x k).lv = if (k == Str.ofString "PDI") = true ∧ 1 < x.op.length then x.lv.dropLast else x.lv := by
  unfold partPop; split <;> rfl
theorem partPop_found (x : Part) (k : Str) : (partPop x k).found = x.found := by unfold partPop; split <;> rfl
theorem partPop_homes (x : Part) (k : Str) : (partPop x k).homes = x.homes := by unfold partPop; split <;> rfl
theorem optv_one {v : Value} {o : Option Int} (h : OptV v o) : OptsAre [v] [o] := by
  cases o with
  | none => cases h; exact .none .nil
  | some k => obtain ⟨t, rfl⟩ := h; exact .int k t .nil
theorem warm_F7 : (Mine.hd.heap_39 = Mine.hd.heap_39) ∧ (PySem.Challenge.rw_on0355_01.foot = 6) := by
  w_top off
  k_fill
  exact ⟨rfl, rfl⟩
theorem int_last {prog : Program} {w : World} {A : Around} {E : Value → Shared → Prop} {s : Shared} {l : Addr} {vs : List Value} {nn : Nat} {ns : List Int} {value slice : Expr} {u : Tok} {Q : Value → Shared → Prop} (hl : s.heap.get? l = some (W.listOf vs.toArray nn)) (hI : IntsAre vs ns) (hne : 0 < vs.length) (hz : vs.length ≤ 1000) (h : ∀ t, Q (.int (ns.getLastD 0) t) s)
    (hs : subscripted slice false (.ref l) (.int (-1) u) = operate [.ref l, .int (-1) u] (getItem (.ref l) (.int (-1) u)) := by with_unfolding_all rfl) : wpAny (model prog w) A (subscriptTail value slice (.ref l) (.int (-1) u)) Q E s := by
  have hn : ns ≠ [] := by rw [hI.length] at hne; exact List.length_pos_iff.mp hne
  obtain ⟨us₀, q₀, x, t, rfl, rfl, hI₀⟩ := ints_snoc hI hn
  have := h t
  rw [show (q₀ ++ [x]).getLastD 0 = x by simp] at this
  exact item_last hl (by simp at hz; (first | lia | omega)) this hs
local macro_rules | `(tactic| walk_at "subscriptTail") => `(tactic| (k_here; (with_reducible show wpAny _ _ (subscriptTail _ _ (Value.ref _) (Value.int (-1) _)) _ _ _); k_dflt (refine' int_last ?a ?b ?c ?d ?_; (case a => walk_at "MINE at"); (case b => k_asm); (case c | d => first | lia | (simp only [List.length_dropLast]; lia)); k_whole; intro t')))
inductive PopR (a b : Addr × Obj) (lo oo : Addr) (own : List (Addr × Obj)) (x : Part) (nx : List (Addr × Obj)) : Prop
  | mk (lv' ov' : List Value) (n3' n4' : Nat) (e : nx = a :: b :: (lo, W.listOf lv'.toArray n3') :: (oo, W.listOf ov'.toArray n4') :: own) (h1 : IntsAre lv' x.lv) (h2 : IntsAre ov' x.op)
inductive PartJ (fo ho lo oo : Addr) (ks : List Str) (base : Int) (i : Nat) (m : Str → Option Value) (nx : List (Addr × Obj)) : Prop
  | mk (fv hv lv ov : List Value) (n1 n2 n3 n4 : Nat) (x1 : nx = [(fo, W.listOf fv.toArray n1), (ho, W.listOf hv.toArray n2), (lo, W.listOf lv.toArray n3), (oo, W.listOf ov.toArray n4)]) (x2 : OptsAre fv (partAt ks base i).found) (x3 : IntsAre hv (partAt ks base i).homes)
    (x4 : IntsAre lv (partAt ks base i).lv) (x5 : IntsAre ov (partAt ks base i).op)
inductive PartR (ks : List Str) (base : Int) (g : Heap) (v : Value) (h' : Heap) : Prop
  | mk (tp ah al ao : Addr) (us ws zs : List Value) (n1 n2 n3 : Nat) (e : v = .ref tp) (x1 : IntsAre us (partAt ks base ks.length).homes) (x2 : OptsAre ws (partAt ks base ks.length).found) (x3 : IntsAre zs ((partAt ks base ks.length).op.drop 1))
    (x4 : Fresh g h' [(tp, { cls := .type "tuple", data := .seq #[.ref ah, .ref al, .ref ao] }), (ah, W.listOf us.toArray n1), (al, W.listOf ws.toArray n2), (ao, W.listOf zs.toArray n3)])
section
variable {prog : Program} {w : World} {A : Around} {s : Shared} {p : Program} {loose : List Str} {mean : ExcName → Option Value} {mg mb : Str → Option Value}
theorem parted_spec {e₁ : Env} (T : Top p loose mean mg mb s.heap) (KX : (Mine.hd.heap_39 w.params).In s.heap)
    {ak : Addr} {vs : List Value} {n1 : Nat} {ks : List Str} {base : Int} {tb : Tok}
    (hk : s.heap.get? ak = some (W.listOf vs.toArray n1)) (hs : StrsAre vs ks) (hlen : ks.length ≤ 64) :
    codeAny (model prog w) (callerA.deeper e₁) (.call (.ref 87) ⟨[.ref ak, .int base tb], []⟩) (RetK s (PartR ks base s.heap)) s := by
  refine hideR fun R hR => ?_
  refine' code_my (binds := [(Str.ofString "kinds", .ref ak), (Str.ofString "base", .int base tb)]) ?T ?X ?k6 ?k7 ?k8 ?k9 ?kB ?c5 ?c2 ?c3 ?c4 ?_
  walk_at "MINE enter"
  intro L' h₁ F N
  k_fold
  k_steps
  rename Fr _ _ _ _ => F
  rename News _ _ _ _ => N
  rename_i oo _ _ lo _ g1 ho _ g2 fo _ g3 dd _ g4 _ _ _ _ _
  refine for_enumS (nn := n1) (news := [(fo, W.listOf ([] : List Value).toArray 0), (ho, W.listOf ([] : List Value).toArray 0), (lo, W.listOf [Value.int base tb].toArray 0), (oo, W.listOf [Value.int (-1) _].toArray 0)]) [Str.ofString "at", Str.ofString "kind"] (PartJ fo ho lo oo ks base) rfl (.inl hk) rfl rfl F (fun p hp => N p (.tail _ hp))
    ⟨_, _, _, _, _, _, _, _, rfl, .nil, .nil, .cons _ _ .nil, .cons _ _ .nil⟩ ?_ ?_
  · rintro i v T t m₁ nx h tk own hv ⟨fv, hv', lv, ov, n1, n2, n3, n4, rfl, hf, hh, hl, ho'⟩ hoff F N hT
    obtain ⟨k, u, rfl, hki⟩ := hs.item _ _ hv
    replace hoff : OwnOff own [fo, ho, lo, oo] := hoff
    simp only [List.cons_append, List.nil_append] at N
    have hi : i < ks.length := (List.getElem?_eq_some_iff.mp hki).1
    obtain ⟨q1, q2, q3, q4, q5⟩ := partAt_inv ks base i
    have e1 := hf.length
    have e2 := hh.length
    have e3 := hl.length
    have e4 := ho'.length
    have e5 : 0 < ov.length := by rw [e4]; exact List.length_pos_iff.mpr q1
    have e6 : ov.dropLast.length = ov.length - 1 := List.length_dropLast
    have e7 : lv.dropLast.length = lv.length - 1 := List.length_dropLast
    obtain ⟨x, hx⟩ : ∃ x, partAt ks base i = x := ⟨_, rfl⟩
    rw [hx] at hf hh hl ho' q1 q2 q3 q4 q5 e1 e2 e3 e4
    refine hideI fun Q' hQ => ?_
    k_steps
    unfold Stop
    rename Fr _ _ _ _ => F
    rename News _ _ _ _ => N
    obtain ⟨r1, r2, r3⟩ := partPop_inv (x := x) (k := k) q1 q2
    have r4 := partPop_found x k
    have r5 := partPop_homes x k
    refine exec_join_n F (PopR (fo, W.listOf fv.toArray n1) (ho, W.listOf hv'.toArray n2) lo oo own (partPop x k)) ?_ ?_
    · k_steps
      all_goals (
        rename Fr _ _ _ _ => F
        rename News _ _ _ _ => N
        first
        | (have hpop : partPop x k = { x with op := x.op.dropLast, lv := x.lv.dropLast } := if_pos ⟨by assumption, by (first | lia | omega)⟩
           rw [hpop]
           exact ⟨rfl, _, _, _, rfl, ⟨_, _, _, _, rfl, by assumption, by assumption⟩, F, N⟩)
        | (have hpop : partPop x k = x := if_neg (by first | (rintro ⟨c1, c2⟩; (first | lia | omega)) | (rw [(by assumption : (k == Str.ofString "PDI") = false)]; rintro ⟨c1, c2⟩; cases c1))
           rw [hpop]
           exact ⟨rfl, _, _, _, rfl, ⟨_, _, _, _, rfl, hl, ho'⟩, F, N⟩))
    · rintro h tk nx ⟨lv', ov', n3', n4', rfl, hl2, ho2⟩ F N
      clear hl ho' e3 e4 e5 e6 e7
      generalize hy : partPop x k = y at hl2 ho2 r1 r2 r3 r4 r5
      have e3 := hl2.length
      have e4 := ho2.length
      have e5 : 0 < ov'.length := by rw [e4]; exact List.length_pos_iff.mpr r1
      k_steps
      unfold Stop
      rename Fr _ _ _ _ => F
      rename News _ _ _ _ => N
      refine eval_join_t (fun v => OptV v (if k == Str.ofString "BN" then none else some (y.lv.getLastD 0))) ?_ ?_
      · k_steps
        · rename (k == Str.ofString "BN") = true => hb
          exact ⟨_, rfl, by rw [hb]; rfl⟩
        · rename (k == Str.ofString "BN") = false => hb
          exact ⟨_, rfl, by rw [hb]; exact ⟨_, by rw [getD_last]⟩⟩
      · intro v tk hv9
        have hf9 := hf.append (optv_one hv9)
        clear hv9
        k_steps
        all_goals (
          rename News _ _ _ _ => N'
          simp only [List.push_toArray, getD_last, up_eq] at N'
          refine hQ _ _ (endG [(fo, W.listOf _ _), (ho, W.listOf _ _), (lo, W.listOf _ _), (oo, W.listOf _ _)] (by assumption) N' (all4 (by k_mem) (by k_mem) (by k_mem) (by k_mem)) (by walk_at "MINE own") hoff (by walk_at "MINE hm") ⟨_, _, _, _, _, _, _, _, rfl, ?_, ?_, ?_, ?_⟩)
          · rw [partAt_succ hki, hx, partStep_found, hy, r4]; exact hf9
          · rw [partAt_succ hki, hx, partStep_homes, hy, r5]; exact hh.append (.cons _ _ .nil)
          · rw [partAt_succ hki, hx, partStep_lv, hy]
            first
            | (rw [if_pos (by rw [(by assumption : (k == Str.ofString "LRI") = true)]; rfl)]; exact IntsAre.append (by assumption) (.cons _ _ .nil))
            | (rw [if_pos (by rw [(by assumption : (k == Str.ofString "RLI") = true)]; exact Bool.or_true _)]; exact IntsAre.append (by assumption) (.cons _ _ .nil))
            | (rw [if_neg (by rw [(by assumption : (k == Str.ofString "LRI") = false), (by assumption : (k == Str.ofString "RLI") = false)]; decide)]; assumption)
          · rw [partAt_succ hki, hx, partStep_op, hy]
            first
            | (rw [if_pos (by rw [(by assumption : (k == Str.ofString "LRI") = true)]; rfl)]; exact IntsAre.append (by assumption) (.cons _ _ .nil))
            | (rw [if_pos (by rw [(by assumption : (k == Str.ofString "RLI") = true)]; exact Bool.or_true _)]; exact IntsAre.append (by assumption) (.cons _ _ .nil))
            | (rw [if_neg (by rw [(by assumption : (k == Str.ofString "LRI") = false), (by assumption : (k == Str.ofString "RLI") = false)]; decide)]; assumption))
  · rintro m' nx h' tk ⟨fv, hv', lv, ov, n1, n2, n3, n4, rfl, hf, hh, hl, ho'⟩ F N
    rw [hs.length] at hf hh hl ho'
    obtain ⟨q1, q2, q3, q4, q5⟩ := partAt_inv ks base ks.length
    have e4 := ho'.length
    k_steps
    exact .intro (by assumption) (hR _ _ ⟨_, _, _, _, _, _, _, _, _, _, rfl, hh, hf, (by assumption), .of (by assumption) (all4 (.head _) (.tail _ (.tail _ (.tail _ (.head _)))) (.tail _ (.tail _ (.head _))) (.tail _ (.head _)))⟩)
end
/-! the stack, in plain words -/
structure Stk (o p : Nat → List Int) (lr pd : Nat → Bool) (n : Nat) : Prop where
  zero : o 0 = [-1]
  pop : ∀ i, i < n → p i = if pd i = true ∧ 1 < (o i).length then (o i).dropLast else o i
  step : ∀ i, i < n → o (i + 1) = if lr i = true then p i ++ [(i : Int)] else p i
  dis : ∀ i, lr i = true → pd i = false

theorem snoc_of {α : Type} {l : List α} (h : l ≠ []) : ∃ l0 a, l = l0 ++ [a] :=
  ⟨l.dropLast, l.getLast h, (List.dropLast_concat_getLast h).symm⟩
theorem lastD_snoc {α : Type} {l : List α} {a d : α} : (l ++ [a]).getLastD d = a := by simp
theorem lastD_mem {α : Type} {l : List α} {d : α} (h : l ≠ []) : l.getLastD d ∈ l := by
  obtain ⟨l0, a, rfl⟩ := snoc_of h
  rw [lastD_snoc]; simp
theorem le_last {l : List Int} (hp : l.Pairwise (· < ·)) {x : Int} (hx : x ∈ l) : x ≤ l.getLastD 0 := by
  obtain ⟨l0, a, rfl⟩ := snoc_of (List.ne_nil_of_mem hx)
  rw [lastD_snoc]
  rcases List.mem_append.mp hx with h | h
  · exact Int.le_of_lt ((List.pairwise_append.mp hp).2.2 x h a (.head _))
  · rw [List.mem_singleton.mp h]; exact Int.le_refl _
theorem notin_dropLast {l0 : List Int} {a : Int} (hp : (l0 ++ [a]).Pairwise (· < ·)) : a ∉ l0 := fun h => Int.lt_irrefl a ((List.pairwise_append.mp hp).2.2 a h a (.head _))

section
variable {o p : Nat → List Int} {lr pd : Nat → Bool} {n : Nat}
def Good (lr : Nat → Bool) (i : Nat) (l : List Int) : Prop := l.Pairwise (· < ·) ∧ (∃ r, l = -1 :: r ∧ ∀ x ∈ r, ∃ j : Nat, x = j ∧ j < i ∧ lr j = true)
theorem Good.drop {i : Nat} {l : List Int} (h : Good lr i l) (hl : 1 < l.length) : Good lr i l.dropLast := by
  obtain ⟨h1, r, rfl, h2⟩ := h
  refine ⟨h1.sublist (List.dropLast_sublist _), r.dropLast, ?_, fun x hx => h2 x (List.dropLast_subset _ hx)⟩
  cases r with
  | nil => simp at hl
  | cons a r => rfl
theorem Good.up {i : Nat} {l : List Int} (h : Good lr i l) : Good lr (i + 1) l := by
  obtain ⟨h1, r, rfl, h2⟩ := h
  exact ⟨h1, r, rfl, fun x hx => by obtain ⟨j, a, b, c⟩ := h2 x hx; exact ⟨j, a, by (first | lia | omega), c⟩⟩
theorem Good.lt {i : Nat} {l : List Int} (h : Good lr i l) : ∀ x ∈ l, x < (i : Int) := by
  obtain ⟨h1, r, rfl, h2⟩ := h
  intro x hx
  rcases List.mem_cons.mp hx with rfl | hx
  · (first | lia | omega)
  · obtain ⟨j, rfl, b, c⟩ := h2 x hx; (first | lia | omega)
theorem Good.ne {i : Nat} {l : List Int} (h : Good lr i l) : l ≠ [] := by
  obtain ⟨h1, r, rfl, h2⟩ := h
  simp
theorem Stk.good_pop (S : Stk o p lr pd n) {i : Nat} (hi : i < n) (h : Good lr i (o i)) : Good lr i (p i) := by
  rw [S.pop i hi]
  split
  · rename_i hc; exact h.drop hc.2
  · exact h
theorem Stk.good (S : Stk o p lr pd n) : ∀ i, i ≤ n → Good lr i (o i)
  | 0, _ => by rw [S.zero]; exact ⟨by simp, [], rfl, by simp⟩
  | i + 1, hi => by
    have g := S.good_pop (i := i) (by (first | lia | omega)) (S.good i (by (first | lia | omega)))
    rw [S.step i (by (first | lia | omega))]
    split
    · rename_i hl
      obtain ⟨h1, r, e, h2⟩ := g
      refine ⟨List.pairwise_append.mpr ⟨h1, by simp, fun x hx y hy => ?_⟩, r ++ [(i : Int)], by rw [e]; rfl, fun x hx => ?_⟩
      · rw [List.mem_singleton.mp hy]
        exact Good.lt ⟨h1, r, e, h2⟩ x hx
      · rcases List.mem_append.mp hx with hx | hx
        · obtain ⟨j, a, b, c⟩ := h2 x hx; exact ⟨j, a, by (first | lia | omega), c⟩
        · exact ⟨i, List.mem_singleton.mp hx, by (first | lia | omega), hl⟩
    · exact g.up
theorem Stk.goodp (S : Stk o p lr pd n) {i : Nat} (hi : i < n) : Good lr i (p i) := S.good_pop hi (S.good i (by (first | lia | omega)))
theorem Stk.psub (S : Stk o p lr pd n) {i : Nat} (hi : i < n) : ∀ x ∈ p i, x ∈ o i := by
  intro x hx
  rw [S.pop i hi] at hx
  split at hx
  · exact List.dropLast_subset _ hx
  · exact hx
theorem Stk.gone1 (S : Stk o p lr pd n) {x : Int} {i : Nat} (hi : i < n) (hx : x < i) (h : x ∉ p i) : x ∉ o (i + 1) := by
  rw [S.step i hi]
  split
  · intro hm
    rcases List.mem_append.mp hm with hm | hm
    · exact h hm
    · rw [List.mem_singleton.mp hm] at hx; (first | lia | omega)
  · exact h
theorem Stk.gone (S : Stk o p lr pd n) {x : Int} {i : Nat} (hx : x < i) (h : x ∉ o i) : ∀ j, i ≤ j → j ≤ n → x ∉ o j
  | 0, h1, _ => by have : i = 0 := by (first | lia | omega)
                   subst this; exact h
  | j + 1, h1, h2 => by
    by_cases e : i = j + 1
    · subst e; exact h
    · exact S.gone1 (by (first | lia | omega)) (by (first | lia | omega)) fun hm => S.gone hx h j (by (first | lia | omega)) (by (first | lia | omega)) (S.psub (by (first | lia | omega)) x hm)
/-- what stands on the stack later stood there all the while -/
theorem Stk.stood (S : Stk o p lr pd n) {x : Int} {i j : Nat} (hx : x < i) (h1 : i ≤ j) (h2 : j ≤ n) (h : x ∈ o j) : x ∈ o i :=
  Decidable.byContradiction fun e => S.gone hx e j h1 h2 h
theorem Stk.stoodp (S : Stk o p lr pd n) {x : Int} {i j : Nat} (hx : x < i) (h1 : i < j) (h2 : j ≤ n) (h : x ∈ o j) : x ∈ p i :=
  Decidable.byContradiction fun e => S.gone1 (by (first | lia | omega)) hx e (S.stood (by (first | lia | omega)) (by (first | lia | omega)) h2 h)
def hmo (p : Nat → List Int) (i : Nat) : Int := (p i).getLastD 0
theorem Stk.hm_mem (S : Stk o p lr pd n) {i : Nat} (hi : i < n) : hmo p i ∈ p i := lastD_mem (S.goodp hi).ne
theorem Stk.hm_lt (S : Stk o p lr pd n) {i : Nat} (hi : i < n) : hmo p i < (i : Int) := (S.goodp hi).lt _ (S.hm_mem hi)
theorem Stk.hm_ge (S : Stk o p lr pd n) {i : Nat} (hi : i < n) {x : Int} (hx : x ∈ p i) : x ≤ hmo p i := le_last (S.goodp hi).1 hx
theorem Stk.lr_o (S : Stk o p lr pd n) {x : Nat} (hx : x < n) (hl : lr x = true) : o (x + 1) = p x ++ [(x : Int)] := by rw [S.step x hx, if_pos hl]
theorem Stk.lr_p (S : Stk o p lr pd n) {x : Nat} (hx : x < n) (hl : lr x = true) : p x = o x := by
  rw [S.pop x hx, if_neg (by rw [S.dis x hl]; simp)]
/-- the stack below a sign that stands on it -/
theorem Stk.under (S : Stk o p lr pd n) {x : Nat} (hl : lr x = true) : ∀ j, x < j → j ≤ n → (x : Int) ∈ o j → ∃ r, o j = p x ++ (x : Int) :: r
  | 0, h1, _, _ => by (first | lia | omega)
  | j + 1, h1, h2, hm => by
    by_cases e : x = j
    · subst e
      exact ⟨[], S.lr_o (by (first | lia | omega)) hl⟩
    · have hj : j < n := by (first | lia | omega)
      have hp : (x : Int) ∈ p j := S.stoodp (i := j) (by (first | lia | omega)) (by (first | lia | omega)) h2 hm
      obtain ⟨r, hr⟩ := S.under hl j (by (first | lia | omega)) (by (first | lia | omega)) (S.psub hj _ hp)
      have key : ∃ r', p j = p x ++ (x : Int) :: r' := by
        have g := (S.good j (by (first | lia | omega))).1
        have e := S.pop j hj
        split at e
        · by_cases hr0 : r = []
          · subst hr0
            rw [hr] at e g
            rw [List.dropLast_concat] at e
            rw [e] at hp
            exact absurd hp (notin_dropLast g)
          · obtain ⟨r0, a, rfl⟩ := snoc_of hr0
            refine ⟨r0, ?_⟩
            rw [e, hr, show p x ++ (x : Int) :: (r0 ++ [a]) = (p x ++ (x : Int) :: r0) ++ [a] by simp, List.dropLast_concat]
        · exact ⟨r, by rw [e, hr]⟩
      obtain ⟨r', hr'⟩ := key
      rw [S.step j hj]
      split
      · exact ⟨r' ++ [(j : Int)], by rw [hr']; simp⟩
      · exact ⟨r', hr'⟩
/-- a pop takes its sign away -/
theorem Stk.popped (S : Stk o p lr pd n) {i : Nat} (hi : i < n) (h : pd i = true ∧ 1 < (o i).length) :
    ∃ x : Nat, x < i ∧ lr x = true ∧ o i = p x ++ [(x : Int)] ∧ p i = p x ∧ hmo p i = hmo p x ∧ (x : Int) ∉ p i := by
  obtain ⟨g1, r, e, g2⟩ := S.good i (by (first | lia | omega))
  have hr : r ≠ [] := by intro q; rw [e, q] at h; simp at h
  obtain ⟨r0, a, rfl⟩ := snoc_of hr
  obtain ⟨x, rfl, hx, hl⟩ := g2 a (by simp)
  obtain ⟨r', hr'⟩ := S.under hl i hx (by (first | lia | omega)) (by rw [e]; simp)
  have hr0 : r' = [] := by
    by_cases q : r' = []
    · exact q
    · obtain ⟨r1, b, rfl⟩ := snoc_of q
      have : (-1 :: r0) ++ [(x : Int)] = (p x ++ (x : Int) :: r1) ++ [b] := by rw [show (-1 :: r0) ++ [(x : Int)] = -1 :: (r0 ++ [(x : Int)]) from rfl, ← e, hr']; simp
      have hb := (List.append_inj' this rfl)
      have hb2 : (x : Int) = b := by simpa using hb.2
      rw [hr', ← hb2, show p x ++ (x : Int) :: (r1 ++ [(x : Int)]) = (p x ++ (x : Int) :: r1) ++ [(x : Int)] by simp] at g1
      exact absurd (by simp) (notin_dropLast g1)
  subst hr0
  have ep : p i = p x := by rw [S.pop i hi, if_pos h, hr', List.dropLast_concat]
  refine ⟨x, hx, hl, hr', ep, by unfold hmo; rw [ep], ?_⟩
  rw [ep]
  rw [hr'] at g1
  exact notin_dropLast g1
/-- over places that do nothing the stack stands -/
theorem Stk.still (S : Stk o p lr pd n) {t : Nat} : ∀ y, t ≤ y → y ≤ n → (∀ w, t ≤ w → w < y → lr w = false ∧ pd w = false) → o y = o t
  | 0, h1, _, _ => by have : t = 0 := by (first | lia | omega)
                      subst this; rfl
  | y + 1, h1, h2, hb => by
    by_cases e : t = y + 1
    · subst e; rfl
    · obtain ⟨b1, b2⟩ := hb y (by (first | lia | omega)) (by (first | lia | omega))
      rw [S.step y (by (first | lia | omega)), if_neg (by rw [b1]; simp), S.pop y (by (first | lia | omega)), if_neg (by rw [b2]; simp)]
      exact S.still y (by (first | lia | omega)) (by (first | lia | omega)) fun w a b => hb w a (by (first | lia | omega))
/-- the next place that is not taken out stands in the same home, if any does -/
theorem Stk.nxt (S : Stk o p lr pd n) {t y z : Nat} {nn : Nat → Bool} (hnn : ∀ w, nn w = false → lr w = false ∧ pd w = false) (h1 : t ≤ y) (h2 : y < n) (hb : ∀ w, t ≤ w → w < y → nn w = false)
    (hz1 : t ≤ z) (hz2 : z < n) (hz : nn z = true) (hh : hmo p z = (o t).getLastD 0) : hmo p y = (o t).getLastD 0 := by
  have eo := S.still y h1 (by (first | lia | omega)) fun w a b => hnn w (hb w a b)
  have hyz : y ≤ z := by
    by_cases q : z < y
    · rw [hb z hz1 q] at hz; cases hz
    · (first | lia | omega)
  by_cases c : pd y = true ∧ 1 < (o y).length
  · obtain ⟨x, hx, hl, e1, e2, e3, e4⟩ := S.popped h2 c
    rw [← eo, e1, lastD_snoc] at hh ⊢
    have : hmo p z ≠ x := by
      intro q
      have hm := S.hm_mem hz2
      rw [q] at hm
      by_cases e : y = z
      · subst e; exact e4 hm
      · exact S.gone (x := (x : Int)) (i := y + 1) (by (first | lia | omega)) (S.gone1 h2 (by (first | lia | omega)) e4) z (by (first | lia | omega)) (by (first | lia | omega)) (S.psub hz2 _ hm)
    exact absurd hh this
  · unfold hmo
    rw [S.pop y h2, if_neg c, eo]
end
/-! _law_due -/
def isLR (k : Str) : Bool := k == Str.ofString "LRI" || k == Str.ofString "RLI"
def initsTo (ks : List Str) (i : Nat) : List Int := ((List.range i).filter fun j : Nat => isLR (kAt ks (j : Int))).map fun j : Nat => (j : Int)
def homesOf (ks : List Str) : List Int := -1 :: initsTo ks ks.length
def placesTo (hs : List Int) (ls : List (Option Int)) (h : Int) (i : Nat) : List Int := ((List.range i).filter fun j : Nat => hs.getD j 0 == h && (ls.getD j none).isSome).map fun j : Nat => (j : Int)
def dueOf (ks : List Str) (ls : List (Option Int)) (base : Int) (ends : List Int) (r : List Int) : SeqD where
  places := r
  classes := r.map (kAt ks)
  level := lvAt ls (r.headD 0)
  sos := dirOf (lvAt ls (r.headD 0)) (befL ls base (r.headD 0).toNat)
  eos := dirOf (lvAt ls (r.headD 0)) (if (r.getLastD 0) ∈ ends then base else aftL ls base (r.getLastD 0).toNat)
  codes := []
def datOf (d : SeqD) : Dat := .tuple [.list (d.places.map .int), .list (d.classes.map .str), .int d.level, .str d.sos, .str d.eos]
def runsTo (ks : List Str) (hs : List Int) (ls : List (Option Int)) (i : Nat) : List (List Int) := (((homesOf ks).take i).map fun h => placesTo hs ls h ks.length).filter fun r => !r.isEmpty

theorem initsTo_y {ks : List Str} {i : Nat} {k : Str} (h : ks[i]? = some k) (hk : isLR k = true) : initsTo ks (i + 1) = initsTo ks i ++ [(i : Int)] := by
  have e : kAt ks (i : Int) = k := by unfold kAt; rw [Int.toNat_natCast, List.getD_eq_getElem?_getD, h]; rfl
  unfold initsTo
  rw [List.range_succ, List.filter_append, List.map_append]
  simp [e, hk]
theorem initsTo_n {ks : List Str} {i : Nat} {k : Str} (h : ks[i]? = some k) (hk : isLR k = false) : initsTo ks (i + 1) = initsTo ks i := by
  have e : kAt ks (i : Int) = k := by unfold kAt; rw [Int.toNat_natCast, List.getD_eq_getElem?_getD, h]; rfl
  unfold initsTo
  rw [List.range_succ, List.filter_append, List.map_append]
  simp [e, hk]
theorem placesTo_y {hs : List Int} {ls : List (Option Int)} {h : Int} {i : Nat} (hk : hs.getD i 0 = h) (hl : (ls.getD i none).isSome = true) : placesTo hs ls h (i + 1) = placesTo hs ls h i ++ [(i : Int)] := by
  unfold placesTo
  rw [List.range_succ, List.filter_append, List.map_append]
  simp only [List.filter_cons, List.filter_nil, hk, hl, beq_self_eq_true, Bool.and_self, if_true]
  rfl
theorem placesTo_n {hs : List Int} {ls : List (Option Int)} {h : Int} {i : Nat} (hk : hs.getD i 0 ≠ h ∨ (ls.getD i none).isSome = false) : placesTo hs ls h (i + 1) = placesTo hs ls h i := by
  have e : (hs.getD i 0 == h && (ls.getD i none).isSome) = false := by
    rcases hk with hk | hk
    · rw [beq_eq_false_iff_ne.mpr hk]; rfl
    · rw [hk]; exact Bool.and_false _
  unfold placesTo
  rw [List.range_succ, List.filter_append, List.map_append]
  simp only [List.filter_cons, List.filter_nil, e, Bool.false_eq_true, if_false, List.map_nil, List.append_nil]
theorem placesTo_len (hs : List Int) (ls : List (Option Int)) (h : Int) (i : Nat) : (placesTo hs ls h i).length ≤ i := by
  unfold placesTo
  rw [List.length_map]
  exact Nat.le_trans (List.length_filter_le _ _) (by rw [List.length_range]; exact Nat.le_refl _)
theorem placesTo_mem {hs : List Int} {ls : List (Option Int)} {h : Int} {i : Nat} {x : Int} (hx : x ∈ placesTo hs ls h i) : 0 ≤ x ∧ x < i ∧ hs.getD x.toNat 0 = h ∧ ∃ l, ls[x.toNat]? = some (some l) := by
  unfold placesTo at hx
  obtain ⟨j, hj, rfl⟩ := List.mem_map.mp hx
  obtain ⟨h1, h2⟩ := List.mem_filter.mp hj
  rw [Bool.and_eq_true] at h2
  refine ⟨by (first | lia | omega), by have := List.mem_range.mp h1; (first | lia | omega), by rw [Int.toNat_natCast]; exact eq_of_beq h2.1, ?_⟩
  rw [Int.toNat_natCast]
  have h3 := h2.2
  rw [List.getD_eq_getElem?_getD] at h3
  cases e : ls[j]? with
  | none => rw [e] at h3; cases h3
  | some o =>
    rw [e] at h3
    cases o with
    | none => cases h3
    | some l => exact ⟨l, rfl⟩

theorem runsTo_n {ks : List Str} {hs : List Int} {ls : List (Option Int)} {i : Nat} {x : Int} (hx : (homesOf ks)[i]? = some x) (h : placesTo hs ls x ks.length = []) : runsTo ks hs ls (i + 1) = runsTo ks hs ls i := by
  have e : (homesOf ks)[i]?.toList = [x] := by rw [hx]; rfl
  unfold runsTo
  rw [List.take_add_one, e, List.map_append, List.filter_append]
  simp [h]
theorem runsTo_y {ks : List Str} {hs : List Int} {ls : List (Option Int)} {i : Nat} {x : Int} (hx : (homesOf ks)[i]? = some x) (h : placesTo hs ls x ks.length ≠ []) : runsTo ks hs ls (i + 1) = runsTo ks hs ls i ++ [placesTo hs ls x ks.length] := by
  have e : (homesOf ks)[i]?.toList = [x] := by rw [hx]; rfl
  unfold runsTo
  rw [List.take_add_one, e, List.map_append, List.filter_append]
  simp [h]
def somesL (ls : List (Option Int)) : List Int := ls.filterMap id
theorem somes_snoc {ls : List (Option Int)} {i : Nat} {o : Option Int} (h : ls[i]? = some o) : somesL (ls.take (i + 1)) = somesL (ls.take i) ++ (match o with | none => [] | some v => [v]) := by
  unfold somesL
  have e : ls[i]?.toList = [o] := by rw [h]; rfl
  rw [List.take_add_one, List.filterMap_append, e]
  cases o <;> rfl
theorem OptsAre.take : ∀ {vs ls}, OptsAre vs ls → ∀ n, OptsAre (vs.take n) (ls.take n) := by
  intro _ _ h
  induction h with
  | nil => intro n; cases n <;> exact .nil
  | none _ ih => intro n; cases n with | zero => exact .nil | succ n => exact .none (ih n)
  | int k t _ ih => intro n; cases n with | zero => exact .nil | succ n => exact .int k t (ih n)
theorem OptsAre.drop : ∀ {vs ls}, OptsAre vs ls → ∀ n, OptsAre (vs.drop n) (ls.drop n) := by
  intro _ _ h
  induction h with
  | nil => intro n; cases n <;> exact .nil
  | none h ih => intro n; cases n with | zero => exact .none h | succ n => exact ih n
  | int k t h ih => intro n; cases n with | zero => exact .int k t h | succ n => exact ih n
theorem befL_eq (ls : List (Option Int)) (base : Int) (n : Nat) : (base :: somesL (ls.take n)).getLastD 0 = befL ls base n := by
  unfold befL somesL
  generalize ls.take n = q
  suffices h : ∀ (b : Int), (b :: q.filterMap id).getLastD 0 = (q.reverse.findSome? id).getD b from h base
  induction q with
  | nil => intro b; rfl
  | cons o q ih =>
    intro b
    cases o with
    | none =>
      rw [List.reverse_cons, List.findSome?_append]
      show (b :: q.filterMap id).getLastD 0 = _
      rw [ih b]
      cases q.reverse.findSome? id <;> rfl
    | some v =>
      rw [List.reverse_cons, List.findSome?_append]
      show (v :: q.filterMap id).getLastD 0 = _
      rw [ih v]
      cases q.reverse.findSome? id <;> rfl
theorem aftL_eq (ls : List (Option Int)) (base : Int) (n : Nat) : (somesL (ls.drop (n + 1)) ++ [base]).headD 0 = aftL ls base n := by
  unfold aftL somesL
  generalize ls.drop (n + 1) = q
  induction q with
  | nil => rfl
  | cons o q ih =>
    cases o with
    | none => exact ih
    | some v => rfl
/-! sorted, where all stands in order -/
section
open AutoSeq1 (wpAny_loadPart')
theorem lt_loop0 (l b : Addr) (items items2 : Array Value) (n n2 : Nat) (dd dd2 : Option Addr) (sl sl2 : Array (Option Value)) (x y : Int) (t u : Tok) (h1 : items[0]? = some (.int x t)) (h2 : items2[0]? = some (.int y u)) (hne : (x == y) = false) :
    Meets (Builtin.«list.__eq__.loop» ⟨[.ref l, .ref b, rawInt 0, rawInt 0], []⟩)
      (fun _ R s => s.heap.get? l = some { cls := .type "list", dict := dd, data := .seq items n, slots := sl } ∧ s.heap.get? b = some { cls := .type "list", dict := dd2, data := .seq items2 n2, slots := sl2 } ∧
        R (.ok (.ret (.bool (decide (x < y))))) s) := by
  intro prog w A R s h
  obtain ⟨hp, g, d, tk, os⟩ := s; obtain ⟨hl, hb, h⟩ := h
  wp_walk using wpAny_loadPart' hl, wpAny_loadPart' hb
  have hi1 : items[(0 : Int).toNat]? = some (.int x t) := h1
  have hi2 : items2[(0 : Int).toNat]? = some (.int y u) := h2
  rw [hi1, hi2]
  refine wpAny_bind (wpAny_eqBool_int ?_)
  rw [hne]
  wp_walk using wpAny_loadPart' hl, wpAny_loadPart' hb
  rw [hi1, hi2]
  refine wpAny_bind (show wpAny (model prog w) A.in1 (compareOp .Lt (.int x t) (.int y u)) _ _ _ from PyProof.Rows.lt_int ?_)
  exact wpAny_pure h
theorem list_lt0 (l b : Addr) (items items2 : Array Value) (n n2 : Nat) (dd dd2 : Option Addr) (sl sl2 : Array (Option Value)) (x y : Int) (t u : Tok) (h1 : items[0]? = some (.int x t)) (h2 : items2[0]? = some (.int y u)) (hne : (x == y) = false) :
    Meets (Builtin.«list.__lt__» ⟨[.ref l, .ref b], []⟩)
      (fun _ R s => s.heap.get? l = some { cls := .type "list", dict := dd, data := .seq items n, slots := sl } ∧ s.heap.get? b = some { cls := .type "list", dict := dd2, data := .seq items2 n2, slots := sl2 } ∧
        R (.ok (.ret (.bool (decide (x < y))))) s) := by
  intro prog w A R s h
  obtain ⟨hp, g, d, tk, os⟩ := s; obtain ⟨hl, hb, h⟩ := h
  have f3 := AutoSeq1.sub_list_list
  wp_walk using wpAny_loadPart' hl, wpAny_loadPart' hb
  exact ⟨plainId_quiet MeetsSeq3.plain_eq_loop _, codeAny_builtin MeetsSeq3.entry_eq_loop (by
    rw [Around.under_plainId MeetsSeq3.plain_eq_loop _]
    exact lt_loop0 l b items items2 n n2 dd dd2 sl sl2 x y t u h1 h2 hne prog w A R _ ⟨hl, hb, h⟩)⟩
end
section
variable {prog : Program} {w : World} {A : Around} {E : Value → Shared → Prop} {s : Shared}
theorem oneLt_lists {a b : Addr} {us vs : List Value} {n1 n2 : Nat} {x y : Int} {t u : Tok} {Q : Bool → Shared → Prop} (ha : s.heap.get? a = some (W.listOf us.toArray n1)) (hb : s.heap.get? b = some (W.listOf vs.toArray n2))
    (h1 : us[0]? = some (.int x t)) (h2 : vs[0]? = some (.int y u)) (hne : (x == y) = false) (hu : A.units < cLine) (h : Q (decide (x < y)) s) : wpAny (model prog w) A (oneLt' true (.ref a) (.ref b)) Q E s := by
  rw [oneLt'_eq]
  simp only [if_true]
  have hT : s.TypeIs (.ref a) "list" := ⟨_, ha, rfl⟩
  refine wpAny_bind (wpAny_cRoomFor hu ?_)
  refine wpAny_bind (wpAny_callSpecialIfBound?_slot (name := "__lt__") hT F.slot_list_lt (call_meets F.slot_list_lt hT F.entry_list_lt (F.args_list_lt_2 _ _) (list_lt0 a b us.toArray vs.toArray n1 n2 none none #[] #[] x y t u (by simpa using h1) (by simpa using h2) hne) ⟨ha, hb, ?_⟩))
  exact wpAny_truthy_bool h
theorem eqBool_lists {a b : Addr} {us vs : List Value} {n1 n2 : Nat} {q r : List Int} {Q : Bool → Shared → Prop} (ha : s.heap.get? a = some (W.listOf us.toArray n1)) (hb : s.heap.get? b = some (W.listOf vs.toArray n2))
    (hq : IntsAre us q) (hr : IntsAre vs r) (hne : q ≠ r) (hab : a ≠ b) (hu : A.units + 64 < cLine) (h : Q false s) : wpAny (model prog w) A (eqBool (.ref a) (.ref b)) Q E s :=
  SeqAt.EqAt.of_refs (k := false) hab (fun prog w E Q hQ => ke_eq_ints (A := A) ⟨_, ha, rfl, n1, rfl⟩ ⟨_, hb, rfl, n2, rfl⟩ hq hr hu (by rw [decide_eq_false hne]; exact hQ)) prog w E Q h
end

/-- no question answered yes: nothing moves -/
theorem kas_asc_no {n : Nat} {cmp : Nat → Nat → (Bool → Shared → Prop) → Shared → Prop} {Q : Nat → Shared → Prop} {s : Shared} (hno : ∀ i, i + 1 < n → ∀ C, C false s → cmp (i + 1) i C s) :
    ∀ f k, 1 ≤ k → k + f = n → Q n s → (kas_asc (List.toArray (List.range n)) f k).kasWp cmp Q s
  | 0, k, _, h, hq => by have : k = n := by (first | lia | omega)
                         subst this; exact hq
  | f + 1, k, h1, h2, hq => by
    have e1 : (List.toArray (List.range n)).getD k 0 = (k - 1) + 1 := by
      have hk : k < n := by (first | lia | omega)
      simp [Array.getD, hk]; (first | lia | omega)
    have e2 : (List.toArray (List.range n)).getD (k - 1) 0 = k - 1 := by
      have hk : k - 1 < n := by (first | lia | omega)
      simp [Array.getD, hk]
    show cmp ((List.toArray (List.range n)).getD k 0) ((List.toArray (List.range n)).getD (k - 1) 0) (fun c s' => (if c = true then KasT.ret k else kas_asc (List.toArray (List.range n)) f (k + 1)).kasWp cmp Q s') s
    rw [e1, e2]
    refine hno (k - 1) (by (first | lia | omega)) _ ?_
    rw [if_neg (by simp)]
    exact kas_asc_no hno f (k + 1) (by (first | lia | omega)) (by (first | lia | omega)) hq
theorem kas_sort_no {n : Nat} {cmp : Nat → Nat → (Bool → Shared → Prop) → Shared → Prop} {Q : Array Nat → Shared → Prop} {s : Shared} (h1 : 1 ≤ n) (hno : ∀ i, i + 1 < n → ∀ C, C false s → cmp (i + 1) i C s) (hq : Q (List.toArray (List.range n)) s) : (kas_sort n).kasWp cmp Q s := by
  unfold kas_sort kas_count
  rw [KasT.kasWp_bind, KasT.kasWp_bind]
  refine kas_asc_no hno (n - 1) 1 (Nat.le_refl _) (by (first | lia | omega)) ?_
  rw [if_pos (by simp)]
  show KasT.kasWp _ (if n < n then _ else _) _ _
  rw [if_neg (by (first | lia | omega))]
  exact hq

theorem ints_inj : ∀ {vs : List Value} {a b : List Int}, IntsAre vs a → IntsAre vs b → a = b := by
  intro _ _ b h
  induction h generalizing b with
  | nil => intro k; cases k; rfl
  | cons _ _ _ ih => intro k; cases k with | cons _ _ k => rw [ih k]
/-- tuples whose first items are lists of ints -/
inductive TupAt (h : Heap) (v : Value) (r : List Int) : Prop
  | mk (a pa : Addr) (us rest : List Value) (n k : Nat) (e : v = .ref a) (b : h.get? a = some { cls := .type "tuple", data := .seq (Value.ref pa :: rest).toArray k }) (c : h.get? pa = some (W.listOf us.toArray n)) (d : IntsAre us r)
inductive TupsAt (h : Heap) : List Value → List (List Int) → Prop
  | nil : TupsAt h [] []
  | cons {v r vs rs} : TupAt h v r → TupsAt h vs rs → TupsAt h (v :: vs) (r :: rs)
theorem TupsAt.get {h : Heap} : ∀ {vs rs}, TupsAt h vs rs → ∀ (i : Nat) (v : Value), vs[i]? = some v → ∃ r, rs[i]? = some r ∧ TupAt h v r := by
  intro _ _ x
  induction x with
  | nil => intro i v e; cases e
  | @cons v' r vs rs a _ ih =>
    intro i v e
    cases i with
    | zero => cases e; exact ⟨r, rfl, a⟩
    | succ j => exact ih j v e
theorem TupsAt.length {h : Heap} : ∀ {vs rs}, TupsAt h vs rs → vs.length = rs.length := by
  intro _ _ x
  induction x with
  | nil => rfl
  | cons _ _ ih => exact congrArg (· + 1) ih
theorem TupsAt.kat {h : Heap} : ∀ {vs rs}, TupsAt h vs rs → ∃ fs, KatTups h vs fs ∧ fs.length = vs.length ∧ ∀ v ∈ fs, ∃ a us n, v = .ref a ∧ h.get? a = some (W.listOf us n) := by
  intro _ _ x
  induction x with
  | nil => exact ⟨[], trivial, rfl, fun _ h => nomatch h⟩
  | cons y _ ih =>
    obtain ⟨a, pa, us, rest, n, k1, e, b, c, d⟩ := y
    obtain ⟨fs, h1, h2, h3⟩ := ih
    subst e
    refine ⟨.ref pa :: fs, KatTups.cons b rfl rfl (by simp) h1, by simp [h2], fun v hv => ?_⟩
    rcases List.mem_cons.mp hv with rfl | hv
    · exact ⟨pa, us.toArray, n, rfl, c⟩
    · exact h3 v hv

section
variable {prog : Program} {w : World} {A : Around} {E : Value → Shared → Prop} {s : Shared} {h₀ : Heap} {L : Addr} {m : Str → Option Value} {news : List (Addr × Obj)}
theorem key_lt {v v' : Value} {r r' : List Int} {Q : Bool → Shared → Prop} (h1 : TupAt s.heap v r) (h2 : TupAt s.heap v' r') (hlt : r'.headD 0 < r.headD 0) (hr : r ≠ []) (hr' : r' ≠ []) (hu : A.units + 64 < cLine) (h : Q false s) :
    wpAny (model prog w) A (keyLt' (tuples' true) v v') Q E s := by
  obtain ⟨a, pa, us, rest, n, k1, rfl, ha, hpa, hI⟩ := h1
  obtain ⟨b, pb, vs, rest', n', k2, rfl, hb, hpb, hJ⟩ := h2
  have hne : r ≠ r' := fun e => by rw [e] at hlt; exact Int.lt_irrefl _ hlt
  have hab : pa ≠ pb := fun e => by
    rw [e, hpb] at hpa
    have : us = vs := by
      have := Option.some.inj hpa
      unfold W.listOf at this
      injection this with _ _ h3
      injection h3 with h4
      exact (congrArg Array.toList h4).symm
    subst this
    exact hne (ints_inj hI hJ)
  refine kat_lt ha rfl hb rfl (kat_cons (eqBool_lists hpa hpb hI hJ hne hab hu (kat_no ?_)))
  obtain ⟨x, q, rfl⟩ : ∃ x q, r = x :: q := by cases r with | nil => exact absurd rfl hr | cons x q => exact ⟨x, q, rfl⟩
  obtain ⟨y, q', rfl⟩ : ∃ x q, r' = x :: q := by cases r' with | nil => exact absurd rfl hr' | cons x q => exact ⟨x, q, rfl⟩
  have hlt' : y < x := hlt
  obtain ⟨t, g1⟩ := hI.get 0 x rfl
  obtain ⟨u, g2⟩ := hJ.get 0 y rfl
  refine oneLt_lists hpa hpb g1 g2 (by simp; (first | lia | omega)) (by (first | lia | omega)) ?_
  rw [decide_eq_false (by (first | lia | omega))]
  exact h

theorem sorted_two {l : Addr} {vs : List Value} {nn : Nat} {rs : List (List Int)} {Q : Value → Shared → Prop} (F : Fr h₀ L s.heap m) (N : News h₀ L s.heap news) (hl : s.heap.get? l = some (W.listOf vs.toArray nn)) (hT : ∀ h', News h₀ L h' news → TupsAt h' vs rs)
    (hne : ∀ r ∈ rs, r ≠ []) (hasc : rs.Pairwise fun a b => a.headD 0 < b.headD 0) (h2 : 2 ≤ vs.length) (h64 : vs.length < 64) (hu : A.units + 100 < cLine)
    (h : ∀ D h' k, Fr h₀ L h' m → News h₀ L h' ((D, W.listOf vs.toArray k) :: news) → (∀ q ∈ news, q.1 < D) → Q (.ref D) { s with heap := h' }) : wpAny (model prog w) A (call (.builtin "sorted") [.ref l]) Q E s := by
  refine kat_sorted F N ⟨_, hl, rfl, nn, rfl⟩ h2 h64 fun D e1 h' F' N' hlt => ?_
  have T := hT h' fun p hp => N' p (.tail _ hp)
  have hvl := T.length
  obtain ⟨fs, t1, t2, t3⟩ := T.kat
  refine kat_kind (s := { s with heap := h' }) (T := .type "list") t1 (by (first | lia | omega)) (fun v hv => ?_) rfl ?_
  · obtain ⟨a, us, n, rfl, ha⟩ := t3 v hv
    exact (Looks.ld ha).andThen .now
  · refine kas_sort_no (by (first | lia | omega)) (fun i hi C hC => ?_) ?_
    · have hv1 : vs[i + 1]? = some (vs.getD (i + 1) .none) := by rw [List.getD_eq_getElem?_getD, List.getElem?_eq_getElem hi]; rfl
      have hv0 : vs[i]? = some (vs.getD i .none) := by rw [List.getD_eq_getElem?_getD, List.getElem?_eq_getElem (show i < vs.length by (first | lia | omega))]; rfl
      obtain ⟨r1, e1, g1⟩ := T.get _ _ hv1
      obtain ⟨r0, e0, g0⟩ := T.get _ _ hv0
      have hlt : r0.headD 0 < r1.headD 0 := by
        obtain ⟨a1, a2⟩ := List.getElem?_eq_some_iff.mp e1
        obtain ⟨b1, b2⟩ := List.getElem?_eq_some_iff.mp e0
        have := List.pairwise_iff_getElem.mp hasc i (i + 1) b1 a1 (by (first | lia | omega))
        rw [a2, b2] at this
        exact this
      exact key_lt g1 g0 hlt (hne _ (List.mem_of_getElem? e1)) (hne _ (List.mem_of_getElem? e0)) (by show A.units + 1 + 1 + 64 < cLine; (first | lia | omega)) hC
    · have hnD : ∀ p ∈ news, p.1 ≠ D := fun p hp => Nat.ne_of_lt (hlt p hp)
      refine KasFin.intro F' N' (.head hnD) fun h'' c F2 N2 => h D h'' c F2 ?_ hlt
      have e : ((List.toArray (List.range vs.length)).toList.map fun i => vs.getD i Value.none) = vs := by
        show (List.range vs.length).map (fun i => vs.getD i Value.none) = vs
        refine List.ext_getElem (by simp) fun i a b => ?_
        simp [b]
      rw [e] at N2
      exact N2

theorem ints_of_dat {led : List (Addr × Obj)} : ∀ {vs : List Value} {ns : List Int}, DatAll led vs (ns.map .int) → IntsAre vs ns
  | _, [], h => by cases h; exact .nil
  | _, k :: ns, h => by
    cases h with
    | cons h1 h2 =>
      cases h1 with
      | int _ t => exact .cons k t (ints_of_dat h2)
theorem sort_few {P : PySem.Fin → Shared → Prop} {a : Addr} {vs : List Value} {n : Nat} (F : Fr h₀ L s.heap m) (N : News h₀ L s.heap news) (ho : s.heap.get? a = some (seqObj "list" vs.toArray n)) (haL : a ≠ L) (ha0 : h₀.get? a = none) (hna : ∀ p ∈ news, p.1 ≠ a) (h2 : vs.length < 2)
    (h : ∀ h' c, Fr h₀ L h' m → News h₀ L h' ((a, W.listOf vs.toArray c) :: news) → P (.done (.ret .none)) { s with heap := h' }) :
    wpAny (model prog w) A (Builtin.«list.sort» ⟨[.ref a], []⟩) P E s := by
  have s1 := Heap.SameBut.update s.heap a (Obj.mapSeq fun _ => (#[] : Array Value))
  obtain ⟨e1, ho1⟩ : ∃ e1, (s.heap.update a (Obj.mapSeq fun _ => (#[] : Array Value))).get? a = some (seqObj "list" #[] e1) := ⟨_, get?_update_seq ho fun _ => #[]⟩
  generalize hH : s.heap.update a (Obj.mapSeq fun _ => (#[] : Array Value)) = H at s1 ho1
  have F1 := kas_fr F s1 haL ha0
  have N1 := kas_news N s1 hna
  rw [list_sort_plain]
  refine wpAny_bind (listItems_at ho rfl ?_)
  refine wpAny_bind (listUpdate_at ho rfl ?_ (by rw [List.size_toArray, sizeLine_eq]; (first | lia | omega)) (Nat.zero_le _))
  rw [hH]
  refine wpAny_bind (seqEpoch_at ho1 rfl ?_)
  refine wpAny_bind (wpAny_newTuple ?_ (by show vs.length ≤ _; rw [sizeLine_eq]; (first | lia | omega)))
  refine wpAny_bind (wpAny_newList ?_ (Nat.zero_le _))
  refine wpAny_holding ?_
  dsimp only
  have hn2 : vs.toArray.size < 2 := by rw [List.size_toArray]; (first | lia | omega)
  rw [if_pos hn2, if_pos hn2]
  refine wpAny_bind (wpAny_pure ?_)
  rw [StateT.run_pure]
  refine wpAny_bind (wpAny_pure ?_)
  dsimp only
  have F2 : Fr h₀ L ((H.push (seqObj "tuple" vs.toArray 0)).push (seqObj "list" #[] 0)) m := (F1.push _).push _
  have N2 : News h₀ L ((H.push (seqObj "tuple" vs.toArray 0)).push (seqObj "list" #[] 0)) news := N1.grown fun b x e => Heap.get?_push_of_some _ (Heap.get?_push_of_some _ e)
  have ho2 : ((H.push (seqObj "tuple" vs.toArray 0)).push (seqObj "list" #[] 0)).get? a = some (seqObj "list" #[] e1) := Heap.get?_push_of_some _ (Heap.get?_push_of_some _ ho1)
  generalize hG : (H.push (seqObj "tuple" vs.toArray 0)).push (seqObj "list" #[] 0) = G at F2 N2 ho2
  have hout : (arrOf (SortSt.mk' general' (vs.toArray.zip vs.toArray) #[] 7 none)).map (·.2) = vs.toArray := by
    show (vs.toArray.zip vs.toArray).map (·.2) = vs.toArray
    apply Array.toList_inj.mp
    rw [Array.toList_map, Array.toList_zip]
    show (vs.zip vs).map (·.2) = vs
    rw [List.map_snd_zip (Nat.le_refl _)]
  rw [hout]
  have s2 := Heap.SameBut.update G a (Obj.mapSeq fun _ => vs.toArray)
  obtain ⟨c2, hc2⟩ : ∃ c2, (G.update a (Obj.mapSeq fun _ => vs.toArray)).get? a = some (seqObj "list" vs.toArray c2) := ⟨_, get?_update_seq ho2 fun _ => vs.toArray⟩
  refine wpAny_bind (seqEpoch_at ho2 rfl ?_)
  refine wpAny_bind (listUpdate_at ho2 rfl ?_ (Nat.zero_le _) (by rw [List.size_toArray, sizeLine_eq]; (first | lia | omega)))
  show wpAny (model prog w) A _ P E { s with heap := G.update a (Obj.mapSeq fun _ => vs.toArray) }
  simp only [bne_self_eq_false, Bool.false_eq_true, if_false]
  refine wpAny_pure (h _ c2 (kas_fr F2 s2 haL ha0) fun p hp => ?_)
  rcases List.mem_cons.mp hp with rfl | hp
  · exact ⟨hc2, haL, ha0⟩
  · exact kas_news N2 s2 hna p hp
theorem sorted_few {l : Addr} {vs : List Value} {nn : Nat} {Q : Value → Shared → Prop} (F : Fr h₀ L s.heap m) (N : News h₀ L s.heap news) (hl : s.heap.get? l = some (W.listOf vs.toArray nn)) (h2 : vs.length < 2)
    (h : ∀ D h' k, Fr h₀ L h' m → News h₀ L h' ((D, W.listOf vs.toArray k) :: news) → (∀ q ∈ news, q.1 < D) → Q (.ref D) { s with heap := h' }) : wpAny (model prog w) A (call (.builtin "sorted") [.ref l]) Q E s := by
  refine Calls.call_function_entry kind_sorted plain_sorted entry_sorted (args_sorted1 _) ?_
  unfold Builtin.«sorted»
  refine wpAny_bind (m := checkCount "sorted" 1 1 _) (wpAny_pure ?_)
  refine wpAny_bind (collect_list ⟨_, hl, rfl, nn, rfl⟩ ?_ (by rw [sizeLine_eq]; (first | lia | omega)))
  refine wpAny_bind (wpAny_newList ?_ (by rw [sizeLine_eq]; (first | lia | omega)))
  generalize hH : (s.heap.push (seqObj "list" #[] 0)).update s.heap.objs.size (Obj.mapSeq (· ++ vs.toArray)) = H
  have hsz : H.objs.size = s.heap.objs.size + 1 := by rw [← hH, Heap.size_update, size_push']
  have keep : ∀ b o, s.heap.get? b = some o → (H.push (seqObj "list" vs.toArray 0)).get? b = some o := fun b o q => by
    have hlt : b < s.heap.objs.size := Heap.lt_size q
    refine Heap.get?_push_of_some _ ?_
    rw [← hH, Heap.get?_update_ne _ _ _ _ (Nat.ne_of_lt hlt)]
    exact Heap.get?_push_of_some _ q
  have hL : L < s.heap.objs.size := F.ns.lt
  show wpAny _ _ _ _ _ { s with heap := H.push (seqObj "list" vs.toArray 0) }
  have hoL : (H.push (seqObj "list" vs.toArray 0)).get? H.objs.size = some (seqObj "list" vs.toArray 0) := Heap.get?_push_size _ rfl
  rw [hsz] at hoL ⊢
  refine wpAny_bind (wpAny_holding (wpAny_call_entry slot_list_sort ⟨_, hoL, rfl⟩ entry_list_sort ?body (args_list_sort _)))
  case body =>
    refine sort_few (s := { s with heap := H.push (seqObj "list" vs.toArray 0) }) (F.keeps keep) (N.grown keep) hoL (Nat.ne_of_gt (Nat.lt_succ_of_lt hL)) (Heap.get?_none_of_le (Nat.le_trans F.above (Nat.le_succ_of_le (Nat.le_of_lt hL))))
      (fun p hp => Nat.ne_of_lt (Nat.lt_succ_of_lt (Heap.lt_size (N p hp).1))) h2 fun h' c F' N' => ?_
    exact ⟨_, rfl, wpAny_pure ⟨_, rfl, h _ h' c F' N' fun q hq => Nat.lt_succ_of_lt (Heap.lt_size (N q hq).1)⟩⟩
theorem dat_tup {led : List (Addr × Obj)} {h' : Heap} (hN : ∀ p ∈ led, h'.get? p.1 = some p.2) : ∀ {xs : List Value} {ds : List SeqD}, DatAll led xs (ds.map datOf) → TupsAt h' xs (ds.map (·.places))
  | _, [], h => by cases h; exact .nil
  | _, d :: ds, h => by
    cases h with
    | cons hd hr =>
      refine .cons ?_ (dat_tup hN hr)
      cases hd with
      | tuple hm ha =>
        cases ha with
        | cons h1 h2 =>
          cases h1 with
          | list hm2 ha2 =>
            rename_i n1 _ _ _ n2
            refine ⟨_, _, _, _, _, _, rfl, hN _ hm, hN _ hm2, ?_⟩
            exact ints_of_dat ha2
end
local macro_rules | `(tactic| walk_at "exec For Name BinOp cons nil") => `(tactic| (k_here; (rename Fr _ _ _ _ => lF'); with_unfolding_all (refine For_turns lF' ?_)))
local macro_rules | `(tactic| walk_at "exec Assign cons ListComp") => `(tactic| (k_here; k_dflt (refine' comp_assign ?f ?a ?b ?c ?d ?_ ?e; (case f => exact rfl); (case a => rfl); (case b => decide); (case c => rfl); (case d => decide); (case e => (intro _; rfl)))))
local macro_rules | `(tactic| walk_at "call type:enumerate") => `(tactic| ((with_reducible show wpAny _ _ (call (Value.type _) [Value.ref _]) (fun xv s₁ => wpAny _ _ (pyIter xv) (fun it s₂ => ∃ sb, CompAt _ _ _ _ _ _ _ _ _ _ sb it s₂) _ s₁) _ _); refine stop_of ?_))
local macro_rules | `(tactic| walk_at "call type:range") => `(tactic| ((with_reducible show wpAny _ _ (call (Value.type _) [Value.int _ _]) (fun xv s₁ => wpAny _ _ (pyIter xv) (fun it s₂ => ∃ sb, CompAt _ _ _ _ _ _ _ _ _ _ sb it s₂) _ s₁) _ _); refine stop_of ?_))
local macro_rules | `(tactic| walk_at "binaryOp Add ref ref") => `(tactic| (with_reducible refine stop_add ?_))
local macro_rules | `(tactic| walk_at "subscriptTail Name Slice ref ref") => `(tactic| (k_here; first
  | ((with_reducible show wpAny _ _ (subscriptTail _ (PySem.Expr.Slice none (some _) none _) (Value.ref _) (Value.ref _)) _ _ _); k_dflt (refine' slice_to ?F ?N ?l ?y ?z ?_ ?s ?t; (case F | N => k_asm); (case l => walk_at "MINE at"); (case y | z => lia); (case s => with_unfolding_all rfl); (case t => kmk_pure); k_whole); intro D' h' F' N' l1)
  | ((with_reducible show wpAny _ _ (subscriptTail _ (PySem.Expr.Slice (some _) none none _) (Value.ref _) (Value.ref _)) _ _ _); k_dflt (refine' slice_from ?F ?N ?l ?y ?z ?_ ?s ?t; (case F | N => k_asm); (case l => walk_at "MINE at"); (case y | z => lia); (case s => with_unfolding_all rfl); (case t => kmk_pure); k_whole); intro D' h' F' N' l1)))
local macro_rules | `(tactic| walk_at "compareOp NotEq ref ref") => `(tactic| (with_reducible refine stop_ne ?_))
local macro_rules | `(tactic| walk_at "compareOp In int ref") => `(tactic| (with_reducible refine stop_in ?_))
local macro_rules | `(tactic| walk_at "exec If") => `(tactic| (k_here; (fail_if_success (with_reducible refine in_join ?_)); with_reducible refine stop_if ?_))
local macro_rules | `(tactic| walk_at "call builtin:sorted") => `(tactic| (with_reducible refine stop_sorted ?_))
theorem warm_F8 : (Mine.hd.heap_39 = Mine.hd.heap_39) ∧ (PySem.Challenge.rw_on0355_01.foot = 6) := by
  w_top off
  k_fill
  exact ⟨rfl, rfl⟩
inductive DueJ (fo hc : Addr) (fx : List (Addr × Obj)) (ks : List Str) (hms : List Int) (ls : List (Option Int)) (base : Int) (ends : List Int) (i : Nat) (_ : Str → Option Value) (nx : List (Addr × Obj)) : Prop
  | mk (xs : List Value) (n : Nat) (oh : Obj) (v : Option Value) (led : List (Addr × Obj)) (x1 : nx = (fo, W.listOf xs.toArray n) :: (hc, oh) :: (led ++ fx)) (x2 : oh.data = .cell v) (x3 : DatAll led xs ((runsTo ks hms ls i).map fun r => datOf (dueOf ks ls base ends r)))
    (x4 : OwnOff led [fo, hc])
theorem ints_dat {led : List (Addr × Obj)} : ∀ {vs : List Value} {ns : List Int}, IntsAre vs ns → DatAll led vs (ns.map .int) := by
  intro _ _ h
  induction h with
  | nil => exact .nil
  | cons k t _ ih => exact .cons (.int k t) ih
theorem strs_dat {led : List (Addr × Obj)} : ∀ {vs : List Value} {ns : List Str}, StrsAre vs ns → DatAll led vs (ns.map .str) := by
  intro _ _ h
  induction h with
  | nil => exact .nil
  | cons k t _ ih => exact .cons (.str k t) ih
theorem due_end {h₀ : Heap} {L fo hc T Dk D : Addr} {i nf c1 c2 : Nat} {stored : List Str} {m₀ m' : Str → Option Value} {s₁ : Shared} {own led fx news' : List (Addr × Obj)} {h' : Heap} {tk' : Nat} {ks : List Str} {hms : List Int} {ls : List (Option Int)} {base x lv : Int} {ends r : List Int} {xs ys qs : List Value} {oh : Obj} {vh : Option Value} {sos eos : Str} {tl ts te : Tok}
    (hx : (homesOf ks)[i]? = some x) (hne : placesTo hms ls x ks.length ≠ []) (hr : r = placesTo hms ls x ks.length) (hS : DatAll led xs ((runsTo ks hms ls i).map fun r => datOf (dueOf ks ls base ends r))) (hff : OwnOff led [fo, hc]) (hoff : OwnOff own (fo :: hc :: (led ++ fx).map (·.1)))
    (hmo : ∀ q ∈ own, T ≠ q.1 ∧ Dk ≠ q.1 ∧ D ≠ q.1) (hmf : ∀ b ∈ [fo, hc], T ≠ b ∧ Dk ≠ b ∧ D ≠ b)
    (F' : Fr h₀ L h' m') (N' : News h₀ L h' news') (h1 : (fo, W.listOf (xs ++ [Value.ref T]).toArray nf) ∈ news') (h2 : (hc, oh) ∈ news') (hoh : oh.data = .cell vh)
    (h3 : (T, ({ cls := .type "tuple", data := .seq [Value.ref D, Value.ref Dk, Value.int lv tl, Value.str sos ts, Value.str eos te].toArray } : Obj)) ∈ news') (h4 : (Dk, W.listOf qs.toArray c1) ∈ news') (h5 : (D, W.listOf ys.toArray c2) ∈ news')
    (h6 : ∀ p ∈ led ++ fx, p ∈ news') (ho : ∀ p ∈ own, p ∈ news') (hY : IntsAre ys r) (hZ : StrsAre qs (r.map (kAt ks))) (e1 : lvAt ls (r.headD 0) = lv) (e2 : sos = dirOf lv (befL ls base (r.headD 0).toNat))
    (e3 : eos = dirOf lv (if (r.getLastD 0) ∈ ends then base else aftL ls base (r.getLastD 0).toNat))
    (hm : ∀ z, stored.contains z = false → m' z = m₀ z) : InvEndG h₀ L (JJ stored m₀ (DueJ fo hc fx ks hms ls base ends) (i + 1)) own s₁ { s₁ with heap := h', toks := tk' } := by
  refine endG ((fo, W.listOf (xs ++ [Value.ref T]).toArray nf) :: (hc, oh) :: (((T, ({ cls := .type "tuple", data := .seq [Value.ref D, Value.ref Dk, Value.int lv tl, Value.str sos ts, Value.str eos te].toArray } : Obj)) :: (Dk, W.listOf qs.toArray c1) :: (D, W.listOf ys.toArray c2) :: led) ++ fx)) F' N' ?_ ho ?_ hm
    ⟨xs ++ [Value.ref T], nf, oh, vh, _, rfl, hoh, ?_, ?_⟩
  · exact (fm (h1) (fm (h2) (fm (h3) (fm (h4) (fm (h5) (fun p hp => h6 p hp))))))
  · intro q hq b hb
    have hq3 := hmo q hq
    rcases List.mem_cons.mp hb with rfl | hb
    · exact hoff q hq _ (.head _)
    · rcases List.mem_cons.mp hb with rfl | hb
      · exact hoff q hq _ (.tail _ (.head _))
      · rcases List.mem_cons.mp hb with rfl | hb
        · exact Ne.symm hq3.1
        · rcases List.mem_cons.mp hb with rfl | hb
          · exact Ne.symm hq3.2.1
          · rcases List.mem_cons.mp hb with rfl | hb
            · exact Ne.symm hq3.2.2
            · exact hoff q hq _ (.tail _ (.tail _ hb))
  · rw [runsTo_y hx hne, List.map_append, ← hr]
    refine DatAll.append (hS.mono fun p hp => .tail _ (.tail _ (.tail _ hp))) (.one ?_)
    subst e1 e2 e3
    exact DatIn.tuple (.head _) (.cons (.list (.tail _ (.tail _ (.head _))) (ints_dat hY)) (.cons (.list (.tail _ (.head _)) (strs_dat hZ)) (.cons (.int _ _) (.cons (.str _ _) (.cons (.str _ _) .nil)))))
  · intro p hp b hb
    have hb3 := hmf b hb
    rcases List.mem_cons.mp hp with rfl | hp
    · exact hb3.1
    · rcases List.mem_cons.mp hp with rfl | hp
      · exact hb3.2.1
      · rcases List.mem_cons.mp hp with rfl | hp
        · exact hb3.2.2
        · exact hff p hp b hb
theorem any_isLR {k : Str} : ([Str.ofString "LRI", Str.ofString "RLI"].any fun x => x == k) = isLR k := by
  unfold isLR
  simp only [List.any_cons, List.any_nil, Bool.or_false, Bool.beq_comm (a := k)]

inductive DatR (ds : List Dat) (g : Heap) (v : Value) (h' : Heap) : Prop
  | mk (fo : Addr) (n : Nat) (xs : List Value) (led : List (Addr × Obj)) (e : v = .ref fo) (x1 : DatAll led xs ds) (x2 : Fresh g h' ((fo, W.listOf xs.toArray n) :: led))
section
variable {prog : Program} {w : World} {A : Around} {s : Shared} {p : Program} {loose : List Str} {mean : ExcName → Option Value} {mg mb : Str → Option Value}
theorem due_spec {e₁ : Env} (T : Top p loose mean mg mb s.heap) (KX : (Mine.hd.heap_39 w.params).In s.heap)
    {ak ah al ae : Addr} {vs hv us ev : List Value} {n1 n2 n3 n4 : Nat} {ks : List Str} {hms : List Int} {ls : List (Option Int)} {ends : List Int} {base : Int} {tb : Tok}
    (hk : s.heap.get? ak = some (W.listOf vs.toArray n1)) (hs : StrsAre vs ks) (hh : s.heap.get? ah = some (W.listOf hv.toArray n2)) (hhi : IntsAre hv hms)
    (hl : s.heap.get? al = some (W.listOf us.toArray n3)) (hlo : OptsAre us ls) (he : s.heap.get? ae = some (W.listOf ev.toArray n4)) (hei : IntsAre ev ends)
    (hlen : ls.length ≤ 16) (hlk : ks.length = ls.length) (hlh : hms.length = ls.length)
    (hasc : (runsTo ks hms ls (homesOf ks).length).Pairwise fun a b => a.headD 0 < b.headD 0) :
    codeAny (model prog w) (callerA.deeper e₁) (.call (.ref 99) ⟨[.ref ak, .int base tb, .ref ah, .ref al, .ref ae], []⟩) (RetK s (DatR ((runsTo ks hms ls (homesOf ks).length).map fun r => datOf (dueOf ks ls base ends r)) s.heap)) s := by
  refine hideR fun R hR => ?_
  refine' code_myC (binds := [(Str.ofString "kinds", .ref ak), (Str.ofString "base", .int base tb), (Str.ofString "homes", .ref ah), (Str.ofString "levels", .ref al), (Str.ofString "endless", .ref ae)]) ?T ?X ?k6 ?k7 ?k8 ?k9 ?kB ?c5 ?c2 ?c3 ?c4 ?_
  walk_at "MINE enterC"
  intro L' h₁ tk cells F N Y hup
  obtain ⟨o1, o2, o3, o4, rfl, d1, d2, d3, d4⟩ := CellsAre.four Y
  k_fold
  k_steps
  unfold Stop
  rename Fr _ _ _ _ => F
  rename News _ _ _ _ => N
  rename_i fo _ l0 _ lm _ l1
  have hvl := hs.length
  refine comp_enum (fun i ys made => made = [] ∧ IntsAre ys (initsTo ks i)) rfl rfl rfl rfl (F.keep _ _ hk) (by (first | lia | omega)) ⟨rfl, .nil⟩ ?_ ?_
  · rintro i t v ys made C D c h tk mc own hv ⟨rfl, hY⟩ hyl F N hoff hd
    obtain ⟨k, u, rfl, hki⟩ := hs.item _ _ hv
    k_steps
    all_goals (
      rename Fr _ _ _ _ => F2
      rename News _ _ _ _ => N2
      rename (List.any _ _ = _) => hb
      rw [any_isLR] at hb)
    · exact CompEnd.intro [] F2 N2 (.tail _ (.head _)) (fun _ h => nomatch h) (fun p hp => .tail _ (.tail _ hp)) (fun _ _ _ h => nomatch h) (fun _ h => nomatch h) ⟨rfl, by rw [initsTo_y hki hb]; exact hY.append (IntsAre.cons _ _ IntsAre.nil)⟩
    · exact CompEnd.intro [] F2 N2 (.tail _ (.head _)) (fun _ h => nomatch h) (fun p hp => .tail _ (.tail _ hp)) (fun _ _ _ h => nomatch h) (fun _ h => nomatch h) ⟨rfl, by rw [initsTo_n hki hb]; exact hY⟩
  · rintro ys made D C c h' tk5 mc ⟨rfl, hY⟩ F' N' hd
    refine ⟨mc, F'.ns, fun h'' hsb => ?_⟩
    obtain ⟨F, N, offD⟩ := comp_back F N F' N' hsb
    simp only [List.nil_append] at N
    k_steps
    unfold Stop
    have hYl := hY.length
    rw [hvl] at hY
    have hin : (initsTo ks ks.length).length ≤ ks.length := by
      unfold initsTo
      rw [List.length_map]
      exact Nat.le_trans (List.length_filter_le _ _) (by rw [List.length_range]; exact Nat.le_refl _)
    rw [hvl] at hYl
    refine add_my (nn := 0) (vs := [Value.int (-1) (tk + 1)]) F N (N.get (.tail _ (.head _))) (N.get (.head _)) (by simp only [List.length_cons, List.length_nil]; (first | lia | omega)) ?_
    intro D2 h2 F N l2
    have hH : IntsAre ([Value.int (-1) (tk + 1)] ++ ys) (homesOf ks) := .cons _ _ hY
    clear offD
    k_steps
    unfold Stop
    rename Fr _ _ _ _ => F
    rename News _ _ _ _ => N
    generalize hzs : [Value.int (-1) (tk + 1)] ++ ys = zs at N hH l2
    have hzl := hH.length
    obtain ⟨fx, hfx⟩ : ∃ fx, fx = [(D2, W.listOf zs.toArray 0), (L' + 1 + 1 + 1, o2), (L' + 1 + 1, o3), (L' + 1, o4)] := ⟨_, rfl⟩
    have m0 : (D2, W.listOf zs.toArray 0) ∈ fx := by rw [hfx]; exact .head _
    have m2 : (L' + 1 + 1 + 1, o2) ∈ fx := by rw [hfx]; exact .tail _ (.head _)
    have m3 : (L' + 1 + 1, o3) ∈ fx := by rw [hfx]; exact .tail _ (.tail _ (.head _))
    have m4 : (L' + 1, o4) ∈ fx := by rw [hfx]; exact .tail _ (.tail _ (.tail _ (.head _)))
    have hDf := l2 _ (.tail _ (.tail _ (.head _)))
    have hDh := l2 _ (.tail _ (.tail _ (.tail _ (.head _))))
    replace hDf : @LT.lt Nat _ fo D2 := hDf
    replace hDh : @LT.lt Nat _ (L' + 1 + 1 + 1 + 1) D2 := hDh
    have hfo : OwnOff fx [fo, L' + 1 + 1 + 1 + 1] := by
      intro p hp b hb
      rw [hfx] at hp
      have g1 : @LT.lt Nat _ (L' + 1 + 1 + 1 + 1) fo := l0.1
      revert p
      refine fm ?_ (fm ?_ (fm ?_ (fm1 ?_)))
      · revert b; exact fm (Nat.ne_of_gt hDf) (fm1 (Nat.ne_of_gt hDh))
      · revert b; exact fm (Nat.ne_of_lt l0.2.1) (fm1 (Nat.ne_of_lt (Nat.lt_succ_self _)))
      · revert b; exact fm (Nat.ne_of_lt l0.2.2.1) (fm1 (Nat.ne_of_lt (Nat.lt_succ_of_lt (Nat.lt_succ_self _))))
      · revert b; exact fm (Nat.ne_of_lt l0.2.2.2) (fm1 (Nat.ne_of_lt (Nat.lt_succ_of_lt (Nat.lt_succ_of_lt (Nat.lt_succ_self _)))))
    refine for_listS (nn := 0) [Str.ofString "places", Str.ofString "level", Str.ofString "ahead", Str.ofString "behind"] (DueJ fo (L' + 1 + 1 + 1 + 1) fx ks hms ls base ends) rfl
      (.inr fun i m nx hJ => by obtain ⟨_, _, _, _, _, rfl, _⟩ := hJ; exact .tail _ (.tail _ (List.mem_append_right _ m0))) rfl rfl F
      (N := fun p hp => N p (by
        rcases List.mem_cons.mp hp with rfl | hp
        · exact .tail _ (.tail _ (.tail _ (.head _)))
        · rcases List.mem_cons.mp hp with rfl | hp
          · exact .tail _ (.tail _ (.tail _ (.tail _ (.head _))))
          · rw [List.nil_append, hfx] at hp
            rcases List.mem_cons.mp hp with rfl | hp
            · exact .head _
            · exact .tail _ (.tail _ (.tail _ (.tail _ (.tail _ hp)))))) ⟨[], 0, o1, _, [], rfl, d1, .nil, fun p hp => nomatch hp⟩ ?_ ?_
    · rintro i v m₁ nx h tk own hv ⟨xs, nf, oh, vh, led, rfl, dh, hS, hff⟩ hoff F N
      obtain ⟨x, tx, rfl, hx⟩ := hH.at i v hv
      obtain ⟨tl, htl⟩ : ∃ tl, tl = (led ++ fx) ++ own := ⟨_, rfl⟩
      rw [List.cons_append, List.cons_append, ← htl] at N
      have hmx : ∀ p ∈ fx, p ∈ tl := fun p hp => by rw [htl]; exact List.mem_append_left _ (List.mem_append_right _ hp)
      replace hoff : OwnOff own (fo :: (L' + 1 + 1 + 1 + 1) :: (led ++ fx).map (·.1)) := hoff
      have hofft : OwnOff tl [fo, L' + 1 + 1 + 1 + 1] := by
        rw [htl]
        exact OwnOff.app (OwnOff.app hff hfo) fun p hp b hb => hoff p hp b (by
          rcases List.mem_cons.mp hb with rfl | hb
          · exact .head _
          · rw [List.mem_singleton.mp hb]; exact .tail _ (.head _))
      have hc2o : @Ne Nat (L' + 1 + 1 + 1) fo := hofft _ (hmx _ m2) fo (.head _)
      have hc3o : @Ne Nat (L' + 1 + 1) fo := hofft _ (hmx _ m3) fo (.head _)
      have hc4o : @Ne Nat (L' + 1) fo := hofft _ (hmx _ m4) fo (.head _)
      have hc1o : @Ne Nat (L' + 1 + 1 + 1 + 1) fo := Nat.ne_of_lt l0.1
      have hoc1 : @Ne Nat fo (L' + 1 + 1 + 1 + 1) := Nat.ne_of_gt l0.1
      have hc21 : @Ne Nat (L' + 1 + 1 + 1) (L' + 1 + 1 + 1 + 1) := Nat.ne_of_lt (Nat.lt_succ_self _)
      have hc31 : @Ne Nat (L' + 1 + 1) (L' + 1 + 1 + 1 + 1) := hofft _ (hmx _ m3) _ (.tail _ (.head _))
      have hc41 : @Ne Nat (L' + 1) (L' + 1 + 1 + 1 + 1) := hofft _ (hmx _ m4) _ (.tail _ (.head _))
      replace N : News s.heap L' h ((fo, W.listOf xs.toArray nf) :: (L' + 1 + 1 + 1 + 1, oh) :: (L' + 1 + 1 + 1, o2) :: (L' + 1 + 1, o3) :: (L' + 1, o4) :: tl) := (fm (N _ (.head _)) (fm (N _ (.tail _ (.head _))) (fm (N _ (.tail _ (.tail _ (hmx _ m2)))) (fm (N _ (.tail _ (.tail _ (hmx _ m3)))) (fm (N _ (.tail _ (.tail _ (hmx _ m4)))) (fun p hp => N _ (.tail _ (.tail _ hp))))))))
      refine hideI fun Q' hQ => ?_
      k_steps
      unfold Stop
      rename Fr _ _ _ _ => F
      rename News _ _ _ _ => N
      have gk := N.get (a := L' + 1) (by k_mem)
      have gh := N.get (a := L' + 1 + 1) (by k_mem)
      have gl := N.get (a := L' + 1 + 1 + 1) (by k_mem)
      have gc := N.get (a := L' + 1 + 1 + 1 + 1) (by k_mem)
      have gah := F.keep _ _ hh
      have gal := F.keep _ _ hl
      have hul := hlo.length
      have hhl := hhi.length
      refine comp_range (fun i ys made => made = [] ∧ IntsAre ys (placesTo hms ls x i)) rfl rfl rfl (by (first | lia | omega)) ⟨rfl, .nil⟩ ?_ ?_
      · rintro j t ys made C D c h tk mc own hj ⟨rfl, hY⟩ hyl F N hoff hd
        have hmj : hms[((j : Nat) : Int).toNat]? = some (hms.getD j 0) := by rw [Int.toNat_natCast]; exact int_getD (by (first | lia | omega))
        k_steps
        · rename hms.getD j 0 = x => e1
          rename ls[((j : Nat) : Int).toNat]? = some none => e2
          rw [Int.toNat_natCast] at e2
          exact CompEnd.intro [] F N (.head _) (fun _ h => nomatch h) (fun p hp => .tail _ hp) (fun _ _ _ h => nomatch h) (fun _ h => nomatch h) ⟨rfl, by rw [placesTo_n (.inr (by rw [List.getD_eq_getElem?_getD, e2]; rfl))]; exact hY⟩
        · rename hms.getD j 0 = x => e1
          rename ls[((j : Nat) : Int).toNat]? = some (some _) => e2
          rw [Int.toNat_natCast] at e2
          exact CompEnd.intro [] F N (.head _) (fun _ h => nomatch h) (fun p hp => .tail _ hp) (fun _ _ _ h => nomatch h) (fun _ h => nomatch h) ⟨rfl, by rw [placesTo_y e1 (by rw [List.getD_eq_getElem?_getD, e2]; rfl)]; exact hY.append (IntsAre.cons _ _ IntsAre.nil)⟩
        · rename hms.getD j 0 ≠ x => e1
          exact CompEnd.intro [] F N (.head _) (fun _ h => nomatch h) (fun p hp => .tail _ hp) (fun _ _ _ h => nomatch h) (fun _ h => nomatch h) ⟨rfl, by rw [placesTo_n (.inl e1)]; exact hY⟩
      · rintro ys made D C c h' tk mc ⟨rfl, hY⟩ F' N' hd
        refine' comp_asg (L := L') ?ca ?cb ?cc ?cd ?ce ?cf ?cg ?_
        case ca => exact rfl
        case cb => exact rfl
        case cc => exact rfl
        case cd => exact F
        case ce => exact N
        case cf => exact F'
        case cg => exact N'
        clear F N F' N' hd
        intro h2 h' tk F N offD
        simp only [List.nil_append] at N
        rw [hvl] at hY
        obtain ⟨r, hr⟩ : ∃ r, r = placesTo hms ls x ks.length := ⟨_, rfl⟩
        rw [← hr] at hY
        have hrl : r.length ≤ 16 := by rw [hr]; exact Nat.le_trans (placesTo_len _ _ _ _) (by (first | lia | omega))
        have hyl2 := hY.length
        k_steps
        unfold Stop
        rename Fr _ _ _ _ => F
        rename News _ _ _ _ => N
        refine ke_ne_ints (ns := r) (ms := []) ⟨_, N.get (a := D) (by k_mem), rfl, _, rfl⟩ ⟨_, N.get (.head _), rfl, _, rfl⟩ hY .nil (by ke_room) ?_
        by_cases hpe : r = []
        · rw [decide_eq_true hpe]
          k_steps
          rename News _ _ _ _ => N'
          refine hQ _ _ (endG ((fo, W.listOf xs.toArray nf) :: (L' + 1 + 1 + 1 + 1, _) :: (led ++ fx)) (by assumption) N' ?_ (fun p hp => .tail _ (.tail _ (.tail _ (.tail _ (.tail _ (.tail _ (.tail _ (by rw [htl]; exact List.mem_append_right _ hp)))))))) hoff (by walk_at "MINE hm")
            ⟨xs, nf, _, _, led, rfl, by assumption, ?_, hff⟩)
          · exact (fm (.tail _ (.tail _ (.head _))) (fm (.tail _ (.tail _ (.tail _ (.head _)))) (fun p hp => .tail _ (.tail _ (.tail _ (.tail _ (.tail _ (.tail _ (.tail _ (by rw [htl]; exact List.mem_append_left _ hp))))))))))
          · rw [runsTo_n hx (by rw [← hr]; exact hpe)]; exact hS
        · rw [decide_eq_false hpe]
          have hr0 : r[(0 : Int).toNat]? = some (r.headD 0) := by cases r with | nil => exact absurd rfl hpe | cons a q => rfl
          have hpl : 0 < ys.length := by rw [hyl2]; exact List.length_pos_iff.mpr hpe
          have hm0 : r.headD 0 ∈ placesTo hms ls x ks.length := by rw [← hr]; cases r with | nil => exact absurd rfl hpe | cons a q => exact .head _
          have hm1 : r.getLastD 0 ∈ placesTo hms ls x ks.length := by rw [← hr]; exact lastD_mem hpe
          obtain ⟨b1, b2, -, lv, hlv⟩ := placesTo_mem hm0
          obtain ⟨b3, b4, -, -⟩ := placesTo_mem hm1
          have hf0 : r.headD 0 = r.getD (Int.toNat 0) 0 := by cases r <;> rfl
          rw [hf0] at b1 b2 hlv
          have hq0 : 0 ≤ r.getD (-1 + (r.length : Int)).toNat 0 := by rw [getD_last]; exact b3
          obtain ⟨p0, hp0⟩ : ∃ p0, p0 = r.getD (Int.toNat 0) 0 := ⟨_, rfl⟩
          k_steps
          unfold Stop
          rename Fr _ _ _ _ => F
          rename News _ _ _ _ => N
          rename_i lb _ _ _ l4 _ Dt _ l3
          rw [← hp0] at b1 b2 hlv N
          refine comp_list (fun i ys made => made = [] ∧ IntsAre ys (somesL ((ls.take p0.toNat).take i))) rfl rfl rfl (N.get (a := Dt) (by k_mem)) (by rw [List.length_take]; (first | lia | omega)) ⟨rfl, .nil⟩ ?_ ?_
          · rintro i v ys made D C c h tk mc own hv ⟨rfl, hY⟩ hyl F N hoff hd
            rcases (hlo.take p0.toNat).item _ _ hv with ⟨rfl, hli⟩ | ⟨k, t, rfl, hli⟩
            · k_steps
              exact CompEnd.intro [] F N (.head _) (fun _ h => nomatch h) (fun p hp => .tail _ hp) (fun _ _ _ h => nomatch h) (fun _ h => nomatch h) ⟨rfl, by rw [somes_snoc hli]; exact (List.append_nil _).symm ▸ hY⟩
            · k_steps
              exact CompEnd.intro [] F N (.head _) (fun _ h => nomatch h) (fun p hp => .tail _ hp) (fun _ _ _ h => nomatch h) (fun _ h => nomatch h) ⟨rfl, by rw [somes_snoc hli]; exact hY.append (IntsAre.cons _ _ IntsAre.nil)⟩
          · rintro as made Da C c h' tk mc ⟨rfl, hA⟩ F' N' hd
            refine ⟨mc, F'.ns, fun h'' hsb => ?_⟩
            obtain ⟨F2, N2, offA⟩ := comp_back F N F' N' hsb
            clear F' N' hsb hd
            simp only [List.nil_append] at N2
            rw [List.length_take, List.take_of_length_le (by rw [List.length_take]; (first | lia | omega))] at hA
            k_steps
            unfold Stop
            rename Fr _ _ _ _ => F
            rename News _ _ _ _ => N
            have hAl := hA.length
            have hsl : (somesL (ls.take p0.toNat)).length ≤ 16 := by
              unfold somesL
              refine Nat.le_trans (List.length_filterMap_le _ _) ?_
              rw [List.length_take]; (first | lia | omega)
            refine add_my (nn := 0) (vs := [Value.int base tb]) F N (N.get (a := lb) (by k_mem)) (N.get (a := Da) (by k_mem)) (by simp only [List.length_cons, List.length_nil]; (first | lia | omega)) ?_
            intro Ds h9 F N l5
            obtain ⟨bs, hbs⟩ : ∃ bs, bs = [Value.int base tb] ++ as := ⟨_, rfl⟩
            have hB : IntsAre bs (base :: somesL (ls.take p0.toNat)) := by rw [hbs]; exact .cons _ _ hA
            rw [← hbs] at N
            have hbl := hB.length
            have hb1 : 0 < bs.length := by rw [hbl]; exact Nat.succ_pos _
            have hb2 : bs.length ≤ 17 := by rw [hbl, List.length_cons]; (first | lia | omega)
            clear l5 offA l3
            have hDfo : @Ne Nat D fo := offD _ (.head _) _ (.head _)
            have hDhc : @Ne Nat D (L' + 1 + 1 + 1 + 1) := offD _ (.head _) _ (.tail _ (.head _))
            have hDow : ∀ q ∈ own, D ≠ q.1 := fun q hq => offD _ (.head _) q (.tail _ (.tail _ (.tail _ (.tail _ (.tail _ (by rw [htl]; exact List.mem_append_right _ hq))))))
            clear gk gh gl gc gah gal offD
            k_steps
            unfold Stop
            rename Fr _ _ _ _ => F
            rename News _ _ _ _ => N
            rename_i Dd _ l6
            clear l6
            obtain ⟨q0, hq9⟩ : ∃ q0, q0 = r.getD (-1 + (r.length : Int)).toNat 0 := ⟨_, rfl⟩
            rw [← hq9] at N hq0
            refine comp_list (fun i ys made => made = [] ∧ IntsAre ys (somesL ((ls.drop (q0 + 1).toNat).take i))) rfl rfl rfl (N.get (a := Dd) (by k_mem)) (by rw [List.length_drop]; (first | lia | omega)) ⟨rfl, .nil⟩ ?_ ?_
            · rintro i v ys made C D c h tk mc own hv ⟨rfl, hY⟩ hyl F N hoff hd
              rcases (hlo.drop (q0 + 1).toNat).item _ _ hv with ⟨rfl, hli⟩ | ⟨k, t, rfl, hli⟩
              · k_steps
                exact CompEnd.intro [] F N (.head _) (fun _ h => nomatch h) (fun p hp => .tail _ hp) (fun _ _ _ h => nomatch h) (fun _ h => nomatch h) ⟨rfl, by rw [somes_snoc hli]; exact (List.append_nil _).symm ▸ hY⟩
              · k_steps
                exact CompEnd.intro [] F N (.head _) (fun _ h => nomatch h) (fun p hp => .tail _ hp) (fun _ _ _ h => nomatch h) (fun _ h => nomatch h) ⟨rfl, by rw [somes_snoc hli]; exact hY.append (IntsAre.cons _ _ IntsAre.nil)⟩
            · rintro gs made Dg C c2 h' tk mc ⟨rfl, hG⟩ F' N' hd
              refine ⟨mc, F'.ns, fun h'' hsb => ?_⟩
              obtain ⟨F2, N2, offA⟩ := comp_back F N F' N' hsb
              clear F' N' hsb hd offA
              simp only [List.nil_append] at N2
              rw [List.length_drop, List.take_of_length_le (by rw [List.length_drop]; (first | lia | omega))] at hG
              k_steps
              unfold Stop
              rename Fr _ _ _ _ => F
              rename News _ _ _ _ => N
              rename_i lg _ _
              have hGl := hG.length
              have hgl : (somesL (ls.drop (q0 + 1).toNat)).length ≤ 16 := by
                unfold somesL
                refine Nat.le_trans (List.length_filterMap_le _ _) ?_
                rw [List.length_drop]; (first | lia | omega)
              refine add_my (nn := c2) (ws := [Value.int base tb]) F N (N.get (a := Dg) (by k_mem)) (N.get (a := lg) (by k_mem)) (by simp only [List.length_cons, List.length_nil]; (first | lia | omega)) ?_
              intro Dw h9 F N l5
              obtain ⟨ws, hws⟩ : ∃ ws, ws = gs ++ [Value.int base tb] := ⟨_, rfl⟩
              have hW : IntsAre ws (somesL (ls.drop (q0 + 1).toNat) ++ [base]) := by rw [hws]; exact hG.append (.cons _ _ .nil)
              rw [← hws] at N
              have hwl := hW.length
              have hw1 : 0 < ws.length := by rw [hwl]; simp
              have hw2 : ws.length ≤ 17 := by rw [hwl, List.length_append, List.length_cons, List.length_nil]; (first | lia | omega)
              clear l5
              k_steps
              unfold Stop
              rename Fr _ _ _ _ => F
              rename News _ _ _ _ => N
              replace N := fun p hp => N p (.tail _ (.tail _ (.tail _ (.tail _ (.tail _ (.tail _ (.tail _ (.tail _ (.tail _ hp)))))))))
              have hq8 : q0 = r.getLastD 0 := by rw [hq9, getD_last]
              have hq7 : (q0 + 1).toNat = (r.getLastD 0).toNat + 1 := by rw [← hq8]; (first | lia | omega)
              refine exec_join_fr (x := Str.ofString "behind") F N (fun v => ∃ t, v = .int (if r.getLastD 0 ∈ ends then base else aftL ls base (r.getLastD 0).toNat) t) ?_ ?_
              · k_steps
                unfold Stop
                rename Fr _ _ _ _ => F
                rename News _ _ _ _ => N
                refine in_list_ints ⟨_, F.keep _ _ he, rfl, _, rfl⟩ hei ?_
                cases hb : ends.any fun x => x == r.getD (-1 + (r.length : Int)).toNat 0
                · have hno : r.getLastD 0 ∉ ends := fun hm => by
                    rw [getD_last] at hb
                    have := List.any_eq_false.mp hb _ hm
                    simp at this
                  k_steps
                  rename Fr _ _ _ _ => F
                  refine ⟨rfl, _, _, _, rfl, ?_, F, by assumption⟩
                  refine ⟨_, congrArg (fun z => Value.int z _) ?_⟩
                  rw [if_neg hno, ← aftL_eq, ← hq7]
                  cases (somesL (ls.drop (q0 + 1).toNat)) <;> rfl
                · have hyes : r.getLastD 0 ∈ ends := by
                    rw [getD_last] at hb
                    obtain ⟨y, hy, hy2⟩ := List.any_eq_true.mp hb
                    rw [← eq_of_beq hy2]; exact hy
                  k_steps
                  rename Fr _ _ _ _ => F
                  rw [shadow] at F
                  refine ⟨rfl, _, _, _, rfl, ⟨tb, ?_⟩, F, by assumption⟩
                  rw [if_pos hyes]
              · rintro h tk v ⟨t9, rfl⟩ F N
                k_steps
                unfold Stop
                rename Fr _ _ _ _ => F
                rename News _ _ _ _ => N
                have gk := N.get (a := L' + 1) (by k_mem)
                have gak := F.keep _ _ hk
                refine comp_list (fun i zs made => made = [] ∧ StrsAre zs ((r.take i).map (kAt ks))) rfl rfl rfl (N.get (a := D) (by k_mem)) (by (first | lia | omega)) ⟨rfl, .nil⟩ ?_ ?_
                · rintro i v ys made C D c h tk mc own hv ⟨rfl, hZ⟩ hyl F N hoff hd
                  obtain ⟨y, ty, rfl, hy⟩ := hY.at i v hv
                  have hym := placesTo_mem (hr ▸ List.mem_of_getElem? hy)
                  have hcl : ks[y.toNat]? = some (kAt ks y) := kAt_get (by (first | lia | omega))
                  have hy0 := hym.1
                  refine wpAny_pure ?_
                  simp only [if_true]
                  refine hideQ fun Q9 hQ9 => ?_
                  k_steps
                  exact hQ9 _ _ (CompEnd.intro [] F N (.head _) (fun _ h => nomatch h) (fun p hp => .tail _ hp) (fun _ _ _ h => nomatch h) (fun _ h => nomatch h) ⟨rfl, by rw [tm_succ _ hy]; exact hZ.append' (StrsAre.cons _ _ StrsAre.nil)⟩)
                · rintro qs made Dk C c3 h' tk mc ⟨rfl, hZ⟩ F' N' hd
                  refine ⟨mc, F'.ns, fun h'' hsb => ?_⟩
                  obtain ⟨F2, N2, offK⟩ := comp_back F N F' N' hsb
                  have hKfo : @Ne Nat Dk fo := offK _ (.head _) _ (.tail _ (.head _))
                  have hKhc : @Ne Nat Dk (L' + 1 + 1 + 1 + 1) := offK _ (.head _) _ (.tail _ (.tail _ (.head _)))
                  have hKow : ∀ q ∈ own, Dk ≠ q.1 := fun q hq => offK _ (.head _) q (.tail _ (.tail _ (.tail _ (.tail _ (.tail _ (.tail _ (by rw [htl]; exact List.mem_append_right _ hq)))))))
                  clear F' N' hsb hd offK gk gak
                  simp only [List.nil_append] at N2
                  rw [hyl2, List.take_length] at hZ
                  k_steps
                  unfold Stop
                  rename Fr _ _ _ _ => F
                  rename News _ _ _ _ => N
                  refine call_ret (way_spec (T.keeps F.keep) (KX.keeps F.keep)) F N ?_
                  rintro v h' tk ⟨ts1, rfl⟩ F N st fresh
                  clear fresh st
                  k_steps
                  unfold Stop
                  rename Fr _ _ _ _ => F
                  rename News _ _ _ _ => N
                  refine call_ret (way_spec (T.keeps F.keep) (KX.keeps F.keep)) F N ?_
                  rintro v h' tk ⟨ts2, rfl⟩ F N st fresh
                  clear fresh st
                  have hxl := hS.length
                  have hxl2 : xs.length ≤ 32 := by
                    rw [hxl, List.length_map]
                    unfold runsTo
                    refine Nat.le_trans (List.length_filter_le _ _) ?_
                    rw [List.length_map, List.length_take]
                    unfold homesOf
                    rw [List.length_cons]; (first | lia | omega)
                  k_steps
                  rename Fr _ _ _ _ => F'
                  rename News _ _ _ _ => N'
                  simp only [List.push_toArray] at N'
                  rename_i T' _ lT _
                  have t1 : @LT.lt Nat _ Dk T' := lT.1
                  have t2 : @LT.lt Nat _ D T' := lT.2.1
                  have t3 : @LT.lt Nat _ fo T' := lT.2.2.1
                  have t4 : @LT.lt Nat _ (L' + 1 + 1 + 1 + 1) T' := lT.2.2.2.1
                  have t5 := allLt_lt lT.2.2.2.2.2.2.2
                  have mow : ∀ p ∈ own, p ∈ tl := fun p hp => by rw [htl]; exact List.mem_append_right _ hp
                  have mlf : ∀ p ∈ led ++ fx, p ∈ tl := fun p hp => by rw [htl]; exact List.mem_append_left _ hp
                  refine hQ _ _ (due_end hx (by rw [← hr]; exact hpe) hr hS hff hoff ?_ ?_ F' N' (.tail _ (.tail _ (.tail _ (.head _)))) (.tail _ (.tail _ (.tail _ (.tail _ (.head _))))) (by assumption) (.head _) (.tail _ (.head _)) (.tail _ (.tail _ (.head _))) (fun p hp => .tail _ (.tail _ (.tail _ (.tail _ (.tail _ (.tail _ (.tail _ (.tail _ (mlf p hp))))))))) (fun p hp => .tail _ (.tail _ (.tail _ (.tail _ (.tail _ (.tail _ (.tail _ (.tail _ (mow p hp))))))))) hY hZ ?_ ?_ ?_ (by walk_at "MINE hm"))
                  · intro q hq
                    exact ⟨Nat.ne_of_gt (t5 q (mow q hq)), hKow q hq, hDow q hq⟩
                  · intro b hb
                    have hb' : b = fo ∨ b = L' + 1 + 1 + 1 + 1 := by simpa using hb
                    rcases hb' with rfl | rfl
                    · exact ⟨Nat.ne_of_gt t3, hKfo, hDfo⟩
                    · exact ⟨Nat.ne_of_gt t4, hKhc, hDhc⟩
                  · unfold lvAt
                    rw [hf0, ← hp0, List.getD_eq_getElem?_getD, hlv]; rfl
                  · rw [hf0, ← hp0, befL_eq]
                  · rfl
    · rintro m' nx h' tk ⟨xs, nf, oh, vh, led, rfl, dh, hS, hff⟩ F N
      rw [hzl] at hS
      k_steps
      unfold Stop
      rename Fr _ _ _ _ => F
      rename News _ _ _ _ => N
      have hxl := hS.length
      have hS2 : DatAll led xs (((runsTo ks hms ls (homesOf ks).length).map (dueOf ks ls base ends)).map datOf) := by rw [List.map_map]; exact hS
      have hpl : (((runsTo ks hms ls (homesOf ks).length).map (dueOf ks ls base ends)).map (·.places)) = runsTo ks hms ls (homesOf ks).length := by
        rw [List.map_map]
        exact List.map_id _
      have hlt : xs.length < 64 := by
        rw [hxl, List.length_map]
        unfold runsTo
        refine Nat.lt_of_le_of_lt (List.length_filter_le _ _) ?_
        rw [List.length_map, List.length_take]
        unfold homesOf
        rw [List.length_cons]; (first | lia | omega)
      by_cases h2 : xs.length < 2
      · refine sorted_few F N (N.get (.head _)) h2 ?_
        intro D h' k F N _
        exact .intro F (hR _ _ ⟨D, k, xs, led, rfl, hS, Fresh.of N fun p hp => by
          rcases List.mem_cons.mp hp with rfl | hp
          · exact .head _
          · exact .tail _ (.tail _ (.tail _ (List.mem_append_left _ hp)))⟩)
      · refine sorted_two F N (N.get (.head _)) (rs := runsTo ks hms ls (homesOf ks).length) (fun h' N' => hpl ▸ dat_tup (fun p hp => (N' p (.tail _ (.tail _ (List.mem_append_left _ hp)))).1) hS2) (fun r hr => ?_) hasc (by (first | lia | omega)) hlt (by rw [cLine_is]; simp only [units_deeper, units_caller]; decide) ?_
        · unfold runsTo at hr
          have := (List.mem_filter.mp hr).2
          intro e; rw [e] at this; cases this
        · intro D h' k F N _
          exact .intro F (hR _ _ ⟨D, k, xs, led, rfl, hS, Fresh.of N fun p hp => by
            rcases List.mem_cons.mp hp with rfl | hp
            · exact .head _
            · exact .tail _ (.tail _ (.tail _ (List.mem_append_left _ hp)))⟩)
end
theorem warm_F9 : (Mine.hd.heap_39 = Mine.hd.heap_39) ∧ (PySem.Challenge.rw_on0355_01.foot = 6) := by
  w_top off
  k_fill
  exact ⟨rfl, rfl⟩
/-! _law_told -/
section
variable {prog : Program} {w : World} {A : Around} {E : Value → Shared → Prop} {s : Shared} {h₀ : Heap} {L l x dx : Addr} {m : Str → Option Value} {news : List (Addr × Obj)} {vs : List Value} {nn : Nat} {Q : Value → Shared → Prop}
theorem own_attr {es : List DictEntry} {n : Nat} {name : Str} {v : Value} {expr : Bool} {attr : Option Value} (F : Fr h₀ L s.heap m) (X : (Mine.hd.heap_39 w.params).In h₀) (hx : s.heap.get? x = some (instObj 48 dx)) (hdx : s.heap.get? dx = some (dictOf es n))
    (hl : getL name es = some (some v)) (hv : handedIn v = true) (h : Q v { s with toks := s.toks + 1 })
    (hg : plainGet (Mine.hd.heap_39 w.params) 48 name = true) (hh : hasDictIn (Mine.hd.heap_39 w.params) 48 = true) (ha : findIn (Mine.hd.heap_39 w.params) (.ref 48) name = some attr) (hn : noGet (Mine.hd.heap_39 w.params) attr = true) :
    wpAny (model prog w) A (getAttr (.ref x) name expr) Q E s :=
  get_own F X ⟨hx, rfl, rfl, hdx⟩ hg hh ha hn hl hv h
theorem list_my (F : Fr h₀ L s.heap m) (N : News h₀ L s.heap news) (hl : s.heap.get? l = some (W.listOf vs.toArray nn)) (hz : vs.length ≤ 1000)
    (h : ∀ D c h', Fr h₀ L h' m → News h₀ L h' ((D, W.listOf vs.toArray c) :: news) → (∀ q ∈ news, q.1 < D) → Q (.ref D) { s with heap := h' }) : wpAny (model prog w) A (call (.type "list") [.ref l]) Q E s :=
  list_copyK F N ⟨_, hl, rfl, nn, rfl⟩ h (by rw [List.size_toArray, sizeLine_eq]; (first | lia | omega))
end
section
variable {M : Model} {A : Around} {E : Value → Shared → Prop} {s : Shared} {K : Frag} {h₀ : Heap} {C : Addr} {m mg mb : Str → Option Value} {scope : Scope} {cl : List (Str × Addr)} {env : Env} {p : Program} {loose : List Str}
  {x : Str} {pos : Pos} {v : Value} {Q : Value → Shared → Prop}
theorem nmC_K (F : Fr h₀ C s.heap m) (X : K.In h₀) (T : TopRead p loose mg mb h₀) (e : nsIn K mainGlobals x = some (some v)) (h : Q v s)
    (hk : (compEnvC scope cl C env).scope.kind = .function) (hx : (compEnvC scope cl C env).kindOf x = some .globalImplicit) (hgl : env.globals = mainGlobals) (hbl : env.builtins = builtinsNs) (hd : (x == ("__debug__" : Str)) = false := by decide) :
    wpAny M A (eval (.Name x pos) (compEnvC scope cl C env)) Q E s := by
  obtain ⟨sc, lc, gl, ce, qu, fu, co, fr, bu⟩ := env
  simp only at hgl hbl
  subst hgl hbl
  exact PySem.Calls.Name_function_global hk hx (PySem.Calls.loadGlobal_global (env := compEnvC scope cl C _) (T.g.keeps F.keep) (mg_of X T.g e) h) hd
end
local macro_rules | `(tactic| walk_at "getAttr ref") => `(tactic| (k_here; k_dflt (refine' own_attr ?F ?X ?x ?d ?l ?v ?_ ?g ?a ?b ?n; (case F | X => k_asm); (case x | d => walk_at "MINE at"); (case l => with_reducible assumption); (case v => rfl); (case g | a => k_is); (case b | n => k_is); k_whole)))
local macro_rules | `(tactic| walk_at "call type:list") => `(tactic| (k_here; (with_reducible show wpAny _ _ (call (Value.type "list") [Value.ref _]) _ _ _); k_dflt (refine' list_my ?F ?N ?l ?z ?_; (case F | N => k_asm); (case l => walk_at "MINE at"); (case z => lia); k_whole); intro D' c' h' F' N' l1))
local macro_rules | `(tactic| walk_at "eval Name") => `(tactic| (k_here; (with_reducible show wpAny _ _ (eval (Expr.Name _ _) (compEnvC _ _ _ _)) _ _ _); k_dflt (first
  | (refine' nmC_B ?F ?X ?T ?e ?v ?n ?_ ?a ?b ?c ?d; (case b | a => rfl); (case c | d => rfl); (case F | X | T => k_asm); (case e => k_is); (case v => boot_fast); (case n => decide); k_whole)
  | (refine' nmC_K ?F ?X ?T ?e ?_ ?a ?b ?c ?d; (case b | a => rfl); (case c | d => rfl); (case F | X | T => k_asm); (case e => k_is); k_whole))))
theorem seqs_get {led : List (Addr × Obj)} {vs : List Value} {ds : List SeqD} (h : SeqsAre led vs ds) : ∀ (i : Nat) (v : Value), vs[i]? = some v → ∃ d, ds[i]? = some d ∧ SeqIs led v d := by
  induction h with
  | nil => intro i v e; simp at e
  | @cons v d vs ds a r ih =>
    intro i v' e
    cases i with
    | zero => simp at e; subst e; exact ⟨d, rfl, a⟩
    | succ j => simp only [List.getElem?_cons_succ] at e ⊢; exact ih j v' e
section
variable {prog : Program} {w : World} {A : Around} {s : Shared} {p : Program} {loose : List Str} {mean : ExcName → Option Value} {mg mb : Str → Option Value}
theorem told_spec {e₁ : Env} (T : Top p loose mean mg mb s.heap) (KX : (Mine.hd.heap_39 w.params).In s.heap)
    {aq : Addr} {vs : List Value} {n1 : Nat} {ds : List SeqD} {led : List (Addr × Obj)} (hq : s.heap.get? aq = some (W.listOf vs.toArray n1)) (hS : SeqsAre led vs ds) (hled : ∀ p ∈ led, s.heap.get? p.1 = some p.2)
    (hlen : ds.length ≤ 64) (hpl : ∀ d ∈ ds, d.places.length ≤ 64 ∧ d.classes.length ≤ 64) :
    codeAny (model prog w) (callerA.deeper e₁) (.call (.ref 104) ⟨[.ref aq], []⟩) (RetK s (DatR (ds.map datOf) s.heap)) s := by
  refine' code_my (binds := [(Str.ofString "sequences", .ref aq)]) ?T ?X ?k6 ?k7 ?k8 ?k9 ?kB ?c5 ?c2 ?c3 ?c4 ?_
  walk_at "MINE enter"
  intro L' h₁ F N
  k_fold
  have hvl := hS.length
  k_steps
  unfold Stop
  rename Fr _ _ _ _ => F0
  rename News _ _ _ _ => N0
  have KXc := KX.keeps F0.keep
  have TC := T.keeps F0.keep
  have keep0 := F0.keep
  refine comp_list (fun i ys made => DatAll made ys ((ds.take i).map datOf)) rfl rfl rfl (F0.keep _ _ hq) (by (first | lia | omega)) .nil ?_ ?_
  · rintro i v ys made C D c h tk mc own hv hJ hyl F N hoff hd
    obtain ⟨d, hdi, pa, us, pn, ca, ws, cn, oa, zs, on, tl, ts, te, hin, m1, hu, m2, hw, m3, hz⟩ := seqs_get hS i v hv
    obtain ⟨x, dx, es, k, rfl, m4, m5, g1, g2, g3, g4, g5, g6⟩ := hin
    refine wpAny_pure ?_
    simp only [if_true]
    obtain ⟨b1, b2⟩ := hpl d (List.mem_of_getElem? hdi)
    have hul := hu.length
    have hwl := hw.length
    have f1 := keep0 _ _ (hled _ m1)
    have f2 := keep0 _ _ (hled _ m2)
    have f4 := keep0 _ _ (hled _ m4)
    have f5 := keep0 _ _ (hled _ m5)
    dsimp only at f1 f2 f4 f5
    clear F0 N0
    k_steps
    rename Fr _ _ _ _ => F2
    rename News _ _ _ _ => N2
    rename_i D2 c2 _ l2 _ D1 c1 _ l1 T' _ lT
    have e1 : @LT.lt Nat _ D1 T' := lT.1
    have e2 : @LT.lt Nat _ D2 T' := lT.2.1
    have e3 : @LT.lt Nat _ D T' := lT.2.2.1
    have e4 := allLt_lt lT.2.2.2
    have e5 : @LT.lt Nat _ D D1 := l1 _ (.tail _ (.head _))
    have e6 : @LT.lt Nat _ D D2 := l2 _ (.head _)
    refine CompEnd.intro (c := c) ((T', ({ cls := .type "tuple", data := .seq [Value.ref D2, Value.ref D1, Value.int d.level tl, Value.str d.sos ts, Value.str d.eos te].toArray } : Obj)) :: (D1, W.listOf ws.toArray c1) :: (D2, W.listOf us.toArray c2) :: made) F2 N2 (.tail _ (.tail _ (.tail _ (.head _)))) ?_ ?_ ?_ ?_ ?_
    · exact (fm (.head _) (fm (.tail _ (.head _)) (fm (.tail _ (.tail _ (.head _))) (fun p hp => .tail _ (.tail _ (.tail _ (.tail _ (List.mem_append_left _ hp))))))))
    · exact fun p hp => .tail _ (.tail _ (.tail _ (.tail _ (List.mem_append_right _ hp))))
    · intro q hq b hb
      rcases List.mem_cons.mp hb with rfl | hb
      · exact Nat.ne_of_lt (e4 q (List.mem_append_right _ hq))
      · rcases List.mem_cons.mp hb with rfl | hb
        · exact Nat.ne_of_lt (l1 q (.tail _ (.tail _ (List.mem_append_right _ hq))))
        · rcases List.mem_cons.mp hb with rfl | hb
          · exact Nat.ne_of_lt (l2 q (.tail _ (List.mem_append_right _ hq)))
          · exact hoff q hq b (.tail _ hb)
    · exact (fm (Nat.ne_of_gt e3) (fm (Nat.ne_of_gt e5) (fm (Nat.ne_of_gt e6) (fun p hp => hd p hp))))
    · rw [tm_succ _ hdi]
      refine DatAll.append (hJ.mono fun p hp => .tail _ (.tail _ (.tail _ hp))) (.one ?_)
      exact DatIn.tuple (.head _) (.cons (.list (.tail _ (.tail _ (.head _))) (ints_dat hu)) (.cons (.list (.tail _ (.head _)) (strs_dat hw)) (.cons (.int _ _) (.cons (.str _ _) (.cons (.str _ _) .nil)))))
  · rintro ys made D C c h' tk mc hJ F' N' hd
    refine ⟨mc, F'.ns, fun h'' hsb => ?_⟩
    obtain ⟨F2, N2, offD⟩ := comp_back F0 N0 F' N' hsb
    rw [hvl, List.take_length] at hJ
    k_steps
    exact .intro (by assumption) ⟨D, c, ys, made, rfl, hJ, Fresh.of N2 fun p hp => by
      rcases List.mem_cons.mp hp with rfl | hp
      · exact .head _
      · exact .tail _ (List.mem_append_left _ hp)⟩
end
/-! the pairs, beside the stack -/
theorem lookup_snoc (f : List (Int × Int)) (k v j : Int) : (f ++ [(k, v)]).lookup j = match f.lookup j with | some y => some y | none => if j = k then some v else none := by
  induction f with
  | nil =>
    show (match j == k with | true => some v | false => none) = _
    by_cases h : j = k
    · subst h; simp
    · have e : (j == k) = false := by simpa using h
      rw [e]; simp [h]
  | cons a f ih =>
    obtain ⟨a, b⟩ := a
    show (match j == a with | true => some b | false => (f ++ [(k, v)]).lookup j) = _
    by_cases h : j = a
    · subst h; simp
    · have e : (j == a) = false := by simpa using h
      rw [List.lookup_cons, e, ih]
theorem lookup_set (f : List (Int × Int)) (k v j : Int) : (f.map fun p => if (p.1 == k) = true then (p.1, v) else p).lookup j = if j = k then (f.lookup k).map (fun _ => v) else f.lookup j := by
  induction f with
  | nil => simp
  | cons a f ih =>
    obtain ⟨a, b⟩ := a
    by_cases hk : a = k
    · subst hk
      rw [List.map_cons]
      simp only [beq_self_eq_true, if_true]
      by_cases h : j = a
      · subst h; simp
      · have e : (j == a) = false := by simpa using h
        simp only [List.lookup_cons, e, beq_self_eq_true, ih, h, if_false]
    · have e1 : (a == k) = false := by simpa using hk
      rw [List.map_cons]
      simp only [e1, Bool.false_eq_true, if_false]
      by_cases h : j = a
      · subst h
        rw [List.lookup_cons]
        simp [hk]
      · have e : (j == a) = false := by simpa using h
        have e2 : (k == a) = false := by simpa using fun q : k = a => hk q.symm
        simp only [List.lookup_cons, e, e2]
        exact ih
theorem any_lookup (f : List (Int × Int)) (k : Int) : f.any (fun p => p.1 == k) = (f.lookup k).isSome := by
  induction f with
  | nil => rfl
  | cons a f ih =>
    obtain ⟨a, b⟩ := a
    by_cases h : k = a
    · subst h; simp
    · have e : (k == a) = false := by simpa using h
      have e2 : (a == k) = false := by simpa using fun q : a = k => h q.symm
      rw [List.any_cons, e2, Bool.false_or, List.lookup_cons, e, ih]
theorem lookup_put (f : List (Int × Int)) (k v j : Int) : (put f k v).lookup j = if j = k then some v else f.lookup j := by
  unfold put
  rw [any_lookup]
  cases e : f.lookup k with
  | none =>
    rw [if_neg (by simp), lookup_snoc]
    by_cases h : j = k
    · subst h; rw [e]
    · simp only [h, if_false]
      cases f.lookup j <;> rfl
  | some y =>
    rw [if_pos (by simp), lookup_set, e]
    rfl

structure Prs (st : Nat → List Int) (f : Nat → List (Int × Int)) (lr pd : Nat → Bool) (n : Nat) : Prop where
  zero : st 0 = [] ∧ f 0 = []
  push : ∀ i, i < n → lr i = true → st (i + 1) = st i ++ [(i : Int)] ∧ f (i + 1) = f i
  pop : ∀ i, i < n → lr i = false → pd i = true → st i ≠ [] → st (i + 1) = (st i).dropLast ∧ f (i + 1) = put (put (f i) ((st i).getLastD 0) i) i ((st i).getLastD 0)
  rest : ∀ i, i < n → lr i = false → ¬ (pd i = true ∧ st i ≠ []) → st (i + 1) = st i ∧ f (i + 1) = f i

structure PV (o p : Nat → List Int) (f : List (Int × Int)) (lr pd : Nat → Bool) (i : Nat) : Prop where
  open' : ∀ x : Nat, x < i → lr x = true → (x : Int) ∈ o i → f.lookup (x : Int) = none
  shut : ∀ x : Nat, x < i → lr x = true → (x : Int) ∉ o i → ∃ q : Nat, x < q ∧ q < i ∧ f.lookup (x : Int) = some (q : Int) ∧ f.lookup (q : Int) = some (x : Int) ∧ pd q = true ∧ hmo p q = hmo p x ∧ ∀ z : Nat, x < z → z < q → (x : Int) ∈ p z
  back : ∀ q : Nat, q < i → pd q = true → ∀ c, f.lookup (q : Int) = some c → ∃ x : Nat, c = x ∧ x < q ∧ lr x = true ∧ f.lookup (x : Int) = some (q : Int) ∧ hmo p q = hmo p x
  ahead : ∀ j : Nat, i ≤ j → f.lookup (j : Int) = none

section
variable {o p : Nat → List Int} {lr pd : Nat → Bool} {n : Nat} {st : Nat → List Int} {f : Nat → List (Int × Int)}
theorem Prs.link (S : Stk o p lr pd n) (R : Prs st f lr pd n) : ∀ i, i ≤ n → o i = -1 :: st i
  | 0, _ => by rw [S.zero, R.zero.1]
  | i + 1, hi => by
    have ih := R.link S i (by (first | lia | omega))
    cases hl : lr i with
    | true => rw [S.lr_o (by (first | lia | omega)) hl, S.lr_p (by (first | lia | omega)) hl, (R.push i (by (first | lia | omega)) hl).1, ih]; rfl
    | false =>
      rw [S.step i (by (first | lia | omega)), if_neg (by rw [hl]; simp), S.pop i (by (first | lia | omega))]
      by_cases hs : st i = []
      · rw [(R.rest i (by (first | lia | omega)) hl (by simp [hs])).1, ih, hs]; simp
      · have hlen : 1 < (o i).length := by rw [ih]; have := List.length_pos_iff.mpr hs; simp only [List.length_cons]; (first | lia | omega)
        cases hp : pd i with
        | true =>
          rw [if_pos ⟨rfl, hlen⟩, (R.pop i (by (first | lia | omega)) hl hp hs).1, ih]
          cases h : st i with
          | nil => exact absurd h hs
          | cons a r => rfl
        | false => rw [if_neg (by simp), (R.rest i (by (first | lia | omega)) hl (by simp [hp])).1, ih]
theorem Prs.inv (S : Stk o p lr pd n) (R : Prs st f lr pd n) : ∀ i, i ≤ n → PV o p (f i) lr pd i
  | 0, _ => by
    rw [R.zero.2]
    exact ⟨fun x h => absurd h (Nat.not_lt_zero _), fun x h => absurd h (Nat.not_lt_zero _), fun x h => absurd h (Nat.not_lt_zero _), fun _ _ => rfl⟩
  | i + 1, hi => by
    obtain ⟨v1, v2, v3, v4⟩ := R.inv S i (by (first | lia | omega))
    have hin : i < n := by (first | lia | omega)
    cases hl : lr i with
    | true =>
      have hpi := S.dis i hl
      have eo : o (i + 1) = o i ++ [(i : Int)] := by rw [S.lr_o hin hl, S.lr_p hin hl]
      rw [(R.push i hin hl).2]
      refine ⟨fun x hx hlx hm => ?_, fun x hx hlx hm => ?_, fun q hq hpq c hc => ?_, fun j hj => v4 j (by (first | lia | omega))⟩
      · by_cases e : x = i
        · subst e; exact v4 _ (Nat.le_refl _)
        · rw [eo] at hm
          rcases List.mem_append.mp hm with hm | hm
          · exact v1 x (by (first | lia | omega)) hlx hm
          · rw [List.mem_singleton] at hm; (first | lia | omega)
      · rw [eo] at hm
        have e : x ≠ i := fun e => hm (by rw [e]; simp)
        obtain ⟨q, a, b, c⟩ := v2 x (by (first | lia | omega)) hlx fun h => hm (List.mem_append_left _ h)
        exact ⟨q, a, by (first | lia | omega), c⟩
      · by_cases e : q = i
        · subst e; rw [hpi] at hpq; cases hpq
        · exact v3 q (by (first | lia | omega)) hpq c hc
    | false =>
      have eo : o (i + 1) = p i := by rw [S.step i hin, if_neg (by rw [hl]; simp)]
      by_cases hc : pd i = true ∧ st i ≠ []
      · have hk := R.link S i (by (first | lia | omega))
        have hlen : 1 < (o i).length := by rw [hk]; have := List.length_pos_iff.mpr hc.2; simp only [List.length_cons]; (first | lia | omega)
        obtain ⟨x0, hx0, hl0, e1, e2, e3, e4⟩ := S.popped hin ⟨hc.1, hlen⟩
        have ex : (st i).getLastD 0 = (x0 : Int) := by
          have : (o i).getLastD 0 = (st i).getLastD 0 := by
            rw [hk]
            cases h : st i with
            | nil => exact absurd h hc.2
            | cons a r => rfl
          rw [← this, e1, lastD_snoc]
        have hx0i : (x0 : Int) ∈ o i := by rw [e1]; simp
        have lk : ∀ j : Int, (f (i + 1)).lookup j = if j = i then some (x0 : Int) else if j = x0 then some (i : Int) else (f i).lookup j := fun j => by
          rw [(R.pop i hin hl hc.1 hc.2).2, ex, lookup_put, lookup_put]
        have lkn : ∀ j : Nat, j ≠ i → j ≠ x0 → (f (i + 1)).lookup (j : Int) = (f i).lookup (j : Int) := fun j h1 h2 => by
          rw [lk, if_neg (by (first | lia | omega)), if_neg (by (first | lia | omega))]
        refine ⟨fun x hx hlx hm => ?_, fun x hx hlx hm => ?_, fun q hq hpq c hcq => ?_, fun j hj => ?_⟩
        · have n1 : x ≠ i := fun e => by rw [e, hl] at hlx; cases hlx
          have n2 : x ≠ x0 := fun e => e4 (by rw [← eo, ← e]; exact hm)
          rw [lkn x n1 n2]
          exact v1 x (by (first | lia | omega)) hlx (S.psub hin _ (eo ▸ hm))
        · have n1 : x ≠ i := fun e => by rw [e, hl] at hlx; cases hlx
          by_cases e : x = x0
          · subst e
            refine ⟨i, hx0, by (first | lia | omega), by rw [lk, if_neg (by (first | lia | omega)), if_pos rfl], by rw [lk, if_pos rfl], hc.1, e3, fun z h1 h2 => S.stoodp (i := z) (j := i) (by (first | lia | omega)) h2 (by (first | lia | omega)) hx0i⟩
          · have hno : (x : Int) ∉ o i := fun h => by
              rw [e1] at h
              rcases List.mem_append.mp h with h | h
              · exact hm (by rw [eo, e2]; exact h)
              · rw [List.mem_singleton] at h; (first | lia | omega)
            obtain ⟨q, a, b, c1, c2, c3, c4⟩ := v2 x (by (first | lia | omega)) hlx hno
            have q1 : q ≠ x0 := fun h => by rw [h, S.dis _ hl0] at c3; cases c3
            exact ⟨q, a, by (first | lia | omega), by rw [lkn x n1 e]; exact c1, by rw [lkn q (by (first | lia | omega)) q1]; exact c2, c3, c4⟩
        · by_cases e : q = i
          · subst e
            rw [lk, if_pos rfl] at hcq
            cases hcq
            exact ⟨x0, rfl, hx0, hl0, by rw [lk, if_neg (by (first | lia | omega)), if_pos rfl], e3⟩
          · have q1 : q ≠ x0 := fun h => by rw [h, S.dis _ hl0] at hpq; cases hpq
            rw [lkn q e q1] at hcq
            obtain ⟨x, a, b, c1, c2, c3⟩ := v3 q (by (first | lia | omega)) hpq c hcq
            have n1 : x ≠ i := by (first | lia | omega)
            have n2 : x ≠ x0 := fun h => by
              subst h
              rw [v1 x hx0 hl0 hx0i] at c2; cases c2
            exact ⟨x, a, b, c1, by rw [lkn x n1 n2]; exact c2, c3⟩
        · rw [lkn j (by (first | lia | omega)) (by (first | lia | omega))]
          exact v4 j (by (first | lia | omega))
      · rw [(R.rest i hin hl hc).2]
        have eoo : o (i + 1) = o i := by
          rw [eo, S.pop i hin, if_neg ?_]
          rintro ⟨h1, h2⟩
          refine hc ⟨h1, fun h => ?_⟩
          rw [R.link S i (by (first | lia | omega)), h] at h2
          simp at h2
        refine ⟨fun x hx hlx hm => ?_, fun x hx hlx hm => ?_, fun q hq hpq c hcq => ?_, fun j hj => v4 j (by (first | lia | omega))⟩
        · have n1 : x ≠ i := fun e => by rw [e, hl] at hlx; cases hlx
          exact v1 x (by (first | lia | omega)) hlx (eoo ▸ hm)
        · have n1 : x ≠ i := fun e => by rw [e, hl] at hlx; cases hlx
          obtain ⟨q, a, b, c⟩ := v2 x (by (first | lia | omega)) hlx (eoo ▸ hm)
          exact ⟨q, a, by (first | lia | omega), c⟩
        · by_cases e : q = i
          · subst e; rw [v4 _ (Nat.le_refl _)] at hcq; cases hcq
          · exact v3 q (by (first | lia | omega)) hpq c hcq
end
/-! runs, joined, are what stands in a home -/
theorem least (nn : Nat → Bool) : ∀ (d t a : Nat), a = t + d → nn a = true → ∃ y, t ≤ y ∧ y ≤ a ∧ nn y = true ∧ ∀ w, t ≤ w → w < y → nn w = false
  | 0, t, a, e, h => ⟨a, by (first | lia | omega), Nat.le_refl _, h, fun w h1 h2 => by (first | lia | omega)⟩
  | d + 1, t, a, e, h => by
    cases ht : nn t with
    | true => exact ⟨t, Nat.le_refl _, by (first | lia | omega), ht, fun w h1 h2 => by (first | lia | omega)⟩
    | false =>
      obtain ⟨y, a1, a2, a3, a4⟩ := least nn d (t + 1) a (by (first | lia | omega)) h
      refine ⟨y, by (first | lia | omega), a2, a3, fun w h1 h2 => ?_⟩
      by_cases e : w = t
      · subst e; exact ht
      · exact a4 w (by (first | lia | omega)) h2
def upL (l : List Nat) : List Int := l.map fun j : Nat => (j : Int)
def allN (nn : Nat → Bool) (i : Nat) : List Int := upL ((List.range i).filter nn)
theorem allN_y {nn : Nat → Bool} {i : Nat} (h : nn i = true) : allN nn (i + 1) = allN nn i ++ [(i : Int)] := by
  unfold allN upL
  rw [List.range_succ, List.filter_append, List.map_append]
  simp [h]
theorem allN_n {nn : Nat → Bool} {i : Nat} (h : nn i = false) : allN nn (i + 1) = allN nn i := by
  unfold allN upL
  rw [List.range_succ, List.filter_append, List.map_append]
  simp [h]
theorem allN_mem {nn : Nat → Bool} {i : Nat} {x : Int} : x ∈ allN nn i ↔ ∃ j : Nat, x = j ∧ j < i ∧ nn j = true := by
  unfold allN upL
  rw [List.mem_map]
  constructor
  · rintro ⟨j, h, rfl⟩
    obtain ⟨h1, h2⟩ := List.mem_filter.mp h
    exact ⟨j, rfl, List.mem_range.mp h1, h2⟩
  · rintro ⟨j, rfl, h1, h2⟩
    exact ⟨j, List.mem_filter.mpr ⟨List.mem_range.mpr h1, h2⟩, rfl⟩
theorem allN_sorted (nn : Nat → Bool) (i : Nat) : (allN nn i).Pairwise (· < ·) := by
  unfold allN upL
  rw [List.pairwise_map]
  refine List.Pairwise.imp (fun h => by (first | lia | omega)) (List.Pairwise.filter _ List.pairwise_lt_range)
/-- two lists in one strict order, of the same members -/
theorem same_sorted {α : Type} {R : α → α → Prop} (hirr : ∀ a, ¬ R a a) (htr : ∀ a b c, R a b → R b c → R a c) : ∀ {l m : List α}, l.Pairwise R → m.Pairwise R → (∀ x, x ∈ l ↔ x ∈ m) → l = m
  | [], [], _, _, _ => rfl
  | [], b :: m, _, _, h => by have := (h b).mpr (.head _); cases this
  | a :: l, [], _, _, h => by have := (h a).mp (.head _); cases this
  | a :: l, b :: m, h1, h2, h => by
    obtain ⟨p1, p2⟩ := List.pairwise_cons.mp h1
    obtain ⟨q1, q2⟩ := List.pairwise_cons.mp h2
    have hab : a = b := by
      rcases List.mem_cons.mp ((h a).mp (.head _)) with e | ha
      · exact e
      · rcases List.mem_cons.mp ((h b).mpr (.head _)) with e | hb
        · exact e.symm
        · exact absurd (htr _ _ _ (p1 b hb) (q1 a ha)) (hirr a)
    subst hab
    rw [same_sorted hirr htr p2 q2 fun x => ?_]
    constructor
    · intro hx
      rcases List.mem_cons.mp ((h x).mp (.tail _ hx)) with e | hm
      · subst e; exact absurd (p1 x hx) (hirr x)
      · exact hm
    · intro hx
      rcases List.mem_cons.mp ((h x).mpr (.tail _ hx)) with e | hm
      · subst e; exact absurd (q1 x hx) (hirr x)
      · exact hm

structure Abs (o p : Nat → List Int) (lr pd nn : Nat → Bool) (n : Nat) (st : Nat → List Int) (f : Nat → List (Int × Int)) (lev : Nat → Int) (ks : List Str) (ls : List (Option Int)) : Prop where
  S : Stk o p lr pd n
  R : Prs st f lr pd n
  le : n ≤ 64
  bn : ∀ w, nn w = false → lr w = false ∧ pd w = false
  adj : ∀ x y, x < y → y < n → nn x = true → nn y = true → (∀ w, x < w → w < y → nn w = false) → (lev x = lev y ↔ hmo p x = hmo p y)
  len : ls.length = n
  at' : ∀ i, i < n → ls[i]? = some (if nn i = true then some (lev i) else none)
  kl : ∀ i : Nat, i < n → isInit (kAt ks (i : Int)) = lr i
  kp : ∀ i : Nat, i < n → (kAt ks (i : Int) == Str.ofString "PDI") = pd i

def hmi (p : Nat → List Int) (x : Int) : Int := hmo p x.toNat
/-- the places of a home -/
def homeL (p : Nat → List Int) (nn : Nat → Bool) (n : Nat) (h : Int) : List Int := (allN nn n).filter fun x => hmi p x == h

section
variable {o p : Nat → List Int} {lr pd nn : Nat → Bool} {n : Nat} {st : Nat → List Int} {f : Nat → List (Int × Int)} {lev : Nat → Int} {ks : List Str} {ls : List (Option Int)}
theorem Abs.nnl (B : Abs o p lr pd nn n st f lev ks ls) {w : Nat} (h : lr w = true) : nn w = true := by
  cases e : nn w with
  | true => rfl
  | false => rw [(B.bn w e).1] at h; cases h
theorem Abs.nnp (B : Abs o p lr pd nn n st f lev ks ls) {w : Nat} (h : pd w = true) : nn w = true := by
  cases e : nn w with
  | true => rfl
  | false => rw [(B.bn w e).2] at h; cases h

structure Runs (p : Nat → List Int) (nn : Nat → Bool) (lev : Nat → Int) (i : Nat) (fs : List (List Int)) (last : Option Int) : Prop where
  flat : fs.flatten = allN nn i
  ne : ∀ r ∈ fs, r ≠ []
  one : ∀ r ∈ fs, ∀ x ∈ r, hmi p x = hmi p (r.headD 0)
  two : ∀ k r r', fs[k]? = some r → fs[k + 1]? = some r' → hmi p (r.getLastD 0) ≠ hmi p (r'.headD 0)
  last : (fs = [] ∧ last = none) ∨ ∃ f0 r, fs = f0 ++ [r] ∧ last = some (lev (r.getLastD 0).toNat)

theorem headD_snoc {r : List Int} {x d : Int} (h : r ≠ []) : (r ++ [x]).headD d = r.headD d := by
  cases r with
  | nil => exact absurd rfl h
  | cons a r => rfl
theorem snoc_two {p : Nat → List Int} {f0 : List (List Int)} {z : List Int} (h : ∀ k r r', f0[k]? = some r → f0[k + 1]? = some r' → hmi p (r.getLastD 0) ≠ hmi p (r'.headD 0))
    (hz : ∀ r, f0.getLast? = some r → hmi p (r.getLastD 0) ≠ hmi p (z.headD 0)) : ∀ k r r', (f0 ++ [z])[k]? = some r → (f0 ++ [z])[k + 1]? = some r' → hmi p (r.getLastD 0) ≠ hmi p (r'.headD 0) := by
  intro k r r' h1 h2
  by_cases c : k + 1 < f0.length
  · rw [List.getElem?_append_left (by (first | lia | omega))] at h1
    rw [List.getElem?_append_left c] at h2
    exact h k r r' h1 h2
  · by_cases c2 : k + 1 = f0.length
    · rw [List.getElem?_append_left (by (first | lia | omega))] at h1
      rw [List.getElem?_append_right (by (first | lia | omega)), c2, Nat.sub_self] at h2
      have : r' = z := by simpa using h2.symm
      subst this
      refine hz r ?_
      rw [List.getLast?_eq_getElem?, ← h1]
      congr 1; (first | lia | omega)
    · rw [List.getElem?_append_right (by (first | lia | omega))] at h2
      have : k + 1 - f0.length ≠ 0 := by (first | lia | omega)
      obtain ⟨m, hm⟩ : ∃ m, k + 1 - f0.length = m + 1 := ⟨k + 1 - f0.length - 1, by (first | lia | omega)⟩
      rw [hm] at h2
      simp at h2

theorem Abs.runs (B : Abs o p lr pd nn n st f lev ks ls) : ∀ i, i ≤ n → Runs p nn lev i (runsAt ls i).1 (runsAt ls i).2
  | 0, _ => ⟨rfl, fun _ h => (nomatch h), fun _ h => (nomatch h), fun k r r' h => by simp [runsAt] at h, .inl ⟨rfl, rfl⟩⟩
  | i + 1, hi => by
    have ih := B.runs i (by (first | lia | omega))
    have hli := B.at' i (by (first | lia | omega))
    rw [runsAt_succ hli]
    generalize hx : runsAt ls i = x at ih
    obtain ⟨fs, last⟩ := x
    dsimp only at ih
    obtain ⟨a1, a2, a3, a4, a5⟩ := ih
    cases hn : nn i with
    | false =>
      simp only [Bool.false_eq_true, if_false]
      exact ⟨by rw [allN_n hn]; exact a1, a2, a3, a4, a5⟩
    | true =>
      simp only [if_true]
      rcases a5 with ⟨rfl, rfl⟩ | ⟨f0, r, rfl, rfl⟩
      · refine ⟨?_, ?_, ?_, ?_, .inr ⟨[], [(i : Int)], rfl, by simp [runsStep]⟩⟩
        · show ([] ++ [[(i : Int)]]).flatten = _
          rw [allN_y hn, ← a1]; rfl
        · intro r hr; rw [show (runsStep (([] : List (List Int)), none) i (some (lev i))).1 = [[(i : Int)]] from rfl] at hr; rw [List.mem_singleton.mp hr]; simp
        · intro r hr x hx'
          rw [show (runsStep (([] : List (List Int)), none) i (some (lev i))).1 = [[(i : Int)]] from rfl] at hr
          rw [List.mem_singleton.mp hr] at hx' ⊢
          rw [List.mem_singleton.mp hx']; rfl
        · intro k r r' h1 h2
          rw [show (runsStep (([] : List (List Int)), none) i (some (lev i))).1 = [[(i : Int)]] from rfl] at h2
          simp at h2
      · have hrn := a2 r (by simp)
        obtain ⟨r0, y, rfl⟩ := snoc_of hrn
        have hy : y ∈ allN nn i := by rw [← a1]; simp
        obtain ⟨j, rfl, hj, hnj⟩ := allN_mem.mp hy
        have between : ∀ w, j < w → w < i → nn w = false := by
          intro w h1 h2
          cases e : nn w with
          | false => rfl
          | true =>
            have hw : (w : Int) ∈ allN nn i := allN_mem.mpr ⟨w, rfl, h2, e⟩
            have hs := allN_sorted nn i
            have el : allN nn i = (f0.flatten ++ r0) ++ [(j : Int)] := by rw [← a1]; simp
            have := le_last hs hw
            rw [el, lastD_snoc] at this
            (first | lia | omega)
        have hadj := B.adj j i hj (by (first | lia | omega)) hnj hn between
        have e1 : hmi p (j : Int) = hmo p j := by unfold hmi; rw [Int.toNat_natCast]
        have e2 : hmi p (i : Int) = hmo p i := by unfold hmi; rw [Int.toNat_natCast]
        have hone := a3 (r0 ++ [(j : Int)]) (by simp)
        have hj1 := hone (j : Int) (by simp)
        rw [lastD_snoc, Int.toNat_natCast]
        by_cases hl : lev j = lev i
        · have es : runsStep (f0 ++ [r0 ++ [(j : Int)]], some (lev j)) i (some (lev i)) = (f0 ++ [r0 ++ [(j : Int)] ++ [(i : Int)]], some (lev i)) := by
            unfold runsStep
            simp [hl]
          rw [es]
          have hh := hadj.mp hl
          refine ⟨?_, ?_, ?_, ?_, .inr ⟨f0, _, rfl, by rw [lastD_snoc, Int.toNat_natCast]⟩⟩
          · rw [allN_y hn, ← a1]; simp
          · intro r hr
            rcases List.mem_append.mp hr with hr | hr
            · exact a2 r (List.mem_append_left _ hr)
            · rw [List.mem_singleton.mp hr]; simp
          · intro r hr x hx'
            rcases List.mem_append.mp hr with hr | hr
            · exact a3 r (List.mem_append_left _ hr) x hx'
            · rw [List.mem_singleton.mp hr] at hx' ⊢
              rw [headD_snoc (by simp)]
              rcases List.mem_append.mp hx' with hx' | hx'
              · exact hone x hx'
              · rw [List.mem_singleton.mp hx', e2, ← hh, ← e1]; exact hj1
          · refine snoc_two (fun k r r' h1 h2 => a4 k r r' (by rw [List.getElem?_append_left (List.getElem?_eq_some_iff.mp h1).1]; exact h1) (by rw [List.getElem?_append_left (List.getElem?_eq_some_iff.mp h2).1]; exact h2)) fun r hr => ?_
            rw [headD_snoc (by simp)]
            have hne : f0 ≠ [] := by intro e; rw [e] at hr; cases hr
            obtain ⟨f1, a, rfl⟩ := snoc_of hne
            have : r = a := by simpa using hr.symm
            subst this
            refine a4 f1.length r _ ?_ ?_
            · simp
            · rw [List.getElem?_append_right (by simp)]; simp
        · have es : runsStep (f0 ++ [r0 ++ [(j : Int)]], some (lev j)) i (some (lev i)) = (f0 ++ [r0 ++ [(j : Int)]] ++ [[(i : Int)]], some (lev i)) := by
            unfold runsStep
            simp [hl]
          rw [es]
          have hh : ¬ hmo p j = hmo p i := fun h => hl (hadj.mpr h)
          refine ⟨?_, ?_, ?_, ?_, .inr ⟨_, [(i : Int)], rfl, by rw [show ([(i : Int)]).getLastD 0 = (i : Int) from rfl, Int.toNat_natCast]⟩⟩
          · rw [allN_y hn, ← a1]; simp
          · intro r hr
            rcases List.mem_append.mp hr with hr | hr
            · exact a2 r hr
            · rw [List.mem_singleton.mp hr]; simp
          · intro r hr x hx'
            rcases List.mem_append.mp hr with hr | hr
            · exact a3 r hr x hx'
            · rw [List.mem_singleton.mp hr] at hx' ⊢
              rw [List.mem_singleton.mp hx']; rfl
          · refine snoc_two a4 fun r hr => ?_
            have : r = r0 ++ [(j : Int)] := by simpa using hr.symm
            subst this
            rw [lastD_snoc, e1]
            show hmo p j ≠ hmi p (i : Int)
            rw [e2]; exact hh
end
/-! the joining of runs -/
theorem hmi_nat (p : Nat → List Int) (j : Nat) : hmi p (j : Int) = hmo p j := by unfold hmi; rw [Int.toNat_natCast]
theorem runOf_look {fs : List (List Int)} (hne : ∀ r ∈ fs, r ≠ []) (hs : fs.flatten.Pairwise (· < ·)) : ∀ i, i ≤ fs.length → ∀ j, j < i → ∀ r, fs[j]? = some r → (runOf fs i).lookup (r.headD 0) = some (j : Int)
  | 0, _, j, hj, _, _ => absurd hj (Nat.not_lt_zero _)
  | i + 1, hi, j, hj, r, hr => by
    have hir : fs[i]? = some fs[i] := List.getElem?_eq_getElem (by (first | lia | omega))
    rw [runOf_succ hir, lookup_put]
    by_cases e : j = i
    · subst e
      have : r = fs[j] := by rw [hir] at hr; exact (Option.some.inj hr).symm
      rw [this, if_pos rfl]
    · have hjl : j < fs.length := by (first | lia | omega)
      have hlt : fs[j].headD 0 < fs[i].headD 0 := by
        have h1 := (List.pairwise_flatten.mp hs).2
        have h2 := List.pairwise_iff_getElem.mp h1 j i hjl (by (first | lia | omega)) (by (first | lia | omega))
        have m1 : fs[j].headD 0 ∈ fs[j] := by
          have := hne _ (List.getElem_mem hjl)
          cases h : fs[j] with
          | nil => exact absurd h this
          | cons a q => exact .head _
        have m2 : fs[i].headD 0 ∈ fs[i] := by
          have := hne _ (List.getElem_mem (show i < fs.length by (first | lia | omega)))
          cases h : fs[i] with
          | nil => exact absurd h this
          | cons a q => exact .head _
        exact h2 _ m1 _ m2
      have er : r = fs[j] := by rw [List.getElem?_eq_getElem hjl] at hr; exact (Option.some.inj hr).symm
      rw [er, if_neg (Int.ne_of_lt hlt)]
      exact runOf_look hne hs i (by (first | lia | omega)) j (by (first | lia | omega)) _ (List.getElem?_eq_getElem hjl)
theorem head_mem {r : List Int} (h : r ≠ []) : r.headD 0 ∈ r := by
  cases r with
  | nil => exact absurd rfl h
  | cons a q => exact .head _
theorem le_head {r : List Int} (hp : r.Pairwise (· < ·)) {x : Int} (hx : x ∈ r) : r.headD 0 ≤ x := by
  cases r with
  | nil => cases hx
  | cons a q =>
    rcases List.mem_cons.mp hx with rfl | h
    · exact Int.le_refl _
    · exact Int.le_of_lt ((List.pairwise_cons.mp hp).1 x h)

section
variable {o p : Nat → List Int} {lr pd nn : Nat → Bool} {n : Nat} {st : Nat → List Int} {f : Nat → List (Int × Int)} {lev : Nat → Int} {ks : List Str} {ls : List (Option Int)}
structure Split (nn : Nat → Bool) (n : Nat) (A : List (List Int)) (r : List Int) (C : List (List Int)) : Prop where
  eq : allN nn n = A.flatten ++ (r ++ C.flatten)
  ar : ∀ x ∈ A.flatten, ∀ y ∈ r, x < y
  ac : ∀ x ∈ A.flatten, ∀ y ∈ C.flatten, x < y
  rc : ∀ x ∈ r, ∀ y ∈ C.flatten, x < y
  srt : r.Pairwise (· < ·)
  sc : C.flatten.Pairwise (· < ·)
theorem Abs.split (B : Abs o p lr pd nn n st f lev ks ls) {A C : List (List Int)} {r : List Int} (h : (runsAt ls n).1 = A ++ r :: C) : Split nn n A r C := by
  have hf := (B.runs n (Nat.le_refl _)).flat
  rw [h, List.flatten_append, List.flatten_cons] at hf
  have hs := allN_sorted nn n
  rw [← hf] at hs
  obtain ⟨_, h2, h3⟩ := List.pairwise_append.mp hs
  obtain ⟨h4, h5, h6⟩ := List.pairwise_append.mp h2
  exact ⟨hf.symm, fun x hx y hy => h3 x hx y (List.mem_append_left _ hy), fun x hx y hy => h3 x hx y (List.mem_append_right _ hy), h6, h4, h5⟩
theorem Split.mem {A C : List (List Int)} {r : List Int} (h : Split nn n A r C) {x : Int} (hx : x ∈ A.flatten ∨ x ∈ r ∨ x ∈ C.flatten) : ∃ j : Nat, x = j ∧ j < n ∧ nn j = true := by
  refine allN_mem.mp ?_
  rw [h.eq]
  rcases hx with hx | hx | hx
  · exact List.mem_append_left _ hx
  · exact List.mem_append_right _ (List.mem_append_left _ hx)
  · exact List.mem_append_right _ (List.mem_append_right _ hx)
theorem Abs.of_lr (B : Abs o p lr pd nn n st f lev ks ls) {x : Nat} (hx : x < n) (hl : lr x = true) : ((f n).lookup (x : Int) = none → (x : Int) ∈ o n) := fun h => by
  refine Decidable.byContradiction fun e => ?_
  obtain ⟨q, _, _, h1, _⟩ := (B.R.inv B.S n (Nat.le_refl _)).shut x hx hl e
  rw [h] at h1; cases h1

/-- no more of the home behind a run that is not continued -/
theorem Abs.no_more (B : Abs o p lr pd nn n st f lev ks ls) {A C : List (List Int)} {r : List Int} (h : (runsAt ls n).1 = A ++ r :: C) {j : Nat} (hj : r.getLastD 0 = (j : Int))
    (hc : lr j = false ∨ (lr j = true ∧ (f n).lookup (j : Int) = none)) : C.flatten.filter (fun x => hmi p x == hmi p (r.headD 0)) = [] := by
  have F := B.runs n (Nat.le_refl _)
  have P := B.split h
  have hrm : r ∈ (runsAt ls n).1 := by rw [h]; simp
  have hrn := F.ne r hrm
  have hjr : (j : Int) ∈ r := by rw [← hj]; exact lastD_mem hrn
  have hh : hmo p j = hmi p (r.headD 0) := by rw [← hmi_nat]; exact F.one r hrm _ hjr
  obtain ⟨j', ej, hjn, hnj⟩ := P.mem (.inr (.inl hjr))
  have : j' = j := by (first | lia | omega)
  subst this
  rw [List.filter_eq_nil_iff]
  intro z hz hzh
  have hzh := eq_of_beq hzh
  obtain ⟨z', rfl, hzn, hnz⟩ := P.mem (.inr (.inr hz))
  rw [hmi_nat, ← hh] at hzh
  have hjz : (j' : Int) < (z' : Int) := P.rc _ hjr _ hz
  rcases hc with hl | ⟨hl, hno⟩
  · cases C with
    | nil => cases hz
    | cons r2 C2 =>
      have hr2m : r2 ∈ (runsAt ls n).1 := by rw [h]; simp
      have hr2n := F.ne r2 hr2m
      have hy := head_mem hr2n
      have hyc : r2.headD 0 ∈ (r2 :: C2).flatten := by rw [List.flatten_cons]; exact List.mem_append_left _ hy
      obtain ⟨y, ey, hyn, hny⟩ := P.mem (.inr (.inr hyc))
      have hjy : (j' : Int) < r2.headD 0 := P.rc _ hjr _ hyc
      have hminc : ∀ x ∈ (r2 :: C2).flatten, r2.headD 0 ≤ x := by
        intro x hx
        have := le_head P.sc hx
        rw [List.flatten_cons] at this
        cases r2 with
        | nil => exact absurd rfl hr2n
        | cons a q => exact this
      have key := B.S.nxt (t := j' + 1) (y := y) (z := z') B.bn (by (first | lia | omega)) hyn ?_ (by (first | lia | omega)) hzn hnz ?_
      · have e1 : (o (j' + 1)).getLastD 0 = hmo p j' := by rw [B.S.step j' hjn, if_neg (by rw [hl]; simp)]; rfl
        rw [e1] at key
        refine F.two A.length r r2 (by rw [h]; simp) (by rw [h, List.getElem?_append_right (by (first | lia | omega))]; simp) ?_
        rw [hj, hmi_nat, ey, hmi_nat, key]
      · intro w h1 h2
        cases e : nn w with
        | false => rfl
        | true =>
          have hw : (w : Int) ∈ allN nn n := allN_mem.mpr ⟨w, rfl, by (first | lia | omega), e⟩
          rw [P.eq] at hw
          rcases List.mem_append.mp hw with hw | hw
          · have := P.ar _ hw _ hjr; (first | lia | omega)
          · rcases List.mem_append.mp hw with hw | hw
            · have := le_last P.srt hw; rw [hj] at this; (first | lia | omega)
            · have := hminc _ hw; (first | lia | omega)
      · rw [hzh, B.S.step j' hjn, if_neg (by rw [hl]; simp)]; rfl
  · have ho := B.of_lr hjn hl hno
    have hp := B.S.stoodp (i := z') (j := n) (by (first | lia | omega)) hzn (Nat.le_refl _) ho
    have h1 := B.S.hm_ge hzn hp
    have h2 := B.S.hm_lt hjn
    (first | lia | omega)
/-- where it is continued -/
theorem Abs.goes_on (B : Abs o p lr pd nn n st f lev ks ls) {A C : List (List Int)} {r : List Int} (h : (runsAt ls n).1 = A ++ r :: C) {j : Nat} (hj : r.getLastD 0 = (j : Int)) (hl : lr j = true) {c : Int} (hc : (f n).lookup (j : Int) = some c) :
    ∃ (C1 : List (List Int)) (r' : List Int) (C2 : List (List Int)), C = C1 ++ r' :: C2 ∧ r'.headD 0 = c ∧ (j : Int) < c ∧ hmi p (r'.headD 0) = hmi p (r.headD 0) ∧ C1.flatten.filter (fun x => hmi p x == hmi p (r.headD 0)) = [] := by
  have F := B.runs n (Nat.le_refl _)
  have P := B.split h
  have hrm : r ∈ (runsAt ls n).1 := by rw [h]; simp
  have hrn := F.ne r hrm
  have hjr : (j : Int) ∈ r := by rw [← hj]; exact lastD_mem hrn
  have hh : hmo p j = hmi p (r.headD 0) := by rw [← hmi_nat]; exact F.one r hrm _ hjr
  obtain ⟨j', ej, hjn, hnj⟩ := P.mem (.inr (.inl hjr))
  have : j' = j := by (first | lia | omega)
  subst this
  have V := B.R.inv B.S n (Nat.le_refl _)
  have hno : (j' : Int) ∉ o n := fun e => by rw [V.open' j' hjn hl e] at hc; cases hc
  obtain ⟨q, a1, a2, a3, a4, a5, a6, a7⟩ := V.shut j' hjn hl hno
  have ec : c = (q : Int) := by rw [hc] at a3; exact Option.some.inj a3
  subst ec
  have hqC : (q : Int) ∈ C.flatten := by
    have hq : (q : Int) ∈ allN nn n := allN_mem.mpr ⟨q, rfl, a2, B.nnp a5⟩
    rw [P.eq] at hq
    rcases List.mem_append.mp hq with hq | hq
    · have := P.ar _ hq _ hjr; (first | lia | omega)
    · rcases List.mem_append.mp hq with hq | hq
      · have := le_last P.srt hq; rw [hj] at this; (first | lia | omega)
      · exact hq
  obtain ⟨r', hr', hqr⟩ := List.mem_flatten.mp hqC
  obtain ⟨C1, C2, rfl⟩ := List.append_of_mem hr'
  have hr'm : r' ∈ (runsAt ls n).1 := by rw [h]; simp
  have hr'n := F.ne r' hr'm
  have hone := F.one r' hr'm _ hqr
  have P2 := B.split (A := A ++ r :: C1) (r := r') (C := C2) (by rw [h]; simp)
  have hy := head_mem hr'n
  have hyle := le_head P2.srt hqr
  have hyC : r'.headD 0 ∈ (C1 ++ r' :: C2).flatten := List.mem_flatten.mpr ⟨r', hr', hy⟩
  obtain ⟨y, ey, hyn, hny⟩ := P.mem (.inr (.inr hyC))
  have hjy : (j' : Int) < r'.headD 0 := P.rc _ hjr _ hyC
  have hlow : ∀ z : Nat, j' < z → z < q → hmo p z ≠ hmo p j' := fun z h1 h2 e => by
    have g1 := B.S.hm_ge (show z < n by (first | lia | omega)) (a7 z h1 h2)
    have g2 := B.S.hm_lt hjn
    (first | lia | omega)
  have hhead : r'.headD 0 = (q : Int) := by
    rw [ey] at hyle hjy hone ⊢
    rw [hmi_nat, hmi_nat] at hone
    by_cases e : y = q
    · rw [e]
    · exact absurd (by rw [← hone, a6]) (hlow y (by (first | lia | omega)) (by (first | lia | omega)))
  refine ⟨C1, r', C2, rfl, hhead, by (first | lia | omega), by rw [hhead, hmi_nat, a6, hh], ?_⟩
  rw [List.filter_eq_nil_iff]
  intro z hz hzh
  have hzh := eq_of_beq hzh
  have hzC : z ∈ (C1 ++ r' :: C2).flatten := by rw [List.flatten_append]; exact List.mem_append_left _ hz
  have g1 := P.rc _ hjr _ hzC
  have g2 : z < r'.headD 0 := P2.ar z (by rw [List.flatten_append, List.flatten_cons]; exact List.mem_append_right _ (List.mem_append_right _ hz)) _ hy
  obtain ⟨z', rfl, hzn, _⟩ := P.mem (.inr (.inr hzC))
  rw [hmi_nat, ← hh] at hzh
  exact hlow z' (by (first | lia | omega)) (by (first | lia | omega)) hzh

theorem Abs.looks (B : Abs o p lr pd nn n st f lev ks ls) {A C : List (List Int)} {r : List Int} (h : (runsAt ls n).1 = A ++ r :: C) : (runOf (runsAt ls n).1 (runsAt ls n).1.length).lookup (r.headD 0) = some (A.length : Int) := by
  have F := B.runs n (Nat.le_refl _)
  refine runOf_look F.ne (by rw [F.flat]; exact allN_sorted nn n) _ (Nat.le_refl _) A.length (by rw [h]; simp) r (by rw [h]; simp)

theorem Abs.go (B : Abs o p lr pd nn n st f lev ks ls) : ∀ (k : Nat) (A C : List (List Int)) (r q : List Int), (runsAt ls n).1 = A ++ r :: C → q ≠ [] → q.getLastD 0 = r.getLastD 0 → 64 ≤ k + q.getLastD 0 →
    joinGo ks (f n) (runsAt ls n).1 k q = q ++ C.flatten.filter (fun x => hmi p x == hmi p (r.headD 0)) := by
  intro k
  induction k with
  | zero =>
    intro A C r q h hq hlast hk
    have P := B.split h
    have hrn := (B.runs n (Nat.le_refl _)).ne r (by rw [h]; simp)
    obtain ⟨j, ej, hjn, _⟩ := P.mem (.inr (.inl (lastD_mem (d := 0) hrn)))
    have := B.le
    rw [hlast, ej] at hk
    (first | lia | omega)
  | succ k ih =>
    intro A C r q h hq hlast hk
    have P := B.split h
    have F := B.runs n (Nat.le_refl _)
    have hrn := F.ne r (by rw [h]; simp)
    obtain ⟨j, ej, hjn, _⟩ := P.mem (.inr (.inl (lastD_mem (d := 0) hrn)))
    have hki := B.kl j hjn
    cases hl : lr j with
    | false =>
      have hn : nextRun ks (f n) (runsAt ls n).1 (q.getLastD 0) = none := by
        unfold nextRun
        rw [hlast, ej, hki, hl]; rfl
      rw [joinGo_stop hn, B.no_more h ej (.inl hl), List.append_nil]
    | true =>
      cases hc : (f n).lookup (j : Int) with
      | none =>
        have hn : nextRun ks (f n) (runsAt ls n).1 (q.getLastD 0) = none := by
          unfold nextRun
          rw [hlast, ej, hki, hl, hc]; rfl
        rw [joinGo_stop hn, B.no_more h ej (.inr ⟨hl, hc⟩), List.append_nil]
      | some c =>
        obtain ⟨C1, r', C2, rfl, h1, h2, h3, h4⟩ := B.goes_on h ej hl hc
        have h' : (runsAt ls n).1 = (A ++ r :: C1) ++ r' :: C2 := by rw [h]; simp
        have hn : nextRun ks (f n) (runsAt ls n).1 (q.getLastD 0) = some r' := by
          unfold nextRun
          rw [hlast, ej, hki, hl, hc]
          show ((runOf (runsAt ls n).1 (runsAt ls n).1.length).lookup c).bind (fun m => (runsAt ls n).1[m.toNat]?) = _
          rw [← h1, B.looks h']
          show (runsAt ls n).1[((A ++ r :: C1).length : Int).toNat]? = _
          rw [Int.toNat_natCast, h', List.getElem?_append_right (by (first | lia | omega))]; simp
        have hr'n := F.ne r' (by rw [h']; simp)
        have P' := B.split h'
        have hlr : (q ++ r').getLastD 0 = r'.getLastD 0 := by
          obtain ⟨r0, a, rfl⟩ := snoc_of hr'n
          rw [← List.append_assoc, lastD_snoc, lastD_snoc]
        have hge := le_last P'.srt (head_mem hr'n)
        rw [joinGo_step hn, ih _ _ r' (q ++ r') h' (by simp [hr'n]) hlr (by rw [hlr]; rw [hlast, ej] at hk; (first | lia | omega)), h3]
        rw [List.flatten_append, List.flatten_cons, List.filter_append, List.filter_append, h4, List.nil_append]
        have hself : r'.filter (fun x => hmi p x == hmi p (r.headD 0)) = r' := by
          rw [List.filter_eq_self]
          intro x hx
          rw [F.one r' (by rw [h']; simp) x hx, h3]; simp
        rw [hself, List.append_assoc]
end
/-! joined runs and homes: one list -/
section
variable {o p : Nat → List Int} {lr pd nn : Nat → Bool} {n : Nat} {st : Nat → List Int} {f : Nat → List (Int × Int)} {lev : Nat → Int} {ks : List Str} {ls : List (Option Int)}
/-- nothing of the home ahead of a run that is no end's -/
theorem Abs.fresh_run (B : Abs o p lr pd nn n st f lev ks ls) {A C : List (List Int)} {r : List Int} (h : (runsAt ls n).1 = A ++ r :: C) (hs : skips ks (f n) r = false) : A.flatten.filter (fun x => hmi p x == hmi p (r.headD 0)) = [] := by
  have F := B.runs n (Nat.le_refl _)
  have P := B.split h
  have hrm : r ∈ (runsAt ls n).1 := by rw [h]; simp
  have hrn := F.ne r hrm
  have hy := head_mem hrn
  obtain ⟨y, ey, hyn, hny⟩ := P.mem (.inr (.inl hy))
  refine Decidable.byContradiction fun hne => ?_
  obtain ⟨f0, x, hx⟩ := snoc_of hne
  have hxm : x ∈ A.flatten.filter (fun x => hmi p x == hmi p (r.headD 0)) := by rw [hx]; simp
  obtain ⟨hxA, hxh⟩ := List.mem_filter.mp hxm
  have hxh := eq_of_beq hxh
  obtain ⟨j, rfl, hjn, hnj⟩ := P.mem (.inl hxA)
  have hAs : A.flatten.Pairwise (· < ·) := by
    have := allN_sorted nn n
    rw [P.eq] at this
    exact (List.pairwise_append.mp this).1
  have hmax : ∀ z ∈ A.flatten, hmi p z = hmi p (r.headD 0) → z ≤ (j : Int) := by
    intro z hz hzh
    have hzm : z ∈ A.flatten.filter (fun x => hmi p x == hmi p (r.headD 0)) := List.mem_filter.mpr ⟨hz, by rw [hzh]; simp⟩
    have := le_last (hAs.filter _) hzm
    rw [hx, lastD_snoc] at this
    exact this
  obtain ⟨a, haA, hja⟩ := List.mem_flatten.mp hxA
  obtain ⟨A1, A2, rfl⟩ := List.append_of_mem haA
  have h2 : (runsAt ls n).1 = A1 ++ a :: (A2 ++ r :: C) := by rw [h]; simp
  have P2 := B.split h2
  have ham : a ∈ (runsAt ls n).1 := by rw [h2]; simp
  have hlast : a.getLastD 0 = (j : Int) := by
    have l1 := le_last P2.srt hja
    have lm : a.getLastD 0 ∈ a := lastD_mem (F.ne a ham)
    have l2 := hmax (a.getLastD 0) (List.mem_flatten.mpr ⟨a, haA, lm⟩) (by rw [F.one a ham _ lm, ← F.one a ham _ hja, hxh])
    (first | lia | omega)
  have hha : hmi p (a.headD 0) = hmi p (r.headD 0) := by rw [← F.one a ham _ hja, hxh]
  have hyin : r.headD 0 ∈ (A2 ++ r :: C).flatten := List.mem_flatten.mpr ⟨r, by simp, hy⟩
  cases hl : lr j with
  | false =>
    have := B.no_more h2 hlast (.inl hl)
    rw [List.filter_eq_nil_iff] at this
    exact this _ hyin (by rw [hha]; simp)
  | true =>
    cases hc : (f n).lookup (j : Int) with
    | none =>
      have := B.no_more h2 hlast (.inr ⟨hl, hc⟩)
      rw [List.filter_eq_nil_iff] at this
      exact this _ hyin (by rw [hha]; simp)
    | some c =>
      obtain ⟨C1, r', C2, e1, e2, e3, e4, e5⟩ := B.goes_on h2 hlast hl hc
      have V := B.R.inv B.S n (Nat.le_refl _)
      have hno : (j : Int) ∉ o n := fun e => by rw [V.open' j hjn hl e] at hc; cases hc
      obtain ⟨q, a1, a2, a3, a4, a5, a6, a7⟩ := V.shut j hjn hl hno
      have ec : c = (q : Int) := by rw [hc] at a3; exact Option.some.inj a3
      have h3 : (runsAt ls n).1 = (A1 ++ a :: C1) ++ r' :: C2 := by rw [h2, e1]; simp
      have P3 := B.split h3
      have hr'n := F.ne r' (by rw [h3]; simp)
      have hr'h := head_mem hr'n
      have hr'in : r' ∈ A2 ++ r :: C := by rw [e1]; simp
      rcases List.mem_append.mp hr'in with hm | hm
      · have := hmax (r'.headD 0) (List.mem_flatten.mpr ⟨r', by simp [hm], hr'h⟩) (by rw [e4, hha])
        (first | lia | omega)
      · have hle : r'.headD 0 ≤ r.headD 0 := by
          have hy2 : r.headD 0 ∈ (C1 ++ r' :: C2).flatten := by rw [← e1]; exact hyin
          rw [List.flatten_append, List.flatten_cons] at hy2
          rcases List.mem_append.mp hy2 with hy2 | hy2
          · rw [List.filter_eq_nil_iff] at e5
            exact absurd (by rw [hha]; simp) (e5 _ hy2)
          · rcases List.mem_append.mp hy2 with hy2 | hy2
            · exact le_head P3.srt hy2
            · exact Int.le_of_lt (P3.rc _ hr'h _ hy2)
        have hge : r.headD 0 ≤ r'.headD 0 := by
          rcases List.mem_cons.mp hm with rfl | hm
          · exact Int.le_refl _
          · exact Int.le_of_lt (P.rc _ hy _ (List.mem_flatten.mpr ⟨r', hm, hr'h⟩))
        have eq : r.headD 0 = (q : Int) := by (first | lia | omega)
        unfold skips at hs
        rw [eq, B.kp q a2, a5, a4] at hs
        cases hs

theorem Abs.home_split (B : Abs o p lr pd nn n st f lev ks ls) {A C : List (List Int)} {r : List Int} (h : (runsAt ls n).1 = A ++ r :: C) :
    homeL p nn n (hmi p (r.headD 0)) = A.flatten.filter (fun x => hmi p x == hmi p (r.headD 0)) ++ (r ++ C.flatten.filter (fun x => hmi p x == hmi p (r.headD 0))) := by
  have F := B.runs n (Nat.le_refl _)
  unfold homeL
  rw [(B.split h).eq, List.filter_append, List.filter_append]
  congr 2
  rw [List.filter_eq_self]
  intro x hx
  rw [F.one r (by rw [h]; simp) x hx]; simp

theorem Abs.joined (B : Abs o p lr pd nn n st f lev ks ls) {A C : List (List Int)} {r : List Int} (h : (runsAt ls n).1 = A ++ r :: C) (hs : skips ks (f n) r = false) :
    joinGo ks (f n) (runsAt ls n).1 64 r = homeL p nn n (hmi p (r.headD 0)) := by
  have F := B.runs n (Nat.le_refl _)
  have P := B.split h
  have hrn := F.ne r (by rw [h]; simp)
  obtain ⟨j, ej, _, _⟩ := P.mem (.inr (.inl (lastD_mem (d := 0) hrn)))
  rw [B.go 64 A C r r h hrn rfl (by rw [ej]; (first | lia | omega)), B.home_split h, B.fresh_run h hs, List.nil_append]

theorem Abs.joinAt_mem (B : Abs o p lr pd nn n st f lev ks ls) (q : List Int) : ∀ i, i ≤ (runsAt ls n).1.length →
    (q ∈ joinAt ks (f n) (runsAt ls n).1 i ↔ ∃ A r C, (runsAt ls n).1 = A ++ r :: C ∧ A.length < i ∧ skips ks (f n) r = false ∧ q = homeL p nn n (hmi p (r.headD 0)))
  | 0, _ => by
    constructor
    · intro h; cases h
    · rintro ⟨A, r, C, _, h, _⟩; (first | lia | omega)
  | i + 1, hi => by
    have ih := B.joinAt_mem q i (by (first | lia | omega))
    have hri : (runsAt ls n).1[i]? = some ((runsAt ls n).1[i]) := List.getElem?_eq_getElem (by (first | lia | omega))
    obtain ⟨r, hr⟩ : ∃ r, r = (runsAt ls n).1[i] := ⟨_, rfl⟩
    rw [← hr] at hri
    have hsp : (runsAt ls n).1 = (runsAt ls n).1.take i ++ r :: (runsAt ls n).1.drop (i + 1) := by
      rw [hr, List.getElem_cons_drop, List.take_append_drop]
    have hlen : ((runsAt ls n).1.take i).length = i := by rw [List.length_take]; (first | lia | omega)
    have uniq : ∀ A r2 C, (runsAt ls n).1 = A ++ r2 :: C → A.length = i → r2 = r := by
      intro A r2 C e1 e2
      have : (runsAt ls n).1[i]? = some r2 := by rw [e1, List.getElem?_append_right (by (first | lia | omega)), e2]; simp
      rw [hri] at this
      exact (Option.some.inj this).symm
    rw [joinAt_succ hri]
    cases hs : skips ks (f n) r with
    | true =>
      simp only [if_true]
      rw [ih]
      constructor
      · rintro ⟨A, r2, C, h1, h2, h3⟩; exact ⟨A, r2, C, h1, by (first | lia | omega), h3⟩
      · rintro ⟨A, r2, C, h1, h2, h3, h4⟩
        refine ⟨A, r2, C, h1, ?_, h3, h4⟩
        by_cases e : A.length = i
        · rw [uniq A r2 C h1 e, hs] at h3; cases h3
        · (first | lia | omega)
    | false =>
      simp only [Bool.false_eq_true, if_false]
      rw [List.mem_append, ih, List.mem_singleton, B.joined hsp hs]
      constructor
      · rintro (⟨A, r2, C, h1, h2, h3⟩ | h)
        · exact ⟨A, r2, C, h1, by (first | lia | omega), h3⟩
        · exact ⟨_, r, _, hsp, by (first | lia | omega), hs, h⟩
      · rintro ⟨A, r2, C, h1, h2, h3, h4⟩
        by_cases e : A.length = i
        · right; rw [h4, uniq A r2 C h1 e]
        · left; exact ⟨A, r2, C, h1, by (first | lia | omega), h3, h4⟩

theorem Abs.head_home (B : Abs o p lr pd nn n st f lev ks ls) {A C : List (List Int)} {r : List Int} (h : (runsAt ls n).1 = A ++ r :: C) (hs : skips ks (f n) r = false) : (homeL p nn n (hmi p (r.headD 0))).headD 0 = r.headD 0 := by
  have F := B.runs n (Nat.le_refl _)
  rw [B.home_split h, B.fresh_run h hs, List.nil_append]
  have := F.ne r (by rw [h]; simp)
  cases r with
  | nil => exact absurd rfl this
  | cons a q => rfl

theorem Abs.joinAt_sorted (B : Abs o p lr pd nn n st f lev ks ls) : ∀ i, i ≤ (runsAt ls n).1.length → (joinAt ks (f n) (runsAt ls n).1 i).Pairwise (fun a b => a.headD 0 < b.headD 0)
  | 0, _ => .nil
  | i + 1, hi => by
    have ih := B.joinAt_sorted i (by (first | lia | omega))
    have hri : (runsAt ls n).1[i]? = some ((runsAt ls n).1[i]) := List.getElem?_eq_getElem (by (first | lia | omega))
    obtain ⟨r, hr⟩ : ∃ r, r = (runsAt ls n).1[i] := ⟨_, rfl⟩
    rw [← hr] at hri
    have hsp : (runsAt ls n).1 = (runsAt ls n).1.take i ++ r :: (runsAt ls n).1.drop (i + 1) := by
      rw [hr, List.getElem_cons_drop, List.take_append_drop]
    have F := B.runs n (Nat.le_refl _)
    have P := B.split hsp
    rw [joinAt_succ hri]
    cases hs : skips ks (f n) r with
    | true => simp only [if_true]; exact ih
    | false =>
      simp only [Bool.false_eq_true, if_false]
      refine List.pairwise_append.mpr ⟨ih, by simp, fun a ha b hb => ?_⟩
      rw [List.mem_singleton.mp hb, B.joined hsp hs, B.head_home hsp hs]
      obtain ⟨A, r2, C, h1, h2, h3, h4⟩ := (B.joinAt_mem a i (by (first | lia | omega))).mp ha
      rw [h4, B.head_home h1 h3]
      have hr2n := F.ne r2 (by rw [h1]; simp)
      refine P.ar _ (List.mem_flatten.mpr ⟨r2, ?_, head_mem hr2n⟩) _ (head_mem (F.ne r (by rw [hsp]; simp)))
      have e : ((runsAt ls n).1.take i)[A.length]? = some r2 := by rw [List.getElem?_take, if_pos h2, h1, List.getElem?_append_right (by (first | lia | omega))]; simp
      exact List.mem_of_getElem? e

theorem homeL_mem {h x : Int} : x ∈ homeL p nn n h ↔ ∃ j : Nat, x = j ∧ j < n ∧ nn j = true ∧ hmo p j = h := by
  unfold homeL
  rw [List.mem_filter]
  constructor
  · rintro ⟨h1, h2⟩
    obtain ⟨j, rfl, a, b⟩ := allN_mem.mp h1
    exact ⟨j, rfl, a, b, by rw [← hmi_nat]; exact eq_of_beq h2⟩
  · rintro ⟨j, rfl, a, b, c⟩
    exact ⟨allN_mem.mpr ⟨j, rfl, a, b⟩, by rw [hmi_nat, c]; simp⟩
theorem homeL_sorted (h : Int) : (homeL p nn n h).Pairwise (· < ·) := (allN_sorted nn n).filter _

def homesL (lr : Nat → Bool) (n : Nat) : List Int := -1 :: allN lr n
theorem Abs.home_in (B : Abs o p lr pd nn n st f lev ks ls) {j : Nat} (hj : j < n) : hmo p j ∈ homesL lr n := by
  have hm := B.S.hm_mem hj
  obtain ⟨_, r, e, hr⟩ := B.S.goodp hj
  rw [e] at hm
  rcases List.mem_cons.mp hm with h | h
  · rw [h]; exact .head _
  · obtain ⟨x, h1, h2, h3⟩ := hr _ h
    exact .tail _ (allN_mem.mpr ⟨x, h1, by (first | lia | omega), h3⟩)

theorem Abs.homes_sorted (B : Abs o p lr pd nn n st f lev ks ls) : (((homesL lr n).map (homeL p nn n)).filter fun r => !r.isEmpty).Pairwise (fun a b => a.headD 0 < b.headD 0) := by
  rw [List.pairwise_filter, List.pairwise_map]
  have hsrt : (homesL lr n).Pairwise (· < ·) := by
    unfold homesL
    refine List.pairwise_cons.mpr ⟨fun x hx => ?_, allN_sorted lr n⟩
    obtain ⟨j, rfl, _⟩ := allN_mem.mp hx
    (first | lia | omega)
  refine List.Pairwise.imp_of_mem ?_ hsrt
  intro h h' hm hm' hlt hne hne'
  have n1 : homeL p nn n h ≠ [] := fun e => by rw [e] at hne; cases hne
  have n2 : homeL p nn n h' ≠ [] := fun e => by rw [e] at hne'; cases hne'
  obtain ⟨a, ea, han, hna, hha⟩ := homeL_mem.mp (head_mem n1)
  obtain ⟨a', ea', han', hna', hha'⟩ := homeL_mem.mp (head_mem n2)
  have hl' : ∃ x' : Nat, h' = x' ∧ x' < n ∧ lr x' = true := by
    rcases List.mem_cons.mp hm' with e | e
    · rcases List.mem_cons.mp hm with e2 | e2
      · (first | lia | omega)
      · obtain ⟨j, rfl, _⟩ := allN_mem.mp e2; (first | lia | omega)
    · exact allN_mem.mp e
  obtain ⟨x', rfl, hx'n, hlx'⟩ := hl'
  have hx'a : (x' : Int) < a' := by rw [← hha']; exact B.S.hm_lt han'
  have ht : ∃ t : Nat, (t : Int) = h + 1 ∧ (o t).getLastD 0 = h := by
    rcases List.mem_cons.mp hm with e | e
    · subst e; exact ⟨0, rfl, by rw [B.S.zero]; rfl⟩
    · obtain ⟨j, rfl, hjn, hlj⟩ := allN_mem.mp e
      exact ⟨j + 1, by (first | lia | omega), by rw [B.S.lr_o hjn hlj, lastD_snoc]⟩
  obtain ⟨t, ht1, ht2⟩ := ht
  have hta : t ≤ a := by
    have := B.S.hm_lt han
    rw [hha] at this
    (first | lia | omega)
  obtain ⟨y, y1, y2, y3, y4⟩ := least nn (a - t) t a (by (first | lia | omega)) hna
  have hyh := B.S.nxt (t := t) (y := y) (z := a) B.bn y1 (by (first | lia | omega)) y4 hta han hna (by rw [hha, ht2])
  have hya : (y : Int) ∈ homeL p nn n h := homeL_mem.mpr ⟨y, rfl, by (first | lia | omega), y3, by rw [hyh, ht2]⟩
  have h1 := le_head (homeL_sorted h) hya
  have h2 : y ≤ x' := by
    by_cases c : x' < y
    · have := y4 x' (by (first | lia | omega)) c
      rw [B.nnl hlx'] at this; cases this
    · (first | lia | omega)
  rw [ea] at h1
  rw [ea, ea']
  (first | lia | omega)

theorem Abs.all (B : Abs o p lr pd nn n st f lev ks ls) : joinAt ks (f n) (runsAt ls n).1 (runsAt ls n).1.length = ((homesL lr n).map (homeL p nn n)).filter fun r => !r.isEmpty := by
  refine same_sorted (R := fun a b => a.headD 0 < b.headD 0) (fun a => Int.lt_irrefl _) (fun a b c => Int.lt_trans) (B.joinAt_sorted _ (Nat.le_refl _)) B.homes_sorted fun q => ?_
  have F := B.runs n (Nat.le_refl _)
  rw [B.joinAt_mem q _ (Nat.le_refl _), List.mem_filter, List.mem_map]
  constructor
  · rintro ⟨A, r, C, h1, h2, h3, rfl⟩
    have P := B.split h1
    have hrn := F.ne r (by rw [h1]; simp)
    obtain ⟨j, ej, hjn, hnj⟩ := P.mem (.inr (.inl (head_mem hrn)))
    refine ⟨⟨hmi p (r.headD 0), by rw [ej, hmi_nat]; exact B.home_in hjn, rfl⟩, ?_⟩
    have : r.headD 0 ∈ homeL p nn n (hmi p (r.headD 0)) := homeL_mem.mpr ⟨j, ej, hjn, hnj, by rw [ej, hmi_nat]⟩
    cases e : homeL p nn n (hmi p (r.headD 0)) with
    | nil => rw [e] at this; cases this
    | cons a q => rfl
  · rintro ⟨⟨h, hh, rfl⟩, hne⟩
    have n1 : homeL p nn n h ≠ [] := fun e => by rw [e] at hne; cases hne
    obtain ⟨y, ey, hyn, hny, hyh⟩ := homeL_mem.mp (head_mem n1)
    have hyin : (y : Int) ∈ (runsAt ls n).1.flatten := by rw [F.flat]; exact allN_mem.mpr ⟨y, rfl, hyn, hny⟩
    obtain ⟨r, hr, hyr⟩ := List.mem_flatten.mp hyin
    obtain ⟨A, C, h1⟩ := List.append_of_mem hr
    have P := B.split h1
    have hrn := F.ne r hr
    obtain ⟨k, ek, hkn, hnk⟩ := P.mem (.inr (.inl (head_mem hrn)))
    have hone := F.one r hr _ hyr
    have e1 : r.headD 0 = (y : Int) := by
      have l1 := le_head P.srt hyr
      have l2 := le_head (homeL_sorted h) (homeL_mem.mpr ⟨k, rfl, hkn, hnk, by rw [← hmi_nat, ← ek, ← hone, hmi_nat, hyh]⟩)
      rw [ey] at l2
      (first | lia | omega)
    have e2 : hmi p (r.headD 0) = h := by rw [e1, hmi_nat, hyh]
    refine ⟨A, r, C, h1, by rw [h1]; simp, ?_, by rw [e2]⟩
    cases hs : skips ks (f n) r with
    | false => rfl
    | true =>
      exfalso
      unfold skips at hs
      rw [Bool.and_eq_true, e1, B.kp y hyn] at hs
      obtain ⟨c, hc⟩ := Option.isSome_iff_exists.mp hs.2
      obtain ⟨x, a1, a2, a3, a4, a5⟩ := (B.R.inv B.S n (Nat.le_refl _)).back y hyn hs.1 c hc
      have := le_head (homeL_sorted (p := p) (nn := nn) (n := n) h) (homeL_mem.mpr ⟨x, rfl, by (first | lia | omega), B.nnl a3, by rw [← a5, hyh]⟩)
      rw [ey] at this
      (first | lia | omega)
end
/-! the law's own parts are such a stack -/
theorem kAt_nat {ks : List Str} {i : Nat} (h : i < ks.length) : ks[i]? = some (kAt ks (i : Int)) := by
  have := kAt_get (ks := ks) (x := (i : Int)) (by rw [Int.toNat_natCast]; exact h)
  rw [Int.toNat_natCast] at this
  exact this
theorem upOf_gt (l : Int) (k : Str) : l < upOf l k := by
  unfold upOf
  split <;> (first | lia | omega)
theorem drop_lt {l : List Int} (hp : l.Pairwise (· < ·)) (hl : 1 < l.length) : l.dropLast.getLastD 0 < l.getLastD 0 := by
  obtain ⟨l0, a, rfl⟩ := snoc_of (l := l) (by intro e; rw [e] at hl; simp at hl)
  rw [List.dropLast_concat, lastD_snoc]
  have h0 : l0 ≠ [] := by intro e; rw [e] at hl; simp at hl
  exact (List.pairwise_append.mp hp).2.2 _ (lastD_mem h0) a (.head _)

section
variable (ks : List Str) (base : Int)
def opA (i : Nat) : List Int := (partAt ks base i).op
def poA (i : Nat) : List Int := (partPop (partAt ks base i) (kAt ks (i : Int))).op
def lrA (i : Nat) : Bool := isLR (kAt ks (i : Int))
def pdA (i : Nat) : Bool := kAt ks (i : Int) == Str.ofString "PDI"
def nnA (i : Nat) : Bool := !(kAt ks (i : Int) == Str.ofString "BN")
def lqA (i : Nat) : List Int := (partAt ks base i).lv
def plA (i : Nat) : List Int := (partPop (partAt ks base i) (kAt ks (i : Int))).lv
def leA (i : Nat) : Int := (plA ks base i).getLastD 0
def stA (i : Nat) : List Int := (pairsAt ks i).1
def fA (i : Nat) : List (Int × Int) := (pairsAt ks i).2
end
section
variable {ks : List Str} {base : Int}
theorem partAt_next {i : Nat} (h : i < ks.length) : partAt ks base (i + 1) = partStep (partAt ks base i) i (kAt ks (i : Int)) := partAt_succ (kAt_nat h)
theorem isLR_not {k a : Str} (h : isLR k = true) (h1 : (Str.ofString "LRI" == a) = false) (h2 : (Str.ofString "RLI" == a) = false) : (k == a) = false := by
  unfold isLR at h
  rw [Bool.or_eq_true] at h
  rcases h with h | h
  · rw [eq_of_beq h]; exact h1
  · rw [eq_of_beq h]; exact h2
theorem stk_of : Stk (opA ks base) (poA ks base) (lrA ks) (pdA ks) ks.length where
  zero := rfl
  pop := fun i _ => partPop_op _ _
  step := fun i h => by
    unfold opA poA lrA
    rw [partAt_next h, partStep_op]; rfl
  dis := fun i h => isLR_not h (by decide) (by decide)
theorem found_eq : ∀ i, i ≤ ks.length → (partAt ks base i).found = (List.range i).map fun j => if nnA ks j = true then some (leA ks base j) else none
  | 0, _ => rfl
  | i + 1, h => by
    rw [partAt_next (by (first | lia | omega)), partStep_found, partPop_found, found_eq i (by (first | lia | omega)), List.range_succ, List.map_append]
    congr 1
    show [_] = [_]
    congr 1
    unfold nnA leA plA
    dsimp only
    cases (kAt ks (i : Int) == Str.ofString "BN") <;> rfl
theorem homes_eq : ∀ i, i ≤ ks.length → (partAt ks base i).homes = (List.range i).map fun j => hmo (poA ks base) j
  | 0, _ => rfl
  | i + 1, h => by
    rw [partAt_next (by (first | lia | omega)), partStep_homes, partPop_homes, homes_eq i (by (first | lia | omega)), List.range_succ, List.map_append]
    rfl
theorem lv_good : ∀ i, i ≤ ks.length → (lqA ks base i).Pairwise (· < ·) ∧ (lqA ks base i).length = (opA ks base i).length
  | 0, _ => ⟨by simp [lqA, partAt], rfl⟩
  | i + 1, h => by
    obtain ⟨h1, h2⟩ := lv_good i (by (first | lia | omega))
    have e1 : plA ks base i = if pdA ks i = true ∧ 1 < (opA ks base i).length then (lqA ks base i).dropLast else lqA ks base i := partPop_lv _ _
    have e2 : poA ks base i = if pdA ks i = true ∧ 1 < (opA ks base i).length then (opA ks base i).dropLast else opA ks base i := partPop_op _ _
    have hp : (plA ks base i).Pairwise (· < ·) ∧ (plA ks base i).length = (poA ks base i).length := by
      rw [e1, e2]
      split
      · exact ⟨h1.sublist (List.dropLast_sublist _), by rw [List.length_dropLast, List.length_dropLast, h2]⟩
      · exact ⟨h1, h2⟩
    have e3 : lqA ks base (i + 1) = if lrA ks i = true then plA ks base i ++ [upOf ((plA ks base i).getLastD 0) (kAt ks (i : Int))] else plA ks base i := by
      unfold lqA; rw [partAt_next (by (first | lia | omega)), partStep_lv]; rfl
    have e4 := stk_of (ks := ks) (base := base) |>.step i (by (first | lia | omega))
    rw [e3, e4]
    split
    · refine ⟨List.pairwise_append.mpr ⟨hp.1, by simp, fun a ha b hb => ?_⟩, by simp [hp.2]⟩
      rw [List.mem_singleton.mp hb]
      have := le_last hp.1 ha
      have := upOf_gt ((plA ks base i).getLastD 0) (kAt ks (i : Int))
      (first | lia | omega)
    · exact hp
theorem pl_good {i : Nat} (h : i < ks.length) : (plA ks base i).Pairwise (· < ·) ∧ (plA ks base i).length = (poA ks base i).length := by
  obtain ⟨h1, h2⟩ := lv_good (ks := ks) (base := base) i (by (first | lia | omega))
  have e1 : plA ks base i = if pdA ks i = true ∧ 1 < (opA ks base i).length then (lqA ks base i).dropLast else lqA ks base i := partPop_lv _ _
  have e2 : poA ks base i = if pdA ks i = true ∧ 1 < (opA ks base i).length then (opA ks base i).dropLast else opA ks base i := partPop_op _ _
  rw [e1, e2]
  split
  · exact ⟨h1.sublist (List.dropLast_sublist _), by rw [List.length_dropLast, List.length_dropLast, h2]⟩
  · exact ⟨h1, h2⟩
theorem bnA (w : Nat) (h : nnA ks w = false) : lrA ks w = false ∧ pdA ks w = false := by
  unfold nnA at h
  have e : kAt ks (w : Int) = Str.ofString "BN" := by
    cases q : (kAt ks (w : Int) == Str.ofString "BN") with
    | true => exact eq_of_beq q
    | false => rw [q] at h; cases h
  unfold lrA pdA
  rw [e]
  exact ⟨by decide, by decide⟩
theorem lv_still {t : Nat} : ∀ y, t ≤ y → y ≤ ks.length → (∀ w, t ≤ w → w < y → nnA ks w = false) → lqA ks base y = lqA ks base t
  | 0, h1, _, _ => by have : t = 0 := by (first | lia | omega)
                      subst this; rfl
  | y + 1, h1, h2, hb => by
    by_cases e : t = y + 1
    · subst e; rfl
    · obtain ⟨b1, b2⟩ := bnA y (hb y (by (first | lia | omega)) (by (first | lia | omega)))
      have e3 : lqA ks base (y + 1) = if lrA ks y = true then plA ks base y ++ [upOf ((plA ks base y).getLastD 0) (kAt ks (y : Int))] else plA ks base y := by
        unfold lqA; rw [partAt_next (by (first | lia | omega)), partStep_lv]; rfl
      have e1 : plA ks base y = if pdA ks y = true ∧ 1 < (opA ks base y).length then (lqA ks base y).dropLast else lqA ks base y := partPop_lv _ _
      rw [e3, if_neg (by rw [b1]; simp), e1, if_neg (by rw [b2]; simp)]
      exact lv_still y (by (first | lia | omega)) (by (first | lia | omega)) fun w a b => hb w a (by (first | lia | omega))
theorem adjA (x y : Nat) (hxy : x < y) (hy : y < ks.length) (hb : ∀ w, x < w → w < y → nnA ks w = false) : leA ks base x = leA ks base y ↔ hmo (poA ks base) x = hmo (poA ks base) y := by
  have S := stk_of (ks := ks) (base := base)
  have so := S.still (t := x + 1) y (by (first | lia | omega)) (by (first | lia | omega)) fun w a b => bnA w (hb w (by (first | lia | omega)) b)
  have sl := lv_still (ks := ks) (base := base) (t := x + 1) y (by (first | lia | omega)) (by (first | lia | omega)) fun w a b => hb w (by (first | lia | omega)) b
  obtain ⟨gp, gl⟩ := pl_good (ks := ks) (base := base) (i := x) (by (first | lia | omega))
  have go := S.goodp (i := x) (by (first | lia | omega))
  have e1 : plA ks base y = if pdA ks y = true ∧ 1 < (opA ks base y).length then (lqA ks base y).dropLast else lqA ks base y := partPop_lv _ _
  have e2 : poA ks base y = if pdA ks y = true ∧ 1 < (opA ks base y).length then (opA ks base y).dropLast else opA ks base y := partPop_op _ _
  have e3 : lqA ks base (x + 1) = if lrA ks x = true then plA ks base x ++ [upOf ((plA ks base x).getLastD 0) (kAt ks (x : Int))] else plA ks base x := by
    unfold lqA; rw [partAt_next (by (first | lia | omega)), partStep_lv]; rfl
  have e4 := S.step x (by (first | lia | omega))
  rw [so, sl] at *
  unfold leA hmo
  rw [e1, e2]
  have hpl := List.length_pos_iff.mpr go.ne
  have hxl := S.hm_lt (i := x) (by (first | lia | omega))
  unfold hmo at hxl
  cases hl : lrA ks x with
  | true =>
    rw [hl, if_pos rfl] at e3 e4
    rw [e3, e4]
    cases hp : pdA ks y with
    | true => rw [if_pos ⟨rfl, by rw [List.length_append, List.length_cons, List.length_nil]; (first | lia | omega)⟩, if_pos ⟨rfl, by rw [List.length_append, List.length_cons, List.length_nil]; (first | lia | omega)⟩, List.dropLast_concat, List.dropLast_concat]; simp
    | false =>
      rw [if_neg (by simp), if_neg (by simp), lastD_snoc, lastD_snoc]
      have := upOf_gt ((plA ks base x).getLastD 0) (kAt ks (x : Int))
      constructor <;> intro h <;> (first | lia | omega)
  | false =>
    rw [hl, if_neg (by simp)] at e3 e4
    rw [e3, e4]
    by_cases c : pdA ks y = true ∧ 1 < (poA ks base x).length
    · rw [if_pos c, if_pos c]
      have d1 := drop_lt go.1 c.2
      have d2 := drop_lt gp (by rw [gl]; exact c.2)
      constructor <;> intro h <;> (first | lia | omega)
    · rw [if_neg c, if_neg c]; simp
theorem isInit_eq {k : Str} (h : k ≠ Str.ofString "FSI") : isInit k = isLR k := by
  unfold isInit isLR
  have : (k == Str.ofString "FSI") = false := by simpa using h
  rw [this, Bool.or_false]
theorem prs_of (hF : Str.ofString "FSI" ∉ ks) : Prs (stA ks) (fA ks) (lrA ks) (pdA ks) ks.length := by
  have hk : ∀ i : Nat, i < ks.length → isInit (kAt ks (i : Int)) = lrA ks i := fun i h => isInit_eq fun e => hF (by rw [← e]; exact List.mem_of_getElem? (kAt_nat h))
  have hs : ∀ i : Nat, i < ks.length → pairsAt ks (i + 1) = pairsStep (pairsAt ks i) i (kAt ks (i : Int)) := fun i h => pairsAt_succ (kAt_nat h)
  refine ⟨⟨rfl, rfl⟩, fun i h hl => ?_, fun i h hl hp hn => ?_, fun i h hl hn => ?_⟩
  · unfold stA fA
    rw [hs i h]
    unfold pairsStep
    rw [hk i h, hl, if_pos rfl]
    exact ⟨rfl, rfl⟩
  · unfold stA fA
    rw [hs i h]
    unfold pairsStep
    rw [hk i h, hl, if_neg (by simp), if_pos ⟨eq_of_beq hp, hn⟩]
    exact ⟨rfl, rfl⟩
  · unfold stA fA
    rw [hs i h]
    unfold pairsStep
    rw [hk i h, hl, if_neg (by simp), if_neg fun c => hn ⟨by unfold pdA; rw [c.1]; simp, c.2⟩]
    exact ⟨rfl, rfl⟩
theorem abs_of (hF : Str.ofString "FSI" ∉ ks) (hn : ks.length ≤ 64) : Abs (opA ks base) (poA ks base) (lrA ks) (pdA ks) (nnA ks) ks.length (stA ks) (fA ks) (leA ks base) ks (partAt ks base ks.length).found where
  S := stk_of
  R := prs_of hF
  le := hn
  bn := bnA
  adj := fun x y h1 h2 _ _ h5 => adjA x y h1 h2 h5
  len := by rw [found_eq _ (Nat.le_refl _), List.length_map, List.length_range]
  at' := fun i h => by rw [found_eq _ (Nat.le_refl _), List.getElem?_map, List.getElem?_range h]; rfl
  kl := fun i h => isInit_eq fun e => hF (by rw [← e]; exact List.mem_of_getElem? (kAt_nat h))
  kp := fun i _ => rfl
end
/-! the plain law, joined -/
section
variable {ks : List Str} {base : Int}
theorem homes_getD {j : Nat} (h : j < ks.length) : (partAt ks base ks.length).homes.getD j 0 = hmo (poA ks base) j := by
  rw [homes_eq _ (Nat.le_refl _), List.getD_eq_getElem?_getD, List.getElem?_map, List.getElem?_range h]; rfl
theorem found_getD {j : Nat} (h : j < ks.length) : ((partAt ks base ks.length).found.getD j none).isSome = nnA ks j := by
  rw [found_eq _ (Nat.le_refl _), List.getD_eq_getElem?_getD, List.getElem?_map, List.getElem?_range h]
  show (if nnA ks j = true then some (leA ks base j) else none).isSome = nnA ks j
  cases nnA ks j <;> rfl
theorem places_home (h : Int) : placesTo (partAt ks base ks.length).homes (partAt ks base ks.length).found h ks.length = homeL (poA ks base) (nnA ks) ks.length h := by
  unfold placesTo homeL allN upL
  rw [List.filter_map, List.filter_filter]
  congr 1
  refine List.filter_congr fun j hj => ?_
  have hj := List.mem_range.mp hj
  rw [homes_getD hj, found_getD hj]
  show _ = (hmi (poA ks base) (j : Int) == h && nnA ks j)
  rw [hmi_nat]
theorem runs_all : runsTo ks (partAt ks base ks.length).homes (partAt ks base ks.length).found (homesOf ks).length = ((homesL (lrA ks) ks.length).map (homeL (poA ks base) (nnA ks) ks.length)).filter fun r => !r.isEmpty := by
  unfold runsTo
  rw [List.take_length]
  congr 1
  have e : homesOf ks = homesL (lrA ks) ks.length := rfl
  rw [e]
  exact List.map_congr_left fun h _ => places_home h
theorem found_len : (partAt ks base ks.length).found.length = ks.length := by rw [found_eq _ (Nat.le_refl _), List.length_map, List.length_range]
theorem homes_len : (partAt ks base ks.length).homes.length = ks.length := by rw [homes_eq _ (Nat.le_refl _), List.length_map, List.length_range]

theorem law_runs (hF : Str.ofString "FSI" ∉ ks) (hn : ks.length ≤ 64) :
    joinAt ks (pairsAt ks ks.length).2 (runsAt (partAt ks base ks.length).found (partAt ks base ks.length).found.length).1 (runsAt (partAt ks base ks.length).found (partAt ks base ks.length).found.length).1.length =
      runsTo ks (partAt ks base ks.length).homes (partAt ks base ks.length).found (homesOf ks).length := by
  rw [found_len, runs_all]
  exact (abs_of (base := base) hF hn).all
theorem law_asc (hF : Str.ofString "FSI" ∉ ks) (hn : ks.length ≤ 64) :
    (runsTo ks (partAt ks base ks.length).homes (partAt ks base ks.length).found (homesOf ks).length).Pairwise fun a b => a.headD 0 < b.headD 0 := by
  rw [runs_all]
  exact (abs_of (base := base) hF hn).homes_sorted
theorem law_join (hF : Str.ofString "FSI" ∉ ks) (hn : ks.length ≤ 64) :
    ∀ r ∈ (runsAt (partAt ks base ks.length).found (partAt ks base ks.length).found.length).1, ∀ c, isInit (kAt ks (r.getLastD 0)) = true → (pairsAt ks ks.length).2.lookup (r.getLastD 0) = some c →
      ∃ (n : Nat) (r' : List Int), (runOf (runsAt (partAt ks base ks.length).found (partAt ks base ks.length).found.length).1 (runsAt (partAt ks base ks.length).found (partAt ks base ks.length).found.length).1.length).lookup c = some (n : Int) ∧
        (runsAt (partAt ks base ks.length).found (partAt ks base ks.length).found.length).1[n]? = some r' ∧ r.getLastD 0 < r'.getLastD 0 := by
  rw [found_len]
  have B := abs_of (base := base) hF hn
  intro r hr c hi hc
  have F := B.runs _ (Nat.le_refl _)
  obtain ⟨A, C, h⟩ := List.append_of_mem hr
  have P := B.split h
  obtain ⟨j, ej, hjn, hnj⟩ := P.mem (.inr (.inl (lastD_mem (d := 0) (F.ne r hr))))
  rw [ej] at hi hc ⊢
  have hl : lrA ks j = true := by rw [← B.kl j hjn]; exact hi
  obtain ⟨C1, r', C2, e1, e2, e3, e4, e5⟩ := B.goes_on h ej hl hc
  have h' : (runsAt (partAt ks base ks.length).found ks.length).1 = (A ++ r :: C1) ++ r' :: C2 := by rw [h, e1]; simp
  have P' := B.split h'
  have hr'n := F.ne r' (by rw [h']; simp)
  have hge := le_last P'.srt (head_mem hr'n)
  refine ⟨(A ++ r :: C1).length, r', by rw [← e2]; exact B.looks h', by rw [h', List.getElem?_append_right (by (first | lia | omega))]; simp, by (first | lia | omega)⟩
theorem law_good (hn : ks.length ≤ 64) : ∀ r ∈ runsTo ks (partAt ks base ks.length).homes (partAt ks base ks.length).found (homesOf ks).length,
    r ≠ [] ∧ r.length ≤ ks.length ∧ (∀ x ∈ r, 0 ≤ x ∧ x < ks.length) ∧ ∃ l, (partAt ks base ks.length).found[(r.headD 0).toNat]? = some (some l) := by
  intro r hr
  unfold runsTo at hr
  obtain ⟨h1, h2⟩ := List.mem_filter.mp hr
  rw [List.take_length] at h1
  obtain ⟨h, _, rfl⟩ := List.mem_map.mp h1
  have hne : placesTo (partAt ks base ks.length).homes (partAt ks base ks.length).found h ks.length ≠ [] := by intro e; rw [e] at h2; cases h2
  refine ⟨hne, placesTo_len _ _ _ _, fun x hx => ?_, ?_⟩
  · obtain ⟨a, b, _⟩ := placesTo_mem hx
    exact ⟨a, b⟩
  · exact (placesTo_mem (head_mem hne)).2.2.2
theorem law_ends (hF : Str.ofString "FSI" ∉ ks) (hn : ks.length ≤ 64) {x : Int} (h0 : 0 ≤ x) (hx : x < ks.length) : (isInit (kAt ks x) && ((pairsAt ks ks.length).2.lookup x).isNone) = decide (x ∈ (partAt ks base ks.length).op.drop 1) := by
  have B := abs_of (base := base) hF hn
  obtain ⟨j, rfl⟩ : ∃ j : Nat, x = j := ⟨x.toNat, by (first | lia | omega)⟩
  have hj : j < ks.length := by (first | lia | omega)
  rw [B.kl j hj]
  have V := B.R.inv B.S _ (Nat.le_refl _)
  have L := B.R.link B.S _ (Nat.le_refl _)
  have e : (partAt ks base ks.length).op.drop 1 = stA ks ks.length := by
    have : (partAt ks base ks.length).op = -1 :: stA ks ks.length := L
    rw [this]; rfl
  rw [e]
  have hin : (j : Int) ∈ stA ks ks.length ↔ (j : Int) ∈ opA ks base ks.length := by
    rw [L]
    constructor
    · intro h; exact .tail _ h
    · intro h
      rcases List.mem_cons.mp h with h | h
      · (first | lia | omega)
      · exact h
  cases hl : lrA ks j with
  | false =>
    rw [Bool.false_and]
    refine (decide_eq_false fun h => ?_).symm
    obtain ⟨_, r, er, hr⟩ := B.S.good _ (Nat.le_refl _)
    have hm := hin.mp h
    rw [er] at hm
    rcases List.mem_cons.mp hm with h | h
    · (first | lia | omega)
    · obtain ⟨k, a, _, b⟩ := hr _ h
      have : k = j := by (first | lia | omega)
      rw [this, hl] at b; cases b
  | true =>
    rw [Bool.true_and]
    by_cases h : (j : Int) ∈ stA ks ks.length
    · rw [decide_eq_true h]
      have := V.open' j hj hl (hin.mp h)
      unfold fA at this
      rw [this]; rfl
    · rw [decide_eq_false h]
      obtain ⟨q, _, _, h1, _⟩ := V.shut j hj hl fun e => h (hin.mpr e)
      unfold fA at h1
      rw [h1]; rfl
theorem law_seq (hF : Str.ofString "FSI" ∉ ks) (hn : ks.length ≤ 64) (c : Option (List Int)) : ∀ r ∈ runsTo ks (partAt ks base ks.length).homes (partAt ks base ks.length).found (homesOf ks).length,
    datOf (seqOf ks (partAt ks base ks.length).found ks base c (pairsAt ks ks.length).2 r) = datOf (dueOf ks (partAt ks base ks.length).found base ((partAt ks base ks.length).op.drop 1) r) := by
  intro r hr
  obtain ⟨hne, _, hrg, _⟩ := law_good hn r hr
  obtain ⟨g1, g2⟩ := hrg _ (lastD_mem (d := 0) hne)
  have he := law_ends (base := base) hF hn g1 g2
  unfold datOf seqOf dueOf
  dsimp only
  rw [he]
  by_cases h : r.getLastD 0 ∈ (partAt ks base ks.length).op.drop 1
  · rw [decide_eq_true h, if_pos rfl, if_pos h]
  · rw [decide_eq_false h, if_neg (by simp), if_neg h]
end
/-! data compared; a comprehension over a list of tuples; a list of one, repeated -/
def optD : Option Int → Dat
  | none => .none
  | some k => .int k
theorem opts_dat {led : List (Addr × Obj)} : ∀ {vs : List Value} {ns : List (Option Int)}, OptsAre vs ns → DatAll led vs (ns.map optD) := by
  intro _ _ h
  induction h with
  | nil => exact .nil
  | none _ ih => exact .cons .none ih
  | int k t _ ih => exact .cons (.int k t) ih
theorem news_add {h₀ h : Heap} {L : Addr} {x : Addr × Obj} {led known : List (Addr × Obj)} (N1 : News h₀ L h (x :: led)) (N : News h₀ L h known) : News h₀ L h (x :: (known ++ led)) := fun p hp => by
  rcases List.mem_cons.mp hp with rfl | hp
  · exact N1 _ (.head _)
  · exact (List.mem_append.mp hp).elim (fun h => N p h) fun h => N1 p (.tail _ h)
section
variable {prog : Program} {w : World} {A : Around} {E : Value → Shared → Prop} {s : Shared} {h₀ : Heap} {L : Addr} {news n₁ n₂ : List (Addr × Obj)} {a b : Value} {d : Dat} {Q : Value → Shared → Prop}
theorem ne_same (N : News h₀ L s.heap news) (Da : DatIn n₁ a d) (sa : ∀ p ∈ n₁, p ∈ news) (Db : DatIn n₂ b d) (sb : ∀ p ∈ n₂, p ∈ news) (ok : kqdOk 9 d = true) (hu : A.units + 64 < cLine) (h : Q (.bool false) s) : wpAny (model prog w) A (compareOp .NotEq a b) Q E s := by
  obtain ⟨as, ra⟩ := kqd_in N 9 (Da.mono sa) ok
  obtain ⟨bs, rb⟩ := kqd_in N 9 (Db.mono sb) ok
  have la := kqd_lay 9 d ok
  have sh : SeqAt.shaped (kqdP d) = true := by unfold SeqAt.shaped; rw [la.1, Bool.true_and]; exact decide_eq_true (Nat.le_trans la.2 (by decide))
  refine ne_dataH ra rb sh sh hu ?_
  rw [(kqd_eqv 9 d d 9 ok ok).mpr rfl]
  exact h
theorem eq_same (N : News h₀ L s.heap news) (Da : DatIn n₁ a d) (sa : ∀ p ∈ n₁, p ∈ news) (Db : DatIn n₂ b d) (sb : ∀ p ∈ n₂, p ∈ news) (ok : kqdOk 9 d = true) (hu : A.units + 64 < cLine) (h : Q (.bool true) s) : wpAny (model prog w) A (compareOp .Eq a b) Q E s := by
  obtain ⟨as, ra⟩ := kqd_in N 9 (Da.mono sa) ok
  obtain ⟨bs, rb⟩ := kqd_in N 9 (Db.mono sb) ok
  have la := kqd_lay 9 d ok
  have sh : SeqAt.shaped (kqdP d) = true := by unfold SeqAt.shaped; rw [la.1, Bool.true_and]; exact decide_eq_true (Nat.le_trans la.2 (by decide))
  refine eq_dataH ra rb sh sh hu ?_
  rw [(kqd_eqv 9 d d 9 ok ok).mpr rfl]
  exact h
theorem okInts (n : Nat) (ns : List Int) : (ns.map Dat.int).all (kqdOk n) = true := by
  rw [List.all_eq_true]
  intro x hx
  obtain ⟨k, _, rfl⟩ := List.mem_map.mp hx
  cases n <;> rfl
theorem okOpts (n : Nat) (ns : List (Option Int)) : (ns.map optD).all (kqdOk n) = true := by
  rw [List.all_eq_true]
  intro x hx
  obtain ⟨k, _, rfl⟩ := List.mem_map.mp hx
  cases k <;> cases n <;> rfl
theorem okStrs (n : Nat) (ns : List Str) (h : ∀ x ∈ ns, PyData.strOk x = true) : (ns.map Dat.str).all (kqdOk n) = true := by
  rw [List.all_eq_true]
  intro x hx
  obtain ⟨k, hk, rfl⟩ := List.mem_map.mp hx
  cases n <;> exact h k hk
theorem foldl_one (v : Value) : ∀ (n : Nat) (acc : List Value), List.foldl (fun x1 x2 => x1 ++ x2) acc.toArray (List.replicate n #[v]) = (acc ++ List.replicate n v).toArray
  | 0, acc => by simp
  | n + 1, acc => by
    have := foldl_one v n (acc ++ [v])
    rw [List.replicate_succ, List.foldl_cons]
    rw [show acc.toArray ++ #[v] = (acc ++ [v]).toArray by simp, this, List.replicate_succ]
    simp
theorem mul_one {l : Addr} {v : Value} {k : Nat} {n : Nat} {u : Tok} {m : Str → Option Value} (F : Fr h₀ L s.heap m) (N : News h₀ L s.heap news) (hl : s.heap.get? l = some (W.listOf [v].toArray k)) (hn : n ≤ 1000)
    (h : ∀ D h', Fr h₀ L h' m → News h₀ L h' ((D, W.listOf (List.replicate n v).toArray 0) :: news) → Q (.ref D) { s with heap := h' }) : wpAny (model prog w) A (binaryOp .Mult (.ref l) (.int (n : Int) u)) Q E s := by
  refine mul_list F N hl (by (first | lia | omega)) (by (first | lia | omega)) (by simp; (first | lia | omega)) fun h' F' N' => h _ h' F' ?_
  have e : List.foldl (fun x1 x2 => x1 ++ x2) #[] (List.replicate (if ([v].toArray : Array Value).isEmpty = true then 0 else ((n : Int)).toNat) [v].toArray) = (List.replicate n v).toArray := by
    have := foldl_one v n []
    simpa using this
  rw [e] at N'
  exact N'
/-- over a list, each item unpacked -/
theorem comp_listT {env : Env} {elts : List Expr} {k : Nat} {pk : Pos} {elt : Expr} {ifs : List Expr} {scope : Scope} {cl : List (Str × Addr)} {l : Addr} {xs : List Value} {nn : Nat} {RR : Addr → Addr → Shared → Prop}
    (J : Nat → List Value → List (Addr × Obj) → Prop) (hh : A.handled = none)
    (hl : s.heap.get? l = some (W.listOf xs.toArray nn)) (hn : xs.length ≤ 1000) (h0 : J 0 [] [])
    (turn : ∀ i v ys made C D c h tk (mc : Str → Option Value) own, xs[i]? = some v → J i ys made → ys.length ≤ i → Fr s.heap C h mc → News s.heap C h ((D, W.listOf ys.toArray c) :: (made ++ own)) → OwnOff own (D :: made.map (·.1)) → (∀ p ∈ made, p.1 ≠ D) →
      wpAny (model prog w) A (assign (.Tuple elts k pk) (compEnvC scope cl C env) v) (fun _ s₃ => wpAny (model prog w) A (forIn ifs true fun c r => if r = true then do let ok ← isTrue c (compEnvC scope cl C env) (eval c (compEnvC scope cl C env)); pure (ForInStep.yield ok) else pure (ForInStep.yield r)) (fun ok s₄ =>
        if ok = true then wpAny (model prog w) A (eval elt (compEnvC scope cl C env)) (fun y s₅ => CompEnd s.heap C D (fun ys' made' => J (i + 1) (ys' ++ [y]) made') own ys c { s with heap := h, toks := tk } s₅) (fun _ _ => False) s₄
        else CompEnd s.heap C D (fun ys' made' => J (i + 1) ys' made') own ys c { s with heap := h, toks := tk } s₄) (fun _ _ => False) s₃) (fun _ _ => False) { s with heap := h, toks := tk })
    (done : ∀ ys made D C c h' tk mc, J xs.length ys made → Fr s.heap C h' mc → News s.heap C h' ((D, W.listOf ys.toArray c) :: made) → (∀ p ∈ made, p.1 ≠ D) → RR D C { s with heap := h', toks := tk }) :
    wpAny (model prog w) A (pyIter (.ref l)) (fun it s₂ => ∃ sb, CompAt prog w A env scope cl (.Tuple elts k pk) elt ifs RR sb it s₂) E s := by
  have hL : s.heap.IsList l xs.toArray := ⟨_, hl, rfl, nn, rfl⟩
  have hlt : l < s.heap.objs.size := Heap.lt_size hl
  have hne : l ≠ s.heap.objs.size := Nat.ne_of_lt hlt
  refine wpAny_pyIter_list hL ⟨s, ?_⟩
  have WL := Walks.list (prog := prog) (w := w) hh s.heap.objs.size l hne xs.toArray
  refine ⟨_, _, _, _, _, _, _, J, rfl, KTurns.ofWalks WL (fun i v s Q E st hq => by cases v <;> first | exact wpAny_letOwnedTupleGo_listiter st.1 hq | exact wpAny_pure hq), (fun i s' Q' st hq => WL.self i s' Q' _ st hq), ?_, ?_, ?_, ?_, ?_, ⟨_, _, rfl⟩, ?_, ?_, ⟨⟨_, Heap.get?_push_size _ rfl, rfl, rfl⟩, hL.at fun o e => Heap.get?_push_of_some _ e⟩, h0, ?_, ?_⟩
  · simpa using hn
  · intro b hb
    have hb' : b = s.heap.objs.size := by simpa using hb
    subst hb'
    exact Heap.get?_none_of_le (Nat.le_refl _)
  · intro b hb
    have hb' : b = s.heap.objs.size := by simpa using hb
    subst hb'
    show s.heap.objs.size < (s.heap.push _).objs.size
    rw [Heap.size_push]; exact Nat.lt_succ_self _
  · rintro i h ⟨⟨oi, hoi, _⟩, _⟩ b hb
    have hb' : b = s.heap.objs.size := by simpa using hb
    subst hb'
    exact ⟨_, hoi⟩
  · intro b hb
    have hb' : b = s.heap.objs.size ∨ b = l := by simpa using hb
    rcases hb' with rfl | rfl
    · exact .inl (by simp)
    · exact .inr ⟨_, hl⟩
  · intro b o e; exact Heap.get?_push_of_some _ e
  · show s.heap.objs.size ≤ (s.heap.push _).objs.size
    rw [Heap.size_push]; exact Nat.le_succ _
  · rintro i v ys made C D c h tk mc own hi hP hJ hyl F N hoff hd
    exact turn i v ys made C D c h tk mc own (by simpa using hP) hJ hyl F N hoff hd
  · intro ys made D C c h' tk mc hJ F' N' hd
    exact done ys made D C c h' tk mc (by simpa using hJ) F' N' hd
end
theorem warm_F10 : (Mine.hd.heap_39 = Mine.hd.heap_39) ∧ (PySem.Challenge.rw_on0355_01.foot = 6) := by
  w_top off
  k_fill
  exact ⟨rfl, rfl⟩
/-! law -/
def kindL : List Str := [Str.ofString "L", Str.ofString "R", Str.ofString "AL", Str.ofString "EN", Str.ofString "NSM", Str.ofString "WS", Str.ofString "ON", Str.ofString "BN", Str.ofString "PDI", Str.ofString "LRI", Str.ofString "PDI", Str.ofString "RLI", Str.ofString "BN"]
theorem kind_ok : ∀ k ∈ kindL, PyData.strOk k = true := by decide +kernel
theorem dir_ok (a b : Int) : PyData.strOk (dirOf a b) = true := by
  unfold dirOf
  split <;> decide +kernel
theorem due_ok {ks : List Str} {ls : List (Option Int)} {base : Int} {ends r : List Int} (h : ∀ y, PyData.strOk (kAt ks y) = true) (n : Nat) : kqdOk (n + 2) (datOf (dueOf ks ls base ends r)) = true := by
  unfold datOf dueOf
  dsimp only
  have h1 := okInts n r
  have h2 := okStrs n (r.map (kAt ks)) fun x hx => by
    obtain ⟨y, _, rfl⟩ := List.mem_map.mp hx
    exact h y
  simp only [kqdOk, List.all_cons, List.all_nil, h1, h2, dir_ok, Bool.and_self]
def kindOf (c : Int) : Str := kindL.getD (c.fmod 13).toNat Str.empty
section
variable {prog : Program} {w : World} {A : Around} {E : Value → Shared → Prop} {s : Shared} {h₀ : Heap} {L : Addr} {m : Str → Option Value}
theorem item_kinds {value slice : Expr} {k : Int} {u : Tok} {Q : Value → Shared → Prop} (F : Fr h₀ L s.heap m) (X : (Mine.hd.heap_39 w.params).In h₀) (h0 : 0 ≤ k) (h1 : k < 13) (h : ∀ t, Q (.str (kindL.getD k.toNat Str.empty) t) s)
    (hs : subscripted slice false (.ref 80) (.int k u) = operate [.ref 80, .int k u] (getItem (.ref 80) (.int k u)) := by with_unfolding_all rfl) : wpAny (model prog w) A (subscriptTail value slice (.ref 80) (.int k u)) Q E s := by
  have hg : s.heap.get? 80 = some (W.listOf [Value.str (Str.ofString "L") 298, Value.str (Str.ofString "R") 299, Value.str (Str.ofString "AL") 300, Value.str (Str.ofString "EN") 301, Value.str (Str.ofString "NSM") 302, Value.str (Str.ofString "WS") 303, Value.str (Str.ofString "ON") 304,
      Value.str (Str.ofString "BN") 305, Value.str (Str.ofString "PDI") 306, Value.str (Str.ofString "LRI") 307, Value.str (Str.ofString "PDI") 308, Value.str (Str.ofString "RLI") 309, Value.str (Str.ofString "BN") 310].toArray 0) := F.keep _ _ (X 80 _ (by k_is))
  have hk : k.toNat < kindL.length := by show k.toNat < 13; (first | lia | omega)
  refine str_at hg (ks := kindL) ?_ h0 (by decide) (x := kindL.getD k.toNat Str.empty) (by rw [List.getD_eq_getElem?_getD, List.getElem?_eq_getElem hk]; rfl) h hs
  repeat (first | exact StrsAre.nil | refine StrsAre.cons _ _ ?_)
end
local macro_rules | `(tactic| walk_at "subscriptTail Name BinOp ref int") => `(tactic| (k_here; (with_reducible show wpAny _ _ (subscriptTail _ _ (Value.ref 80) (Value.int _ _)) _ _ _); k_dflt (refine' item_kinds ?F ?X ?a ?b ?_; (case F | X => k_asm); (case a | b => lia); k_whole; intro t')))
local macro_rules | `(tactic| walk_at "binaryOp Mult ref int") => `(tactic| (with_reducible refine stop_mul ?_))
local macro_rules | `(tactic| walk_at "compareOp Eq ref ref") => `(tactic| (with_reducible refine stop_eq ?_))
theorem one_end {base : Heap} {C D Dl : Addr} {o : Obj} {own made : List (Addr × Obj)} {ys : List Value} {c : Nat} {s₁ : Shared} {h : Heap} {tk : Nat} {mc : Str → Option Value} {J : List Value → List (Addr × Obj) → Prop} (hd : ∀ p ∈ made, p.1 ≠ D) (hoff : OwnOff own (D :: made.map (·.1)))
    (F : Fr base C h mc) (N : News base C h ((Dl, o) :: (D, W.listOf ys.toArray c) :: (made ++ own))) (l2 : ∀ q ∈ (D, W.listOf ys.toArray c) :: (made ++ own), Dl ≠ q.1)
    (hj : J ys ((Dl, o) :: made)) : CompEnd base C D J own ys c s₁ { s₁ with heap := h, toks := tk } := by
  refine CompEnd.intro ((Dl, o) :: made) F N (.tail _ (.head _)) (fun p hp => ?_) (fun p hp => .tail _ (.tail _ (List.mem_append_right _ hp))) (fun q hq b hb => ?_) (fun p hp => ?_) hj
  · rcases List.mem_cons.mp hp with rfl | hp
    · exact .head _
    · exact .tail _ (.tail _ (List.mem_append_left _ hp))
  · rcases List.mem_cons.mp hb with rfl | hb
    · exact Ne.symm (l2 q (.tail _ (List.mem_append_right _ hq)))
    · exact hoff q hq b (.tail _ hb)
  · rcases List.mem_cons.mp hp with rfl | hp
    · exact l2 _ (.head _)
    · exact hd p hp
theorem codes_end {base : Heap} {C D Dl : Addr} {own made : List (Addr × Obj)} {ds : List SeqD} {d : SeqD} {ys zs : List Value} {i c cl' : Nat} {s₁ : Shared} {h : Heap} {tk : Nat} {mc : Str → Option Value} (hd : ∀ p ∈ made, p.1 ≠ D) (hoff : OwnOff own (D :: made.map (·.1)))
    (hdi : ds[i]? = some d) (F : Fr base C h mc) (N : News base C h ((Dl, W.listOf zs.toArray cl') :: (D, W.listOf ys.toArray c) :: (made ++ own))) (l2 : ∀ q ∈ (D, W.listOf ys.toArray c) :: (made ++ own), q.1 < Dl)
    (hJ : DatAll made ys ((ds.take i).map fun d => Dat.list (d.codes.map .int))) (hz : IntsAre zs d.codes) :
    CompEnd base C D (fun ys' made' => DatAll made' (ys' ++ [Value.ref Dl]) ((ds.take (i + 1)).map fun d => Dat.list (d.codes.map .int))) own ys c s₁ { s₁ with heap := h, toks := tk } := by
  refine CompEnd.intro ((Dl, W.listOf zs.toArray cl') :: made) F N (.tail _ (.head _)) (fun p hp => ?_) (fun p hp => .tail _ (.tail _ (List.mem_append_right _ hp))) (fun q hq b hb => ?_) (fun p hp => ?_) ?_
  · rcases List.mem_cons.mp hp with rfl | hp
    · exact .head _
    · exact .tail _ (.tail _ (List.mem_append_left _ hp))
  · rcases List.mem_cons.mp hb with rfl | hb
    · exact Nat.ne_of_lt (l2 q (.tail _ (List.mem_append_right _ hq)))
    · exact hoff q hq b (.tail _ hb)
  · rcases List.mem_cons.mp hp with rfl | hp
    · exact Nat.ne_of_gt (l2 _ (.head _))
    · exact hd p hp
  · rw [tm_succ _ hdi]
    exact DatAll.append (hJ.mono fun p hp => .tail _ hp) (.one (.list (.head _) (ints_dat hz)))
theorem bk_mem {α : Type} {p x1 x2 x3 x4 x5 : α} {bk a b c d e : List α} (h : p ∈ bk) : p ∈ x1 :: x2 :: x3 :: x4 :: x5 :: (bk ++ a ++ b ++ c ++ d ++ e) :=
  .tail _ (.tail _ (.tail _ (.tail _ (.tail _ (List.mem_append_left _ (List.mem_append_left _ (List.mem_append_left _ (List.mem_append_left _ (List.mem_append_left _ h)))))))))
theorem mid_mem {α : Type} {p x1 x2 x3 x4 x5 : α} {bk a b c d e : List α} (h : p ∈ a ++ b ++ c) : p ∈ x1 :: x2 :: x3 :: x4 :: x5 :: (bk ++ a ++ b ++ c ++ d ++ e) := by
  refine .tail _ (.tail _ (.tail _ (.tail _ (.tail _ (List.mem_append_left _ (List.mem_append_left _ ?_))))))
  simp only [List.append_assoc] at h ⊢
  exact List.mem_append_right _ h
inductive DueItem (led : List (Addr × Obj)) (rs : List (List Int)) (i : Nat) (v : Value) : Prop
  | mk (r : List Int) (T pa : Addr) (us : List Value) (n k : Nat) (v2 v3 v4 v5 : Value) (h1 : rs[i]? = some r) (h2 : v = .ref T) (h3 : (T, ({ cls := .type "tuple", data := .seq [Value.ref pa, v2, v3, v4, v5].toArray k } : Obj)) ∈ led)
    (h4 : (pa, W.listOf us.toArray n) ∈ led) (h5 : IntsAre us r)
theorem due_item {led : List (Addr × Obj)} {ks : List Str} {ls : List (Option Int)} {base : Int} {ends : List Int} : ∀ {rs : List (List Int)} {vs : List Value}, DatAll led vs (rs.map fun r => datOf (dueOf ks ls base ends r)) → ∀ (i : Nat) (v : Value), vs[i]? = some v →
    DueItem led rs i v
  | [], vs, h, i, v, e => by cases h; simp at e
  | r :: rs, vs, h, i, v, e => by
    cases h with
    | cons hd hr =>
      cases i with
      | zero =>
        have e' := Option.some.inj e
        subst e'
        cases hd with
        | tuple hm ha =>
          cases ha with
          | cons h1 ha =>
            cases ha with
            | cons h2 ha =>
              cases ha with
              | cons h3 ha =>
                cases ha with
                | cons h4 ha =>
                  cases ha with
                  | cons h5 ha =>
                    cases ha
                    cases h1 with
                    | list hm2 ha2 => exact ⟨r, _, _, _, _, _, _, _, _, _, rfl, rfl, hm, hm2, ints_of_dat ha2⟩
      | succ j =>
        obtain ⟨r', T, pa, us, n, k, v2, v3, v4, v5, h1, h2, h3, h4, h5⟩ := due_item hr j v e
        exact ⟨r', T, pa, us, n, k, v2, v3, v4, v5, h1, h2, h3, h4, h5⟩
section
variable {prog : Program} {w : World} {A : Around} {s : Shared} {p : Program} {loose : List Str} {mean : ExcName → Option Value} {mg mb : Str → Option Value}
theorem law_spec (T : Top p loose mean mg mb s.heap) (KX : (Mine.hd.heap_39 w.params).In s.heap)
    {a : Addr} {vs : List Value} {ns : List Int} (hl : s.heap.IsList a vs.toArray) (hI : IntsAre vs ns) (hn : ns.length ≤ 63) :
    codeAny (model prog w) callerA (.call (.ref 109) ⟨[.ref a], []⟩) (RetK s fun v _ => v = .bool true) s := by
  refine' code_my (binds := [(Str.ofString "script", .ref a)]) ?T ?X ?k6 ?k7 ?k8 ?k9 ?kB ?c5 ?c2 ?c3 ?c4 ?_
  walk_at "MINE enter"
  intro L' h₁ F N
  k_fold
  k_steps
  unfold Stop
  rename Fr _ _ _ _ => F0
  rename News _ _ _ _ => N0
  rename_i D0 cs0 _ hI0 hC0 hL0 _
  have TC := T.keeps F0.keep
  have KXc := KX.keeps F0.keep
  have hl0 := hI0.length
  refine comp_list (fun i ys made => made = [] ∧ IntsAre ys (((ns.take 16).take i).map fun c => c.fmod 1000003)) rfl rfl rfl (N0.get (.head _)) (by (first | lia | omega)) ⟨rfl, .nil⟩ ?_ ?_
  · rintro i v ys made C D c h tk mc own hv ⟨rfl, hY⟩ hyl F N hoff hd
    obtain ⟨y, ty, rfl, hy⟩ := hI0.at i v hv
    refine wpAny_pure ?_
    simp only [if_true]
    refine hideQ fun Q9 hQ9 => ?_
    k_steps
    rename Fr _ _ _ _ => F
    rename News _ _ _ _ => N
    exact hQ9 _ _ (CompEnd.intro [] F N (.head _) (fun _ h => nomatch h) (fun p hp => .tail _ hp) (fun _ _ _ h => nomatch h) (fun _ h => nomatch h) ⟨rfl, by rw [tm_succ _ hy]; exact hY.append (IntsAre.cons _ _ IntsAre.nil)⟩)
  · rintro cs made D C c h' tk mc ⟨rfl, hY⟩ F' N' hd
    refine' comp_asg (L := L') ?ca ?cb ?cc ?cd ?ce ?cf ?cg ?_
    case ca => exact rfl
    case cb => exact rfl
    case cc => exact rfl
    case cd => exact F0
    case ce => exact N0
    case cf => exact F'
    case cg => exact N'
    clear F0 N0 F' N' hd TC KXc
    intro h2 h' tk F N offD
    clear offD
    replace N : News s.heap L' h' [(D, W.listOf cs.toArray c)] := fun p hp => N p (by rw [List.mem_singleton.mp hp]; exact .head _)
    rw [hl0, List.take_length] at hY
    obtain ⟨cl, hcl⟩ : ∃ cl, cl = (ns.take 16).map fun c => c.fmod 1000003 := ⟨_, rfl⟩
    rw [← hcl] at hY
    have hcs := hY.length
    have hcl16 : cl.length ≤ 16 := by rw [hcl, List.length_map, List.length_take]; (first | lia | omega)
    clear hI0 hC0 hL0 hl0
    k_steps
    unfold Stop
    rename Fr _ _ _ _ => F0
    rename News _ _ _ _ => N0
    have TC := T.keeps F0.keep
    have KXc := KX.keeps F0.keep
    refine comp_list (fun i ys made => made = [] ∧ StrsAre ys ((cl.take i).map kindOf)) rfl rfl rfl (N0.get (a := D) (by k_mem)) (by (first | lia | omega)) ⟨rfl, .nil⟩ ?_ ?_
    · rintro i v ys made C D c h tk mc own hv ⟨rfl, hZ⟩ hyl F N hoff hd
      obtain ⟨y, ty, rfl, hy⟩ := hY.at i v hv
      have y1 : 0 ≤ y.fmod 13 := Int.fmod_nonneg_of_pos y (by decide)
      have y2 : y.fmod 13 < 13 := Int.fmod_lt_of_pos y (by decide)
      refine wpAny_pure ?_
      simp only [if_true]
      refine hideQ fun Q9 hQ9 => ?_
      k_steps
      rename Fr _ _ _ _ => F
      rename News _ _ _ _ => N
      exact hQ9 _ _ (CompEnd.intro [] F N (.head _) (fun _ h => nomatch h) (fun p hp => .tail _ hp) (fun _ _ _ h => nomatch h) (fun _ h => nomatch h) ⟨rfl, by rw [tm_succ _ hy]; exact hZ.append' (StrsAre.cons _ _ StrsAre.nil)⟩)
    · rintro kv made Dk C c2 h' tk mc ⟨rfl, hK⟩ F' N' hd
      refine ⟨mc, F'.ns, fun h'' hsb => ?_⟩
      obtain ⟨F, N, offK⟩ := comp_back F0 N0 F' N' hsb
      clear F0 N0 F' N' hd TC KXc hsb offK
      simp only [List.nil_append] at N
      rw [hcs, List.take_length] at hK
      obtain ⟨ks, hks⟩ : ∃ ks, ks = cl.map kindOf := ⟨_, rfl⟩
      rw [← hks] at hK
      have hkl : ks.length ≤ 16 := by rw [hks, List.length_map]; exact hcl16
      have hin : ∀ k ∈ ks, k ∈ kindL := by
        intro k hk
        rw [hks] at hk
        obtain ⟨c, _, rfl⟩ := List.mem_map.mp hk
        have y1 : 0 ≤ c.fmod 13 := Int.fmod_nonneg_of_pos c (by decide)
        have y2 : c.fmod 13 < 13 := Int.fmod_lt_of_pos c (by decide)
        have hk : (c.fmod 13).toNat < kindL.length := by show (c.fmod 13).toNat < 13; (first | lia | omega)
        unfold kindOf
        rw [List.getD_eq_getElem?_getD, List.getElem?_eq_getElem hk]
        exact List.getElem_mem hk
      have hF : Str.ofString "FSI" ∉ ks := fun h => absurd (hin _ h) (by decide)
      have hB : Str.ofString "B" ∉ ks := fun h => absurd (hin _ h) (by decide)
      have hstr : ∀ y, PyData.strOk (kAt ks y) = true := by
        intro y
        unfold kAt
        rw [List.getD_eq_getElem?_getD]
        cases e : ks[y.toNat]? with
        | none => decide +kernel
        | some k => exact kind_ok k (hin k (List.mem_of_getElem? e))
      have hstrs : ∀ x ∈ ks, PyData.strOk x = true := fun x hx => kind_ok x (hin x hx)
      clear hin
      k_steps
      unfold Stop
      rename Fr _ _ _ _ => F
      rename News _ _ _ _ => N
      generalize (cl.sum.fdiv 13).fmod 2 = base at F N ⊢
      have hkv := hK.length
      refine call_ret (parted_spec (T.keeps F.keep) (KX.keeps F.keep) (N.get (a := Dk) (by k_mem)) hK (by (first | lia | omega))) F N ?_
      rintro v h' tk ⟨tp, ah, al, ao, hv, lv, ev, n1, n2, n3, rfl, hH, hLv, hE, hfr⟩ F N st fresh
      obtain ⟨N1, -⟩ := fresh _ hfr
      have gK := N.get (a := Dk) (by k_mem)
      replace N := N1.append N
      replace N : News s.heap L' h' [(tp, ({ cls := .type "tuple", data := .seq #[.ref ah, .ref al, .ref ao] } : Obj)), (ah, W.listOf hv.toArray n1), (al, W.listOf lv.toArray n2), (ao, W.listOf ev.toArray n3), (Dk, W.listOf kv.toArray c2)] := fun p hp => by
        rcases List.mem_cons.mp hp with rfl | hp
        · exact N _ (.head _)
        · rcases List.mem_cons.mp hp with rfl | hp
          · exact N _ (.tail _ (.head _))
          · rcases List.mem_cons.mp hp with rfl | hp
            · exact N _ (.tail _ (.tail _ (.head _)))
            · rcases List.mem_cons.mp hp with rfl | hp
              · exact N _ (.tail _ (.tail _ (.tail _ (.head _))))
              · rw [List.mem_singleton.mp hp]
                exact N _ (by k_mem)
      clear fresh st N1 hfr gK
      k_steps
      unfold Stop
      rename Fr _ _ _ _ => F0
      rename News _ _ _ _ => N0
      rename_i Dc cc _ _ _ _
      refine comp_range (fun i ys made => made = [] ∧ IntsAre ys ((List.range i).map fun j : Nat => 97 + (j : Int))) rfl rfl rfl (by (first | lia | omega)) ⟨rfl, .nil⟩ ?_ ?_
      · rintro j t ys made C D c h tk mc own hj ⟨rfl, hY⟩ hyl F N hoff hd
        refine wpAny_pure ?_
        simp only [if_true]
        refine hideQ fun Q9 hQ9 => ?_
        k_steps
        rename Fr _ _ _ _ => F
        rename News _ _ _ _ => N
        exact hQ9 _ _ (CompEnd.intro [] F N (.head _) (fun _ h => nomatch h) (fun p hp => .tail _ hp) (fun _ _ _ h => nomatch h) (fun _ h => nomatch h) ⟨rfl, by rw [List.range_succ, List.map_append]; exact hY.append (IntsAre.cons _ _ IntsAre.nil)⟩)
      · rintro zv made Dz C c4 h' tk mc ⟨rfl, hZ⟩ F' N' hd
        refine ⟨mc, F'.ns, fun h'' hsb => ?_⟩
        obtain ⟨F, N, offZ⟩ := comp_back F0 N0 F' N' hsb
        clear F0 N0 F' N' hd hsb offZ
        simp only [List.nil_append] at N
        rw [hkv] at hZ
        obtain ⟨cdl, hcdl⟩ : ∃ cdl, cdl = (List.range ks.length).map fun j : Nat => 97 + (j : Int) := ⟨_, rfl⟩
        rw [← hcdl] at hZ
        have hzl := hZ.length
        have hcl9 : cdl.length = ks.length := by rw [hcdl, List.length_map, List.length_range]
        have hll : lv.length = ks.length := by rw [hLv.length, found_len]
        have hhl : hv.length = ks.length := by rw [hH.length, homes_len]
        have hel := hE.length
        k_steps
        unfold Stop
        rename Fr _ _ _ _ => F
        rename News _ _ _ _ => N
        rename_i W4 d4 _ _ W3 d3 _ _ W2 d2 _ _ W1 d1 _ _ Wt _ _ _
        obtain ⟨ls, hls⟩ : ∃ ls, ls = (partAt ks base ks.length).found := ⟨_, rfl⟩
        have hlk : ks.length = ls.length := by rw [hls, found_len]
        have hn64 : ks.length ≤ 64 := by (first | lia | omega)
        have lawR := law_runs (base := base) hF hn64
        have lawA := law_asc (base := base) hF hn64
        have lawJ := law_join (base := base) hF hn64
        have lawG := law_good (base := base) hn64
        have lawS := law_seq (base := base) hF hn64
        rw [← hls] at hLv lawR lawA lawJ lawG lawS
        obtain ⟨hms, hhms⟩ : ∃ hms, hms = (partAt ks base ks.length).homes := ⟨_, rfl⟩
        have hlh : hms.length = ls.length := by rw [hhms, homes_len, hlk]
        rw [← hhms] at hH lawR lawA lawG lawS
        obtain ⟨ends, hends⟩ : ∃ ends, ends = (partAt ks base ks.length).op.drop 1 := ⟨_, rfl⟩
        rw [← hends] at hE lawS
        clear hends hhms hls
        obtain ⟨bk, hbk⟩ : ∃ bk : List (Addr × Obj), bk = [(Wt, ({ cls := .type "tuple", data := .seq #[.ref W4, .ref W3, .ref W2, .ref W1] } : Obj)), (W1, W.listOf zv.toArray d1), (W2, W.listOf kv.toArray d2), (W3, W.listOf lv.toArray d3), (W4, W.listOf kv.toArray d4),
          (Dz, W.listOf zv.toArray c4), (Dc, W.listOf kv.toArray cc), (ah, W.listOf hv.toArray n1), (al, W.listOf lv.toArray n2), (ao, W.listOf ev.toArray n3), (Dk, W.listOf kv.toArray c2)] := ⟨_, rfl⟩
        have mWt : (Wt, ({ cls := .type "tuple", data := .seq #[.ref W4, .ref W3, .ref W2, .ref W1] } : Obj)) ∈ bk := by rw [hbk]; k_mem
        have mW1 : (W1, W.listOf zv.toArray d1) ∈ bk := by rw [hbk]; k_mem
        have mW2 : (W2, W.listOf kv.toArray d2) ∈ bk := by rw [hbk]; k_mem
        have mW3 : (W3, W.listOf lv.toArray d3) ∈ bk := by rw [hbk]; k_mem
        have mW4 : (W4, W.listOf kv.toArray d4) ∈ bk := by rw [hbk]; k_mem
        have mDz : (Dz, W.listOf zv.toArray c4) ∈ bk := by rw [hbk]; k_mem
        have mDc : (Dc, W.listOf kv.toArray cc) ∈ bk := by rw [hbk]; k_mem
        have mah : (ah, W.listOf hv.toArray n1) ∈ bk := by rw [hbk]; k_mem
        have mal : (al, W.listOf lv.toArray n2) ∈ bk := by rw [hbk]; k_mem
        have mao : (ao, W.listOf ev.toArray n3) ∈ bk := by rw [hbk]; k_mem
        have mDk : (Dk, W.listOf kv.toArray c2) ∈ bk := by rw [hbk]; k_mem
        replace N := newsOf (l := bk) N (by
          rw [hbk]
          exact (fm (by k_mem) (fm (by k_mem) (fm (by k_mem) (fm (by k_mem) (fm (by k_mem) (fm (by k_mem) (fm (by k_mem) (fm (by k_mem) (fm (by k_mem) (fm (by k_mem) (fm1 (by k_mem)))))))))))))
        clear hbk
        refine call_ret (due_spec (T.keeps F.keep) (KX.keeps F.keep) (N.get (a := Dk) mDk) hK (N.get (a := ah) mah) hH (N.get (a := al) mal) hLv (N.get (a := ao) mao) hE (by (first | lia | omega)) hlk hlh lawA) F N ?_
        rintro v h' tk ⟨du, nu, uv, ledu, rfl, hU, hfr⟩ F N st fresh
        obtain ⟨N1, -⟩ := fresh _ hfr
        replace N := news_add N1 N
        clear fresh st N1 hfr
        k_steps
        unfold Stop
        rename Fr _ _ _ _ => F
        rename News _ _ _ _ => N
        have lawG2 : ∀ r ∈ joinAt ks (pairsAt ks ks.length).2 (runsAt ls ls.length).1 (runsAt ls ls.length).1.length, r ≠ [] ∧ r.length ≤ 64 ∧ (∀ x ∈ r, 0 ≤ x ∧ x < ls.length) ∧ ∃ l, ls[(r.headD 0).toNat]? = some (some l) := by
          intro r hr
          rw [lawR] at hr
          obtain ⟨g1, g2, g3, g4⟩ := lawG r hr
          exact ⟨g1, by (first | lia | omega), fun x hx => by have := g3 x hx; (first | lia | omega), g4⟩
        refine call_ret (iso_spec0 (T.keeps F.keep) (KX.keeps F.keep) (N.get (a := Dk) (.tail _ (List.mem_append_left _ mDk))) hK (N.get (a := al) (.tail _ (List.mem_append_left _ mal))) hLv (N.get (a := Dc) (.tail _ (List.mem_append_left _ mDc))) hK (by (first | lia | omega)) hlk hlk hB lawJ lawG2) F N ?_
        rintro v h' tk ⟨pl, np, pv, ledp, rfl, hP, hfr⟩ F N st fresh
        obtain ⟨N1, -⟩ := fresh _ hfr
        replace N := news_add N1 N
        clear fresh st N1 hfr
        simp only [List.cons_append, List.nil_append] at N
        k_steps
        unfold Stop
        rename Fr _ _ _ _ => F
        rename News _ _ _ _ => N
        refine call_ret (iso_spec (T.keeps F.keep) (KX.keeps F.keep) (N.get (a := Dk) (.tail _ (.tail _ (List.mem_append_left _ (List.mem_append_left _ mDk))))) hK (N.get (a := al) (.tail _ (.tail _ (List.mem_append_left _ (List.mem_append_left _ mal))))) hLv (N.get (a := Dc) (.tail _ (.tail _ (List.mem_append_left _ (List.mem_append_left _ mDc))))) hK (N.get (a := Dz) (.tail _ (.tail _ (List.mem_append_left _ (List.mem_append_left _ mDz))))) hZ (by (first | lia | omega)) hlk hlk (by (first | lia | omega)) hB lawJ lawG2) F N ?_
        rintro v h' tk ⟨tl, nt, tv, ledt, rfl, hT, hfr⟩ F N st fresh
        obtain ⟨N1, -⟩ := fresh _ hfr
        replace N := news_add N1 N
        clear fresh st N1 hfr
        simp only [List.cons_append, List.nil_append] at N
        k_steps
        unfold Stop
        rename Fr _ _ _ _ => F
        rename News _ _ _ _ => N
        rw [lawR] at hP hT
        obtain ⟨rs, hrs⟩ : ∃ rs, rs = runsTo ks hms ls (homesOf ks).length := ⟨_, rfl⟩
        rw [← hrs] at hP hT hU lawS lawG
        have hrl : rs.length ≤ 64 := by
          rw [hrs]
          unfold runsTo
          refine Nat.le_trans (List.length_filter_le _ _) ?_
          rw [List.length_map, List.length_take]
          unfold homesOf initsTo
          rw [List.length_cons, List.length_map]
          have := List.length_filter_le (fun j : Nat => isLR (kAt ks (j : Int))) (List.range ks.length)
          rw [List.length_range] at this
          (first | lia | omega)
        clear lawR lawA lawJ lawG2
        obtain ⟨dd, hdd⟩ : ∃ dd, dd = rs.map fun r => datOf (dueOf ks ls base ends r) := ⟨_, rfl⟩
        have edd : ∀ c, (rs.map (seqOf ks ls ks base c (pairsAt ks ks.length).2)).map datOf = dd := fun c => by
          rw [hdd, List.map_map]
          exact List.map_congr_left fun r hr => lawS c r hr
        rw [← hdd] at hU
        have hok : ∀ d ∈ dd, kqdOk 8 d = true := by
          intro d hd
          rw [hdd] at hd
          obtain ⟨r, _, rfl⟩ := List.mem_map.mp hd
          exact due_ok hstr 6
        have hok9 : kqdOk 9 (.list dd) = true := by
          show dd.all (kqdOk 8) = true
          rw [List.all_eq_true]; exact hok
        have hpl : ∀ c, ∀ d ∈ rs.map (seqOf ks ls ks base c (pairsAt ks ks.length).2), d.places.length ≤ 64 ∧ d.classes.length ≤ 64 := by
          intro c d hd
          obtain ⟨r, hr, rfl⟩ := List.mem_map.mp hd
          have := (lawG r hr).2.1
          refine ⟨by show r.length ≤ 64; (first | lia | omega), by show (r.map (kAt ks)).length ≤ 64; rw [List.length_map]; (first | lia | omega)⟩
        replace N : News s.heap L' _ ((tl, W.listOf tv.toArray nt) :: (pl, W.listOf pv.toArray np) :: (du, W.listOf uv.toArray nu) :: (bk ++ ledu ++ ledp ++ ledt)) := fun p hp => N p (.tail _ hp)
        refine call_ret (told_spec (T.keeps F.keep) (KX.keeps F.keep) (N.get (a := pl) (.tail _ (.head _))) hP (fun q hq => (N q (.tail _ (.tail _ (.tail _ (List.mem_append_left _ (List.mem_append_right _ hq)))))).1) (by rw [List.length_map]; exact hrl) (hpl none)) F N ?_
        rintro v h' tk ⟨t1, m1, tv1, led1, rfl, hT1, hfr⟩ F N st fresh
        rw [edd] at hT1
        obtain ⟨N1, -⟩ := fresh _ hfr
        replace N := news_add N1 N
        clear fresh st N1 hfr
        simp only [List.cons_append] at N
        k_steps
        unfold Stop
        rename Fr _ _ _ _ => F
        rename News _ _ _ _ => N
        refine ne_same N (DatIn.list (.head _) (hT1.mono fun q hq => .tail _ (.tail _ (.tail _ (.tail _ (List.mem_append_right _ hq)))))) (fun _ h => h) (DatIn.list (.tail _ (.tail _ (.tail _ (.head _)))) (hU.mono fun q hq => .tail _ (.tail _ (.tail _ (.tail _ (List.mem_append_left _ (List.mem_append_left _ (List.mem_append_left _ (List.mem_append_right _ hq))))))))) (fun _ h => h) hok9 (by rw [cLine_is]; simp only [units_deeper, units_caller]; decide) ?_
        replace N := fun p hp => N p (.tail _ hp)
        clear hT1
        replace N : News s.heap L' _ ((tl, W.listOf tv.toArray nt) :: (pl, W.listOf pv.toArray np) :: (du, W.listOf uv.toArray nu) :: (bk ++ ledu ++ ledp ++ ledt ++ led1)) := N
        k_steps
        unfold Stop
        rename Fr _ _ _ _ => F
        rename News _ _ _ _ => N
        refine call_ret (told_spec (T.keeps F.keep) (KX.keeps F.keep) (N.get (a := tl) (.head _)) hT (fun q hq => (N q (.tail _ (.tail _ (.tail _ (List.mem_append_left _ (List.mem_append_right _ hq)))))).1) (by rw [List.length_map]; exact hrl) (hpl _)) F N ?_
        rintro v h' tk ⟨t2, m2, tv2, led2, rfl, hT2, hfr⟩ F N st fresh
        rw [edd] at hT2
        obtain ⟨N1, -⟩ := fresh _ hfr
        replace N := news_add N1 N
        clear fresh st N1 hfr
        simp only [List.cons_append] at N
        k_steps
        unfold Stop
        rename Fr _ _ _ _ => F
        rename News _ _ _ _ => N
        refine ne_same N (DatIn.list (.head _) (hT2.mono fun q hq => .tail _ (.tail _ (.tail _ (.tail _ (List.mem_append_right _ hq)))))) (fun _ h => h) (DatIn.list (.tail _ (.tail _ (.tail _ (.head _)))) (hU.mono fun q hq => .tail _ (.tail _ (.tail _ (.tail _ (List.mem_append_left _ (List.mem_append_left _ (List.mem_append_left _ (List.mem_append_left _ (List.mem_append_right _ hq)))))))))) (fun _ h => h) hok9 (by rw [cLine_is]; simp only [units_deeper, units_caller]; decide) ?_
        clear hT2
        k_steps
        unfold Stop
        rename Fr _ _ _ _ => F
        rename News _ _ _ _ => N
        refine ne_same (n₁ := _) (n₂ := _) (d := .tuple [.list (ks.map .str), .list (ls.map optD), .list (ks.map .str), .list (cdl.map .int)]) N
          (DatIn.tuple (vs := [.ref Dk, .ref al, .ref Dc, .ref Dz]) (n := 0) (.head _) (.cons (.list (bk_mem mDk) (strs_dat hK)) (.cons (.list (bk_mem mal) (opts_dat hLv)) (.cons (.list (bk_mem mDc) (strs_dat hK)) (.cons (.list (bk_mem mDz) (ints_dat hZ)) .nil))))) (fun _ h => h)
          (DatIn.tuple (vs := [.ref W4, .ref W3, .ref W2, .ref W1]) (n := 0) (bk_mem mWt) (.cons (.list (bk_mem mW4) (strs_dat hK)) (.cons (.list (bk_mem mW3) (opts_dat hLv)) (.cons (.list (bk_mem mW2) (strs_dat hK)) (.cons (.list (bk_mem mW1) (ints_dat hZ)) .nil))))) (fun _ h => h) ?_ (by rw [cLine_is]; simp only [units_deeper, units_caller]; decide) ?_
        · simp only [kqdOk, List.all_cons, List.all_nil, okInts, okOpts, okStrs _ _ hstrs, Bool.and_self]
        k_steps
        unfold Stop
        rename Fr _ _ _ _ => F0
        rename News _ _ _ _ => N0
        replace N0 : News s.heap L' _ ((tl, W.listOf tv.toArray nt) :: (pl, W.listOf pv.toArray np) :: (du, W.listOf uv.toArray nu) :: (ledu ++ ledp ++ ledt)) := newsOf N0 (fm (.tail _ (.tail _ (.head _))) (fm (.tail _ (.tail _ (.tail _ (.head _)))) (fm (.tail _ (.tail _ (.tail _ (.tail _ (.head _))))) (fun p hp => mid_mem hp))))
        clear hK hZ hzl hLv hE hH
        have TC := T.keeps F0.keep
        have KXc := KX.keeps F0.keep
        refine comp_list (fun i ys made => DatAll made ys (((rs.map (seqOf ks ls ks base (some cdl) (pairsAt ks ks.length).2)).take i).map fun d => Dat.list (d.codes.map .int))) rfl rfl rfl (N0.get (a := tl) (.head _)) (by rw [hT.length, List.length_map]; (first | lia | omega)) .nil ?_ ?_
        · rintro i v ys made C D c h tk mc own hv hJ hyl F N hoff hd
          obtain ⟨d, hdi, pa, us, pn, ca, ws, cn, oa, zs, on, tl', ts, te, hin, q1, hu, q2, hw, q3, hz⟩ := seqs_get hT i v hv
          obtain ⟨x, dx, es, k, rfl, q4, q5, g1, g2, g3, g4, g5, g6⟩ := hin
          have hzl2 : zs.length ≤ 64 := by
            rw [hz.length]
            obtain ⟨r, hr, rfl⟩ := List.mem_map.mp (List.mem_of_getElem? hdi)
            have := (lawG r hr).2.1
            show (r.map _).length ≤ 64
            rw [List.length_map]; (first | lia | omega)
          have f3 := (N0 _ (.tail _ (.tail _ (.tail _ (List.mem_append_right _ q3))))).1
          have f4 := (N0 _ (.tail _ (.tail _ (.tail _ (List.mem_append_right _ q4))))).1
          have f5 := (N0 _ (.tail _ (.tail _ (.tail _ (List.mem_append_right _ q5))))).1
          dsimp only at f3 f4 f5
          refine wpAny_pure ?_
          simp only [if_true]
          clear g1 g2 g3 g4 g5 F0 N0
          refine hideQ fun Q9 hQ9 => ?_
          k_steps
          rename Fr _ _ _ _ => F2
          rename News _ _ _ _ => N2
          rename_i Dl cl' _ l2
          exact hQ9 _ _ (codes_end (hd := hd) (hoff := hoff) hdi F2 N2 l2 hJ hz)
        · rintro gv made Dg C c5 h' tk mc hG F' N' hd
          refine ⟨mc, F'.ns, fun h'' hsb => ?_⟩
          obtain ⟨F, N, offZ⟩ := comp_back F0 N0 F' N' hsb
          clear F0 N0 F' N' hd hsb offZ TC KXc
          rw [hT.length, List.take_length] at hG
          k_steps
          unfold Stop
          rename Fr _ _ _ _ => F0
          rename News _ _ _ _ => N0
          rw [hdd] at hU
          have hUl := hU.length
          refine comp_listT (fun i ys made => DatAll made ys ((rs.take i).map fun r => Dat.list ((r.map fun x => 97 + x).map .int))) rfl (N0.get (a := du) (.tail _ (List.mem_append_right _ (.tail _ (.tail _ (.head _)))))) (by rw [hUl, List.length_map]; (first | lia | omega)) .nil ?_ ?_
          · rintro i v ys made C D c h tk mc own hv hJ hyl F N hoff hd
            obtain ⟨r, T0, pa, us, n9, k9, v2, v3, v4, v5, hri, rfl, q1, q2, hI9⟩ := due_item hU i v hv
            have f1 := (N0 _ (.tail _ (List.mem_append_right _ (.tail _ (.tail _ (.tail _ (List.mem_append_left _ (List.mem_append_left _ q1)))))))).1
            have f2 := (N0 _ (.tail _ (List.mem_append_right _ (.tail _ (.tail _ (.tail _ (List.mem_append_left _ (List.mem_append_left _ q2)))))))).1
            dsimp only at f1 f2
            have hrl9 : us.length ≤ 64 := by
              rw [hI9.length]
              have := (lawG r (List.mem_of_getElem? hri)).2.1
              (first | lia | omega)
            refine unpackN_ F N ⟨_, F.keep _ _ f1, rfl, _, rfl⟩ rfl rfl rfl fun h1 F1 N1 => ?_
            refine assignInOrder_cons (comp_store rfl rfl F1 N1 fun h2 F2 N2 => ?_)
            refine assignInOrder_cons (comp_store rfl rfl F2 N2 fun h3 F3 N3 => ?_)
            refine assignInOrder_cons (comp_store rfl rfl F3 N3 fun h4 F4 N4 => ?_)
            refine assignInOrder_cons (comp_store rfl rfl F4 N4 fun h5 F5 N5 => ?_)
            refine assignInOrder_cons (comp_store rfl rfl F5 N5 fun h6 F6 N6 => assignInOrder_nil ?_)
            refine wpAny_pure ?_
            simp only [if_true]
            clear F N F1 N1 F2 N2 F3 N3 F4 N4 F5 N5 F0 N0
            k_steps
            unfold Stop
            rename Fr _ _ _ _ => Fc
            rename News _ _ _ _ => Nc
            refine comp_list (fun j zs md => md = [] ∧ IntsAre zs ((r.take j).map fun x => 97 + x)) rfl rfl rfl (Fc.keep _ _ f2) (by (first | lia | omega)) ⟨rfl, .nil⟩ ?_ ?_
            · rintro j v zs made3 C3 D3 c3 h tk mc own3 hv3 ⟨rfl, hZ3⟩ hyl3 F N hoff3 hd3
              obtain ⟨y, ty, rfl, hy⟩ := hI9.at j v hv3
              refine wpAny_pure ?_
              simp only [if_true]
              refine hideQ fun Q9 hQ9 => ?_
              k_steps
              rename Fr _ _ _ _ => F
              rename News _ _ _ _ => N
              exact hQ9 _ _ (CompEnd.intro [] F N (.head _) (fun _ h => nomatch h) (fun p hp => .tail _ hp) (fun _ _ _ h => nomatch h) (fun _ h => nomatch h) ⟨rfl, by rw [tm_succ _ hy]; exact hZ3.append (IntsAre.cons _ _ IntsAre.nil)⟩)
            · rintro zs made3 D3 C3 c3 h' tk mc3 ⟨rfl, hZ3⟩ F' N' hd3
              refine ⟨mc3, F'.ns, fun h'' hsb => ?_⟩
              obtain ⟨F, N, off3⟩ := comp_back Fc Nc F' N' hsb
              simp only [List.nil_append] at N
              rw [hI9.length, List.take_length] at hZ3
              refine one_end (c := c) hd hoff F N (fun q hq => off3 _ (.head _) q hq) ?_
              rw [tm_succ _ hri]
              exact DatAll.append (hJ.mono fun p hp => .tail _ hp) (.one (.list (.head _) (ints_dat hZ3)))
          · rintro wv made2 Dh C c6 h' tk mc hW F' N' hd
            refine ⟨mc, F'.ns, fun h'' hsb => ?_⟩
            obtain ⟨F, N, offZ⟩ := comp_back F0 N0 F' N' hsb
            clear F0 N0 F' N' hd hsb offZ
            rw [hUl, List.length_map, List.take_length] at hW
            k_steps
            unfold Stop
            rename Fr _ _ _ _ => F
            rename News _ _ _ _ => N
            have ecd : ((rs.map (seqOf ks ls ks base (some cdl) (pairsAt ks ks.length).2)).map fun d => Dat.list (d.codes.map .int)) = rs.map fun r => Dat.list ((r.map fun x => 97 + x).map .int) := by
              rw [List.map_map]
              refine List.map_congr_left fun r hr => ?_
              show Dat.list ((r.map fun x => cdl.getD x.toNat 0).map .int) = _
              congr 2
              refine List.map_congr_left fun x hx => ?_
              have hx9 := (lawG r hr).2.2.1 x hx
              rw [hcdl, List.getD_eq_getElem?_getD, List.getElem?_map, List.getElem?_range (by (first | lia | omega))]
              show 97 + ((x.toNat : Nat) : Int) = 97 + x
              (first | lia | omega)
            rw [ecd] at hG
            have hok8 : kqdOk 9 (.list (rs.map fun r => Dat.list ((r.map fun x => 97 + x).map .int))) = true := by
              show List.all _ (kqdOk 8) = true
              rw [List.all_eq_true]
              intro d hd
              obtain ⟨r, _, rfl⟩ := List.mem_map.mp hd
              exact okInts 7 _
            refine ne_same N (DatIn.list (.tail _ (List.mem_append_right _ (.head _))) (hG.mono fun q hq => .tail _ (List.mem_append_right _ (.tail _ (List.mem_append_left _ hq))))) (fun _ h => h) (DatIn.list (.head _) (hW.mono fun q hq => .tail _ (List.mem_append_left _ hq))) (fun _ h => h) hok8 (by rw [cLine_is]; simp only [units_deeper, units_caller]; decide) ?_
            clear hok8 ecd hG hW
            replace N : News s.heap L' _ ((pl, W.listOf pv.toArray np) :: (du, W.listOf uv.toArray nu) :: (ledu ++ ledp ++ ledt)) := fun p hp => N p (.tail _ (List.mem_append_right _ (.tail _ (List.mem_append_right _ (.tail _ hp)))))
            k_steps
            unfold Stop
            rename Fr _ _ _ _ => F0
            rename News _ _ _ _ => N0
            have TC := T.keeps F0.keep
            have KXc := KX.keeps F0.keep
            refine comp_list (fun i ys made => DatAll made ys (((rs.map (seqOf ks ls ks base none (pairsAt ks ks.length).2)).take i).map fun d => Dat.list (d.codes.map .int))) rfl rfl rfl (N0.get (a := pl) (.head _)) (by rw [hP.length, List.length_map]; (first | lia | omega)) .nil ?_ ?_
            · rintro i v ys made C D c h tk mc own hv hJ hyl F N hoff hd
              obtain ⟨d, hdi, pa, us, pn, ca, ws, cn, oa, zs, on, tl', ts, te, hin, q1, hu, q2, hw, q3, hz⟩ := seqs_get hP i v hv
              obtain ⟨x, dx, es, k, rfl, q4, q5, g1, g2, g3, g4, g5, g6⟩ := hin
              have hzl2 : zs.length ≤ 64 := by
                rw [hz.length]
                obtain ⟨r, hr, rfl⟩ := List.mem_map.mp (List.mem_of_getElem? hdi)
                show ([] : List Int).length ≤ 64
                decide
              have f3 := (N0 _ (.tail _ (.tail _ (List.mem_append_left _ (List.mem_append_right _ q3))))).1
              have f4 := (N0 _ (.tail _ (.tail _ (List.mem_append_left _ (List.mem_append_right _ q4))))).1
              have f5 := (N0 _ (.tail _ (.tail _ (List.mem_append_left _ (List.mem_append_right _ q5))))).1
              dsimp only at f3 f4 f5
              refine wpAny_pure ?_
              simp only [if_true]
              clear g1 g2 g3 g4 g5 F0 N0
              refine hideQ fun Q9 hQ9 => ?_
              k_steps
              rename Fr _ _ _ _ => F2
              rename News _ _ _ _ => N2
              rename_i Dl cl' _ l2
              exact hQ9 _ _ (codes_end (hd := hd) (hoff := hoff) hdi F2 N2 l2 hJ hz)
            · rintro gv made Dg C c5 h' tk mc hG F' N' hd
              refine ⟨mc, F'.ns, fun h'' hsb => ?_⟩
              obtain ⟨F, N, offZ⟩ := comp_back F0 N0 F' N' hsb
              clear F0 N0 F' N' hd hsb offZ TC KXc
              rw [hP.length, List.take_length] at hG
              have ecd : ((rs.map (seqOf ks ls ks base none (pairsAt ks ks.length).2)).map fun d => Dat.list (d.codes.map .int)) = List.replicate rs.length (.list []) := by
                rw [List.map_map]
                exact List.eq_replicate_iff.mpr ⟨by rw [List.length_map], fun b hb => by obtain ⟨r, _, rfl⟩ := List.mem_map.mp hb; rfl⟩
              rw [ecd] at hG
              rw [List.length_map] at hUl
              obtain ⟨mx, hmx⟩ : ∃ mx, mx = made ++ (pl, W.listOf pv.toArray np) :: (du, W.listOf uv.toArray nu) :: (ledu ++ ledp ++ ledt) := ⟨_, rfl⟩
              have mdu : (du, W.listOf uv.toArray nu) ∈ mx := by rw [hmx]; exact List.mem_append_right _ (.tail _ (.head _))
              replace N : News s.heap L' h'' ((du, W.listOf uv.toArray nu) :: (Dg, W.listOf gv.toArray c5) :: mx) := (fm (N _ (.tail _ (by rw [← hmx]; exact mdu))) (fun p hp => by rw [hmx] at hp; exact N p hp))
              have hGm := hG.mono (news' := mx) fun q hq => by rw [hmx]; exact List.mem_append_left _ hq
              clear hG
              k_steps
              unfold Stop
              rename Fr _ _ _ _ => F
              rename News _ _ _ _ => N
              rename_i b1 _ _ b2 _ _ _ _
              refine mul_one F N (N.get (a := b2) (.head _)) (by (first | lia | omega)) ?_
              intro D9 h9 F N
              clear mdu hmx
              k_steps
              unfold Stop
              rename Fr _ _ _ _ => F
              rename News _ _ _ _ => N
              rw [hUl] at N
              have hrep : ∀ k, DatAll [(b1, W.listOf ([] : List Value).toArray 0)] (List.replicate k (Value.ref b1)) (List.replicate k (.list [])) := by
                intro k
                induction k with
                | zero => exact .nil
                | succ k ih => exact .cons (.list (.head _) .nil) ih
              have hok8 : kqdOk 9 (.list (List.replicate rs.length (.list []))) = true := by
                show List.all _ (kqdOk 8) = true
                rw [List.all_eq_true]
                intro d hd
                rw [(List.mem_replicate.mp hd).2]; rfl
              refine eq_same N (DatIn.list (.tail _ (.tail _ (.tail _ (.tail _ (.head _))))) (hGm.mono fun q hq => .tail _ (.tail _ (.tail _ (.tail _ (.tail _ hq)))))) (fun _ h => h)
                (DatIn.list (.head _) ((hrep rs.length).mono fun q hq => by rw [List.mem_singleton.mp hq]; exact .tail _ (.tail _ (.head _)))) (fun _ h => h) hok8 (by rw [cLine_is]; simp only [units_deeper, units_caller]; decide) ?_
              k_steps
              exact .intro F rfl
end
end Mine
theorem PySem.Challenge.cw_on0355_01_holds : PySem.Challenge.rw_on0355_01.Holds := by
  refine Mine.hd ?_
  k_fill
  intro w s₀ s₁ mg mb G Y fa o pm cd doc dV kV ho hd hcd hD hmg hg args vals as hpre hlay hrd hwl hlo
  have KX := kIn_of Y
  have X := (Ground.X G).1
  have V := (Ground.X G).2
  refine Ground.open G ?_
  intro T B D TE TW
  try (refine guard_noD D (by decide +kernel) ?_; clear D)
  obtain ⟨_, _, M⟩ := bmod_of_top T
  have TA := at_of_top T
  try (obtain ⟨_, _, he, B0⟩ := based_of_top T rfl hmg ho hd; have he' : cd = _ := he; subst he'; clear he)
  have e109 : nsIn (Mine.hd.heap_39 w.params) mainGlobals (Str.ofString "law") = some (some (.ref 109)) := by k_is
  have h109 : mg (Str.ofString "law") = some (.ref fa) := hmg
  have hfa : fa = 109 := by
    rw [mg_of KX T.g e109] at h109
    injection h109 with h109
    injection h109 with h109
    exact h109.symm
  subst hfa
  clear e109 h109
  wrow_args hpre hlay hrd hwl hlo
  all_goals (first | refine callC_kw (enter_call ?_) | refine enter_call ?_ | refine callC_kw (enter_callW ?_) | refine enter_callW ?_ | w_how)
  rename IntsAre _ _ => hI
  rename Heap.IsList _ _ _ => hL
  rename ¬ _ < _ => hle
  refine codeAny_mono ?_ (fun _ _ g => GoodW.toG g)
  refine codeAny_mono (Mine.law_spec T KX hL hI (by omega)) ?_
  rintro r s' ⟨v, h', tk, rfl, rfl, st, rfl⟩
  refine ⟨.inl ⟨.bool true, .bool true, [], rfl, ?_, .bool true, ?_, unshared_nil⟩, st, rfl, hg⟩
  · exact raisesW_false (by wrow_none_raised)
  · wrow_post
