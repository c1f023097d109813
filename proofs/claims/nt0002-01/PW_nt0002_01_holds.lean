import PyProof.Rows.All
import Wide.All
import OpenK.AllK
import Wide.FinOn
import Lean
import PySem.Challenge.RW_nt0002_01
set_option Elab.async false
set_option rowWalk.seconds 0
set_option compiler.extract_closed false

section
open PySem PySem.W PyProof.Rows
set_option Elab.async false
set_option maxRecDepth 100000
set_option maxHeartbeats 8000000
namespace Mine
open_top hd for PySem.Challenge.rw_nt0002_01
end Mine
end

section
open PySem PySem.W PyProof.Rows PySem.Calls PySem.Spec
set_option Elab.async false
set_option maxRecDepth 100000
set_option maxHeartbeats 8000000
namespace Mine

abbrev pg : Program := PySem.Challenge.rw_nt0002_01.row.prog
abbrev TopIs (mean : ExcName → Option Value) (mg mb : Str → Option Value) (h : Heap) : Prop :=
  Top hd.view_39 (looseW hd.view_39 []) mean mg mb h

/-- what a pure call of f asks and gives: the heap at the call stands whole behind it -/
def PureFn (N : Nat) (f : Addr) (Pre : Heap → List Value → Prop) (Post : Heap → List Value → Heap → Value → Prop) : Prop :=
  ∀ (w : World) (mean : ExcName → Option Value) (mg mb : Str → Option Value) (dp un : Nat) (gd : Option (List Code)) (cn : Str) (cs : Scope) (a : Addr) (ccd : Value) (cl : List (Str × Addr)) (outer : List Env)
    (A₀ : Around) (base h₀ : Heap) (L : Addr) (m : Str → Option Value) (s : Shared) (vs : List Value) (Q E : Value → Shared → Prop),
    Below A₀ base outer h₀ → Fr h₀ L s.heap m → (hd.heap_39 w.params).In h₀ → TopIs mean mg mb h₀ → cs.kind = .function →
    dp < 400 + N → un < 10 * N → Pre s.heap vs →
    (∀ r h' tk', s.heap.StaysIn h' → Post s.heap vs h' r → Q r { s with heap := h', toks := tk' }) →
    wpAny (model pg w) (ktrTop dp un gd cn cs L a ccd cl outer) (call (.ref f) vs) Q E s

/-- the end of a pure call's body -/
def PureEnd (s : Shared) (g : Heap) (P : Heap → Value → Prop) (v : Value) (s' : Shared) : Prop :=
  ∃ h' tk', s' = { s with heap := h', toks := tk' } ∧ g.StaysIn h' ∧ P h' v

theorem pure_end {s : Shared} {g : Heap} {P : Heap → Value → Prop} {v : Value} {h' : Heap} {tk' : Nat} {L : Addr} {m : Str → Option Value} (F : Fr g L h' m) (hp : P h' v) :
    PureEnd s g P v { s with heap := h', toks := tk' } := ⟨h', tk', rfl, F.keep, hp⟩

section
variable {w : World} {mean : ExcName → Option Value} {mg mb : Str → Option Value} {dp un : Nat} {gd : Option (List Code)} {cn : Str} {cs : Scope} {a : Addr} {ccd : Value} {cl : List (Str × Addr)} {outer : List Env}
    {A₀ : Around} {base h₀ : Heap} {L : Addr} {m : Str → Option Value} {s : Shared} {vs : List Value} {Q E : Value → Shared → Prop}
  {name qual : Str} {params : Arguments} {body : List Stmt} {scope : Scope} {dV kV doc pm cdv ct oc : Value} {an od : Option Addr} {osl : Array (Option Value)} {f : Addr} {binds : List (Str × Value)}

theorem pure_enter (P : Heap → Value → Prop) (B : Below A₀ base outer h₀) (F : Fr h₀ L s.heap m) (X : (hd.heap_39 w.params).In h₀) (T : TopIs mean mg mb h₀) (hk : cs.kind = .function)
    (ho : (hd.heap_39 w.params).lookup f = some ⟨oc, od, .func (fnOf name qual params body scope dV kV doc pm an cdv ct), osl⟩) (hcd : codeIn (hd.heap_39 w.params) cdv qual = true) (hroom : dp < 500)
    (hbind : BindsTo s (fnOf name qual params body scope dV kV doc pm an cdv ct) ⟨vs, []⟩ binds) (hloc : ∀ y ∈ binds, scope.names.lookup y.1 = some .local)
    (hcell : ∀ x ∈ scope.names, x.2 ≠ .cell) (hco : scope.isCoroutine = false) (hgen : scope.isGenerator = false) (hks : scope.kind = .function)
    (ret : ∀ r h' tk', s.heap.StaysIn h' → P h' r → Q r { s with heap := h', toks := tk' })
    (h : ∀ g L' h₁, g = s.heap → Fr g L' h₁ (fun y => binds.reverse.lookup y) → News g L' h₁ [] → Below (ktrTop dp un gd cn cs L a ccd cl outer) base (envX cn cs L a ccd cl :: outer) g → (hd.heap_39 w.params).In g → TopIs mean mg mb g →
      wpAny (model pg w) ((ktrTop dp un gd cn cs L a ccd cl outer).deeper (envOf qual scope L' f cdv)) (execs body (envOf qual scope L' f cdv))
        (fun fl s' => PureEnd s g P (match fl with | .ret v => v | _ => .none) s') (fun _ _ => False)
        { s with heap := h₁, toks := s.toks + binds.length }) :
    wpAny (model pg w) (ktrTop dp un gd cn cs L a ccd cl outer) (call (.ref f) vs) Q E s := by
  have X' : (hd.heap_39 w.params).In s.heap := X.keeps F.keep
  have T' : TopIs mean mg mb s.heap := T.keeps F.keep
  have B' : Below (ktrTop dp un gd cn cs L a ccd cl outer) base (envX cn cs L a ccd cl :: outer) s.heap := by
    have b1 := pushX (env := envX cn cs L a ccd cl) B F rfl hk
    exact ⟨rfl, b1.stays, b1.frames⟩
  refine wpAny_call (codeAny_call_def (fd := fnOf name qual params body scope dV kV doc pm an cdv ct) (body := body) (binds := binds) (by show dp < recursionLimit; unfold recursionLimit; omega) (X' _ _ ho) rfl T'.nolimit (codeRec_of X' hcd) rfl hbind hcell hloc (fun h₁ hns hk₁ => ?_) hco hgen hks)
  have F' : Fr s.heap s.heap.objs.size h₁ (fun y => binds.reverse.lookup y) := ⟨hns, hk₁, Nat.le_refl _⟩
  refine wpAny_mono (h s.heap s.heap.objs.size h₁ rfl F' News.nil B' X' T') ?_ ?_
  · rintro fl s' ⟨h', tk', rfl, st, hp⟩
    exact ret _ _ _ st hp
  · intro _ _ e
    exact e.elim

theorem pure_enterC (P : Heap → Value → Prop) (B : Below A₀ base outer h₀) (F : Fr h₀ L s.heap m) (X : (hd.heap_39 w.params).In h₀) (T : TopIs mean mg mb h₀) (hk : cs.kind = .function)
    (ho : (hd.heap_39 w.params).lookup f = some ⟨oc, od, .func (fnOf name qual params body scope dV kV doc pm an cdv ct), osl⟩) (hcd : codeIn (hd.heap_39 w.params) cdv qual = true) (hroom : dp < 500)
    (hbind : BindsTo s (fnOf name qual params body scope dV kV doc pm an cdv ct) ⟨vs, []⟩ binds) (hkind : (binds.all fun y => scope.names.lookup y.1 == some .local || scope.names.lookup y.1 == some .cell) = true)
    (hnd : ((cellsFrom 0 scope.names []).map (·.1)).Nodup) (hco : scope.isCoroutine = false) (hgen : scope.isGenerator = false) (hks : scope.kind = .function)
    (ret : ∀ r h' tk', s.heap.StaysIn h' → P h' r → Q r { s with heap := h', toks := tk' })
    (h : ∀ g L' h₁ tk cells, g = s.heap → Fr g L' h₁ (bindL (envOfC qual scope L' f cdv).kindOf binds fun _ => none) → News g L' h₁ cells →
      CellsAre (bindC (envOfC qual scope L' f cdv).kindOf binds fun _ => none) (cellsFrom (L' + 1) scope.names []) cells → Below (ktrTop dp un gd cn cs L a ccd cl outer) base (envX cn cs L a ccd cl :: outer) g → (hd.heap_39 w.params).In g → TopIs mean mg mb g →
      wpAny (model pg w) ((ktrTop dp un gd cn cs L a ccd cl outer).deeper (envOfC qual scope L' f cdv)) (execs body (envOfC qual scope L' f cdv))
        (fun fl s' => PureEnd s g P (match fl with | .ret v => v | _ => .none) s') (fun _ _ => False)
        { s with heap := h₁, toks := tk }) :
    wpAny (model pg w) (ktrTop dp un gd cn cs L a ccd cl outer) (call (.ref f) vs) Q E s := by
  have X' : (hd.heap_39 w.params).In s.heap := X.keeps F.keep
  have T' : TopIs mean mg mb s.heap := T.keeps F.keep
  have B' : Below (ktrTop dp un gd cn cs L a ccd cl outer) base (envX cn cs L a ccd cl :: outer) s.heap := by
    have b1 := pushX (env := envX cn cs L a ccd cl) B F rfl hk
    exact ⟨rfl, b1.stays, b1.frames⟩
  refine wpAny_call (codeAny_call_function (by show dp < recursionLimit; unfold recursionLimit; omega) (X' _ _ ho) rfl hco hgen rfl (codeRec_of X' hcd) (hbind _ _ _ _ ?_))
  refine wpAny_newFunctionEnv_cells hks (kindsX hkind _) fun env' he s' x => ?_
  subst he
  refine ⟨T'.nolimit.keeps x.toInCall.keep, codeAny_func ?_⟩
  obtain ⟨h₁, tk, rfl, _⟩ := x.done
  have hk₁ := x.toInCall.keep
  obtain ⟨cells, NC, Y⟩ := Cl.news (h₀ := s.heap) (Nat.le_refl _) fun n c hm => ⟨x.cell n c (lookup_of_mem_nodup (cellsFrom_names scope.names 0 (s.heap.objs.size + 1) [] [] rfl ▸ hnd) hm), x.above n c hm⟩
  refine wpAny_mono (h s.heap s.heap.objs.size h₁ tk cells rfl ⟨x.toInCall.ns, hk₁, Nat.le_refl _⟩ NC Y B' X' T') ?_ ?_
  · rintro fl s' ⟨h', tk', rfl, st, hp⟩
    exact ret _ _ _ st hp
  · intro _ _ e
    exact e.elim
end

section
variable {N : Nat} {f : Addr} {Pre : Heap → List Value → Prop} {Post : Heap → List Value → Heap → Value → Prop} {w : World} {mean : ExcName → Option Value} {mg mb : Str → Option Value} {dp un : Nat} {gd : Option (List Code)} {cn : Str} {cs : Scope} {a : Addr} {ccd : Value} {cl : List (Str × Addr)} {outer : List Env}
    {A₀ : Around} {base h₀ : Heap} {L : Addr} {m : Str → Option Value} {s : Shared} {vs : List Value} {Q E : Value → Shared → Prop} {news : List (Addr × Obj)}
theorem fr_stay {h h' : Heap} (F : Fr h₀ L h m) (st : h.StaysIn h') : Fr h₀ L h' m := ⟨F.ns.keeps st, fun b o e => st b o (F.keep b o e), F.above⟩
theorem news_stay {h h' : Heap} (N : News h₀ L h news) (st : h.StaysIn h') : News h₀ L h' news := fun p hp => ⟨st _ _ (N p hp).1, (N p hp).2⟩
theorem news_new {h h' : Heap} {b : Addr} {o : Obj} (F : Fr h₀ L h m) (N : News h₀ L h news) (st : h.StaysIn h') (hb : h.get? b = none) (ho : h'.get? b = some o) : News h₀ L h' ((b, o) :: news) := by
  intro p hp
  rcases List.mem_cons.mp hp with rfl | hp
  · refine ⟨ho, ?_, ?_⟩
    · obtain ⟨oL, _, _, hL, _⟩ := F.ns
      intro e
      rw [show b = L from e, hL] at hb; cases hb
    · cases q : h₀.get? b with
      | none => rfl
      | some o' => rw [F.keep _ _ q] at hb; cases hb
  · exact news_stay N st p hp
theorem new_ne {h : Heap} {b : Addr} (N : News h₀ L h news) (hb : h.get? b = none) : ∀ p ∈ news, p.1 ≠ b := fun p hp e => by
  have := (N p hp).1
  rw [e, hb] at this; cases this
theorem pure_use (C : PureFn N f Pre Post) (B : Below A₀ base outer h₀) (F : Fr h₀ L s.heap m) (X : (hd.heap_39 w.params).In h₀) (T : TopIs mean mg mb h₀) (hk : cs.kind = .function) (hdp : dp < 400 + N) (hun : un < 10 * N) (hp : Pre s.heap vs)
    (h : ∀ r h' tk', Fr h₀ L h' m → s.heap.StaysIn h' → Post s.heap vs h' r → Q r { s with heap := h', toks := tk' }) :
    wpAny (model pg w) (ktrTop dp un gd cn cs L a ccd cl outer) (call (.ref f) vs) Q E s :=
  C w mean mg mb dp un gd cn cs a ccd cl outer A₀ base h₀ L m s vs Q E B F X T hk hdp hun hp fun r h' tk' st hq => h r h' tk' (fr_stay F st) st hq
end

/-- a list of texts -/
def StrsAt (h : Heap) (v : Value) (xs : List Str) : Prop := ∃ a vs n, v = .ref a ∧ h.get? a = some (listOf vs.toArray n) ∧ StrsAre vs xs

/-- what comes back: a new list of texts -/
def NewStrs (h h' : Heap) (r : Value) (ys : List Str) : Prop := ∃ a vs n, r = .ref a ∧ h.get? a = none ∧ h'.get? a = some (listOf vs.toArray n) ∧ StrsAre vs ys
end Mine
end

section
open PySem PySem.W PyProof.Rows PySem.Calls PySem.Spec
set_option Elab.async false
set_option maxRecDepth 100000
set_option maxHeartbeats 8000000
namespace Mine

theorem fillNow (w : World) : hd.heap_39 w.params = hd.heap_39 w.params ∧ PySem.Challenge.rw_nt0002_01 = PySem.Challenge.rw_nt0002_01 := by
  k_fill
  exact ⟨rfl, rfl⟩

section
variable {prog : Program} {w : World} {A : Around} {E : Value → Shared → Prop} {s : Shared} {env : Env} {h₀ : Heap} {x : Str} {body : List Stmt} {Q : Flow → Shared → Prop}

/-- a loop over an iterator whose other parts lie in the base -/
theorem loop_of {I : Addr} {fp : List Addr} {n : Nat} {P : Nat → Value → Prop} {St : Nat → Heap → Prop} {m₀ : Str → Option Value} {news : List (Addr × Obj)} (J : Nat → (Str → Option Value) → List (Addr × Obj) → Prop)
    (W : Walks prog w A I fp [I] n P St) (hst : St 0 s.heap) (hI : I ∈ fp) (hI0 : h₀.get? I = none) (hL : env.locals ∉ fp) (hob : ∀ i h, St i h → ∃ o, h.get? I = some o) (hbase : ∀ b ∈ fp, b ≠ I → ∃ o, h₀.get? b = some o)
    (hnw : ∀ p ∈ news, p.1 ≠ I) (F : Fr h₀ env.locals s.heap m₀) (N : News h₀ env.locals s.heap news) (hj : J 0 m₀ news)
    (turn : ∀ i v m₁ nx h tk own, i < n → P i v → OwnOff own (nx.map (·.1)) → J i m₁ nx → Fr h₀ env.locals h (fun y => if y = x then some v else m₁ y) → News h₀ env.locals h (nx ++ own) →
      wpAny (model prog w) A (execs body env) (InvPostG h₀ env.locals (J (i + 1)) own { s with heap := h, toks := tk } Q) E { s with heap := h, toks := tk })
    (done : ∀ m₁ nx h tk, J n m₁ nx → Fr h₀ env.locals h m₁ → News h₀ env.locals h nx → Q .next { s with heap := h, toks := tk }) :
    LoopAtV prog w A h₀ env x body Q E (.ref I) s := by
  refine ⟨I, fp, [I], n, P, St, m₀, news, J, rfl, W, hL, ?_, ?_, hst, F, N, hj, ?_, ?_⟩
  · intro b hb
    rw [List.mem_singleton.mp hb]; exact hI0
  · intro p hp hq
    exact hnw p hp (List.mem_singleton.mp hq)
  · rintro i v m₁ nx s₁ own ⟨hh, tk, rfl⟩ hin hP hJ hoff hown hget hfp hst' F₁ N₁
    have at1 : ∀ p ∈ own, p.1 = I := by
      intro p hp
      refine Classical.byContradiction fun hne => ?_
      obtain ⟨o, ho⟩ := hbase p.1 (hown p hp) hne
      have := (N₁ p (List.mem_append.mpr (.inl hp))).2.2
      rw [ho] at this; cases this
    have sep : OwnOff own (nx.map (·.1)) := by
      intro p hp b hb e
      obtain ⟨q, hq, rfl⟩ := List.mem_map.mp hb
      exact hoff q hq (List.mem_singleton.mpr (e ▸ at1 p hp))
    have N₂ : News h₀ env.locals hh (nx ++ own) := fun p hp => N₁ p (List.mem_append.mpr (List.mem_append.mp hp).symm)
    refine wpAny_mono (turn i v m₁ nx hh tk own hin hP sep hJ F₁ N₂) (fun f s₂ p => ?_) fun _ _ e => e
    have fin : InvEndG h₀ env.locals (J (i + 1)) own { s with heap := hh, toks := tk } s₂ → LoopStepU h₀ env.locals [I] own (J (i + 1)) { s with heap := hh, toks := tk } .next s₂ := by
      rintro ⟨h', tk', m', news', nx', e, F', N', hn, ho, ha, hm⟩
      refine ⟨rfl, h', tk', m', nx', e, F', fun p hp => N' p ((List.mem_append.mp hp).elim (ho p) (hn p)), fun p hp hq => ?_, hm⟩
      obtain ⟨o, hbo⟩ := hob _ _ hst'
      exact ha _ (hfp _ hI hI0 o hbo) p.1 (List.mem_map.mpr ⟨p, hp, rfl⟩) (List.mem_singleton.mp hq).symm
    cases f with
    | ret v => exact .ret p
    | brk => exact .brk p
    | next => exact .next (fin p)
    | cont => exact .cont (fin p)
  · intro h' tk m' news' F' N' _ hJ
    exact done m' news' h' tk hJ F' N'

theorem isList_of_get {h : Heap} {l : Addr} {vs : List Value} {n : Nat} (e : h.get? l = some (listOf vs.toArray n)) : h.IsList l vs.toArray := ⟨_, e, rfl, n, rfl⟩

/-- for x in a list that stands in the base -/
theorem iter_base {l : Addr} {vs : List Value} {nn : Nat} {m₀ : Str → Option Value} {news : List (Addr × Obj)} (J : Nat → (Str → Option Value) → List (Addr × Obj) → Prop)
    (hh : A.handled = none) (hl : h₀.get? l = some (listOf vs.toArray nn)) (F : Fr h₀ env.locals s.heap m₀) (N : News h₀ env.locals s.heap news) (hj : J 0 m₀ news)
    (turn : ∀ i v m₁ nx h tk own, vs[i]? = some v → OwnOff own (nx.map (·.1)) → J i m₁ nx → Fr h₀ env.locals h (fun y => if y = x then some v else m₁ y) → News h₀ env.locals h (nx ++ own) →
      wpAny (model prog w) A (execs body env) (InvPostG h₀ env.locals (J (i + 1)) own { s with heap := h, toks := tk } Q) E { s with heap := h, toks := tk })
    (done : ∀ m₁ nx h tk, J vs.length m₁ nx → Fr h₀ env.locals h m₁ → News h₀ env.locals h nx → Q .next { s with heap := h, toks := tk }) :
    wpAny (model prog w) A (pyIter (.ref l)) (fun it s₂ => LoopAtV prog w A h₀ env x body Q E it s₂) E s := by
  have hls : s.heap.IsList l vs.toArray := isList_of_get (F.keep _ _ hl)
  have hlt : l < h₀.objs.size := Heap.lt_size hl
  have hLs : env.locals < s.heap.objs.size := F.ns.lt
  have hne : l ≠ s.heap.objs.size := Nat.ne_of_lt (Nat.lt_trans (Nat.lt_of_lt_of_le hlt F.above) hLs)
  refine wpAny_pyIter_list hls ?_
  have W := Walks.list (prog := prog) (w := w) hh s.heap.objs.size l hne vs.toArray
  rw [List.size_toArray] at W
  refine loop_of J W ⟨⟨_, Heap.get?_push_size _ rfl, rfl, rfl⟩, hls.at fun o e => Heap.get?_push_of_some _ e⟩ (by simp) (next_is_new F) ?_ ?_ ?_ ?_ (F.push _) (fun p hp => ⟨Heap.get?_push_of_some _ (N p hp).1, (N p hp).2⟩) hj ?_ done
  · intro hm
    rcases List.mem_cons.mp hm with e | hm
    · exact absurd hLs (e ▸ Nat.lt_irrefl _)
    · exact absurd (Nat.lt_of_lt_of_le hlt F.above) ((List.mem_singleton.mp hm) ▸ Nat.lt_irrefl _)
  · rintro i h ⟨⟨o, ho, _⟩, _⟩
    exact ⟨o, ho⟩
  · intro b hb hbI
    rcases List.mem_cons.mp hb with e | hm
    · exact absurd e hbI
    · rw [List.mem_singleton.mp hm]; exact ⟨_, hl⟩
  · intro p hp e
    exact absurd (Heap.lt_size (N p hp).1) (e ▸ Nat.lt_irrefl _)
  · intro i v m₁ nx h tk own _ hv
    exact turn i v m₁ nx h tk own (by simpa using hv)

/-- the same, with one object in the ledger, told by its address -/
theorem iter_base1 {l l' : Addr} {o : Obj} {vs : List Value} {nn : Nat} {m₀ : Str → Option Value} (J : Addr → Nat → (Str → Option Value) → List (Addr × Obj) → Prop)
    (hh : A.handled = none) (hl : h₀.get? l = some (listOf vs.toArray nn)) (F : Fr h₀ env.locals s.heap m₀) (N : News h₀ env.locals s.heap [(l', o)]) (hj : J l' 0 m₀ [(l', o)])
    (turn : ∀ i v m₁ nx h tk own, vs[i]? = some v → OwnOff own (nx.map (·.1)) → J l' i m₁ nx → Fr h₀ env.locals h (fun y => if y = x then some v else m₁ y) → News h₀ env.locals h (nx ++ own) →
      wpAny (model prog w) A (execs body env) (InvPostG h₀ env.locals (J l' (i + 1)) own { s with heap := h, toks := tk } Q) E { s with heap := h, toks := tk })
    (done : ∀ m₁ nx h tk, J l' vs.length m₁ nx → Fr h₀ env.locals h m₁ → News h₀ env.locals h nx → Q .next { s with heap := h, toks := tk }) :
    wpAny (model prog w) A (pyIter (.ref l)) (fun it s₂ => LoopAtV prog w A h₀ env x body Q E it s₂) E s := iter_base (J l') hh hl F N hj turn done

/-- for x in a range of this call -/
theorem iter_range {r : Addr} {a₀ b₀ : Int} {t₀ u₀ v₀ : Tok} {n : Nat} {m₀ : Str → Option Value} {news : List (Addr × Obj)} (J : Nat → (Str → Option Value) → List (Addr × Obj) → Prop)
    (hh : A.handled = none) (hr : IsRange s.heap r a₀ b₀ 1 t₀ u₀ v₀) (hsmall : Builtin.Range.small a₀ b₀ 1 = true) (hsz : Builtin.Range.rangeSize a₀ b₀ 1 = (n : Int)) (F : Fr h₀ env.locals s.heap m₀) (N : News h₀ env.locals s.heap news) (hj : J 0 m₀ news)
    (turn : ∀ i t m₁ nx h tk own, i < n → OwnOff own (nx.map (·.1)) → J i m₁ nx → Fr h₀ env.locals h (fun y => if y = x then some (.int (a₀ + (i : Int)) t) else m₁ y) → News h₀ env.locals h (nx ++ own) →
      wpAny (model prog w) A (execs body env) (InvPostG h₀ env.locals (J (i + 1)) own { s with heap := h, toks := tk } Q) E { s with heap := h, toks := tk })
    (done : ∀ m₁ nx h tk, J n m₁ nx → Fr h₀ env.locals h m₁ → News h₀ env.locals h nx → Q .next { s with heap := h, toks := tk }) :
    wpAny (model prog w) A (pyIter (.ref r)) (fun it s₂ => LoopAtV prog w A h₀ env x body Q E it s₂) E s := by
  refine wpAny_pyIter_range hr hsmall ?_
  have hLs : env.locals < s.heap.objs.size := F.ns.lt
  have W : Walks prog w A s.heap.objs.size [s.heap.objs.size] [s.heap.objs.size] n (fun i v => ∃ t, v = .int (a₀ + (i : Int) * 1) t)
      (fun i h => IsRangeIter h s.heap.objs.size (a₀ + (i : Nat) * 1) ((n : Int) - (i : Nat)) 1) := Walks.range hh _ a₀ 1 n
  refine loop_of J W (by show IsRangeIter _ _ _ _ _; rw [hsz]; simpa using Heap.get?_push_size _ rfl) (by simp) (next_is_new F) ?_ ?_ ?_ ?_ (F.push _) (fun p hp => ⟨Heap.get?_push_of_some _ (N p hp).1, (N p hp).2⟩) hj ?_ done
  · intro hm
    exact absurd hLs ((List.mem_singleton.mp hm) ▸ Nat.lt_irrefl _)
  · intro i h hi
    exact ⟨_, hi⟩
  · intro b hb hbI
    exact absurd (List.mem_singleton.mp hb) hbI
  · intro p hp e
    exact absurd (Heap.lt_size (N p hp).1) (e ▸ Nat.lt_irrefl _)
  · rintro i v m₁ nx h tk own hi ⟨t, rfl⟩ hoff hJ F₁ N₁
    rw [Int.mul_one] at F₁
    exact turn i t m₁ nx h tk own hi hoff hJ F₁ N₁
end

theorem Fr.as {h₀ h : Heap} {L : Addr} {m m' : Str → Option Value} (F : Fr h₀ L h m) (e : m = m') : Fr h₀ L h m' := e ▸ F

/-- names whose values are told, over a map that is not written -/
def ovs (l : List (Str × Value)) (m : Str → Option Value) : Str → Option Value := fun y => match l.lookup y with | some v => some v | none => m y
def Told (m : Str → Option Value) : List (Str × Value) → Prop
  | [] => True
  | p :: r => m p.1 = some p.2 ∧ Told m r
theorem ovs_eq {m : Str → Option Value} : ∀ {l : List (Str × Value)}, Told m l → ovs l m = m
  | [], _ => rfl
  | (x, v) :: r, ⟨h, k⟩ => by
    have ih := ovs_eq k
    funext y
    have e := congrFun ih y
    unfold ovs at e ⊢
    rw [List.lookup_cons]
    by_cases hy : (y == x) = true
    · rw [hy, eq_of_beq hy]; exact h.symm
    · rw [Bool.eq_false_iff.mpr hy]; exact e
theorem frOv {h₀ h : Heap} {L : Addr} {m : Str → Option Value} (F : Fr h₀ L h m) {l : List (Str × Value)} (t : Told m l) : Fr h₀ L h (ovs l m) := (ovs_eq t).symm ▸ F
theorem frOv1 {h₀ h : Heap} {L : Addr} {m : Str → Option Value} {x : Str} {v : Value} (F : Fr h₀ L h (fun y => if y = x then some v else m y)) {l : List (Str × Value)} (t : Told m l) : Fr h₀ L h (fun y => if y = x then some v else ovs l m y) := by rw [ovs_eq t]; exact F
theorem frOv2 {h₀ h : Heap} {L : Addr} {m : Str → Option Value} {x z : Str} {v u : Value} (F : Fr h₀ L h (fun y => if y = x then some v else if y = z then some u else m y)) {l : List (Str × Value)} (t : Told m l) : Fr h₀ L h (fun y => if y = x then some v else if y = z then some u else ovs l m y) := by rw [ovs_eq t]; exact F
theorem ite_f {α : Type} {b : Bool} {x y : α} (h : b = false) : (if b = true then x else y) = y := by rw [h]; rfl
theorem ite_t {α : Type} {b : Bool} {x y : α} (h : b = true) : (if b = true then x else y) = x := by rw [h]; rfl
theorem snocE {vs : List Value} {xs : List Str} {x x' : Str} {t : Tok} (h : StrsAre vs xs) (e : x = x') : StrsAre (vs ++ [.str x' t]) (xs ++ [x]) := e ▸ StrsAre.append' h (.cons x t .nil)
theorem take_snoc {α : Type} {xs : List α} {i : Nat} {y : α} (h : xs[i]? = some y) : xs.take (i + 1) = xs.take i ++ [y] := by rw [List.take_add_one, h]; rfl
theorem turn_end {h₀ h' : Heap} {L : Addr} {m' : Str → Option Value} {e : Addr × Obj} {own : List (Addr × Obj)} {J : (Str → Option Value) → List (Addr × Obj) → Prop} {s₁ : Shared} {tk : Nat} (F : Fr h₀ L h' m') (N : News h₀ L h' (e :: own)) (ho : OwnOff own [e.1]) (hj : J m' [e]) :
    InvEndG h₀ L J own s₁ { s₁ with heap := h', toks := tk } :=
  InvEndG.intro (nx := [e]) F N hj ho (fun p hp => by rw [List.mem_singleton.mp hp]; exact .head _) (fun p hp => .tail _ hp)
theorem turn_end2 {h₀ h' : Heap} {L : Addr} {m' : Str → Option Value} {q e : Addr × Obj} {own : List (Addr × Obj)} {J : (Str → Option Value) → List (Addr × Obj) → Prop} {s₁ : Shared} {tk : Nat} (F : Fr h₀ L h' m') (N : News h₀ L h' (q :: e :: own)) (ho : OwnOff own [e.1]) (hj : J m' [e]) :
    InvEndG h₀ L J own s₁ { s₁ with heap := h', toks := tk } := turn_end F (fun p hp => N p (.tail _ hp)) ho hj
theorem turn_end3 {h₀ h' : Heap} {L : Addr} {m' : Str → Option Value} {q q' e : Addr × Obj} {own : List (Addr × Obj)} {J : (Str → Option Value) → List (Addr × Obj) → Prop} {s₁ : Shared} {tk : Nat} (F : Fr h₀ L h' m') (N : News h₀ L h' (q :: q' :: e :: own)) (ho : OwnOff own [e.1]) (hj : J m' [e]) :
    InvEndG h₀ L J own s₁ { s₁ with heap := h', toks := tk } := turn_end F (fun p hp => N p (.tail _ (.tail _ hp))) ho hj
theorem tupK {w : World} {g : Heap} {a : Addr} {items : Array Value} {ys : List Str} (X : (hd.heap_39 w.params).In g) (hl : (hd.heap_39 w.params).lookup a = some { cls := .type "tuple", data := .seq items }) (hi : StrsAre items.toList ys) :
    IsTup g a items ∧ StrsAre items.toList ys := ⟨⟨_, X _ _ hl, rfl, _, rfl⟩, hi⟩
theorem new_strs {h h' : Heap} {L l' : Addr} {vs : List Value} {n : Nat} {rest : List (Addr × Obj)} {ys : List Str} (N : News h L h' ((l', listOf vs.toArray n) :: rest)) (hs : StrsAre vs ys) : NewStrs h h' (.ref l') ys :=
  ⟨l', vs, n, rfl, (N _ (.head _)).2.2, (N _ (.head _)).1, hs⟩
theorem StrsAre.snoc {vs : List Value} {xs : List Str} {x : Str} {t : Tok} (h : StrsAre vs xs) : StrsAre (vs ++ [.str x t]) (xs ++ [x]) := StrsAre.append' h (.cons x t .nil)

/-- the end of one element of a comprehension -/
def EltEnd (h₀ : Heap) (L : Addr) (m : Str → Option Value) (s₁ : Shared) (led : List (Addr × Obj)) (R : Value → Prop) (y : Value) (s₂ : Shared) : Prop :=
  ∃ h' tk', s₂ = { s₁ with heap := h', toks := tk' } ∧ Fr h₀ L h' m ∧ News h₀ L h' led ∧ R y
theorem elt_end {h₀ h' : Heap} {L : Addr} {m : Str → Option Value} {s₁ : Shared} {led : List (Addr × Obj)} {R : Value → Prop} {y : Value} {tk' : Nat} (F : Fr h₀ L h' m) (N : News h₀ L h' led) (r : R y) : EltEnd h₀ L m s₁ led R y { s₁ with heap := h', toks := tk' } := ⟨h', tk', rfl, F, N, r⟩

section
variable {prog : Program} {w : World} {A : Around} {h₀ : Heap} {L : Addr} {m : Str → Option Value} {env : Env} {elt : Expr} {x : Str} {scope : Scope} {cl : List (Str × Addr)} {s : Shared} {S : List (Addr × Obj) → Prop} {P : Nat → Value → Prop} {Fin : List Value → List (Addr × Obj) → Prop} {news : List (Addr × Obj)}
theorem comp_rest {n : Nat} (R : Nat → Value → Prop) (hS : S news)
    (turn : ∀ i v I oI C oC D m₂ ys h tk (E' : Value → Shared → Prop), i < n → P i v → LCg.NsObj oC m₂ → m₂ x = some v → Fr h₀ L h m → News h₀ L h ((I, oI) :: (C, oC) :: (D, LCg.lst ys) :: news) → LCg.Off3 I C D news → ((@Ne Nat I C) ∧ (@Ne Nat I D) ∧ (@Ne Nat C D)) →
      wpAny (model prog w) A (eval elt (compEnvC scope cl C env)) (EltEnd h₀ L m { s with heap := h, toks := tk } ((I, oI) :: (C, oC) :: (D, LCg.lst ys) :: news) (R i)) E' { s with heap := h, toks := tk })
    (fin : ∀ ys, ys.length = n → (∀ (i : Nat) (v : Value), ys[i]? = some v → R i v) → Fin ys news) : LCg.CompRest prog w A h₀ L m env elt x scope cl s S P Fin n 0 [] news := by
  have key : ∀ (j i : Nat) (ys : List Value), i + j = n → ys.length = i → (∀ (i : Nat) (v : Value), ys[i]? = some v → R i v) → LCg.CompRest prog w A h₀ L m env elt x scope cl s S P Fin j i ys news := by
    intro j
    induction j with
    | zero =>
      intro i ys hi hl hy
      exact LCg.CompRest.zero (fin ys (by omega) hy)
    | succ j ih =>
      intro i ys hi hl hy
      refine LCg.CompRest.succ ?_
      intro v I oI C oC D m₂ h tk E' hv hC hx F N off ne
      refine wpAny_mono (turn i v I oI C oC D m₂ ys h tk E' (by omega) hv hC hx F N off ne) (fun y s₂ hq => ?_) fun _ _ e => e
      obtain ⟨h', tk', e, F', N', hr⟩ := hq
      refine ⟨h', tk', news, e, F', N', off, hS, ih (i + 1) _ (by omega) (by rw [List.length_append, List.length_singleton, hl]) ?_⟩
      intro i' v' hv'
      by_cases hlt : i' < ys.length
      · rw [List.getElem?_append_left hlt] at hv'
        exact hy i' v' hv'
      · have hle : i' = ys.length := by
          have h1 := (List.getElem?_eq_some_iff.mp hv').1
          rw [List.length_append, List.length_singleton] at h1
          omega
        subst hle
        rw [List.getElem?_append_right (Nat.le_refl _), Nat.sub_self] at hv'
        simp only [List.getElem?_cons_zero, Option.some.injEq] at hv'
        subst hv'
        rw [hl]
        exact hr
  exact key n 0 [] (by omega) rfl (fun _ _ h => by simp at h)
end

/-- texts told place by place -/
theorem strs_of : ∀ {ys : List Value} {xs : List Str}, ys.length = xs.length → (∀ (i : Nat) (v : Value), ys[i]? = some v → ∃ (x : Str) (t : Tok), xs[i]? = some x ∧ v = Value.str x t) → StrsAre ys xs
  | [], [], _, _ => .nil
  | [], _ :: _, h, _ => by simp at h
  | _ :: _, [], h, _ => by simp at h
  | y :: ys, x :: xs, h, k => by
    obtain ⟨x', t, e, rfl⟩ := k 0 y rfl
    simp only [List.getElem?_cons_zero, Option.some.injEq] at e
    subst e
    exact .cons _ t (strs_of (by simpa using h) fun i v hv => k (i + 1) v (by simpa using hv))
theorem new_strs' {h h' : Heap} {L l' : Addr} {vs : List Value} {n : Nat} {news : List (Addr × Obj)} {ys : List Str} (N : News h L h' news) (hm : (l', listOf vs.toArray n) ∈ news) (hs : StrsAre vs ys) : NewStrs h h' (.ref l') ys :=
  ⟨l', vs, n, rfl, (N _ hm).2.2, (N _ hm).1, hs⟩
theorem elt_str {f : Str → Str} {xs : List Str} {i : Nat} {y z : Str} {t : Tok} (hy : xs[i]? = some y) (e : f y = z) : ∃ (x : Str) (t' : Tok), xs[i]? = some x ∧ Value.str z t = Value.str (f x) t' := ⟨y, t, hy, by rw [e]⟩

/-- a goal that the walk leaves to the hand -/
def Hold (P : Prop) : Prop := P
section
variable {prog : Program} {w : World} {A : Around} {E : Value → Shared → Prop} {s : Shared} {env : Env} {h₀ : Heap} {x : Str} {body : List Stmt} {Q : Flow → Shared → Prop}
theorem For_hold {m : Str → Option Value} {px pos : Pos} {iter : Expr} (F : Fr h₀ env.locals s.heap m) (hx : env.kindOf x = some .local)
    (hp : (env.scope.kind == .class || (env.scope.kind == .module && env.locals != env.globals)) = false)
    (h : wpAny (model prog w) A (eval iter env) (fun xv s₁ => Hold (wpAny (model prog w) A (pyIter xv) (fun it s₂ => LoopAtV prog w A h₀ env x body Q E it s₂) E s₁)) E s)
    (hs : ∀ x, foldedSetIterable iter env x = pure x := by intro _; rfl)
    (hE : PassesOwn (model prog w) A env E := by passes_own) :
    wpAny (model prog w) A (exec (.For (.Name x px) iter body [] pos) env) Q E s := For_invVF F hx hp h hs hE
theorem For_hold2 {xi xc : Str} {pk pv pt pos : Pos} {x1 : Nat} {iter : Expr} {m : Str → Option Value} (F : Fr h₀ env.locals s.heap m) (hh : A.handled = none)
    (hxi : env.kindOf xi = some .local) (hxc : env.kindOf xc = some .local)
    (hp : (env.scope.kind == .class || (env.scope.kind == .module && env.locals != env.globals)) = false)
    (h : wpAny (model prog w) A (eval iter env) (fun xv s₁ => Hold (wpAny (model prog w) A (pyIter xv) (fun it s₂ => PairAt3 prog w A h₀ env xi xc body Q E it s₂) E s₁)) E s)
    (hs : ∀ x, foldedSetIterable iter env x = pure x)
    (hE : PassesOwn (model prog w) A env E := by passes_own) :
    wpAny (model prog w) A (exec (.For (.Tuple [.Name xi pk, .Name xc pv] x1 pt) iter body [] pos) env) Q E s := For_pair3F F hh hxi hxc hp h hs hE
end
theorem hold {P : Prop} (h : P) : Hold P := h

theorem setStrs {x : Str} {u : Tok} : ∀ {vs : List Value} {ns : List Str}, StrsAre vs ns → ∀ j : Nat, StrsAre (vs.set j (.str x u)) (ns.set j x)
  | _, _, .nil, _ => .nil
  | _, _, .cons _ _ h, 0 => .cons x u h
  | _, _, .cons i t h, j + 1 => .cons i t (setStrs h j)
section
variable {prog : Program} {w : World} {A : Around} {E : Value → Shared → Prop} {s : Shared} {h₀ : Heap} {L D : Addr} {m : Str → Option Value} {news news' : List (Addr × Obj)} {vs : List Value} {n : Nat} {k : Int} {t : Tok} {v : Value}
theorem set_at {Q : Unit → Shared → Prop} (F : Fr h₀ L s.heap m) (N : News h₀ L s.heap news) (U : Upd D (listOf vs.toArray n) (listOf (vs.set k.toNat v).toArray n) news news') (h0 : 0 ≤ k) (h1 : k < vs.length) (hfit : k < 2 ^ 63)
    (h : ∀ h', Fr h₀ L h' m → News h₀ L h' news' → Q () { s with heap := h' }) :
    wpAny (model prog w) A (setItem (.ref D) (.int k t) v) Q E s := by
  obtain ⟨pre, post, rfl, rfl, a, b⟩ := U.split
  have z := N (D, listOf vs.toArray n) (List.mem_append.mpr (.inr (.head _)))
  have hs : vs.toArray.size = vs.length := List.size_toArray
  refine ki_setAt z.1 h0 hfit (by omega) (h _ (F.change (Heap.SameBut.update ..) z.2.1 z.2.2) (ki_turn _ N a b ?_ ?_))
  · show vs.toArray.setIfInBounds k.toNat v = (vs.set k.toNat v).toArray
    apply Array.toList_inj.mp
    simp
  · simp
variable {env : Env} {x : Str} {body : List Stmt}
theorem iter_range1 {r l' : Addr} {o : Obj} {a₀ b₀ : Int} {t₀ u₀ v₀ : Tok} {n : Nat} {m₀ : Str → Option Value} {Q : Flow → Shared → Prop} (J : Addr → Nat → (Str → Option Value) → List (Addr × Obj) → Prop)
    (hh : A.handled = none) (hr : IsRange s.heap r a₀ b₀ 1 t₀ u₀ v₀) (hsmall : Builtin.Range.small a₀ b₀ 1 = true) (hsz : Builtin.Range.rangeSize a₀ b₀ 1 = (n : Int)) (F : Fr h₀ env.locals s.heap m₀) (N : News h₀ env.locals s.heap [(l', o)]) (hj : J l' 0 m₀ [(l', o)])
    (turn : ∀ i t m₁ nx h tk own, i < n → OwnOff own (nx.map (·.1)) → J l' i m₁ nx → Fr h₀ env.locals h (fun y => if y = x then some (.int (a₀ + (i : Int)) t) else m₁ y) → News h₀ env.locals h (nx ++ own) →
      wpAny (model prog w) A (execs body env) (InvPostG h₀ env.locals (J l' (i + 1)) own { s with heap := h, toks := tk } Q) E { s with heap := h, toks := tk })
    (done : ∀ m₁ nx h tk, J l' n m₁ nx → Fr h₀ env.locals h m₁ → News h₀ env.locals h nx → Q .next { s with heap := h, toks := tk }) :
    wpAny (model prog w) A (pyIter (.ref r)) (fun it s₂ => LoopAtV prog w A h₀ env x body Q E it s₂) E s := iter_range (J l') hh hr hsmall hsz F N hj turn done
end

theorem iter_range2 {prog : Program} {w : World} {A : Around} {E : Value → Shared → Prop} {s : Shared} {h₀ : Heap} {env : Env} {x : Str} {body : List Stmt} {r l' : Addr} {o : Obj} {own₀ : List (Addr × Obj)} {a₀ b₀ : Int} {t₀ u₀ v₀ : Tok} {n : Nat} {m₀ : Str → Option Value} {Q : Flow → Shared → Prop} (J : Addr → Nat → (Str → Option Value) → List (Addr × Obj) → Prop)
    (hh : A.handled = none) (hr : IsRange s.heap r a₀ b₀ 1 t₀ u₀ v₀) (hsmall : Builtin.Range.small a₀ b₀ 1 = true) (hsz : Builtin.Range.rangeSize a₀ b₀ 1 = (n : Int)) (F : Fr h₀ env.locals s.heap m₀) (N : News h₀ env.locals s.heap ((l', o) :: own₀)) (hj : J l' 0 m₀ ((l', o) :: own₀))
    (turn : ∀ i t m₁ nx h tk own, i < n → OwnOff own (nx.map (·.1)) → J l' i m₁ nx → Fr h₀ env.locals h (fun y => if y = x then some (.int (a₀ + (i : Int)) t) else m₁ y) → News h₀ env.locals h (nx ++ own) →
      wpAny (model prog w) A (execs body env) (InvPostG h₀ env.locals (J l' (i + 1)) own { s with heap := h, toks := tk } Q) E { s with heap := h, toks := tk })
    (done : ∀ m₁ nx h tk, J l' n m₁ nx → Fr h₀ env.locals h m₁ → News h₀ env.locals h nx → Q .next { s with heap := h, toks := tk }) :
    wpAny (model prog w) A (pyIter (.ref r)) (fun it s₂ => LoopAtV prog w A h₀ env x body Q E it s₂) E s := iter_range (J l') hh hr hsmall hsz F N hj turn done
theorem news_drop {h₀ h : Heap} {L : Addr} {p : Addr × Obj} {led : List (Addr × Obj)} (N : News h₀ L h (p :: led)) : News h₀ L h led := fun q hq => N q (.tail _ hq)
theorem inner_end {h₀ h' : Heap} {L l' : Addr} {m' : Str → Option Value} {o : Obj} {own own₀ : List (Addr × Obj)} {J : (Str → Option Value) → List (Addr × Obj) → Prop} {s₁ : Shared} {tk : Nat} (F : Fr h₀ L h' m') (N : News h₀ L h' ((l', o) :: (own₀ ++ own))) (ho : OwnOff own (l' :: own₀.map (·.1))) (hj : J m' ((l', o) :: own₀)) : InvEndG h₀ L J own s₁ { s₁ with heap := h', toks := tk } :=
  InvEndG.intro F N hj ho (fun p hp => by
    rcases List.mem_cons.mp hp with rfl | hp
    · exact .head _
    · exact .tail _ (List.mem_append.mpr (.inl hp))) (fun p hp => .tail _ (List.mem_append.mpr (.inr hp)))

section
variable {prog : Program} {w : World} {A : Around} {h₀ : Heap} {L : Addr} {m : Str → Option Value} {env : Env} {ct elt : Expr} {x : Str} {scope : Scope} {cl : List (Str × Addr)} {s : Shared} {S : List (Addr × Obj) → Prop} {P : Nat → Value → Prop} {Fin : List Value → List (Addr × Obj) → Prop} {news : List (Addr × Obj)}
theorem compT_rest {n : Nat} (R : Nat → List Value → Prop) (h0 : R 0 []) (hS : S news)
    (turn : ∀ i v I oI C oC D m₂ ys h tk (E' : Value → Shared → Prop), i < n → P i v → R i ys → LCg.NsObj oC m₂ → m₂ x = some v → Fr h₀ L h m → News h₀ L h ((I, oI) :: (C, oC) :: (D, LCg.lst ys) :: news) → LCg.Off3 I C D news → ((@Ne Nat I C) ∧ (@Ne Nat I D) ∧ (@Ne Nat C D)) →
      wpAny (model prog w) A (isTrue ct (compEnvC scope cl C env) (eval ct (compEnvC scope cl C env))) (fun ok s' => if ok = true then wpAny (model prog w) A (eval elt (compEnvC scope cl C env)) (EltEnd h₀ L m { s with heap := h, toks := tk } ((I, oI) :: (C, oC) :: (D, LCg.lst ys) :: news) (fun y => R (i + 1) (ys ++ [y]))) E' s'
        else EltEnd h₀ L m { s with heap := h, toks := tk } ((I, oI) :: (C, oC) :: (D, LCg.lst ys) :: news) (fun _ => R (i + 1) ys) Value.none s') E' { s with heap := h, toks := tk })
    (fin : ∀ ys, R n ys → Fin ys news) : LCt.CompRestT prog w A h₀ L m env ct elt x scope cl s S P Fin n 0 [] news := by
  have key : ∀ (j i : Nat) (ys : List Value), i + j = n → R i ys → LCt.CompRestT prog w A h₀ L m env ct elt x scope cl s S P Fin j i ys news := by
    intro j
    induction j with
    | zero =>
      intro i ys hi hy
      have e : i = n := by omega
      subst e
      exact LCt.CompRestT.zero (fin ys hy)
    | succ j ih =>
      intro i ys hi hy
      refine LCt.CompRestT.succ ?_
      intro v I oI C oC D m₂ h tk E' hv hC hx F N off ne
      refine wpAny_mono (turn i v I oI C oC D m₂ ys h tk E' (by omega) hv hy hC hx F N off ne) (fun ok s₂ hq => ?_) fun _ _ e => e
      cases ok with
      | true =>
        simp only [if_true] at hq ⊢
        refine wpAny_mono hq (fun y s₃ hr => ?_) fun _ _ e => e
        obtain ⟨h', tk', e, F', N', hr⟩ := hr
        exact ⟨h', tk', news, e, F', N', off, hS, ih (i + 1) _ (by omega) hr⟩
      | false =>
        simp only [Bool.false_eq_true, if_false] at hq ⊢
        obtain ⟨h', tk', e, F', N', hr⟩ := hq
        exact ⟨h', tk', news, e, F', N', off, hS, ih (i + 1) _ (by omega) hr⟩
  exact key n 0 [] (by omega) h0
end
theorem hold_it {P : Prop} (h : Hold P) : P := h
theorem while_end {h₀ h' : Heap} {L : Addr} {s : Shared} {J : Nat → (Str → Option Value) → List (Addr × Obj) → Prop} {Q : Flow → Shared → Prop} {n : Nat} {m₂ : Str → Option Value} {news₂ : List (Addr × Obj)} {tk : Nat} (n' : Nat) (F : Fr h₀ L h' m₂) (N : News h₀ L h' news₂) (hn : n' < n) (hJ : J n' m₂ news₂) :
    WhileStep2 h₀ L s J Q n .next { s with heap := h', toks := tk } := ⟨h', tk, m₂, news₂, n', rfl, F, N, hn, hJ⟩
theorem While_led {prog : Program} {w : World} {A : Around} {E : Value → Shared → Prop} {Q : Flow → Shared → Prop} {s : Shared} {env : Env} {h₀ : Heap} {L : Addr} {test : Expr} {body : List Stmt} {pos : Pos} {m : Str → Option Value} {l' : Addr} {o : Obj} {own : List (Addr × Obj)} (J : Addr → Nat → (Str → Option Value) → Prop) {n₀ : Nat}
    (F : Fr h₀ L s.heap m) (N : News h₀ L s.heap ((l', o) :: own)) (hJ : J l' n₀ m)
    (turn : ∀ n m₁ h₁ tk₁, Fr h₀ L h₁ m₁ → News h₀ L h₁ ((l', o) :: own) → J l' n m₁ →
      wpAny (model prog w) A (isTrue test env (eval test env)) (fun b s₂ =>
        if b = true then wpAny (model prog w) A (execs body env) (WhileStep2 h₀ L s (fun n m nx => nx = (l', o) :: own ∧ J l' n m) Q n) E s₂ else Q .next s₂) E { s with heap := h₁, toks := tk₁ })
    (hE : PassesOwn (model prog w) A env E := by passes_own) :
    wpAny (model prog w) A (exec (.While test body [] pos) env) Q E s :=
  While_inv2 (fun n m nx => nx = (l', o) :: own ∧ J l' n m) F N ⟨rfl, hJ⟩ (fun n m₁ nx h₁ tk₁ F₁ N₁ h => by
    obtain ⟨rfl, hj⟩ := h
    exact turn n m₁ h₁ tk₁ F₁ N₁ hj) hE
end Mine
end

section
open PySem PySem.W PyProof.Rows PySem.Calls PySem.Spec
set_option Elab.async false
set_option maxRecDepth 100000
set_option maxHeartbeats 8000000
namespace Mine
section
variable {prog : Program} {w : World} {A : Around} {s : Shared} {env : Env} {h₀ : Heap}

/-- a loop over pairs: what the body must bring at each turn -/
def PairsTurn (prog : Program) (w : World) (A : Around) (h₀ : Heap) (env : Env) (fp : List Addr) (n : Nat) (P2 : Nat → Value → Value → Prop) (J : Nat → (Str → Option Value) → List (Addr × Obj) → Prop) (xi xc : Str) (body : List Stmt) (Q : Flow → Shared → Prop) (E : Value → Shared → Prop) (s : Shared) : Prop :=
  ∀ i v0 v1 m₁ nx h tk own, i < n → P2 i v0 v1 → OwnOff own (nx.map (·.1)) → (∀ b ∈ fp, h₀.get? b = none → ∃ o, (b, o) ∈ own) → J i m₁ nx →
    Fr h₀ env.locals h (fun y => if y = xc then some v1 else if y = xi then some v0 else m₁ y) → News h₀ env.locals h (nx ++ own) →
    wpAny (model prog w) A (execs body env) (InvPostG h₀ env.locals (J (i + 1)) own { s with heap := h, toks := tk } Q) E { s with heap := h, toks := tk }

theorem pairs_loop {R : Result → Shared → Prop} {xi xc : Str} {pk pv pt : Pos} {x1 : Nat} {body : List Stmt} {I : Addr} {fp wr : List Addr} {n : Nat} {Pt : Nat → Array Value → Prop} {St : Nat → Heap → Prop} {Mid : Nat → Addr → Heap → Prop}
    {P2 : Nat → Value → Value → Prop} {m : Str → Option Value} {news : List (Addr × Obj)} (hh : A.handled = none) (W : WalksU prog w A I fp wr n Pt St Mid) (h2 : ∀ i vals, Pt i vals → ∃ v0 v1, vals = #[v0, v1] ∧ P2 i v0 v1)
    (hxi : env.kindOf xi = some .local) (hxc : env.kindOf xc = some .local)
    (hp : (env.scope.kind == .class || (env.scope.kind == .module && env.locals != env.globals)) = false)
    (hob : ∀ i h, St i h → ∀ b ∈ fp, ∃ o, h.get? b = some o)
    (hLf : env.locals ∉ fp) (hwr : ∀ b ∈ wr, h₀.get? b = none) (hnw : ∀ p ∈ news, p.1 ∉ fp)
    (hst : St 0 s.heap) (F : Fr h₀ env.locals s.heap m) (N : News h₀ env.locals s.heap news)
    (J : Nat → (Str → Option Value) → List (Addr × Obj) → Prop) (h0 : J 0 m news)
    (step : PairsTurn prog w A h₀ env fp n P2 J xi xc body (fun f s' => R (.ok f) s') (notedBy (model prog w) A env fun e s' => R (.error e) s') s)
    (hR : ∀ h' tk m' news', Fr h₀ env.locals h' m' → News h₀ env.locals h' news' → J n m' news' → R (.ok .next) { s with heap := h', toks := tk }) :
    codeAny (model prog w) A (.forLoop (.Tuple [.Name xi pk, .Name xc pv] x1 pt) (.ref I) body [] env) R s := by
  have old : ∀ b o, h₀.get? b = some o → b ∉ wr := fun b o e hb => by rw [hwr b hb] at e; cases e
  refine codeAny_forLoop_any
    (fun k s' => ∃ h' tk m' nx i, s' = { s with heap := h', toks := tk } ∧ St i h' ∧ Fr h₀ env.locals h' m' ∧ News h₀ env.locals h' nx ∧ (∀ p ∈ nx, p.1 ∉ fp) ∧ J i m' nx ∧ i ≤ n ∧ k = n + 1 - i) ?_ (n + 1)
    ⟨s.heap, s.toks, m, news, 0, rfl, hst, F, N, hnw, h0, Nat.zero_le _, rfl⟩
  rintro k s' ⟨H, tk, m', nx, i, rfl, hst', F', N', hsep, hJ, hi, rfl⟩
  have next : ∀ h₁ : Heap, (∀ b o, b ∉ wr → H.get? b = some o → h₁.get? b = some o) → Fr h₀ env.locals h₁ m' ∧ News h₀ env.locals h₁ nx := fun h₁ hk₁ =>
    ⟨⟨F'.ns.at' fun o e => hk₁ _ o (fun hm => hLf (W.sub _ hm)) e, fun b o e => hk₁ b o (old b o e) (F'.keep b o e), F'.above⟩, fun p hp => ⟨hk₁ _ _ (fun hm => hsep p hp (W.sub _ hm)) (N' p hp).1, (N' p hp).2⟩⟩
  by_cases hlt : i < n
  · refine W.item i _ _ _ hlt hst' fun T vals h₁ tk₁ hPt hT hMid hk₁ => ?_
    obtain ⟨v0, v1, rfl, hP2⟩ := h2 i vals hPt
    refine W.go _ x1 pt i T _ _ _ hMid fun h₂ hst₂ hk₂ => ?_
    refine wpAny_assign_Tuple hh (hT.at fun o e => hk₂ T o (W.apart i T h₁ hMid) e) rfl rfl fun h₃ hx₃ => ?_
    replace hx₃ : Heap.ExtBut h₂.objs.size h₂ h₃ := hx₃
    have up₃ : ∀ b o, h₂.get? b = some o → h₃.get? b = some o := fun b o x => hx₃ b o (Nat.ne_of_lt (Heap.lt_size x)) x
    obtain ⟨F₃, N₃⟩ := next h₃ fun b o hb x => up₃ b o (hk₂ b o hb (hk₁ b o hb x))
    show wpAny _ A (do holding [v1] (assign (.Name xi pk) env v0); do holding [] (assign (.Name xc pv) env v1); pure ()) _ _ _
    refine wpAny_bind (wpAny_holding (wpAny_assign_Name (wpAny_storeName_local hxi F₃.ns (fun h₄ hn₄ hs₄ => ?_) hp)))
    replace hs₄ : Heap.SameBut env.locals h₃ h₄ := hs₄
    have F₄ := F₃.set hn₄ hs₄
    refine wpAny_bind (wpAny_holding (wpAny_assign_Name (wpAny_storeName_local hxc F₄.ns (fun h₅ hn₅ hs₅ => wpAny_pure ?_) hp)))
    replace hs₅ : Heap.SameBut env.locals h₄ h₅ := hs₅
    have F₅ := F₄.set hn₅ hs₅
    have N₅ : News h₀ env.locals h₅ nx := (N₃.set hs₄).set hs₅
    have hst₅ : St (i + 1) h₅ := W.frame _ _ _ hst₂ fun b hb o e => hs₅.extBut b o (fun q => hLf (q ▸ hb)) (hs₄.extBut b o (fun q => hLf (q ▸ hb)) (up₃ b o e))
    have sep : OwnOff (ownOf h₀ fp h₅) (nx.map (·.1)) := by
      intro p hp b hb e
      obtain ⟨q, hq, rfl⟩ := List.mem_map.mp hb
      exact hsep q hq (e ▸ ownOf_sub p hp)
    have Nall : News h₀ env.locals h₅ (nx ++ ownOf h₀ fp h₅) := fun p hp => by
      rcases List.mem_append.mp hp with q | q
      · exact N₅ p q
      · exact news_ownOf hLf p q
    refine wpAny_mono (step i v0 v1 m' nx h₅ _ (ownOf h₀ fp h₅) hlt hP2 sep (fun b hb hn => by obtain ⟨o, ho⟩ := hob _ _ hst₅ b hb; exact ⟨o, mem_ownOf hb hn ho⟩) hJ F₅ Nall) (fun f s₃ h₆ => ?_) fun _ _ e => e
    have fin : InvEndG h₀ env.locals (J (i + 1)) (ownOf h₀ fp h₅) { s with heap := h₅, toks := tk₁ + 1 + 1 } s₃ → ∃ k', k' < n + 1 - i ∧ (∃ h' tk m' nx i, s₃ = { s with heap := h', toks := tk } ∧ St i h' ∧ Fr h₀ env.locals h' m' ∧ News h₀ env.locals h' nx ∧ (∀ p ∈ nx, p.1 ∉ fp) ∧ J i m' nx ∧ i ≤ n ∧ k' = n + 1 - i) := by
      rintro ⟨h₆', tk₆, m₂, all, nx₂, rfl, F₆, N₆, hn₆, ho₆, ha₆, hJ₆⟩
      refine ⟨n + 1 - (i + 1), by omega, h₆', tk₆, m₂, nx₂, i + 1, rfl, ?_, F₆, fun p hp => N₆ p (hn₆ p hp), ?_, hJ₆, hlt, rfl⟩
      · refine W.frame _ _ _ hst₅ fun b hb o e => ?_
        cases hn : h₀.get? b with
        | some o₀ =>
          have : o₀ = o := by have q := F₅.keep b o₀ hn; rw [e] at q; exact (Option.some.inj q).symm
          exact this ▸ F₆.keep b o₀ hn
        | none => exact (N₆ _ (ho₆ _ (mem_ownOf hb hn e))).1
      · intro p hp hb
        have hn : h₀.get? p.1 = none := (N₆ p (hn₆ p hp)).2.2
        obtain ⟨o, ho⟩ := hob _ _ hst₅ p.1 hb
        exact ha₆ _ (mem_ownOf hb hn ho) p.1 (List.mem_map.mpr ⟨p, hp, rfl⟩) rfl
    cases f with
    | ret v => exact h₆
    | brk => exact h₆
    | cont => exact fin h₆
    | next => exact fin h₆
  · have hin : i = n := by omega
    subst hin
    refine W.done _ _ _ hst' fun h₁ tk₁ hk₁ => wpAny_execs_nil ?_
    obtain ⟨F₁, N₁⟩ := next h₁ hk₁
    exact hR h₁ tk₁ m' nx F₁ N₁ hJ

def PairsAt (prog : Program) (w : World) (A : Around) (h₀ : Heap) (env : Env) (xi xc : Str) (body : List Stmt) (Q : Flow → Shared → Prop) (E : Value → Shared → Prop) (it : Value) (s₂ : Shared) : Prop :=
  ∃ (I : Addr) (fp wr : List Addr) (n : Nat) (Pt : Nat → Array Value → Prop) (St : Nat → Heap → Prop) (Mid : Nat → Addr → Heap → Prop) (P2 : Nat → Value → Value → Prop) (m : Str → Option Value) (news : List (Addr × Obj))
    (J : Nat → (Str → Option Value) → List (Addr × Obj) → Prop),
    it = .ref I ∧ WalksU prog w A I fp wr n Pt St Mid ∧ (∀ i vals, Pt i vals → ∃ v0 v1, vals = #[v0, v1] ∧ P2 i v0 v1) ∧ (∀ i h, St i h → ∀ b ∈ fp, ∃ o, h.get? b = some o) ∧ env.locals ∉ fp ∧ (∀ b ∈ wr, h₀.get? b = none) ∧ (∀ p ∈ news, p.1 ∉ fp) ∧ St 0 s₂.heap ∧
    Fr h₀ env.locals s₂.heap m ∧ News h₀ env.locals s₂.heap news ∧ J 0 m news ∧ PairsTurn prog w A h₀ env fp n P2 J xi xc body Q E s₂ ∧
    (∀ h' tk m' news', Fr h₀ env.locals h' m' → News h₀ env.locals h' news' → J n m' news' → Q .next { s₂ with heap := h', toks := tk })

theorem invPost_mono {L : Addr} {J : (Str → Option Value) → List (Addr × Obj) → Prop} {own : List (Addr × Obj)} {s₁ s₂ : Shared} {Q : Flow → Shared → Prop} {f : Flow} (h : InvPostG h₀ L J own s₁ Q f s₂) : InvPostG h₀ L J own s₁ (fun f s' => Q f s') f s₂ := h

theorem For_holdP {E : Value → Shared → Prop} {Q : Flow → Shared → Prop} {xi xc : Str} {pk pv pt pos : Pos} {x1 : Nat} {iter : Expr} {body : List Stmt} {m : Str → Option Value} (_F : Fr h₀ env.locals s.heap m) (hh : A.handled = none)
    (hxi : env.kindOf xi = some .local) (hxc : env.kindOf xc = some .local)
    (hp : (env.scope.kind == .class || (env.scope.kind == .module && env.locals != env.globals)) = false)
    (h : wpAny (model prog w) A (eval iter env) (fun xv s₁ => Hold (wpAny (model prog w) A (pyIter xv) (fun it s₂ => PairsAt prog w A h₀ env xi xc body Q E it s₂) E s₁)) E s)
    (hs : ∀ x, foldedSetIterable iter env x = pure x)
    (hE : PassesOwn (model prog w) A env E := by passes_own) :
    wpAny (model prog w) A (exec (.For (.Tuple [.Name xi pk, .Name xc pv] x1 pt) iter body [] pos) env) Q E s := by
  refine wpAny_For (wpAny_mono h (fun xv s₁ h₁ => wpAny_mono (show wpAny (model prog w) A (pyIter xv) (fun it s₂ => PairsAt prog w A h₀ env xi xc body Q E it s₂) E s₁ from h₁) (fun it s₂ h₂ => ?_) fun _ _ e => e) fun _ _ e => e) hs
  obtain ⟨I, fp, wr, n, Pt, St, Mid, P2, m, news, J, rfl, W, h2, hob, hLf, hwr, hnw, hst, F, N, h0, step, hQ⟩ := h₂
  exact pairs_loop (R := fun r s' => match r with | .ok f => Q f s' | .error e => cameBackBy (model prog w) A env E e s') hh W h2 hxi hxc hp hob hLf hwr hnw hst F N J h0
    (fun i v0 v1 m₁ nx h tk own a b c d e f g => wpAny_mono (wpAny_passesOwn hE (step i v0 v1 m₁ nx h tk own a b c d e f g)) (fun f s' q => by cases f <;> exact q) fun _ _ e => e) hQ
end

section
variable {prog : Program} {w : World} {A : Around} {E : Value → Shared → Prop} {s : Shared} {env : Env} {h₀ : Heap} {xi xc : Str} {body : List Stmt} {Q : Flow → Shared → Prop}

/-- what a made enumerate over a list of the base offers -/
def EnumAt (h : Heap) (h₀ : Heap) (L : Addr) (e it : Addr) (l : Addr) (vs : List Value) : Prop :=
  IsEnum h e it 0 .none ∧ h.IsListIter it l 0 ∧ h.IsList l vs.toArray ∧ e ≠ it ∧ e ≠ l ∧ it ≠ l ∧ L ≠ e ∧ L ≠ it ∧ L ≠ l ∧ h₀.get? e = none ∧ h₀.get? it = none

theorem call_enum {l : Addr} {vs : List Value} {nn : Nat} {L : Addr} {m : Str → Option Value} {news : List (Addr × Obj)} {Q : Value → Shared → Prop} (F : Fr h₀ L s.heap m) (N : News h₀ L s.heap news) (hl : h₀.get? l = some (listOf vs.toArray nn))
    (h : ∀ h' e it, Fr h₀ L h' m → News h₀ L h' news → EnumAt h' h₀ L e it l vs → (∀ p ∈ news, p.1 < it) → it < e → Q (.ref e) { s with heap := h' }) :
    wpAny (model prog w) A (call (.type "enumerate") [.ref l]) Q E s := by
  have hls : s.heap.IsList l vs.toArray := isList_of_get (F.keep _ _ hl)
  have hlt : l < h₀.objs.size := Heap.lt_size hl
  have hLs : L < s.heap.objs.size := F.ns.lt
  have hlL : l < L := Nat.lt_of_lt_of_le hlt F.above
  refine call_enumerate_list hls fun h' he hit hsz hk => ?_
  refine h h' _ s.heap.objs.size ⟨F.ns.keeps hk, fun b o e => hk b o (F.keep b o e), F.above⟩ (fun p hp => ⟨hk _ _ (N p hp).1, (N p hp).2⟩) ⟨he, hit, hls.at fun o e => hk l o e, Nat.succ_ne_self _, ?_, ?_, ?_, ?_, ?_, ?_, ?_⟩ (fun p hp => Heap.lt_size (N p hp).1) (Nat.lt_succ_self _)
  · exact Nat.ne_of_gt (Nat.lt_trans hlL (Nat.lt_succ_of_lt hLs))
  · exact Nat.ne_of_gt (Nat.lt_trans hlL hLs)
  · exact Nat.ne_of_lt (Nat.lt_succ_of_lt hLs)
  · exact Nat.ne_of_lt hLs
  · exact Nat.ne_of_gt hlL
  · exact Heap.get?_none_of_le (Nat.le_trans F.above (Nat.le_of_lt (Nat.lt_succ_of_lt hLs)))
  · exact Heap.get?_none_of_le (Nat.le_trans F.above (Nat.le_of_lt hLs))

theorem iter_enum {l l' e it : Addr} {o : Obj} {vs : List Value} {m : Str → Option Value} (J : Addr → Nat → (Str → Option Value) → List (Addr × Obj) → Prop) (hh : A.handled = none)
    (X : EnumAt s.heap h₀ env.locals e it l vs) (hb : ∃ o, h₀.get? l = some o) (F : Fr h₀ env.locals s.heap m) (N : News h₀ env.locals s.heap [(l', o)]) (hsep : ∀ p ∈ [(l', o)], p.1 < it) (hlt : it < e) (h0 : J l' 0 m [(l', o)])
    (turn : ∀ i t v m₁ nx h tk own, vs[i]? = some v → OwnOff own (nx.map (·.1)) → (∃ o, (e, o) ∈ own) → J l' i m₁ nx →
      Fr h₀ env.locals h (fun y => if y = xc then some v else if y = xi then some (.int i t) else m₁ y) → News h₀ env.locals h (nx ++ own) →
      wpAny (model prog w) A (execs body env) (InvPostG h₀ env.locals (J l' (i + 1)) own { s with heap := h, toks := tk } Q) E { s with heap := h, toks := tk })
    (done : ∀ m₁ nx h tk, J l' vs.length m₁ nx → Fr h₀ env.locals h m₁ → News h₀ env.locals h nx → Q .next { s with heap := h, toks := tk }) :
    wpAny (model prog w) A (pyIter (.ref e)) (fun it s₂ => PairsAt prog w A h₀ env xi xc body Q E it s₂) E s := by
  obtain ⟨he, hit, hl, n1, n2, n3, n4, n5, n6, f1, f2⟩ := X
  refine wpAny_pyIter_enum he ?_
  have W := (WalksT.enumerateD (Draws.list (prog := prog) (w := w) (A := A.in1) hh it l (Ne.symm n3) vs.toArray) e n1 (by simp [n1, n2]) (by simp)).toU
  have s2 : l' ≠ it := Nat.ne_of_lt (hsep _ (.head _))
  have s1 : l' ≠ e := Nat.ne_of_lt (Nat.lt_trans (hsep _ (.head _)) hlt)
  refine ⟨e, _, _, vs.toArray.size, _, _, _, (fun i v0 v1 => ∃ t, v0 = .int i t ∧ vs[i]? = some v1), m, [(l', o)], J l', rfl, W, ?_, ?_, ?_, ?_, ?_, ⟨⟨_, he⟩, hit, hl⟩, F, N, h0, ?_, ?_⟩
  · rintro i vals ⟨t, x, hx, rfl⟩
    exact ⟨_, _, rfl, t, rfl, by simpa using hx⟩
  · rintro i h ⟨⟨old, he'⟩, hit', hl'⟩ b hb
    rcases List.mem_cons.mp hb with rfl | hb
    · exact ⟨_, he'⟩
    · rcases List.mem_cons.mp hb with rfl | hb
      · obtain ⟨o, ho, _⟩ := hit'; exact ⟨o, ho⟩
      · rw [List.mem_singleton.mp hb]; obtain ⟨o, ho, _⟩ := hl'; exact ⟨o, ho⟩
  · simp [n4, n5, n6]
  · intro b hb
    rcases List.mem_cons.mp hb with rfl | hb
    · exact f1
    · rw [List.mem_singleton.mp hb]; exact f2
  · intro p hp
    rw [List.mem_singleton.mp hp]
    have s3 : l' ≠ l := by
      intro q
      obtain ⟨ob, hob⟩ := hb
      have := (N _ (.head _)).2.2
      rw [show (l', o).1 = l from q, hob] at this; cases this
    simp [s1, s2, s3]
  · rintro i v0 v1 m₁ nx h tk own hi ⟨t, rfl, hv⟩ hoff hown hJ F₁ N₁
    exact turn i t v1 m₁ nx h tk own hv hoff (hown e (by simp) f1) hJ F₁ N₁
  · intro h' tk m' news' F' N' hJ
    rw [List.size_toArray] at hJ
    exact done m' news' h' tk hJ F' N'
end
end Mine
end

section
open PySem PySem.W PyProof.Rows PySem.Calls PySem.Spec PySem.SeqAt
set_option Elab.async false
set_option maxRecDepth 100000
set_option maxHeartbeats 8000000
namespace Mine
theorem strs_get {vs : List Value} {xs : List Str} (h : StrsAre vs xs) {j : Nat} (hj : j < vs.length) : ∃ (x : Str) (t : Tok), vs[j] = Value.str x t ∧ xs[j]? = some x := by
  obtain ⟨x, t, e, hx⟩ := StrsAre.item h j vs[j] (List.getElem?_eq_getElem hj)
  exact ⟨x, t, e, hx⟩
theorem all_range_eq {α : Type} [DecidableEq α] (xs ys : List α) (h : xs.length = ys.length) : (List.range xs.length).all (fun j => decide (xs[j]? = ys[j]?)) = decide (xs = ys) := by
  rw [Bool.eq_iff_iff, List.all_eq_true, decide_eq_true_eq]
  constructor
  · intro k
    apply List.ext_getElem? 
    intro j
    by_cases hj : j < xs.length
    · exact of_decide_eq_true (k j (List.mem_range.mpr hj))
    · rw [List.getElem?_eq_none (by omega), List.getElem?_eq_none (by omega)]
  · intro e j _
    rw [e]; exact decide_eq_true rfl
section
variable {A : Around} {s : Shared} {l b : Addr} {vs ws : List Value} {xs ys : List Str}
theorem strs_items (hv : StrsAre vs xs) (hw : StrsAre ws ys) : ∀ j (h1 : j < vs.toArray.size) (h2 : j < ws.toArray.size), EqAt A.in1 s vs.toArray[j] ws.toArray[j] (decide (xs[j]? = ys[j]?)) := by
  intro j h1 h2
  obtain ⟨x, t, e1, e2⟩ := strs_get hv (j := j) (by simpa using h1)
  obtain ⟨y, u, e3, e4⟩ := strs_get hw (j := j) (by simpa using h2)
  rw [List.getElem_toArray, List.getElem_toArray, e1, e3, e2, e4]
  have e : decide (some x = some y) = (x == y) := by
    rw [Bool.eq_iff_iff, decide_eq_true_eq, beq_iff_eq, Option.some.injEq]
  rw [e]
  exact EqAt.str_str x t y u
theorem rc_strs (hl : s.heap.IsList l vs.toArray) (hb : s.heap.IsList b ws.toArray) (hv : StrsAre vs xs) (hw : StrsAre ws ys) (hu : A.units < cLine) : RcAt A s (.ref l) (.ref b) (decide (xs = ys)) := by
  have e1 := hv.length
  have e2 := hw.length
  by_cases h : xs.length = ys.length
  · have := RcAt.lists (e := fun j => decide (xs[j]? = ys[j]?)) hl hb (by simp; omega) hu (strs_items hv hw)
    rw [List.size_toArray, e1, all_range_eq xs ys h] at this
    exact this
  · rw [decide_eq_false (fun e => h (by rw [e]))]
    exact RcAt.lists_lengths hl hb (by simp; omega) hu
theorem rn_strs (hl : s.heap.IsList l vs.toArray) (hb : s.heap.IsList b ws.toArray) (hv : StrsAre vs xs) (hw : StrsAre ws ys) (hu : A.units < cLine) : RcNeAt A s (.ref l) (.ref b) (!decide (xs = ys)) := by
  have e1 := hv.length
  have e2 := hw.length
  by_cases h : xs.length = ys.length
  · have := RcNeAt.lists (e := fun j => decide (xs[j]? = ys[j]?)) hl hb (by simp; omega) hu (strs_items hv hw)
    rw [List.size_toArray, e1, all_range_eq xs ys h] at this
    exact this
  · rw [decide_eq_false (fun e => h (by rw [e]))]
    exact RcNeAt.lists_lengths hl hb (by simp; omega) hu
variable {prog : Program} {w : World} {E : Value → Shared → Prop} {Q : Value → Shared → Prop}
theorem cmp_ne_strs (hl : s.heap.IsList l vs.toArray) (hb : s.heap.IsList b ws.toArray) (hv : StrsAre vs xs) (hw : StrsAre ws ys) (hu : A.units < cLine) (h : Q (.bool (!decide (xs = ys))) s) : wpAny (model prog w) A (compareOp .NotEq (.ref l) (.ref b)) Q E s :=
  cmp_ofNotEq (rn_strs hl hb hv hw hu prog w E Q h)
theorem cmp_eq_strs (hl : s.heap.IsList l vs.toArray) (hb : s.heap.IsList b ws.toArray) (hv : StrsAre vs xs) (hw : StrsAre ws ys) (hu : A.units < cLine) (h : Q (.bool (decide (xs = ys))) s) : wpAny (model prog w) A (compareOp .Eq (.ref l) (.ref b)) Q E s :=
  cmp_ofEq (rc_strs hl hb hv hw hu prog w E Q h)
end
section
variable {prog : Program} {w : World} {A : Around} {E : Value → Shared → Prop} {s : Shared} {h₀ : Heap} {L l b : Addr} {vs ws : List Value} {xs ys : List Str} {n n' : Nat} {led : List (Addr × Obj)} {Q : Value → Shared → Prop}
theorem cmp_ne_led (N : News h₀ L s.heap led) (hl : (l, listOf vs.toArray n) ∈ led) (hb : (b, listOf ws.toArray n') ∈ led) (hv : StrsAre vs xs) (hw : StrsAre ws ys) (hu : A.units < cLine) (h : Q (.bool (!decide (xs = ys))) s) : wpAny (model prog w) A (compareOp .NotEq (.ref l) (.ref b)) Q E s :=
  cmp_ne_strs (isList_of_get (N _ hl).1) (isList_of_get (N _ hb).1) hv hw hu h
theorem cmp_eq_led (N : News h₀ L s.heap led) (hl : (l, listOf vs.toArray n) ∈ led) (hb : (b, listOf ws.toArray n') ∈ led) (hv : StrsAre vs xs) (hw : StrsAre ws ys) (hu : A.units < cLine) (h : Q (.bool (decide (xs = ys))) s) : wpAny (model prog w) A (compareOp .Eq (.ref l) (.ref b)) Q E s :=
  cmp_eq_strs (isList_of_get (N _ hl).1) (isList_of_get (N _ hb).1) hv hw hu h
end
section
variable {prog : Program} {w : World} {A : Around} {E : Value → Shared → Prop} {s : Shared} {h₀ : Heap} {L l : Addr} {vs : List Value} {xs : List Str} {n : Nat} {led : List (Addr × Obj)} {Q : Value → Shared → Prop} {value slice : Expr} {u : Tok}
theorem last_item (hl : s.heap.IsList l vs.toArray) (hv : StrsAre vs xs) (hne : xs ≠ []) (hsz : xs.length ≤ 100) (h : ∀ t, Q (.str (xs.getLast?.getD Str.empty) t) s)
    (hs : subscripted slice false (.ref l) (.int (-1) u) = operate [.ref l, .int (-1) u] (getItem (.ref l) (.int (-1) u)) := by with_unfolding_all rfl) :
    wpAny (model prog w) A (subscriptTail value slice (.ref l) (.int (-1) u)) Q E s := by
  have hlen := hv.length
  have hpos : 0 < xs.length := List.length_pos_iff.mpr hne
  obtain ⟨x, t, e, hx⟩ := strs_get hv (j := xs.length - 1) (by omega)
  refine tail_any hl.typeIs slot_list_getitem.lookup (wpAny_getItem_list_neg (x := .str x t) hl (by decide) (by rw [List.size_toArray]; omega) (by decide) ?_ ?_) hs
  · rw [List.size_toArray, show (-1 + (vs.length : Int)).toNat = xs.length - 1 from by omega]
    simp only [List.getElem?_toArray]
    rw [List.getElem?_eq_getElem (by omega), e]
  · have : xs.getLast?.getD Str.empty = x := by
      rw [List.getLast?_eq_getElem?, hx]; rfl
    rw [← this]
    exact h t
end
section
variable {prog : Program} {w : World} {A : Around} {E : Value → Shared → Prop} {s : Shared} {h₀ : Heap} {L S T l1 l2 l3 : Addr} {vs w1 w2 w3 : List Value} {xs y1 y2 y3 : List Str} {n1 n2 n3 nT : Nat} {oS : Obj} {led : List (Addr × Obj)} {Q : Value → Shared → Prop}
theorem in_lists3 (hT : s.heap.IsTuple T #[.ref l1, .ref l2, .ref l3]) (hS : s.heap.IsList S vs.toArray) (h1 : s.heap.IsList l1 w1.toArray) (h2 : s.heap.IsList l2 w2.toArray) (h3 : s.heap.IsList l3 w3.toArray)
    (sS : StrsAre vs xs) (s1 : StrsAre w1 y1) (s2 : StrsAre w2 y2) (s3 : StrsAre w3 y3) (e1 : l1 ≠ S) (e2 : l2 ≠ S) (e3 : l3 ≠ S) (e12 : l1 ≠ l2) (e13 : l1 ≠ l3) (e23 : l2 ≠ l3) (hu : A.units + 1 < cLine)
    (h : Q (.bool (decide (y1 = xs) || decide (y2 = xs) || decide (y3 = xs))) s) : wpAny (model prog w) A (compareOp .In (.ref S) (.ref T)) Q E s := by
  let e : Value → Bool := fun v => match v with
    | .ref a => if a = l1 then decide (y1 = xs) else if a = l2 then decide (y2 = xs) else decide (y3 = xs)
    | _ => false
  have g1 : e (.ref l1) = decide (y1 = xs) := by show (if l1 = l1 then _ else _) = _; rw [if_pos rfl]
  have g2 : e (.ref l2) = decide (y2 = xs) := by show (if l2 = l1 then _ else _) = _; rw [if_neg (Ne.symm e12), if_pos rfl]
  have g3 : e (.ref l3) = decide (y3 = xs) := by show (if l3 = l1 then _ else _) = _; rw [if_neg (Ne.symm e13), if_neg (Ne.symm e23)]
  refine in_tupleAt e hT (fun y hy => ?_) ?_
  · simp only [List.mem_toArray, List.mem_cons, List.not_mem_nil, or_false] at hy
    rcases hy with rfl | rfl | rfl
    · rw [g1]; exact EqAt.of_refs e1 (rc_strs h1 hS s1 sS hu)
    · rw [g2]; exact EqAt.of_refs e2 (rc_strs h2 hS s2 sS hu)
    · rw [g3]; exact EqAt.of_refs e3 (rc_strs h3 hS s3 sS hu)
  · have : (#[.ref l1, .ref l2, .ref l3] : Array Value).any e = (decide (y1 = xs) || decide (y2 = xs) || decide (y3 = xs)) := by
      rw [← g1, ← g2, ← g3]; simp [Bool.or_assoc]
    rw [this]; exact h
theorem in_led3 (N : News h₀ L s.heap led) (hT : (T, ({ cls := .type "tuple", data := .seq #[.ref l1, .ref l2, .ref l3] nT } : Obj)) ∈ led) (hS : (S, oS) ∈ led) (eS : oS = { cls := .type "list", data := .seq vs.toArray }) (h1 : (l1, listOf w1.toArray n1) ∈ led) (h2 : (l2, listOf w2.toArray n2) ∈ led) (h3 : (l3, listOf w3.toArray n3) ∈ led)
    (sS : StrsAre vs xs) (s1 : StrsAre w1 y1) (s2 : StrsAre w2 y2) (s3 : StrsAre w3 y3) (e1 : @Ne Nat l1 S) (e2 : @Ne Nat l2 S) (e3 : @Ne Nat l3 S) (e12 : @Ne Nat l1 l2) (e13 : @Ne Nat l1 l3) (e23 : @Ne Nat l2 l3) (hu : A.units + 1 < cLine)
    (h : Q (.bool (decide (y1 = xs) || decide (y2 = xs) || decide (y3 = xs))) s) : wpAny (model prog w) A (compareOp .In (.ref S) (.ref T)) Q E s :=
  in_lists3 ⟨_, (N _ hT).1, rfl, nT, rfl⟩ ⟨_, (N _ hS).1, by rw [eS], 0, by rw [eS]⟩ (isList_of_get (N _ h1).1) (isList_of_get (N _ h2).1) (isList_of_get (N _ h3).1) sS s1 s2 s3 e1 e2 e3 e12 e13 e23 hu h
end
section
variable {prog : Program} {w : World} {A : Around} {E : Value → Shared → Prop} {s : Shared} {h₀ : Heap} {L l : Addr} {m : Str → Option Value} {news : List (Addr × Obj)} {value slice : PySem.Expr} {vs : List Value} {xs : List Str} {vl vu vk : Value} {x y : Int} {ops : List Value} {Q : Value → Shared → Prop}
theorem sl_size (hv : StrsAre vs xs) (hb : xs.length ≤ 100) : vs.toArray.size ≤ sizeLine := by
  rw [List.size_toArray, hv.length, PySem.sizeLine_eq]; omega
theorem sl_upto (F : Fr h₀ L s.heap m) (N : News h₀ L s.heap news) (hl : s.heap.IsList l vs.toArray) (hv : StrsAre vs xs) (hb : xs.length ≤ 100) (pl : IsPart vl none) (pu : IsPart vu (some y)) (h0 : 0 ≤ y)
    (h : ∀ D h', Fr h₀ L h' m → News h₀ L h' ((D, listOf (vs.take y.toNat).toArray 0) :: news) → (∀ p ∈ news, p.1 < D) → StrsAre (vs.take y.toNat) (xs.take y.toNat) → (xs.take y.toNat).length ≤ 100 → Q (.ref D) { s with heap := h' })
    (hs : subscripted slice false (.ref l) (.ref s.heap.objs.size) = operate [.ref s.heap.objs.size, .ref l] (getItem (.ref l) (.ref s.heap.objs.size))) (ht : ∀ r, letTemporaryGo value (.ref l) r = pure ()) :
    wpAny (model prog w) A (subscriptTail value slice (.ref l) (.ref s.heap.objs.size)) Q E { s with heap := s.heap.push { cls := .type "slice", data := .fields #[vl, vu, .none] } } := by
  refine kmk_slice F N hl pl pu (fun D h' F' N' l1 => h D h' F' ?_ l1 (hv.take' _) (by rw [List.length_take]; omega)) hs ht (sl_size hv hb)
  have e : slicePick vs.toArray none (some y) none = (vs.take y.toNat).toArray := by
    have := slicePick_upto' vs.toArray y.toNat
    rw [Int.toNat_of_nonneg h0] at this
    rw [this]
  rw [← e]; exact N'
theorem sl_from (F : Fr h₀ L s.heap m) (N : News h₀ L s.heap news) (hl : s.heap.IsList l vs.toArray) (hv : StrsAre vs xs) (hb : xs.length ≤ 100) (pl : IsPart vl (some x)) (pu : IsPart vu none) (h0 : 0 ≤ x)
    (h : ∀ D h', Fr h₀ L h' m → News h₀ L h' ((D, listOf (vs.drop x.toNat).toArray 0) :: news) → (∀ p ∈ news, p.1 < D) → StrsAre (vs.drop x.toNat) (xs.drop x.toNat) → (xs.drop x.toNat).length ≤ 100 → Q (.ref D) { s with heap := h' })
    (hs : subscripted slice false (.ref l) (.ref s.heap.objs.size) = operate [.ref s.heap.objs.size, .ref l] (getItem (.ref l) (.ref s.heap.objs.size))) (ht : ∀ r, letTemporaryGo value (.ref l) r = pure ()) :
    wpAny (model prog w) A (subscriptTail value slice (.ref l) (.ref s.heap.objs.size)) Q E { s with heap := s.heap.push { cls := .type "slice", data := .fields #[vl, vu, .none] } } := by
  refine kmk_slice F N hl pl pu (fun D h' F' N' l1 => h D h' F' ?_ l1 (hv.drop' _) (by rw [List.length_drop]; omega)) hs ht (sl_size hv hb)
  have e : slicePick vs.toArray (some x) none none = (vs.drop x.toNat).toArray := by
    have := slicePick_from' vs.toArray x.toNat
    rw [Int.toNat_of_nonneg h0] at this
    rw [this]
  rw [← e]; exact N'
theorem strs_reverse : ∀ {vs : List Value} {xs : List Str}, StrsAre vs xs → StrsAre vs.reverse xs.reverse
  | _, _, .nil => .nil
  | _, _, .cons y t r => by
    rw [List.reverse_cons, List.reverse_cons]
    exact StrsAre.append' (strs_reverse r) (.cons y t .nil)
theorem sl_rev (F : Fr h₀ L s.heap m) (N : News h₀ L s.heap news) (hl : s.heap.IsList l vs.toArray) (hv : StrsAre vs xs) (hb : xs.length ≤ 100) (pk : IsPart vk (some (-1)))
    (h : ∀ D h', Fr h₀ L h' m → News h₀ L h' ((D, listOf (vs.reverse).toArray 0) :: news) → (∀ p ∈ news, p.1 < D) → StrsAre vs.reverse xs.reverse → xs.reverse.length ≤ 100 → Q (.ref D) { s with heap := h' })
    (hs : subscripted slice false (.ref l) (.ref s.heap.objs.size) = operate ops (getItem (.ref l) (.ref s.heap.objs.size))) (ht : ∀ r, letTemporaryGo value (.ref l) r = pure ()) :
    wpAny (model prog w) A (subscriptTail value slice (.ref l) (.ref s.heap.objs.size)) Q E { s with heap := s.heap.push { cls := .type "slice", data := .fields #[.none, .none, vk] } } :=
  krv_lit (its := vs.toArray) (zs := vs.reverse) F N hl pk rfl (fun D h' F' N' l1 => h D h' F' N' l1 (strs_reverse hv) (by rw [List.length_reverse]; exact hb)) hs ht (sl_size hv hb)
end
section
variable {prog : Program} {w : World} {A : Around} {E : Value → Shared → Prop} {s : Shared} {h₀ : Heap} {L l b : Addr} {m : Str → Option Value} {news : List (Addr × Obj)} {vs ws : List Value} {xs ys : List Str} {Q : Value → Shared → Prop}
theorem add_strs (F : Fr h₀ L s.heap m) (N : News h₀ L s.heap news) (hl : s.heap.IsList l vs.toArray) (hb : s.heap.IsList b ws.toArray) (hv : StrsAre vs xs) (hw : StrsAre ws ys) (hx : xs.length ≤ 100) (hy : ys.length ≤ 100)
    (h : ∀ D h', Fr h₀ L h' m → News h₀ L h' ((D, listOf (vs ++ ws).toArray 0) :: news) → (∀ p ∈ news, p.1 < D) → StrsAre (vs ++ ws) (xs ++ ys) → Q (.ref D) { s with heap := h' }) :
    wpAny (model prog w) A (binaryOp .Add (.ref l) (.ref b)) Q E s :=
  add_lists F N hl hb (fun h' F' N' => h _ h' F' N' (fun p hp => Heap.lt_size (N p hp).1) (StrsAre.append' hv hw)) (by rw [hv.length, hw.length, PySem.sizeLine_eq]; omega)
end
end Mine
end

section
open PySem PySem.W PyProof.Rows PySem.Calls PySem.Spec PyProof.Rows.LCg
set_option Elab.async false
set_option maxRecDepth 100000
set_option maxHeartbeats 8000000
namespace Mine
section
variable {prog : Program} {w : World} {A : Around} {E : Value → Shared → Prop} {s : Shared} {h₀ : Heap} {L : Addr} {m : Str → Option Value} {env : Env}

/-- one element of a comprehension over pairs -/
def PairElt (prog : Program) (w : World) (A : Around) (h₀ : Heap) (L : Addr) (m : Str → Option Value) (env : Env) (elt : Expr) (x x₂ : Str) (scope : Scope) (cl : List (Str × Addr)) (n : Nat) (P2 : Nat → Value → Value → Prop) (R : Nat → Value → Prop) (news : List (Addr × Obj)) (s : Shared) : Prop :=
  ∀ i v0 v1 C oC D m₂ ys h tk own (E' : Value → Shared → Prop), i < n → P2 i v0 v1 → NsObj oC m₂ → m₂ x = some v0 → m₂ x₂ = some v1 → Fr h₀ L h m → News h₀ L h ((C, oC) :: (D, lst ys) :: (news ++ own)) →
    wpAny (model prog w) A (eval elt (compEnvC scope cl C env)) (EltEnd h₀ L m { s with heap := h, toks := tk } ((C, oC) :: (D, lst ys) :: (news ++ own)) (R i)) E' { s with heap := h, toks := tk }

theorem enum_block {elt iter : Expr} {x x₂ : Str} {px px₂ tp : Pos} {tk : Nat} {scope : Scope} {cl : List (Str × Addr)} {pos : Pos} {s₂ : Shared} {I : Addr} {fp wr : List Addr} {n : Nat} {Pt : Nat → Array Value → Prop} {St : Nat → Heap → Prop} {Mid : Nat → Addr → Heap → Prop} {P2 : Nat → Value → Value → Prop} {news : List (Addr × Obj)}
    {RR : Value → Addr → Result → Shared → Prop} (R : Nat → Value → Prop)
    (W : WalksU prog w A I fp wr n Pt St Mid) (h2 : ∀ i vals, Pt i vals → ∃ v0 v1, vals = #[v0, v1] ∧ P2 i v0 v1) (hsz : n ≤ sizeLine) (hob : ∀ i h, St i h → ∀ b ∈ fp, ∃ o, h.get? b = some o)
    (hcell : ∀ y ∈ scope.names, y.2 ≠ .cell) (hkind : scope.kind = .function) (hx : scope.names.lookup x = some .local) (hx₂ : scope.names.lookup x₂ = some .local) (hxx : x ≠ x₂) (hh : A.handled = none) (hst : St 0 s₂.heap) (hfp : ∀ b ∈ fp, b < s₂.heap.objs.size)
    (F : Fr h₀ L s₂.heap m) (N : News h₀ L s₂.heap news) (hLf : L ∉ fp) (hwr : ∀ b ∈ wr, h₀.get? b = none) (hnw : ∀ p ∈ news, p.1 ∉ wr)
    (turn : PairElt prog w A h₀ L m env elt x x₂ scope cl n P2 R news s₂)
    (hRR : ∀ D C h tk m' ys, ys.length = n → (∀ (j : Nat) v, ys[j]? = some v → R j v) → Fr h₀ L h m → News h₀ L h ((D, lst ys) :: news) → Off1 D news → h.Ns C m' → h₀.get? C = none → C ≠ L → C ≠ D → (∀ p ∈ news, p.1 ≠ C) → RR (.ref D) C (.ok .next) { s₂ with heap := h, toks := tk }) :
    wpAny (model prog w) A (newList []) (fun acc s₃ => wpAny (model prog w) A (newFunctionEnv scope env.globals cl [] env.qual none .none (some env)) (fun cenv s₄ =>
      codeAny (model prog w) A (.compStart (.ListComp elt [⟨.Tuple [.Name x px, .Name x₂ px₂] tk tp, iter, [], 0⟩] scope pos) 0 (.ref I) acc { cenv with scope := relabel scope env }) (RR acc cenv.locals) s₄) E s₃) E s₂ := by
  refine wpAny_newObj_type (wpAny_newFunctionEnv hcell (by intro y hy; simp at hy) (fun h₁ hns₁ hsb₁ => ?_) hkind)
  dsimp only at hns₁ hsb₁ ⊢
  generalize hH2 : s₂.heap.push { cls := .type "list", dict := none, data := .seq ([] : List Value).toArray } = H2 at hns₁ hsb₁ ⊢
  have hC : H2.objs.size = s₂.heap.objs.size + 1 := by rw [← hH2, Heap.size_push]
  have hDC : s₂.heap.objs.size ≠ H2.objs.size := by rw [hC]; exact Nat.ne_of_lt (Nat.lt_succ_self _)
  have below : ∀ b, b < s₂.heap.objs.size → b ≠ H2.objs.size ∧ b ≠ s₂.heap.objs.size := fun b hb => ⟨by rw [hC]; exact Nat.ne_of_lt (Nat.lt_succ_of_lt hb), Nat.ne_of_lt hb⟩
  have hDf : s₂.heap.objs.size ∉ fp := fun hm => Nat.lt_irrefl _ (hfp _ hm)
  have hCf : H2.objs.size ∉ fp := fun hm => by have := hfp _ hm; rw [hC] at this; exact Nat.lt_irrefl _ (Nat.lt_of_succ_lt this)
  have hDw : s₂.heap.objs.size ∉ wr := fun hm => hDf (W.sub _ hm)
  have hCw : H2.objs.size ∉ wr := fun hm => hCf (W.sub _ hm)
  have old : ∀ b o, s₂.heap.get? b = some o → h₁.get? b = some o := fun b o e => hsb₁.extBut b o (below b (Heap.lt_size e)).1 (Heap.get?_push_of_some _ (hH2 ▸ Heap.get?_push_of_some _ e))
  have hacc : h₁.get? s₂.heap.objs.size = some (lst []) := hsb₁.extBut _ _ hDC (Heap.get?_push_of_some _ (hH2 ▸ Heap.get?_push_size _ rfl))
  have hst₁ : St 0 h₁ := W.frame _ _ _ hst fun b _ o e => old b o e
  have fresh₀ : ∀ a, s₂.heap.objs.size ≤ a → h₀.get? a = none := fun a ha => by
    cases e : h₀.get? a with
    | none => rfl
    | some o' => exact absurd (Heap.lt_size (F.keep a o' e)) (Nat.not_lt.mpr ha)
  have hD₀ : h₀.get? s₂.heap.objs.size = none := fresh₀ _ (Nat.le_refl _)
  have hC₀ : h₀.get? H2.objs.size = none := fresh₀ _ (by rw [hC]; exact Nat.le_succ _)
  have hLlt : L < s₂.heap.objs.size := F.ns.lt
  have hDL : s₂.heap.objs.size ≠ L := Ne.symm (below L hLlt).2
  have hCL : H2.objs.size ≠ L := Ne.symm (below L hLlt).1
  have offC : ∀ p ∈ news, p.1 ≠ H2.objs.size := fun p hp => (below _ (Heap.lt_size (N p hp).1)).1
  have offD : ∀ p ∈ news, p.1 ≠ s₂.heap.objs.size := fun p hp => (below _ (Heap.lt_size (N p hp).1)).2
  have off1 : Off1 s₂.heap.objs.size news := by
    have : ∀ l : List (Addr × Obj), (∀ p ∈ l, p.1 ≠ s₂.heap.objs.size) → Off1 s₂.heap.objs.size l := by
      intro l
      induction l with
      | nil => intro _; trivial
      | cons q r ih => intro h; exact ⟨h q (.head _), ih fun p hp => h p (.tail _ hp)⟩
    exact this news offD
  have oldw : ∀ b o, h₀.get? b = some o → b ∉ wr := fun b o e hb => by rw [hwr b hb] at e; cases e
  have hLw : L ∉ wr := fun hm => hLf (W.sub _ hm)
  have loop : ∀ s₃ : Shared, s₃ = { s₂ with heap := h₁, toks := s₂.toks + ([] : List (Str × Value)).length } →
      codeAny (model prog w) A (.compLoop (.ListComp elt [⟨.Tuple [.Name x px, .Name x₂ px₂] tk tp, iter, [], 0⟩] scope pos) 0 (.ref I) (.ref s₂.heap.objs.size) (compEnvC scope cl H2.objs.size env))
        (RR (.ref s₂.heap.objs.size) H2.objs.size) s₃ := by
    rintro s₃ rfl
    refine LCp.codeAny_compLoop_pair
      (fun k s' => ∃ h' tk i ys m', s' = { s₂ with heap := h', toks := tk } ∧ i ≤ n ∧ k = n + 1 - i ∧ ys.length = i ∧ St i h' ∧ Fr h₀ L h' m ∧ h'.Ns H2.objs.size m' ∧ News h₀ L h' ((s₂.heap.objs.size, lst ys) :: news) ∧ (∀ (j : Nat) v, ys[j]? = some v → R j v)) ?_ (n + 1)
      ⟨h₁, _, 0, [], _, rfl, Nat.zero_le _, rfl, rfl, hst₁, F.keeps old, hns₁, fun p hp => ?_, fun _ _ h => by simp at h⟩
    · rintro k s' ⟨h', tk', i, ys, m', rfl, hi, rfl, hyl, hst', F', hn', N', hr'⟩
      have nextF : ∀ H : Heap, (∀ b o, b ∉ wr → h'.get? b = some o → H.get? b = some o) → Fr h₀ L H m := fun H hk => ⟨F'.ns.at' fun o e => hk L o hLw e, fun b o e => hk b o (oldw b o e) (F'.keep b o e), F'.above⟩
      have nextN : ∀ H : Heap, (∀ b o, b ∉ wr → h'.get? b = some o → H.get? b = some o) → News h₀ L H ((s₂.heap.objs.size, lst ys) :: news) := fun H hk p hp => ⟨hk _ _ (by
        rcases List.mem_cons.mp hp with rfl | hp
        · exact hDw
        · exact hnw p hp) (N' p hp).1, (N' p hp).2⟩
      by_cases hlt : i < n
      · refine W.item i _ _ _ hlt hst' fun T vals h₂ tk₂ hPt hT hMid hk₂ => ?_
        obtain ⟨v0, v1, rfl, hP2⟩ := h2 i vals hPt
        refine W.go _ tk tp i T _ _ _ hMid fun h₃ hst₃ hk₃ => ?_
        refine wpAny_assign_Tuple hh (hT.at fun o e => hk₃ T o (W.apart i T h₂ hMid) e) rfl rfl fun h₅ hx₅ => ?_
        replace hx₅ : Heap.ExtBut h₃.objs.size h₃ h₅ := hx₅
        have up₅ : ∀ b o, h₃.get? b = some o → h₅.get? b = some o := fun b o e => hx₅ b o (Nat.ne_of_lt (Heap.lt_size e)) e
        have hk₅ : ∀ b o, b ∉ wr → h'.get? b = some o → h₅.get? b = some o := fun b o hb e => up₅ b o (hk₃ b o hb (hk₂ b o hb e))
        have F₅ := nextF h₅ hk₅
        have N₅ := nextN h₅ hk₅
        have hn₅ : h₅.Ns H2.objs.size m' := hn'.at' fun o e => hk₅ _ o hCw e
        show wpAny _ A (do holding [v1] (assign (.Name x px) (compEnvC scope cl H2.objs.size env) v0); do holding [] (assign (.Name x₂ px₂) (compEnvC scope cl H2.objs.size env) v1); pure ()) _ _ _
        refine wpAny_bind (wpAny_holding (wpAny_assign_Name (wpAny_storeName_local (lookup_relabel_local hx) hn₅ (fun h₆ hn₆ hs₆ => ?_) (by simp [compEnvC, relabel, hkind]))))
        refine wpAny_bind (wpAny_holding (wpAny_assign_Name (wpAny_storeName_local (lookup_relabel_local hx₂) hn₆ (fun h₇ hn₇ hs₇ => wpAny_pure ?_) (by simp [compEnvC, relabel, hkind]))))
        replace hs₆ : Heap.SameBut H2.objs.size h₅ h₆ := hs₆
        replace hs₇ : Heap.SameBut H2.objs.size h₆ h₇ := hs₇
        have up₇ : ∀ b o, b ≠ H2.objs.size → h₅.get? b = some o → h₇.get? b = some o := fun b o hb e => hs₇.extBut b o hb (hs₆.extBut b o hb e)
        have hst₇ : St (i + 1) h₇ := W.frame _ _ _ hst₃ fun b hb o e => up₇ b o (fun q => hCf (by rw [← q]; exact hb)) (up₅ b o e)
        obtain ⟨oC, heC, hoC⟩ := ns_obj hn₇
        have F₇ : Fr h₀ L h₇ m := (F₅.change hs₆ hCL hC₀).change hs₇ hCL hC₀
        have N₇ : News h₀ L h₇ ((H2.objs.size, oC) :: (s₂.heap.objs.size, lst ys) :: (news ++ ownOf h₀ fp h₇)) := fun p hp => by
          rcases List.mem_cons.mp hp with rfl | hp
          · exact ⟨heC, hCL, hC₀⟩
          · rcases List.mem_cons.mp hp with rfl | hp
            · have z := N₅ _ (.head _)
              exact ⟨up₇ _ _ hDC z.1, z.2⟩
            · rcases List.mem_append.mp hp with hp | hp
              · have z := N₅ _ (.tail _ hp)
                exact ⟨up₇ _ _ (offC p hp) z.1, z.2⟩
              · exact news_ownOf hLf p hp
        refine wpAny_mono (turn i v0 v1 H2.objs.size oC s₂.heap.objs.size _ ys h₇ _ (ownOf h₀ fp h₇) _ hlt hP2 hoC (by simp [hxx]) (by simp) F₇ N₇) (fun y s₄ h₄ => ?_) fun _ _ e => e
        obtain ⟨h₈, tk₈, rfl, F₈, N₈, hy⟩ := h₄
        have zC := (N₈ _ (.head _)).1
        have zD := (N₈ _ (.tail _ (.head _))).1
        have hst₈ : St (i + 1) h₈ := W.frame _ _ _ hst₇ fun b hb o e => by
          cases hn : h₀.get? b with
          | some o₀ =>
            have : o₀ = o := by have q := F₇.keep b o₀ hn; rw [e] at q; exact (Option.some.inj q).symm
            exact this ▸ F₈.keep b o₀ hn
          | none => exact (N₈ _ (.tail _ (.tail _ (List.mem_append.mpr (.inr (mem_ownOf hb hn e)))))).1
        refine append_at (hsz := by show ys.toArray.size ≤ sizeLine; rw [List.size_toArray, hyl]; exact Nat.le_trans hi hsz) zD fun h₉ hs₉ hD₉ => ?_
        refine ⟨n + 1 - (i + 1), by omega, h₉, tk₈, i + 1, ys ++ [y], _, rfl, hlt, rfl, by rw [List.length_append, List.length_singleton, hyl], W.frame _ _ _ hst₈ fun b hb o e => hs₉.extBut b o (fun q => hDf (q ▸ hb)) e, F₈.change hs₉ hDL hD₀,
          (hoC.ns zC).sameBut hs₉ (Ne.symm hDC), fun p hp => ?_, ?_⟩
        · rcases List.mem_cons.mp hp with rfl | hp
          · exact ⟨hD₉.trans (congrArg some (lst_snoc ys y)), hDL, hD₀⟩
          · have z := N₈ p (.tail _ (.tail _ (List.mem_append.mpr (.inl hp))))
            exact ⟨hs₉.extBut _ _ (offD p hp) z.1, z.2⟩
        · intro j v hv
          by_cases hj : j < ys.length
          · rw [List.getElem?_append_left hj] at hv
            exact hr' j v hv
          · have hle : j = ys.length := by
              have h1 := (List.getElem?_eq_some_iff.mp hv).1
              rw [List.length_append, List.length_singleton] at h1
              omega
            subst hle
            rw [List.getElem?_append_right (Nat.le_refl _), Nat.sub_self] at hv
            simp only [List.getElem?_cons_zero, Option.some.injEq] at hv
            subst hv
            rw [hyl]; exact hy
      · obtain rfl : i = n := Nat.le_antisymm hi (Nat.not_lt.mp hlt)
        refine W.done _ _ _ hst' fun h₂ tk₂ hk₂ => ?_
        exact hRR _ _ h₂ tk₂ _ ys hyl hr' (nextF h₂ hk₂) (nextN h₂ hk₂) off1 (hn'.at' fun o e => hk₂ _ o hCw e) hC₀ hCL (Ne.symm hDC) offC
    · rcases List.mem_cons.mp hp with rfl | hp
      · exact ⟨hacc, hDL, hD₀⟩
      · exact ⟨old _ _ (N p hp).1, (N p hp).2⟩
  exact codeAny_compStart_list (loop _ rfl) (W.self 0 _ _ _ hst₁ (loop _ rfl))

/-- what the made iterator and the element bring -/
def SrcE (prog : Program) (w : World) (A : Around) (h₀ : Heap) (L : Addr) (m : Str → Option Value) (env : Env) (elt : Expr) (x x₂ : Str) (scope : Scope) (cl : List (Str × Addr)) (Fin : Shared → List Value → List (Addr × Obj) → Prop) (xv : Value) (s₁ : Shared) : Prop :=
  ∃ (I : Addr) (fp wr : List Addr) (n : Nat) (Pt : Nat → Array Value → Prop) (St : Nat → Heap → Prop) (Mid : Nat → Addr → Heap → Prop) (P2 : Nat → Value → Value → Prop) (news : List (Addr × Obj)) (R : Nat → Value → Prop),
    xv = .ref I ∧ A.handled = none ∧ WalksU prog w A I fp wr n Pt St Mid ∧ (∀ i vals, Pt i vals → ∃ v0 v1, vals = #[v0, v1] ∧ P2 i v0 v1) ∧ n ≤ sizeLine ∧ (∀ i h, St i h → ∀ b ∈ fp, ∃ o, h.get? b = some o) ∧ St 0 s₁.heap ∧ (∀ b ∈ fp, b < s₁.heap.objs.size) ∧
    Fr h₀ L s₁.heap m ∧ News h₀ L s₁.heap news ∧ L ∉ fp ∧ (∀ b ∈ wr, h₀.get? b = none) ∧ (∀ p ∈ news, p.1 ∉ wr) ∧ PairElt prog w A h₀ L m env elt x x₂ scope cl n P2 R news s₁ ∧
    ∀ ys, ys.length = n → (∀ (j : Nat) v, ys[j]? = some v → R j v) → Fin s₁ ys news

theorem Assign_ListComp_E {elt iter : Expr} {x x₂ y : Str} {px px₂ tp py : Pos} {tk : Nat} {scope : Scope} {cl : List (Str × Addr)} {pos spos : Pos} {Q : Flow → Shared → Prop} (F₀ : Fr h₀ L s.heap m) (hLe : env.locals = L)
    (hsw : swapsWith (.ListComp elt [⟨.Tuple [.Name x px, .Name x₂ px₂] tk tp, iter, [], 0⟩] scope pos) (some (.Name y py)) spos.line env = pure true)
    (hclos : closureFor scope env = pure cl) (hcell : ∀ z ∈ scope.names, z.2 ≠ .cell) (hkind : scope.kind = .function)
    (hnames : ∀ z ∈ scope.names, z.2 = .local → scope.names.lookup z.1 = some .local) (hx : scope.names.lookup x = some .local) (hx₂ : scope.names.lookup x₂ = some .local) (hxx : x ≠ x₂)
    (hy : env.kindOf y = some .local) (hp : (env.scope.kind == .class || (env.scope.kind == .module && env.locals != env.globals)) = false)
    (h : wpAny (model prog w) A (eval iter env) (fun xv s₁ => Hold (SrcE prog w A h₀ L m env elt x x₂ scope cl (fun s₂ => FinA h₀ L m s₂ y Q) xv s₁)) E s)
    (hs : ∀ x, foldedSetIterable iter env x = pure x := by intro _; rfl) :
    wpAny (model prog w) A (exec (.Assign [.Name y py] (.ListComp elt [⟨.Tuple [.Name x px, .Name x₂ px₂] tk tp, iter, [], 0⟩] scope pos) spos) env) Q E s := by
  subst hLe
  rw [exec_Assign_Name_used _ _ _ _ hsw]
  refine wpAny_bind (wpAny_standAt (wpAny_bind ?_))
  show wpAny _ A (do let _ ← comprehension (.ListComp elt [⟨.Tuple [.Name x px, .Name x₂ px₂] tk tp, iter, [], 0⟩] scope pos) scope env _ (newList []) false (eval iter env) (some (assign (.Name y py) env))) _ _ s
  refine wpAny_bind (wpAny_mono (wpAny_comprehension_free (use := some (assign (.Name y py) env)) (Q := fun _ s' => Q .next s') rfl hs hclos hkind hnames
    (wpAny_mono h (fun xv s₁ h₁ => ?_) fun _ _ e => e)) (fun _ s' hq => wpAny_pure (wpAny_pure hq)) fun _ _ e => e)
  obtain ⟨I, fp, wr, n, Pt, St, Mid, P2, news, R, rfl, hh, W, h2, hsz, hob, hst, hfp, F, N, hLf, hwr, hnw, turn, fin⟩ := (show SrcE prog w A h₀ env.locals m env elt x x₂ scope cl (fun s₂ => FinA h₀ env.locals m s₂ y Q) xv s₁ from h₁)
  refine W.self 0 _ _ _ hst (enum_block R W h2 hsz hob hcell hkind hx hx₂ hxx hh hst hfp F N hLf hwr hnw turn ?_)
  intro D C h' tk' m' ys hl hr F' N' o1 hn hC₀ hCL hCD offC
  have fin' := fin ys hl hr
  show wpAny _ A (assign (.Name y py) env (.ref D)) _ _ _
  refine wpAny_assign_Name (wpAny_storeName_local hy F'.ns (fun h₂ hn₂ hs₂ => ?_) hp)
  have hL₀ : h₀.get? env.locals = none := Heap.get?_none_of_le F'.above
  have F₂ : Fr h₀ env.locals h₂ (fun z => if z = y then some (.ref D) else m z) := ⟨hn₂, fun b o e => hs₂.extBut b o (fun q => by rw [q, hL₀] at e; cases e) (F'.keep b o e), F'.above⟩
  refine ⟨m', hn.sameBut hs₂ hCL, fun h'' hs'' => fin' D h'' _ (F₂.change hs'' hCL hC₀) (fun p hp => ?_) o1⟩
  have z : h₂.get? p.1 = some p.2 := hs₂.extBut _ _ (N' p hp).2.1 (N' p hp).1
  refine ⟨hs''.extBut _ _ ?_ z, (N' p hp).2⟩
  rcases List.mem_cons.mp hp with rfl | hp
  · exact Ne.symm hCD
  · exact offC p hp

/-- enumerate over a list of the ledger -/
theorem call_enumL {l : Addr} {vs : List Value} {nn : Nat} {news : List (Addr × Obj)} {Q : Value → Shared → Prop} (F : Fr h₀ L s.heap m) (N : News h₀ L s.heap news) (hl : (l, listOf vs.toArray nn) ∈ news)
    (h : ∀ h' e it, Fr h₀ L h' m → News h₀ L h' news → EnumAt h' h₀ L e it l vs → (∀ p ∈ news, p.1 < it) → it < e → Q (.ref e) { s with heap := h' }) :
    wpAny (model prog w) A (call (.type "enumerate") [.ref l]) Q E s := by
  have hls : s.heap.IsList l vs.toArray := isList_of_get (n := nn) (N _ hl).1
  have hlt : l < s.heap.objs.size := Heap.lt_size (N _ hl).1
  have hLs : L < s.heap.objs.size := F.ns.lt
  refine call_enumerate_list hls fun h' he hit hsz hk => ?_
  refine h h' _ s.heap.objs.size ⟨F.ns.keeps hk, fun b o e => hk b o (F.keep b o e), F.above⟩ (fun p hp => ⟨hk _ _ (N p hp).1, (N p hp).2⟩) ⟨he, hit, hls.at fun o e => hk l o e, Nat.succ_ne_self _, ?_, ?_, ?_, ?_, ?_, ?_, ?_⟩ (fun p hp => Heap.lt_size (N p hp).1) (Nat.lt_succ_self _)
  · exact Nat.ne_of_gt (Nat.lt_succ_of_lt hlt)
  · exact Nat.ne_of_gt hlt
  · exact Nat.ne_of_lt (Nat.lt_succ_of_lt hLs)
  · exact Nat.ne_of_lt hLs
  · exact Ne.symm (N _ hl).2.1
  · exact Heap.get?_none_of_le (Nat.le_trans F.above (Nat.le_of_lt (Nat.lt_succ_of_lt hLs)))
  · exact Heap.get?_none_of_le (Nat.le_trans F.above (Nat.le_of_lt hLs))

theorem src_enum {elt : Expr} {x x₂ : Str} {scope : Scope} {cl : List (Str × Addr)} {Fin : Shared → List Value → List (Addr × Obj) → Prop} {e it l : Addr} {vs : List Value} {news : List (Addr × Obj)} (R : Nat → Value → Prop) (hh : A.handled = none) (X : EnumAt s.heap h₀ L e it l vs) (hlt : ∀ p ∈ news, p.1 < it) (hie : it < e) (hsz : vs.length ≤ sizeLine)
    (F : Fr h₀ L s.heap m) (N : News h₀ L s.heap news)
    (turn : PairElt prog w A h₀ L m env elt x x₂ scope cl vs.length (fun i v0 v1 => ∃ t, v0 = .int i t ∧ vs[i]? = some v1) R news s)
    (fin : ∀ ys, ys.length = vs.length → (∀ (j : Nat) v, ys[j]? = some v → R j v) → Fin s ys news) :
    SrcE prog w A h₀ L m env elt x x₂ scope cl Fin (.ref e) s := by
  obtain ⟨he, hit, hl, n1, n2, n3, n4, n5, n6, f1, f2⟩ := X
  have W := (WalksT.enumerateD (Draws.list (prog := prog) (w := w) (A := A.in1) hh it l (Ne.symm n3) vs.toArray) e n1 (by simp [n1, n2]) (by simp)).toU
  rw [List.size_toArray] at W
  refine ⟨e, _, _, vs.length, _, _, _, (fun i v0 v1 => ∃ t, v0 = .int i t ∧ vs[i]? = some v1), news, R, rfl, hh, W, ?_, hsz, ?_, ⟨⟨_, he⟩, hit, hl⟩, ?_, F, N, ?_, ?_, ?_, turn, fin⟩
  · rintro i vals ⟨t, x, hx, rfl⟩
    exact ⟨_, _, rfl, t, rfl, by simpa using hx⟩
  · rintro i h ⟨⟨old, he'⟩, hit', hl'⟩ b hb
    rcases List.mem_cons.mp hb with rfl | hb
    · exact ⟨_, he'⟩
    · rcases List.mem_cons.mp hb with rfl | hb
      · obtain ⟨o, ho, _⟩ := hit'; exact ⟨o, ho⟩
      · rw [List.mem_singleton.mp hb]; obtain ⟨o, ho, _⟩ := hl'; exact ⟨o, ho⟩
  · intro b hb
    rcases List.mem_cons.mp hb with rfl | hb
    · exact Heap.lt_size he
    · rcases List.mem_cons.mp hb with rfl | hb
      · obtain ⟨o, ho, _⟩ := hit; exact Heap.lt_size ho
      · rw [List.mem_singleton.mp hb]; obtain ⟨o, ho, _⟩ := hl; exact Heap.lt_size ho
  · simp [n4, n5, n6]
  · intro b hb
    rcases List.mem_cons.mp hb with rfl | hb
    · exact f1
    · rw [List.mem_singleton.mp hb]; exact f2
  · intro p hp hm
    have h1 := hlt p hp
    rcases List.mem_cons.mp hm with q | hm
    · exact absurd (Nat.lt_trans h1 hie) (by rw [q]; exact Nat.lt_irrefl _)
    · exact absurd h1 (by rw [List.mem_singleton.mp hm]; exact Nat.lt_irrefl _)
end
end Mine
end

section
open PySem PySem.W PyProof.Rows PySem.Calls PySem.Spec
set_option Elab.async false
set_option maxRecDepth 100000
set_option maxHeartbeats 8000000
namespace Mine
def isoS : List Str := [Str.ofString "LRI", Str.ofString "RLI", Str.ofString "FSI", Str.ofString "PDI"]
def markOne (last k : Str) : Str := if (k == Str.ofString "NSM") = true then (if (isoS.any (· == last)) = true then Str.ofString "ON" else last) else k
def marksP : Str → List Str → List Str
  | _, [] => []
  | last, k :: r => markOne last k :: marksP (markOne last k) r
def marksL : Str → List Str → Str
  | last, [] => last
  | last, k :: r => marksL (markOne last k) r
theorem marksP_snoc : ∀ (l : List Str) (b k : Str), marksP b (l ++ [k]) = marksP b l ++ [markOne (marksL b l) k]
  | [], _, _ => rfl
  | a :: l, b, k => by simp [marksP, marksL, marksP_snoc l]
theorem marksL_snoc : ∀ (l : List Str) (b k : Str), marksL b (l ++ [k]) = markOne (marksL b l) k
  | [], _, _ => rfl
  | a :: l, b, k => by simp [marksL, marksL_snoc l]
theorem marksP_length : ∀ (l : List Str) (b : Str), (marksP b l).length = l.length
  | [], _ => rfl
  | a :: l, b => by simp [marksP, marksP_length l]

theorem marks_pure (xs : List Str) (b : Str) (hx : xs.length ≤ 100) : PureFn 100 24 (fun h vs => ∃ v t, vs = [v, .str b t] ∧ StrsAt h v xs) (fun h _ h' r => NewStrs h h' r (marksP b xs)) := by
  intro w mean mg mb dp un gd cn cs a ccd cl outer A₀ base h₀ L m s vs Q E B F X T hk hd hu hpre hret
  obtain ⟨v, t, rfl, la, ws, n, rfl, hl, hs⟩ := hpre
  refine' pure_enter (binds := [(Str.ofString "classes", .ref la), (Str.ofString "sos", .str b t)]) (P := fun h' r => NewStrs s.heap h' r _) B F X T hk ?k6 ?k7 hd ?k9 ?kB ?c5 ?c2 ?c3 ?c4 (fun r h' tk' st hp => hret r h' tk' st hp) ?_
  case k6 => k_is
  case k7 => k_is
  case k9 => exact BindsTo.of_eq rfl
  case kB => exact locs rfl
  case c5 => decide
  case c2 => exact rfl
  case c3 => exact rfl
  case c4 => exact rfl
  intro g L' h₁ hg F' N' B' X' T'
  rw [← hg] at hl
  rw [← hg]
  clear hret B F X T
  try dsimp only
  try k_fold
  k_steps
  rename Fr _ _ _ _ => F2
  rename News _ _ _ _ => N2
  refine For_invVF F2 rfl rfl ?_
  k_steps
  refine iter_base1 (fun l' i m nx => ∃ ws' n' z tl, nx = [(l', listOf ws'.toArray n')] ∧ StrsAre ws' (marksP b (xs.take i)) ∧ Told m [(Str.ofString "last", .str z tl), (Str.ofString "found", .ref l')] ∧ z = marksL b (xs.take i))
    rfl hl F2 N2 ?_ ?_ ?_
  · exact ⟨[], 0, _, _, rfl, .nil, ⟨rfl, rfl, trivial⟩, rfl⟩
  · rintro i v m₁ nx h tk own hv hoff ⟨ws', n', z, tl, rfl, hs', hm, rfl⟩ F3 N3
    obtain ⟨y, ty, rfl, hy⟩ := StrsAre.item hs i v hv
    clear F2 N2
    replace F3 := frOv1 F3 hm
    simp only [List.cons_append, List.nil_append] at N3
    have hsz : ws'.toArray.size ≤ sizeLine := by
      have h1 := hs'.length
      rw [marksP_length, List.length_take] at h1
      rw [List.size_toArray, PySem.sizeLine_eq]; omega
    obtain ⟨hT1, hT2⟩ := tupK (ys := isoS) X' (a := 15) (by k_is) (by simp only [isoS]; repeat constructor)
    try k_fold
    k_steps
    all_goals (
      rename Fr _ _ _ _ => F4
      rename News _ _ _ _ => N4
      simp only [List.push_toArray] at N4
      refine turn_end F4 N4 hoff ⟨_, _, _, _, rfl, ?_, ⟨rfl, rfl, trivial⟩, ?_⟩
      · rw [take_snoc hy, marksP_snoc]
        refine snocE hs' ?_
        unfold markOne
        repeat (first | rw [ite_t (by assumption)] | rw [ite_f (by assumption)])
      · rw [take_snoc hy, marksL_snoc]
        unfold markOne
        repeat (first | rw [ite_t (by assumption)] | rw [ite_f (by assumption)]))
  · rintro m₁ nx h tk ⟨ws', n', z, tl, rfl, hs', hm, rfl⟩ F3 N3
    clear F2 N2
    replace F3 := frOv F3 hm
    dsimp only
    try k_fold
    k_steps
    dsimp only
    rename Fr _ _ _ _ => F4
    rename News _ _ _ _ => N4
    have e : xs.take ws.length = xs := by rw [hs.length]; exact List.take_length
    rw [e] at hs'
    exact pure_end F4 (new_strs N4 hs')
end Mine
end

section
open PySem PySem.W PyProof.Rows PySem.Calls PySem.Spec
set_option Elab.async false
set_option maxRecDepth 100000
set_option maxHeartbeats 8000000
namespace Mine

def isStrong (k : Str) : Bool := [Str.ofString "L", Str.ofString "R", Str.ofString "AL"].any (· == k)
def strongOf (b k : Str) : Str := if isStrong k = true then k else b
def numOne (b k : Str) : Str := if (k == Str.ofString "EN") = true then (if (strongOf b k == Str.ofString "AL") = true then Str.ofString "AN" else k) else k
def numsP : Str → List Str → List Str
  | _, [] => []
  | b, k :: r => numOne b k :: numsP (strongOf b k) r
def numsL : Str → List Str → Str
  | b, [] => b
  | b, k :: r => numsL (strongOf b k) r
theorem numsP_snoc : ∀ (l : List Str) (b k : Str), numsP b (l ++ [k]) = numsP b l ++ [numOne (numsL b l) k]
  | [], _, _ => rfl
  | a :: l, b, k => by simp [numsP, numsL, numsP_snoc l]
theorem numsL_snoc : ∀ (l : List Str) (b k : Str), numsL b (l ++ [k]) = strongOf (numsL b l) k
  | [], _, _ => rfl
  | a :: l, b, k => by simp [numsL, numsL_snoc l]
theorem numsP_length : ∀ (l : List Str) (b : Str), (numsP b l).length = l.length
  | [], _ => rfl
  | a :: l, b => by simp [numsP, numsP_length l]

theorem nums_pure (xs : List Str) (b : Str) (hx : xs.length ≤ 100) : PureFn 100 31 (fun h vs => ∃ v t, vs = [v, .str b t] ∧ StrsAt h v xs) (fun h _ h' r => NewStrs h h' r (numsP b xs)) := by
  intro w mean mg mb dp un gd cn cs a ccd cl outer A₀ base h₀ L m s vs Q E B F X T hk hd hu hpre hret
  obtain ⟨v, t, rfl, la, ws, n, rfl, hl, hs⟩ := hpre
  refine' pure_enter (binds := [(Str.ofString "classes", .ref la), (Str.ofString "sos", .str b t)]) (P := fun h' r => NewStrs s.heap h' r _) B F X T hk ?k6 ?k7 hd ?k9 ?kB ?c5 ?c2 ?c3 ?c4 (fun r h' tk' st hp => hret r h' tk' st hp) ?_
  case k6 => k_is
  case k7 => k_is
  case k9 => exact BindsTo.of_eq rfl
  case kB => exact locs rfl
  case c5 => decide
  case c2 => exact rfl
  case c3 => exact rfl
  case c4 => exact rfl
  intro g L' h₁ hg F' N' B' X' T'
  rw [← hg] at hl
  rw [← hg]
  clear hret B F X T
  try dsimp only
  try k_fold
  k_steps
  rename Fr _ _ _ _ => F2
  rename News _ _ _ _ => N2
  refine For_invVF F2 rfl rfl ?_
  k_steps
  refine iter_base1 (fun l' i m nx => ∃ ws' n' z tl, nx = [(l', listOf ws'.toArray n')] ∧ StrsAre ws' (numsP b (xs.take i)) ∧ Told m [(Str.ofString "strong", .str z tl), (Str.ofString "found", .ref l')] ∧ z = numsL b (xs.take i))
    rfl hl F2 N2 ?_ ?_ ?_
  · exact ⟨[], 0, _, _, rfl, .nil, ⟨rfl, rfl, trivial⟩, rfl⟩
  · rintro i v m₁ nx h tk own hv hoff ⟨ws', n', z, tl, rfl, hs', hm, rfl⟩ F3 N3
    obtain ⟨y, ty, rfl, hy⟩ := StrsAre.item hs i v hv
    clear F2 N2
    replace F3 := frOv1 F3 hm
    simp only [List.cons_append, List.nil_append] at N3
    have hsz : ws'.toArray.size ≤ sizeLine := by
      have h1 := hs'.length
      rw [numsP_length, List.length_take] at h1
      rw [List.size_toArray, PySem.sizeLine_eq]; omega
    try k_fold
    k_steps
    all_goals (
      rename Fr _ _ _ _ => F4
      rename News _ _ _ _ => N4
      simp only [List.push_toArray] at N4
      refine turn_end2 F4 N4 hoff ⟨_, _, _, _, rfl, ?_, ⟨rfl, rfl, trivial⟩, ?_⟩
      · rw [take_snoc hy, numsP_snoc]
        refine snocE hs' ?_
        unfold numOne strongOf isStrong
        repeat (first | rw [ite_t (b := [Str.ofString "L", Str.ofString "R", Str.ofString "AL"].any (· == y)) (by assumption)] | rw [ite_f (b := [Str.ofString "L", Str.ofString "R", Str.ofString "AL"].any (· == y)) (by assumption)] | rw [ite_t (b := y == Str.ofString "EN") (by assumption)] | rw [ite_f (b := y == Str.ofString "EN") (by assumption)] | rw [ite_t (b := y == Str.ofString "AL") (by assumption)] | rw [ite_f (b := y == Str.ofString "AL") (by assumption)] | rw [ite_t (b := numsL b (xs.take i) == Str.ofString "AL") (by assumption)] | rw [ite_f (b := numsL b (xs.take i) == Str.ofString "AL") (by assumption)])
      · rw [take_snoc hy, numsL_snoc]
        unfold strongOf isStrong
        repeat (first | rw [ite_t (b := [Str.ofString "L", Str.ofString "R", Str.ofString "AL"].any (· == y)) (by assumption)] | rw [ite_f (b := [Str.ofString "L", Str.ofString "R", Str.ofString "AL"].any (· == y)) (by assumption)]))
  · rintro m₁ nx h tk ⟨ws', n', z, tl, rfl, hs', hm, rfl⟩ F3 N3
    clear F2 N2
    replace F3 := frOv F3 hm
    dsimp only
    try k_fold
    k_steps
    dsimp only
    rename Fr _ _ _ _ => F4
    rename News _ _ _ _ => N4
    have e : xs.take ws.length = xs := by rw [hs.length]; exact List.take_length
    rw [e] at hs'
    exact pure_end F4 (new_strs N4 hs')
end Mine
end

section
open PySem PySem.W PyProof.Rows PySem.Calls PySem.Spec
set_option Elab.async false
set_option maxRecDepth 100000
set_option maxHeartbeats 8000000
namespace Mine

def isStrongL (k : Str) : Bool := [Str.ofString "L", Str.ofString "R"].any (· == k)
def strongOfL (b k : Str) : Str := if isStrongL k = true then k else b
def leftOne (b k : Str) : Str := if (k == Str.ofString "EN") = true then (if (strongOfL b k == Str.ofString "L") = true then Str.ofString "L" else k) else k
def leftsP : Str → List Str → List Str
  | _, [] => []
  | b, k :: r => leftOne b k :: leftsP (strongOfL b k) r
def leftsL : Str → List Str → Str
  | b, [] => b
  | b, k :: r => leftsL (strongOfL b k) r
theorem leftsP_snoc : ∀ (l : List Str) (b k : Str), leftsP b (l ++ [k]) = leftsP b l ++ [leftOne (leftsL b l) k]
  | [], _, _ => rfl
  | a :: l, b, k => by simp [leftsP, leftsL, leftsP_snoc l]
theorem leftsL_snoc : ∀ (l : List Str) (b k : Str), leftsL b (l ++ [k]) = strongOfL (leftsL b l) k
  | [], _, _ => rfl
  | a :: l, b, k => by simp [leftsL, leftsL_snoc l]
theorem leftsP_length : ∀ (l : List Str) (b : Str), (leftsP b l).length = l.length
  | [], _ => rfl
  | a :: l, b => by simp [leftsP, leftsP_length l]

theorem lefts_pure (xs : List Str) (b : Str) (hx : xs.length ≤ 100) : PureFn 100 76 (fun h vs => ∃ v t, vs = [v, .str b t] ∧ StrsAt h v xs) (fun h _ h' r => NewStrs h h' r (leftsP b xs)) := by
  intro w mean mg mb dp un gd cn cs a ccd cl outer A₀ base h₀ L m s vs Q E B F X T hk hd hu hpre hret
  obtain ⟨v, t, rfl, la, ws, n, rfl, hl, hs⟩ := hpre
  refine' pure_enter (binds := [(Str.ofString "classes", .ref la), (Str.ofString "sos", .str b t)]) (P := fun h' r => NewStrs s.heap h' r _) B F X T hk ?k6 ?k7 hd ?k9 ?kB ?c5 ?c2 ?c3 ?c4 (fun r h' tk' st hp => hret r h' tk' st hp) ?_
  case k6 => k_is
  case k7 => k_is
  case k9 => exact BindsTo.of_eq rfl
  case kB => exact locs rfl
  case c5 => decide
  case c2 => exact rfl
  case c3 => exact rfl
  case c4 => exact rfl
  intro g L' h₁ hg F' N' B' X' T'
  rw [← hg] at hl
  rw [← hg]
  clear hret B F X T
  try dsimp only
  try k_fold
  k_steps
  rename Fr _ _ _ _ => F2
  rename News _ _ _ _ => N2
  refine For_invVF F2 rfl rfl ?_
  k_steps
  refine iter_base1 (fun l' i m nx => ∃ ws' n' z tl, nx = [(l', listOf ws'.toArray n')] ∧ StrsAre ws' (leftsP b (xs.take i)) ∧ Told m [(Str.ofString "strong", .str z tl), (Str.ofString "found", .ref l')] ∧ z = leftsL b (xs.take i))
    rfl hl F2 N2 ?_ ?_ ?_
  · exact ⟨[], 0, _, _, rfl, .nil, ⟨rfl, rfl, trivial⟩, rfl⟩
  · rintro i v m₁ nx h tk own hv hoff ⟨ws', n', z, tl, rfl, hs', hm, rfl⟩ F3 N3
    obtain ⟨y, ty, rfl, hy⟩ := StrsAre.item hs i v hv
    clear F2 N2
    replace F3 := frOv1 F3 hm
    simp only [List.cons_append, List.nil_append] at N3
    have hsz : ws'.toArray.size ≤ sizeLine := by
      have h1 := hs'.length
      rw [leftsP_length, List.length_take] at h1
      rw [List.size_toArray, PySem.sizeLine_eq]; omega
    try k_fold
    k_steps
    all_goals (
      rename Fr _ _ _ _ => F4
      rename News _ _ _ _ => N4
      simp only [List.push_toArray] at N4
      refine turn_end2 F4 N4 hoff ⟨_, _, _, _, rfl, ?_, ⟨rfl, rfl, trivial⟩, ?_⟩
      · rw [take_snoc hy, leftsP_snoc]
        refine snocE hs' ?_
        unfold leftOne strongOfL isStrongL
        repeat (first | rw [ite_t (b := [Str.ofString "L", Str.ofString "R"].any (· == y)) (by assumption)] | rw [ite_f (b := [Str.ofString "L", Str.ofString "R"].any (· == y)) (by assumption)] | rw [ite_t (b := y == Str.ofString "EN") (by assumption)] | rw [ite_f (b := y == Str.ofString "EN") (by assumption)] | rw [ite_t (b := y == Str.ofString "L") (by assumption)] | rw [ite_f (b := y == Str.ofString "L") (by assumption)] | rw [ite_t (b := leftsL b (xs.take i) == Str.ofString "L") (by assumption)] | rw [ite_f (b := leftsL b (xs.take i) == Str.ofString "L") (by assumption)])
      · rw [take_snoc hy, leftsL_snoc]
        unfold strongOfL isStrongL
        repeat (first | rw [ite_t (b := [Str.ofString "L", Str.ofString "R"].any (· == y)) (by assumption)] | rw [ite_f (b := [Str.ofString "L", Str.ofString "R"].any (· == y)) (by assumption)]))
  · rintro m₁ nx h tk ⟨ws', n', z, tl, rfl, hs', hm, rfl⟩ F3 N3
    clear F2 N2
    replace F3 := frOv F3 hm
    dsimp only
    try k_fold
    k_steps
    dsimp only
    rename Fr _ _ _ _ => F4
    rename News _ _ _ _ => N4
    have e : xs.take ws.length = xs := by rw [hs.length]; exact List.take_length
    rw [e] at hs'
    exact pure_end F4 (new_strs N4 hs')
end Mine
end

section
open PySem PySem.W PyProof.Rows PySem.Calls PySem.Spec
set_option Elab.async false
set_option maxRecDepth 100000
set_option maxHeartbeats 8000000
namespace Mine

local macro_rules | `(tactic| walk_at "eval ListComp") => `(tactic| (k_here; k_dflt (refine LCg.ListComp_U (F₀ := by k_asm) (by with_unfolding_all rfl) (by decide) (by rfl) (by decide) (by rfl) ?_)))
def letterOne (k : Str) : Str := if (k == Str.ofString "AL") = true then Str.ofString "R" else k
theorem letters_pure (xs : List Str) (hx : xs.length ≤ 100) : PureFn 100 36 (fun h vs => ∃ v, vs = [v] ∧ StrsAt h v xs) (fun h _ h' r => NewStrs h h' r (xs.map letterOne)) := by
  intro w mean mg mb dp un gd cn cs a ccd cl outer A₀ base h₀ L m s vs Q E B F X T hk hd hu hpre hret
  obtain ⟨v, rfl, la, ws, n, rfl, hl, hs⟩ := hpre
  refine' pure_enter (binds := [(Str.ofString "classes", .ref la)]) (P := fun h' r => NewStrs s.heap h' r _) B F X T hk ?k6 ?k7 hd ?k9 ?kB ?c5 ?c2 ?c3 ?c4 (fun r h' tk' st hp => hret r h' tk' st hp) ?_
  case k6 => k_is
  case k7 => k_is
  case k9 => exact BindsTo.of_eq rfl
  case kB => exact locs rfl
  case c5 => decide
  case c2 => exact rfl
  case c3 => exact rfl
  case c4 => exact rfl
  intro g L' h₁ hg F' N' B' X' T'
  rw [← hg] at hl
  rw [← hg]
  clear hret B F X T
  try dsimp only
  try k_fold
  k_steps
  rename Fr _ _ _ _ => F2
  have hlen := hs.length
  refine LCg.CompSrc.base rfl F2 N' (isList_of_get hl) (by rw [List.size_toArray, PySem.sizeLine_eq]; omega) ?_
  intro g'
  refine comp_rest (fun i v => ∃ (x : Str) (t : Tok), xs[i]? = some x ∧ v = Value.str (letterOne x) t) (Or.inl (isList_of_get hl)) ?_ ?_
  · intro i v I oI C oC D m₂ ys h tk E' hi hv hC hx F3 N3 off ne
    obtain ⟨y, ty, rfl, hy⟩ := StrsAre.item hs i v (by simpa using hv)
    clear N'
    try k_fold
    k_steps
    all_goals (
      rename Fr _ _ _ _ => F4
      rename News _ _ _ _ => N4
      refine elt_end F4 N4 (elt_str hy ?_)
      unfold letterOne
      repeat (first | rw [ite_t (b := y == Str.ofString "AL") (by assumption)] | rw [ite_f (b := y == Str.ofString "AL") (by assumption)]))
  · intro ys hlen' hr
    k_steps
    rename Fr _ _ _ _ => F4
    rename News _ _ _ _ => N4
    refine pure_end F4 (new_strs N4 (strs_of ?_ ?_))
    · rw [hlen', List.size_toArray, List.length_map, hlen]
    · intro i v hv
      obtain ⟨x, t, e, rfl⟩ := hr i v hv
      exact ⟨_, t, by rw [List.getElem?_map, e]; rfl, rfl⟩

def overOne (k : Str) : Str := if ([Str.ofString "ES", Str.ofString "ET", Str.ofString "CS"].any (· == k)) = true then Str.ofString "ON" else k
theorem overs_pure (xs : List Str) (hx : xs.length ≤ 100) : PureFn 100 69 (fun h vs => ∃ v, vs = [v] ∧ StrsAt h v xs) (fun h _ h' r => NewStrs h h' r (xs.map overOne)) := by
  intro w mean mg mb dp un gd cn cs a ccd cl outer A₀ base h₀ L m s vs Q E B F X T hk hd hu hpre hret
  obtain ⟨v, rfl, la, ws, n, rfl, hl, hs⟩ := hpre
  refine' pure_enter (binds := [(Str.ofString "classes", .ref la)]) (P := fun h' r => NewStrs s.heap h' r _) B F X T hk ?k6 ?k7 hd ?k9 ?kB ?c5 ?c2 ?c3 ?c4 (fun r h' tk' st hp => hret r h' tk' st hp) ?_
  case k6 => k_is
  case k7 => k_is
  case k9 => exact BindsTo.of_eq rfl
  case kB => exact locs rfl
  case c5 => decide
  case c2 => exact rfl
  case c3 => exact rfl
  case c4 => exact rfl
  intro g L' h₁ hg F' N' B' X' T'
  rw [← hg] at hl
  rw [← hg]
  clear hret B F X T
  try dsimp only
  try k_fold
  k_steps
  rename Fr _ _ _ _ => F2
  have hlen := hs.length
  refine LCg.CompSrc.base rfl F2 N' (isList_of_get hl) (by rw [List.size_toArray, PySem.sizeLine_eq]; omega) ?_
  intro g'
  refine comp_rest (fun i v => ∃ (x : Str) (t : Tok), xs[i]? = some x ∧ v = Value.str (overOne x) t) (Or.inl (isList_of_get hl)) ?_ ?_
  · intro i v I oI C oC D m₂ ys h tk E' hi hv hC hx F3 N3 off ne
    obtain ⟨y, ty, rfl, hy⟩ := StrsAre.item hs i v (by simpa using hv)
    clear N'
    obtain ⟨hT1, hT2⟩ := tupK (ys := [Str.ofString "ES", Str.ofString "ET", Str.ofString "CS"]) X' (a := 16) (by k_is) (by repeat constructor)
    try k_fold
    k_steps
    all_goals (
      rename Fr _ _ _ _ => F4
      rename News _ _ _ _ => N4
      refine elt_end F4 N4 (elt_str hy ?_)
      unfold overOne
      repeat (first | rw [ite_t (b := [Str.ofString "ES", Str.ofString "ET", Str.ofString "CS"].any (· == y)) (by assumption)] | rw [ite_f (b := [Str.ofString "ES", Str.ofString "ET", Str.ofString "CS"].any (· == y)) (by assumption)]))
  · intro ys hlen' hr
    k_steps
    rename Fr _ _ _ _ => F4
    rename News _ _ _ _ => N4
    refine pure_end F4 (new_strs N4 (strs_of ?_ ?_))
    · rw [hlen', List.size_toArray, List.length_map, hlen]
    · intro i v hv
      obtain ⟨x, t, e, rfl⟩ := hr i v hv
      exact ⟨_, t, by rw [List.getElem?_map, e]; rfl, rfl⟩
end Mine
end

section
open PySem PySem.W PyProof.Rows PySem.Calls PySem.Spec
namespace Mine
local macro_rules | `(tactic| walk_at "exec For Name Call cons nil") => `(tactic| (k_here; (rename Fr _ _ _ _ => hF9); k_dflt (refine For_hold hF9 (by rfl) (by rfl) ?_)))
local macro_rules | `(tactic| walk_at "setItem ref int") => `(tactic| (k_here; (with_reducible show wpAny _ _ (PySem.setItem (Value.ref _) (Value.int _ _) (Value.str _ _)) _ _ _); k_dflt (refine' set_at ?k1 ?k2 ?k3 ?k4 ?k5 ?k6 ?_; (case k1 => k_asm); (case k2 => k_asm); (case k3 => k_upd); (case k4 => omega); (case k5 => omega); (case k6 => omega); k_whole); intro h' F' N'; (try k_sweep)))
local macro_rules | `(tactic| walk_at "exec For Tuple Call cons nil") => `(tactic| (k_here; (rename Fr _ _ _ _ => hF9); k_dflt (refine For_holdP hF9 (by rfl) (by rfl) (by rfl) (by rfl) ?_ (by intro _; rfl))))
local macro_rules | `(tactic| walk_at "call type:enumerate") => `(tactic| (k_here; k_dflt (refine' call_enum ?k1 ?k2 ?k3 ?_; (case k1 => k_asm); (case k2 => k_asm); (case k3 => assumption)); intro h' e' it' F' N' hEn' l1' l2'; (try k_sweep)))
local macro_rules | `(tactic| walk_at "call ref") => `(tactic| (k_here; k_dflt (k_extra "call ref")))

section
open PySem PySem.W PyProof.Rows PySem.Calls PySem.Spec
set_option Elab.async false
set_option maxRecDepth 100000
set_option maxHeartbeats 8000000

def numT (a : Str) : Bool := [Str.ofString "EN", Str.ofString "AN"].any (· == a)
def sepOne (a k c : Str) : Str :=
  if (a == c) = true then
    (if (k == Str.ofString "CS") = true then (if numT a = true then a else if (k == Str.ofString "ES") = true then (if (a == Str.ofString "EN") = true then a else k) else k)
     else if (k == Str.ofString "ES") = true then (if (a == Str.ofString "EN") = true then a else k) else k)
  else k
def gS (xs : List Str) (i : Nat) : Str := xs.getD i Str.empty
def sepsF (xs : List Str) (i : Nat) : Str := sepOne (gS xs (i - 1)) (gS xs i) (gS xs (i + 1))
def sepsI (xs : List Str) : Nat → List Str
  | 0 => xs
  | i + 1 => (sepsI xs i).set (i + 1) (sepsF xs (i + 1))
theorem sepsI_length (xs : List Str) : ∀ i, (sepsI xs i).length = xs.length
  | 0 => rfl
  | i + 1 => by rw [sepsI, List.length_set, sepsI_length xs i]
theorem sepsI_above (xs : List Str) : ∀ i j, i < j → (sepsI xs i)[j]? = xs[j]?
  | 0, _, _ => rfl
  | i + 1, j, h => by rw [sepsI, List.getElem?_set_ne (by omega), sepsI_above xs i j (by omega)]
theorem sepsI_same (xs : List Str) (i : Nat) (h : i + 1 < xs.length) (e : sepsF xs (i + 1) = gS xs (i + 1)) : sepsI xs (i + 1) = sepsI xs i := by
  rw [sepsI, e]
  have h1 := sepsI_above xs i (i + 1) (by omega)
  apply List.ext_getElem?
  intro j
  by_cases hj : i + 1 = j
  · subst hj
    rw [List.getElem?_set_self (by rw [sepsI_length]; exact h), h1]
    unfold gS
    rw [List.getD_eq_getElem?_getD, List.getElem?_eq_getElem h]; rfl
  · rw [List.getElem?_set_ne hj]
theorem seps_pure (xs : List Str) (hx : xs.length ≤ 100) : PureFn 100 43 (fun h vs => ∃ v, vs = [v] ∧ StrsAt h v xs) (fun h _ h' r => NewStrs h h' r (sepsI xs (xs.length - 2))) := by
  intro w mean mg mb dp un gd cn cs a ccd cl outer A₀ base h₀ L m s vs Q E B F X T hk hd hu hpre hret
  obtain ⟨v, rfl, la, ws, n, rfl, hl, hs⟩ := hpre
  refine' pure_enter (binds := [(Str.ofString "classes", .ref la)]) (P := fun h' r => NewStrs s.heap h' r _) B F X T hk ?k6 ?k7 hd ?k9 ?kB ?c5 ?c2 ?c3 ?c4 (fun r h' tk' st hp => hret r h' tk' st hp) ?_
  case k6 => k_is
  case k7 => k_is
  case k9 => exact BindsTo.of_eq rfl
  case kB => exact locs rfl
  case c5 => decide
  case c2 => exact rfl
  case c3 => exact rfl
  case c4 => exact rfl
  intro g L' h₁ hg F' N' B' X' T'
  rw [← hg] at hl
  rw [← hg]
  clear hret B F X T
  have hli : g.IsList la ws.toArray := isList_of_get hl
  have hlen := hs.length
  have hszL : ws.toArray.size ≤ sizeLine := by rw [List.size_toArray, PySem.sizeLine_eq]; omega
  obtain ⟨hT1, hT2⟩ := tupK (ys := [Str.ofString "EN", Str.ofString "AN"]) X' (a := 17) (by k_is) (by repeat constructor)
  try dsimp only
  try k_fold
  k_steps
  refine hold ?_
  rename IsRange _ _ _ _ _ _ _ _ => hR
  rename Fr _ _ _ _ => F2
  rename News _ _ _ _ => N2
  refine iter_range1 (n := xs.length - 2) (fun l' i m nx => ∃ ws' n', nx = [(l', listOf ws'.toArray n')] ∧ StrsAre ws' (sepsI xs i) ∧ Told m [(Str.ofString "found", .ref l'), (Str.ofString "classes", .ref la)])
    rfl hR (small_one (by omega) (by omega) (by omega) (by omega)) (by rw [rangeSize_nat]; omega) F2 N2 ?_ ?_ ?_
  · exact ⟨_, _, rfl, hs, ⟨rfl, rfl, trivial⟩⟩
  · rintro i t m₁ nx h tk own hi hoff ⟨ws', n', rfl, hs', hm⟩ F3 N3
    clear F2 N2 hR
    replace F3 := frOv1 F3 hm
    simp only [List.cons_append, List.nil_append] at N3
    have hlen' : ws'.length = xs.length := by rw [hs'.length, sepsI_length]
    have hs2 : True → StrsAre ws' (sepsI xs i) := fun _ => hs'
    clear hs'
    try k_fold
    k_steps
    all_goals (
      have e1 : (1 + (i : Int)).toNat = i + 1 := by omega
      have eF : sepsF xs (i + 1) = sepOne (xs.getD (1 + (i : Int) - 1).toNat Str.empty) (xs.getD (1 + (i : Int)).toNat Str.empty) (xs.getD (1 + (i : Int) + 1).toNat Str.empty) := by
        rw [e1, show (1 + (i : Int) - 1).toNat = i from by omega, show (1 + (i : Int) + 1).toNat = i + 1 + 1 from by omega]; rfl
      rename Fr _ _ _ _ => F4
      rename News _ _ _ _ => N4
      refine turn_end2 F4 N4 hoff ⟨_, _, rfl, ?_, ⟨rfl, rfl, trivial⟩⟩
      unfold sepOne numT at eF
      repeat (first | rw [ite_t (b := xs.getD (1 + (i : Int) - 1).toNat Str.empty == xs.getD (1 + (i : Int) + 1).toNat Str.empty) (by assumption)] at eF | rw [ite_f (b := xs.getD (1 + (i : Int) - 1).toNat Str.empty == xs.getD (1 + (i : Int) + 1).toNat Str.empty) (by assumption)] at eF | rw [ite_t (b := xs.getD (1 + (i : Int)).toNat Str.empty == Str.ofString "CS") (by assumption)] at eF | rw [ite_f (b := xs.getD (1 + (i : Int)).toNat Str.empty == Str.ofString "CS") (by assumption)] at eF | rw [ite_t (b := [Str.ofString "EN", Str.ofString "AN"].any (· == xs.getD (1 + (i : Int) - 1).toNat Str.empty)) (by assumption)] at eF | rw [ite_f (b := [Str.ofString "EN", Str.ofString "AN"].any (· == xs.getD (1 + (i : Int) - 1).toNat Str.empty)) (by assumption)] at eF | rw [ite_t (b := xs.getD (1 + (i : Int)).toNat Str.empty == Str.ofString "ES") (by assumption)] at eF | rw [ite_f (b := xs.getD (1 + (i : Int)).toNat Str.empty == Str.ofString "ES") (by assumption)] at eF | rw [ite_t (b := xs.getD (1 + (i : Int) - 1).toNat Str.empty == Str.ofString "EN") (by assumption)] at eF | rw [ite_f (b := xs.getD (1 + (i : Int) - 1).toNat Str.empty == Str.ofString "EN") (by assumption)] at eF)
      first
      | (rw [sepsI_same xs i (by omega) (eF.trans (by rw [e1]; rfl))]; exact hs2 trivial)
      | (rw [sepsI, eF, e1]; exact setStrs (hs2 trivial) _))
  · rintro m₁ nx h tk ⟨ws', n', rfl, hs', hm⟩ F3 N3
    clear F2 N2 hR
    replace F3 := frOv F3 hm
    dsimp only
    try k_fold
    k_steps
    dsimp only
    rename Fr _ _ _ _ => F4
    rename News _ _ _ _ => N4
    exact pure_end F4 (new_strs N4 hs')
end

section
open PySem PySem.W PyProof.Rows PySem.Calls PySem.Spec
set_option Elab.async false
set_option maxRecDepth 100000
set_option maxHeartbeats 8000000


def isET (k : Str) : Bool := [Str.ofString "ET"].any (· == k)
def runsStep (st : List (Nat × Nat) × Option Nat) (i : Nat) (k : Str) : List (Nat × Nat) × Option Nat :=
  if isET k = true then (match st.2 with | none => (st.1, some i) | some _ => st)
  else (match st.2 with | some b => (st.1 ++ [(b, i)], none) | none => st)
def runsState (xs : List Str) : Nat → List (Nat × Nat) × Option Nat
  | 0 => ([], none)
  | i + 1 => runsStep (runsState xs i) i (xs.getD i Str.empty)
def runsP (xs : List Str) : List (Nat × Nat) := match (runsState xs xs.length).2 with
  | some b => (runsState xs xs.length).1 ++ [(b, xs.length)]
  | none => (runsState xs xs.length).1

abbrev tup2 (x y : Int) (t u : Tok) : Obj := { cls := .type "tuple", data := .seq #[.int x t, .int y u] }
inductive PairsIn (led : List (Addr × Obj)) : List Value → List (Nat × Nat) → Prop
  | nil : PairsIn led [] []
  | snoc {vs ps} {a : Addr} {x y : Nat} {t u : Tok} : PairsIn led vs ps → (a, tup2 (x : Int) (y : Int) t u) ∈ led → PairsIn led (vs ++ [.ref a]) (ps ++ [(x, y)])
theorem PairsIn.mono {led led' : List (Addr × Obj)} (h : ∀ p ∈ led, p ∈ led') {vs : List Value} {ps : List (Nat × Nat)} (k : PairsIn led vs ps) : PairsIn led' vs ps := by
  induction k with
  | nil => exact .nil
  | snoc _ m ih => exact .snoc ih (h _ m)
theorem PairsIn.length {led : List (Addr × Obj)} {vs : List Value} {ps : List (Nat × Nat)} (k : PairsIn led vs ps) : vs.length = ps.length := by
  induction k with
  | nil => rfl
  | snoc _ _ ih => simp [ih]
inductive BegunIs : Value → Option Nat → Prop
  | none : BegunIs .none none
  | some (b : Nat) (t : Tok) : BegunIs (.int (b : Int) t) (some b)
theorem runsState_len (xs : List Str) : ∀ i, (runsState xs i).1.length ≤ i
  | 0 => Nat.le_refl _
  | i + 1 => by
    have ih := runsState_len xs i
    unfold runsState runsStep
    split <;> split <;> simp <;> omega

def RunsNew (h h' : Heap) (r : Value) (ps : List (Nat × Nat)) : Prop := ∃ lr rs n ts, r = .ref lr ∧ (∀ p ∈ (lr, listOf rs.toArray n) :: ts, h.get? p.1 = none ∧ h'.get? p.1 = some p.2) ∧ PairsIn ts rs ps ∧ OwnOff ts [lr]

theorem getD_of {xs : List Str} {i : Nat} {y : Str} (h : xs[i]? = some y) : xs.getD i Str.empty = y := by rw [List.getD_eq_getElem?_getD, h]; rfl
section
variable {h₀ h' : Heap} {L l' T : Addr} {m' : Str → Option Value} {o oT : Obj} {own ts : List (Addr × Obj)} {J : (Str → Option Value) → List (Addr × Obj) → Prop} {s₁ : Shared} {tk : Nat}
theorem runs_end1 (F : Fr h₀ L h' m') (N : News h₀ L h' ((l', o) :: (ts ++ own))) (ho : OwnOff own (l' :: ts.map (·.1))) (hj : J m' ((l', o) :: ts)) : InvEndG h₀ L J own s₁ { s₁ with heap := h', toks := tk } :=
  InvEndG.intro F N hj ho (fun p hp => by
    rcases List.mem_cons.mp hp with rfl | hp
    · exact .head _
    · exact .tail _ (List.mem_append.mpr (.inl hp))) (fun p hp => .tail _ (List.mem_append.mpr (.inr hp)))
theorem runs_end2 (F : Fr h₀ L h' m') (N : News h₀ L h' ((T, oT) :: (l', o) :: (ts ++ own))) (ho : OwnOff own (l' :: ts.map (·.1))) (hT : AllLt T (ts ++ own)) (hj : J m' ((l', o) :: (T, oT) :: ts)) : InvEndG h₀ L J own s₁ { s₁ with heap := h', toks := tk } := by
  refine InvEndG.intro F N hj ?_ (fun p hp => ?_) (fun p hp => .tail _ (.tail _ (List.mem_append.mpr (.inr hp))))
  · intro p hp b hb
    rcases List.mem_cons.mp hb with rfl | hb
    · exact ho p hp _ (.head _)
    · rcases List.mem_cons.mp hb with rfl | hb
      · exact Nat.ne_of_lt (ktn_ltOf hT p (List.mem_append.mpr (.inr hp)))
      · exact ho p hp _ (.tail _ hb)
  · rcases List.mem_cons.mp hp with rfl | hp
    · exact .tail _ (.head _)
    · rcases List.mem_cons.mp hp with rfl | hp
      · exact .head _
      · exact .tail _ (.tail _ (List.mem_append.mpr (.inl hp)))
end
theorem ownOff_cons {T l' : Addr} {oT : Obj} {ts : List (Addr × Obj)} (h : l' < T) (k : OwnOff ts [l']) : OwnOff ((T, oT) :: ts) [l'] := by
  intro p hp b hb
  rcases List.mem_cons.mp hp with rfl | hp
  · rw [List.mem_singleton.mp hb]; exact Nat.ne_of_gt h
  · exact k p hp b hb
theorem runs_new {h h' : Heap} {L l' : Addr} {rs : List Value} {n : Nat} {ts : List (Addr × Obj)} {ps : List (Nat × Nat)} (N : News h L h' ((l', listOf rs.toArray n) :: ts)) (hp : PairsIn ts rs ps) (ho : OwnOff ts [l']) : RunsNew h h' (.ref l') ps :=
  ⟨l', rs, n, ts, rfl, fun p q => ⟨(N p q).2.2, (N p q).1⟩, hp, ho⟩

theorem news_swap {h h' : Heap} {L : Addr} {p q : Addr × Obj} {ts : List (Addr × Obj)} (N : News h L h' (p :: q :: ts)) : News h L h' (q :: p :: ts) := fun r hr => N r (by
  rcases List.mem_cons.mp hr with rfl | hr
  · exact .tail _ (.head _)
  · rcases List.mem_cons.mp hr with rfl | hr
    · exact .head _
    · exact .tail _ (.tail _ hr))
theorem runs_pure (xs : List Str) (hx : xs.length ≤ 100) : PureFn 100 50 (fun h vs => ∃ v lk t n, vs = [v, .ref lk] ∧ StrsAt h v xs ∧ h.get? lk = some { cls := .type "tuple", data := .seq #[.str (Str.ofString "ET") t] n }) (fun h _ h' r => RunsNew h h' r (runsP xs)) := by
  intro w mean mg mb dp un gd cn cs a ccd cl outer A₀ base h₀ L m s vs Q E B F X T hk hd hu hpre hret
  obtain ⟨v, lk, t, nk, rfl, ⟨la, ws, n, rfl, hl, hs⟩, hk1⟩ := hpre
  refine' pure_enter (binds := [(Str.ofString "classes", .ref la), (Str.ofString "kinds", .ref lk)]) (P := fun h' r => RunsNew s.heap h' r _) B F X T hk ?k6 ?k7 hd ?k9 ?kB ?c5 ?c2 ?c3 ?c4 (fun r h' tk' st hp => hret r h' tk' st hp) ?_
  case k6 => k_is
  case k7 => k_is
  case k9 => exact BindsTo.of_eq rfl
  case kB => exact locs rfl
  case c5 => decide
  case c2 => exact rfl
  case c3 => exact rfl
  case c4 => exact rfl
  intro g L' h₁ hg F' N' B' X' T'
  rw [← hg] at hl hk1
  rw [← hg]
  clear hret B F X T
  have hlen := hs.length
  have hT1 : IsTup g lk #[.str (Str.ofString "ET") t] := ⟨_, hk1, rfl, _, rfl⟩
  try dsimp only
  try k_fold
  k_steps
  refine hold ?_
  rename EnumAt _ _ _ _ _ _ _ => hE
  rename Fr _ _ _ _ => F2
  rename News _ _ _ _ => N2
  refine iter_enum (fun l' i m nx => ∃ rs n' ts bv, nx = (l', listOf rs.toArray n') :: ts ∧ PairsIn ts rs (runsState xs i).1 ∧ OwnOff ts [l'] ∧ BegunIs bv (runsState xs i).2 ∧ Told m [(Str.ofString "begun", bv), (Str.ofString "found", .ref l'), (Str.ofString "kinds", .ref lk), (Str.ofString "classes", .ref la)])
    rfl hE ⟨_, hl⟩ F2 N2 (by assumption) (by assumption) ?_ ?_ ?_
  · exact ⟨[], 0, [], .none, rfl, .nil, fun _ h => (nomatch h), .none, ⟨rfl, rfl, rfl, rfl, trivial⟩⟩
  · rintro i ti v m₁ nx h tk own hv hoff hown ⟨rs, n', ts, bv, rfl, hp, ho, hb, hm⟩ F3 N3
    obtain ⟨y, ty, rfl, hy⟩ := StrsAre.item hs i v hv
    have hi : i < xs.length := (List.getElem?_eq_some_iff.mp hy).1
    clear F2 N2 hE
    replace F3 := frOv2 F3 hm
    have hoff2 : OwnOff (ts ++ own) [_] := fun p hp b hb => by
      rcases List.mem_append.mp hp with q | q
      · exact ho p q b hb
      · exact hoff p q b (by rw [List.mem_singleton.mp hb]; exact .head _)
    simp only [List.cons_append] at N3
    have hsz : rs.toArray.size ≤ sizeLine := by
      have h1 := hp.length
      have h2 := runsState_len xs i
      rw [List.size_toArray, PySem.sizeLine_eq]; omega
    generalize hst : runsState xs i = st at hp hb
    obtain ⟨ps, ob⟩ := st
    dsimp only at hp hb
    have hp2 : True → PairsIn ts rs ps := fun _ => hp
    cases hb with
    | none =>
      have eR : runsState xs (i + 1) = runsStep (ps, none) i y := by
        show runsStep (runsState xs i) i (xs.getD i Str.empty) = _
        rw [hst, getD_of hy]
      unfold runsStep isET at eR
      have eR2 : True → _ := fun _ => eR
      clear eR
      try k_fold
      k_steps
      all_goals (
        have eR := eR2 trivial
        rename Fr _ _ _ _ => F4
        rename News _ _ _ _ => N4
        first
        | rw [ite_t (b := [Str.ofString "ET"].any (· == y)) (by assumption)] at eR
        | rw [ite_f (b := [Str.ofString "ET"].any (· == y)) (by assumption)] at eR
        first
        | exact runs_end1 F4 N4 hoff ⟨_, _, _, _, rfl, by rw [eR]; exact hp2 trivial, ho, by rw [eR]; exact .some i _, ⟨rfl, rfl, rfl, rfl, trivial⟩⟩
        | exact runs_end1 F4 N4 hoff ⟨_, _, _, _, rfl, by rw [eR]; exact hp2 trivial, ho, by rw [eR]; exact .none, ⟨rfl, rfl, rfl, rfl, trivial⟩⟩)
    | some b tb =>
      have eR : runsState xs (i + 1) = runsStep (ps, some b) i y := by
        show runsStep (runsState xs i) i (xs.getD i Str.empty) = _
        rw [hst, getD_of hy]
      unfold runsStep isET at eR
      have eR2 : True → _ := fun _ => eR
      clear eR
      try k_fold
      k_steps
      all_goals (
        have eR := eR2 trivial
        rename Fr _ _ _ _ => F4
        rename News _ _ _ _ => N4
        first
        | rw [ite_t (b := [Str.ofString "ET"].any (· == y)) (by assumption)] at eR
        | rw [ite_f (b := [Str.ofString "ET"].any (· == y)) (by assumption)] at eR
        first
        | exact runs_end1 F4 N4 hoff ⟨_, _, _, _, rfl, by rw [eR]; exact hp2 trivial, ho, by rw [eR]; exact .some b _, ⟨rfl, rfl, rfl, rfl, trivial⟩⟩
        | (simp only [List.push_toArray] at N4
           rename _ ∧ AllLt _ _ => hT9
           exact runs_end2 F4 N4 hoff hT9.2 ⟨_, _, _, _, rfl, by rw [eR]; exact .snoc ((hp2 trivial).mono fun _ q => .tail _ q) (.head _), ownOff_cons hT9.1 ho, by rw [eR]; exact .none, ⟨rfl, rfl, rfl, rfl, trivial⟩⟩))
  · rintro m₁ nx h tk ⟨rs, n', ts, bv, rfl, hp, ho, hb, hm⟩ F3 N3
    clear F2 N2 hE
    replace F3 := frOv F3 hm
    dsimp only
    have hsz : rs.toArray.size ≤ sizeLine := by
      have h1 := hp.length
      have h2 := runsState_len xs ws.length
      rw [List.size_toArray, PySem.sizeLine_eq]; omega
    generalize hst : runsState xs ws.length = st at hp hb
    obtain ⟨ps, ob⟩ := st
    dsimp only at hp hb
    have hp2 : True → PairsIn ts rs ps := fun _ => hp
    have hli : g.IsList la ws.toArray := isList_of_get hl
    have eP : True → ws.length = xs.length := fun _ => hlen
    cases hb with
    | none =>
      try k_fold
      k_steps
      dsimp only
      rename Fr _ _ _ _ => F4
      rename News _ _ _ _ => N4
      have e : runsP xs = ps := by
        unfold runsP
        rw [← eP trivial, hst]
      rw [e]
      exact pure_end F4 (runs_new N4 (hp2 trivial) ho)
    | some b tb =>
      try k_fold
      k_steps
      dsimp only
      rename Fr _ _ _ _ => F4
      rename News _ _ _ _ => N4
      simp only [List.push_toArray] at N4
      rename _ ∧ AllLt _ _ => hT9
      have e : runsP xs = ps ++ [(b, xs.length)] := by
        unfold runsP
        rw [← eP trivial, hst]
      rw [e]
      exact pure_end F4 (runs_new (news_swap N4) (.snoc ((hp2 trivial).mono fun _ q => .tail _ q) (.head _)) (ownOff_cons hT9.1 ho))
end

section
open PySem PySem.W PyProof.Rows PySem.Calls PySem.Spec
set_option Elab.async false
set_option maxRecDepth 100000
set_option maxHeartbeats 8000000

inductive OptIs : Value → Option Str → Prop
  | none : OptIs .none none
  | some (x : Str) (t : Tok) : OptIs (.str x t) (some x)
def leftOf (xs : List Str) (f : Nat) : Option Str := if 0 < f then some (xs.getD (f - 1) Str.empty) else none
def rightOf (xs : List Str) (e : Nat) : Option Str := if e < xs.length then some (xs.getD e Str.empty) else none
def PairNew (h h' : Heap) (r : Value) (oa ob : Option Str) : Prop := ∃ T va vb, r = .ref T ∧ h.get? T = none ∧ h'.get? T = some { cls := .type "tuple", data := .seq #[va, vb] } ∧ OptIs va oa ∧ OptIs vb ob
theorem left_yes {xs : List Str} {f : Nat} {t : Tok} (h : 0 < (f : Int)) : OptIs (.str (xs.getD ((f : Int) - 1).toNat Str.empty) t) (leftOf xs f) := by
  unfold leftOf
  rw [if_pos (by omega), show ((f : Int) - 1).toNat = f - 1 from by omega]
  exact .some _ t
theorem left_no {xs : List Str} {f : Nat} (h : ¬ 0 < (f : Int)) : OptIs .none (leftOf xs f) := by
  unfold leftOf
  rw [if_neg (by omega)]
  exact .none
theorem right_yes {xs : List Str} {e : Nat} {t : Tok} (h : (e : Int) < (xs.length : Int)) : OptIs (.str (xs.getD (e : Int).toNat Str.empty) t) (rightOf xs e) := by
  unfold rightOf
  rw [if_pos (by omega), Int.toNat_natCast]
  exact .some _ t
theorem right_no {xs : List Str} {e : Nat} (h : ¬ (e : Int) < (xs.length : Int)) : OptIs .none (rightOf xs e) := by
  unfold rightOf
  rw [if_neg (by omega)]
  exact .none
def isO (o : Option Str) (x : Str) : Bool := match o with | some y => y == x | none => false
def valIs (x : Str) : Value → Bool
  | .str y _ => y == x
  | _ => false
theorem in_opt2 {prog : Program} {w : World} {A : Around} {E : Value → Shared → Prop} {s : Shared} {T : Addr} {va vb : Value} {oa ob : Option Str} {x : Str} {t : Tok} {Q : Value → Shared → Prop} (hT : s.heap.IsTuple T #[va, vb]) (ha : OptIs va oa) (hb : OptIs vb ob)
    (h : Q (.bool (isO oa x || isO ob x)) s) : wpAny (model prog w) A (compareOp .In (.str x t) (.ref T)) Q E s := by
  have key : ∀ {v : Value} {o : Option Str}, OptIs v o → SeqAt.EqAt A.in1 s v (.str x t) (valIs x v) ∧ valIs x v = isO o x := by
    intro v o hv
    cases hv with
    | none => exact ⟨SeqAt.EqAt.none_str x t, rfl⟩
    | some y u => exact ⟨SeqAt.EqAt.str_str y u x t, rfl⟩
  refine SeqAt.in_tupleAt (valIs x) hT (fun y hy => ?_) ?_
  · simp only [List.mem_toArray, List.mem_cons, List.not_mem_nil, or_false] at hy
    rcases hy with rfl | rfl
    · exact (key ha).1
    · exact (key hb).1
  · have e : (#[va, vb] : Array Value).any (valIs x) = (isO oa x || isO ob x) := by
      rw [← (key ha).2, ← (key hb).2]
      simp
    rw [e]; exact h
theorem beside_pure (xs : List Str) (hx : xs.length ≤ 100) (f e : Nat) (hfe : f < e) (he : e ≤ xs.length) : PureFn 100 57 (fun h vs => ∃ v t u, vs = [v, .int (f : Int) t, .int (e : Int) u, .none, .none] ∧ StrsAt h v xs) (fun h _ h' r => PairNew h h' r (leftOf xs f) (rightOf xs e)) := by
  intro w mean mg mb dp un gd cn cs a ccd cl outer A₀ base h₀ L m s vs Q E B F X T hk hd hu hpre hret
  obtain ⟨v, t, u, rfl, la, ws, n, rfl, hl, hs⟩ := hpre
  refine' pure_enter (binds := [(Str.ofString "classes", .ref la), (Str.ofString "first", .int (f : Int) t), (Str.ofString "end", .int (e : Int) u), (Str.ofString "ahead", .none), (Str.ofString "behind", .none)]) (P := fun h' r => PairNew s.heap h' r _ _) B F X T hk ?k6 ?k7 hd ?k9 ?kB ?c5 ?c2 ?c3 ?c4 (fun r h' tk' st hp => hret r h' tk' st hp) ?_
  case k6 => k_is
  case k7 => k_is
  case k9 => exact BindsTo.of_eq rfl
  case kB => exact locs rfl
  case c5 => decide
  case c2 => exact rfl
  case c3 => exact rfl
  case c4 => exact rfl
  intro g L' h₁ hg F' N' B' X' T'
  rw [← hg] at hl
  rw [← hg]
  clear hret B F X T
  have hlen := hs.length
  have hli : g.IsList la ws.toArray := isList_of_get hl
  try dsimp only
  try k_fold
  k_steps
  all_goals (
    rename Fr _ _ _ _ => F4
    rename News _ _ _ _ => N4
    refine pure_end F4 ⟨_, _, _, rfl, (N4 _ (.head _)).2.2, (N4 _ (.head _)).1, ?_, ?_⟩
    · first | exact left_yes (by assumption) | exact left_no (by assumption)
    · first | exact right_yes (by assumption) | exact right_no (by assumption))
end

section
open PySem PySem.W PyProof.Rows PySem.Calls PySem.Spec
set_option Elab.async false
set_option maxRecDepth 100000
set_option maxHeartbeats 8000000

theorem PairsIn.get {led : List (Addr × Obj)} {vs : List Value} {ps : List (Nat × Nat)} (k : PairsIn led vs ps) : ∀ j, j < vs.length → ∃ (a : Addr) (x y : Nat) (t u : Tok), vs[j]? = some (.ref a) ∧ ps[j]? = some (x, y) ∧ (a, tup2 (x : Int) (y : Int) t u) ∈ led := by
  induction k with
  | nil => intro j h; exact absurd h (Nat.not_lt_zero _)
  | @snoc vs ps a x y t u k m ih =>
    intro j hj
    have hl := k.length
    by_cases h : j < vs.length
    · obtain ⟨a', x', y', t', u', h1, h2, h3⟩ := ih j h
      exact ⟨a', x', y', t', u', by rw [List.getElem?_append_left h]; exact h1, by rw [List.getElem?_append_left (hl ▸ h)]; exact h2, h3⟩
    · have e : j = vs.length := by
        rw [List.length_append, List.length_singleton] at hj; omega
      subst e
      refine ⟨a, x, y, t, u, ?_, ?_, m⟩
      · rw [List.getElem?_append_right (Nat.le_refl _), Nat.sub_self]; rfl
      · rw [List.getElem?_append_right (by omega), hl, Nat.sub_self]; rfl
section
variable {prog : Program} {w : World} {A : Around} {E : Value → Shared → Prop} {s : Shared} {env : Env} {h₀ : Heap} {xi xc : Str} {body : List Stmt} {Q : Flow → Shared → Prop}
theorem iter_pairs {lr l' : Addr} {rs : List Value} {n : Nat} {ts : List (Addr × Obj)} {ps : List (Nat × Nat)} {o : Obj} {m : Str → Option Value} (J : Addr → Nat → (Str → Option Value) → List (Addr × Obj) → Prop) (hh : A.handled = none)
    (hp : PairsIn ts rs ps) (ho : OwnOff ((lr, listOf rs.toArray n) :: ts) [l']) (F : Fr h₀ env.locals s.heap m) (N : News h₀ env.locals s.heap ((l', o) :: (lr, listOf rs.toArray n) :: ts)) (h0 : J l' 0 m [(l', o)])
    (turn : ∀ i (x y : Nat) t u m₁ nx h tk own, ps[i]? = some (x, y) → OwnOff own (nx.map (·.1)) → J l' i m₁ nx →
      Fr h₀ env.locals h (fun z => if z = xc then some (.int (y : Int) u) else if z = xi then some (.int (x : Int) t) else m₁ z) → News h₀ env.locals h (nx ++ own) →
      wpAny (model prog w) A (execs body env) (InvPostG h₀ env.locals (J l' (i + 1)) own { s with heap := h, toks := tk } Q) E { s with heap := h, toks := tk })
    (done : ∀ m₁ nx h tk, J l' ps.length m₁ nx → Fr h₀ env.locals h m₁ → News h₀ env.locals h nx → Q .next { s with heap := h, toks := tk }) :
    wpAny (model prog w) A (pyIter (.ref lr)) (fun it s₂ => PairsAt prog w A h₀ env xi xc body Q E it s₂) E s := by
  have sel : ∀ j, ∃ (p : Addr × Array Value), j < rs.length → rs[j]? = some (.ref p.1) ∧ (p.1, ({ cls := .type "tuple", data := .seq p.2 } : Obj)) ∈ ts ∧ ∃ (x y : Nat) (t u : Tok), ps[j]? = some (x, y) ∧ p.2 = #[.int (x : Int) t, .int (y : Int) u] := by
    intro j
    by_cases h : j < rs.length
    · obtain ⟨a, x, y, t, u, h1, h2, h3⟩ := hp.get j h
      exact ⟨(a, _), fun _ => ⟨h1, h3, x, y, t, u, h2, rfl⟩⟩
    · exact ⟨(0, #[]), fun h' => absurd h' h⟩
  obtain ⟨sl, hsl⟩ := Classical.skolem.mp sel
  have hlr : s.heap.get? lr = some (listOf rs.toArray n) := (N _ (.tail _ (.head _))).1
  have hls : s.heap.IsList lr rs.toArray := isList_of_get hlr
  have hLs : env.locals < s.heap.objs.size := F.ns.lt
  have hne : lr ≠ s.heap.objs.size := Nat.ne_of_lt (Heap.lt_size hlr)
  have inN : ∀ j, j < rs.length → ((sl j).1, ({ cls := .type "tuple", data := .seq (sl j).2 } : Obj)) ∈ (l', o) :: (lr, listOf rs.toArray n) :: ts := fun j hj => .tail _ (.tail _ (hsl j hj).2.1)
  refine wpAny_pyIter_list hls ?_
  have W := WalksU.listOfTuples (prog := prog) (w := w) hh s.heap.objs.size lr hne rs.toArray (fun j => (sl j).1) (fun j => (sl j).2)
    (fun j hj => by rw [List.size_toArray] at hj; simpa using (hsl j hj).1) (fun j hj => by rw [List.size_toArray] at hj; exact Nat.ne_of_lt (Heap.lt_size (N _ (inN j hj)).1))
  rw [List.size_toArray] at W
  have up : ∀ b o', s.heap.get? b = some o' → (s.heap.push { cls := .type "list_iterator", data := .fields #[.ref lr, .int 0 0] }).get? b = some o' := fun b o' e => Heap.get?_push_of_some _ e
  refine ⟨s.heap.objs.size, _, _, rs.length, _, _, _, (fun i v0 v1 => ∃ (x y : Nat) (t u : Tok), ps[i]? = some (x, y) ∧ v0 = .int (x : Int) t ∧ v1 = .int (y : Int) u), m, [(l', o)], J l', rfl, W.bound, ?_, ?_, ?_, ?_, ?_, ⟨⟨_, Heap.get?_push_size _ rfl, rfl, rfl⟩, hls.at fun o e => up lr o e, ?_⟩, F.push _, (fun p hp => ⟨up _ _ (N p (by rw [List.mem_singleton.mp hp]; exact .head _)).1, (N p (by rw [List.mem_singleton.mp hp]; exact .head _)).2⟩), h0, ?_, ?_⟩
  · rintro i vals ⟨hi, rfl⟩
    obtain ⟨_, _, x, y, t, u, e, e2⟩ := hsl i hi
    exact ⟨_, _, e2, x, y, t, u, e, rfl, rfl⟩
  · rintro i h ⟨⟨oI, hI, _⟩, ⟨oL, hL, _⟩, hT⟩ b hb
    rcases List.mem_cons.mp hb with rfl | hb
    · exact ⟨_, hI⟩
    · rcases List.mem_cons.mp hb with rfl | hb
      · exact ⟨_, hL⟩
      · obtain ⟨j, hj, rfl⟩ := List.mem_map.mp hb
        obtain ⟨ot, hot, _⟩ := hT j (List.mem_range.mp hj)
        exact ⟨_, hot⟩
  · intro hm
    rcases List.mem_cons.mp hm with e | hm
    · exact absurd hLs (e ▸ Nat.lt_irrefl _)
    · rcases List.mem_cons.mp hm with e | hm
      · exact (N _ (.tail _ (.head _))).2.1 e.symm
      · obtain ⟨j, hj, e⟩ := List.mem_map.mp hm
        exact (N _ (inN j (by simpa using hj))).2.1 e
  · intro b hb
    rw [List.mem_singleton.mp hb]
    exact next_is_new F
  · intro p hp hm
    rw [List.mem_singleton.mp hp] at hm
    rcases List.mem_cons.mp hm with e | hm
    · exact absurd (Heap.lt_size (N _ (.head _)).1) (by show ¬ l' < _; rw [show l' = s.heap.objs.size from e]; exact Nat.lt_irrefl _)
    · rcases List.mem_cons.mp hm with e | hm
      · exact ho _ (.head _) l' (.head _) e.symm
      · obtain ⟨j, hj, e⟩ := List.mem_map.mp hm
        exact ho _ (.tail _ (hsl j (by simpa using hj)).2.1) l' (.head _) e
  · intro k hk
    exact ⟨_, up _ _ (N _ (inN k hk)).1, rfl, 0, rfl⟩
  · rintro i v0 v1 m₁ nx h tk own hi ⟨x, y, t, u, e, rfl, rfl⟩ hoff _ hJ F₁ N₁
    exact turn i x y t u m₁ nx h tk own e hoff hJ F₁ N₁
  · intro h' tk m' news' F' N' hJ
    rw [hp.length] at hJ
    exact done m' news' h' tk hJ F' N'
end
end

section
open PySem PySem.W PyProof.Rows PySem.Calls PySem.Spec
set_option Elab.async false
set_option maxRecDepth 100000
set_option maxHeartbeats 8000000

local macro_rules | `(tactic| walk_at "compareOp In str ref") => `(tactic| (k_here; k_dflt (refine' in_opt2 ?a ?b ?c ?_; (case a => assumption); (case b => assumption); (case c => assumption))))
def besideEN (xs : List Str) (f e : Nat) : Bool := isO (leftOf xs f) (Str.ofString "EN") || isO (rightOf xs e) (Str.ofString "EN")
def setR (l : List Str) (f : Nat) : Nat → List Str
  | 0 => l
  | k + 1 => (setR l f k).set (f + k) (Str.ofString "EN")
def termsI (xs : List Str) (ps : List (Nat × Nat)) : Nat → List Str
  | 0 => xs
  | i + 1 => match ps[i]? with
    | some (f, e) => if besideEN xs f e = true then setR (termsI xs ps i) f (e - f) else termsI xs ps i
    | none => termsI xs ps i
theorem setR_length (l : List Str) (f : Nat) : ∀ k, (setR l f k).length = l.length
  | 0 => rfl
  | k + 1 => by rw [setR, List.length_set, setR_length l f k]
theorem termsI_length (xs : List Str) (ps : List (Nat × Nat)) : ∀ i, (termsI xs ps i).length = xs.length
  | 0 => rfl
  | i + 1 => by
    have ih := termsI_length xs ps i
    unfold termsI
    split
    · split
      · rw [setR_length]; exact ih
      · exact ih
    · exact ih
theorem runsState_ok (xs : List Str) : ∀ i, i ≤ xs.length → (∀ p ∈ (runsState xs i).1, p.1 < p.2 ∧ p.2 ≤ xs.length) ∧ (∀ b, (runsState xs i).2 = some b → b < i)
  | 0, _ => ⟨fun _ h => (nomatch h), fun _ h => (nomatch h)⟩
  | i + 1, h => by
    obtain ⟨h1, h2⟩ := runsState_ok xs i (by omega)
    unfold runsState runsStep
    split
    · split
      · exact ⟨h1, fun b e => by cases e; omega⟩
      · exact ⟨h1, fun b e => by have := h2 b e; omega⟩
    · split
      · rename_i b e
        refine ⟨fun p hp => ?_, fun b e => by cases e⟩
        rcases List.mem_append.mp hp with hp | hp
        · exact h1 p hp
        · rw [List.mem_singleton.mp hp]
          have := h2 b e
          exact ⟨this, by show i ≤ _; omega⟩
      · exact ⟨h1, fun b e => by have := h2 b e; omega⟩
theorem runsP_ok (xs : List Str) : ∀ p ∈ runsP xs, p.1 < p.2 ∧ p.2 ≤ xs.length := by
  obtain ⟨h1, h2⟩ := runsState_ok xs xs.length (Nat.le_refl _)
  unfold runsP
  intro p hp
  split at hp
  · rename_i b e
    rcases List.mem_append.mp hp with hp | hp
    · exact h1 p hp
    · rw [List.mem_singleton.mp hp]; exact ⟨h2 b e, Nat.le_refl _⟩
  · exact h1 p hp
theorem news_more {h₀ h h' : Heap} {L : Addr} {m : Str → Option Value} {led new : List (Addr × Obj)} (F : Fr h₀ L h m) (N : News h₀ L h led) (st : h.StaysIn h') (hn : ∀ p ∈ new, h.get? p.1 = none ∧ h'.get? p.1 = some p.2) : News h₀ L h' (led ++ new) := by
  intro p hp
  rcases List.mem_append.mp hp with hp | hp
  · exact news_stay N st p hp
  · exact news_new F N st (hn p hp).1 (hn p hp).2 p (.head _)
theorem off_more {h₀ h : Heap} {L l' : Addr} {o : Obj} {led new : List (Addr × Obj)} (N : News h₀ L h led) (hm : (l', o) ∈ led) (hn : ∀ p ∈ new, h.get? p.1 = none) : OwnOff new [l'] := by
  intro p hp b hb e
  rw [List.mem_singleton.mp hb] at e
  have := (N _ hm).1
  have h2 := hn p hp
  rw [show p.1 = l' from e, show h.get? l' = some o from this] at h2
  cases h2

theorem terms_pure (xs : List Str) (hx : xs.length ≤ 100) : PureFn 90 64 (fun h vs => ∃ v, vs = [v] ∧ StrsAt h v xs) (fun h _ h' r => NewStrs h h' r (termsI xs (runsP xs) (runsP xs).length)) := by
  intro w mean mg mb dp un gd cn cs a ccd cl outer A₀ base h₀ L m s vs Q E B F X T hk hd hu hpre hret
  obtain ⟨v, rfl, la, ws, n, rfl, hl, hs⟩ := hpre
  refine' pure_enter (binds := [(Str.ofString "classes", .ref la)]) (P := fun h' r => NewStrs s.heap h' r _) B F X T hk ?k6 ?k7 (by omega) ?k9 ?kB ?c5 ?c2 ?c3 ?c4 (fun r h' tk' st hp => hret r h' tk' st hp) ?_
  case k6 => k_is
  case k7 => k_is
  case k9 => exact BindsTo.of_eq rfl
  case kB => exact locs rfl
  case c5 => decide
  case c2 => exact rfl
  case c3 => exact rfl
  case c4 => exact rfl
  intro g L' h₁ hg F' N' B' X' T'
  rw [← hg] at hl
  rw [← hg]
  clear hret B F X T
  have hli : g.IsList la ws.toArray := isList_of_get hl
  have hlen := hs.length
  have hsT : True → StrsAre ws xs := fun _ => hs
  have hszL : ws.toArray.size ≤ sizeLine := by rw [List.size_toArray, PySem.sizeLine_eq]; omega
  k_with_none
  k_with "call ref" => (
    rename Fr _ _ _ _ => F9
    rename News _ _ _ _ => N9
    refine' pure_use (runs_pure xs hx) ?k1 F9 ?k3 ?k4 ?k5 ?k6 ?k7 ?k8 ?_
    (case k1 => k_asm)
    (case k3 => k_asm)
    (case k4 => k_asm)
    (case k5 => exact rfl)
    (case k6 => show dp + 1 < 400 + 100; omega)
    (case k7 => show un + 3 < 10 * 100; omega)
    (case k8 => exact ⟨_, _, _, _, rfl, ⟨_, _, _, rfl, F9.keep _ _ hl, hsT trivial⟩, (N9 _ (.head _)).1⟩)
    rintro r9 h9 tk9 F8 st9 ⟨lr, rs, n9, ts, rfl, hnew, hp9, ho9⟩
    have N8 := news_more F9 N9 st9 hnew
    have O8 := off_more N9 (.tail _ (.head _)) (fun p q => (hnew p q).1)
    clear N9 F9
    simp only [List.cons_append, List.nil_append] at N8)
  try dsimp only
  try k_fold
  k_steps
  refine hold ?_
  refine iter_pairs (fun l' i m nx => ∃ ws' n', nx = [(l', listOf ws'.toArray n')] ∧ StrsAre ws' (termsI xs (runsP xs) i) ∧ Told m [(Str.ofString "found", .ref l'), (Str.ofString "classes", .ref la)])
    rfl hp9 O8 F8 (fun p q => N8 p (.tail _ q)) ?_ ?_ ?_
  · exact ⟨_, _, rfl, hsT trivial, ⟨rfl, rfl, trivial⟩⟩
  · rintro i x y tx ty m₁ nx h tk own hi hoff ⟨ws', n', rfl, hs', hm⟩ F3 N3
    clear F8 N8 st9 hnew hp9 ho9 O8
    obtain ⟨hxy, hy⟩ : x < y ∧ y ≤ xs.length := runsP_ok xs (x, y) (List.mem_of_getElem? hi)
    replace F3 := frOv2 F3 hm
    simp only [List.cons_append, List.nil_append] at N3
    have hlen' : ws'.length = xs.length := by rw [hs'.length, termsI_length]
    have hs2 : True → StrsAre ws' (termsI xs (runsP xs) i) := fun _ => hs'
    have eT : True → termsI xs (runsP xs) (i + 1) = if besideEN xs x y = true then setR (termsI xs (runsP xs) i) x (y - x) else termsI xs (runsP xs) i := fun _ => by
      rw [termsI, hi]
    clear hs'
    k_with_none
    k_with "call ref" => (
      rename Fr _ _ _ _ => F9
      rename News _ _ _ _ => N9
      refine' pure_use (beside_pure xs hx x y hxy hy) ?k1 F9 ?k3 ?k4 ?k5 ?k6 ?k7 ?k8 ?_
      (case k1 => k_asm)
      (case k3 => k_asm)
      (case k4 => k_asm)
      (case k5 => exact rfl)
      (case k6 => show dp + 1 < 400 + 100; omega)
      (case k7 => show un + 3 < 10 * 100; omega)
      (case k8 => exact ⟨_, _, _, rfl, _, _, _, rfl, F9.keep _ _ hl, hsT trivial⟩)
      rintro r9 h9 tk9 F8 st9 ⟨T, va, vb, rfl, hb1, hb2, oa, ob⟩
      have N8 := news_new F9 N9 st9 hb1 hb2
      have hTup : Heap.IsTuple h9 T #[va, vb] := ⟨_, hb2, rfl, 0, rfl⟩
      have hne := new_ne N9 hb1 _ (.head _)
      clear N9 F9)
    try k_fold
    k_steps
    · refine hold ?_
      rename IsRange _ _ _ _ _ _ _ _ => hR
      rename Fr _ _ _ _ => F2
      rename News _ _ _ _ => N2
      have hbE : besideEN xs x y = true := by unfold besideEN; assumption
      refine iter_range2 (n := y - x) (own₀ := own) (fun l' k m nx => ∃ ws2 n2, nx = (l', listOf ws2.toArray n2) :: own ∧ StrsAre ws2 (setR (termsI xs (runsP xs) i) x k) ∧ Told m [(Str.ofString "found", .ref l'), (Str.ofString "classes", .ref la)])
        rfl hR (small_one (by omega) (by omega) (by omega) (by omega)) (by rw [rangeSize_nat]; omega) F2 (news_drop N2) ?_ ?_ ?_
      · exact ⟨_, _, rfl, hs2 trivial, ⟨rfl, rfl, trivial⟩⟩
      · rintro k tk2 m₁ nx h tk own2 hk hoff2 ⟨ws2, n2, rfl, hs3, hm2⟩ F3 N3
        clear F2 N2 hR
        replace F3 := frOv1 F3 hm2
        simp only [List.cons_append] at N3
        have hlen2 : ws2.length = xs.length := by rw [hs3.length, setR_length, termsI_length]
        have hs4 : True → StrsAre ws2 (setR (termsI xs (runsP xs) i) x k) := fun _ => hs3
        clear hs3
        have hoff3 : OwnOff (own ++ own2) [_] := fun p hp b hb => by
          rcases List.mem_append.mp hp with q | q
          · exact hoff p q b hb
          · exact hoff2 p q b (by rw [List.mem_singleton.mp hb]; exact .head _)
        try k_fold
        k_steps
        rename Fr _ _ _ _ => F4
        rename News _ _ _ _ => N4
        refine inner_end F4 N4 hoff2 ⟨_, _, rfl, ?_, ⟨rfl, rfl, trivial⟩⟩
        rw [show ((x : Int) + (k : Int)).toNat = x + k from by omega, setR]
        exact setStrs (hs4 trivial) _
      · rintro m₁ nx h tk ⟨ws2, n2, rfl, hs3, hm2⟩ F3 N3
        clear F2 N2 hR
        replace F3 := frOv F3 hm2
        dsimp only
        have hs4 : True → StrsAre ws2 (setR (termsI xs (runsP xs) i) x (y - x)) := fun _ => hs3
        clear hs3
        try k_fold
        k_steps
        rename Fr _ _ _ _ => F4
        rename News _ _ _ _ => N4
        refine turn_end F4 N4 hoff ⟨_, _, rfl, ?_, ⟨rfl, rfl, trivial⟩⟩
        rw [eT trivial, ite_t hbE]
        exact hs4 trivial
    · rename Fr _ _ _ _ => F4
      rename News _ _ _ _ => N4
      have hbE : besideEN xs x y = false := by unfold besideEN; assumption
      refine turn_end2 F4 N4 hoff ⟨_, _, rfl, ?_, ⟨rfl, rfl, trivial⟩⟩
      rw [eT trivial, ite_f hbE]
      exact hs2 trivial
  · rintro m₁ nx h tk ⟨ws', n', rfl, hs', hm⟩ F3 N3
    clear F8 N8 st9 hnew hp9 ho9 O8
    replace F3 := frOv F3 hm
    dsimp only
    try k_fold
    k_steps
    dsimp only
    rename Fr _ _ _ _ => F4
    rename News _ _ _ _ => N4
    exact pure_end F4 (new_strs N4 hs')
end

section
open PySem PySem.W PyProof.Rows PySem.Calls PySem.Spec
set_option Elab.async false
set_option maxRecDepth 100000
set_option maxHeartbeats 8000000

def sepsW (xs : List Str) : List Str := sepsI xs (xs.length - 2)
def termsW (xs : List Str) : List Str := termsI xs (runsP xs) (runsP xs).length
def weakP (b : Str) (xs : List Str) : List Str := leftsP b ((termsW (sepsW ((numsP b (marksP b xs)).map letterOne))).map overOne)

theorem weak_pure (xs : List Str) (b : Str) (hx : xs.length ≤ 100) : PureFn 80 83 (fun h vs => ∃ v t, vs = [v, .str b t] ∧ StrsAt h v xs) (fun h _ h' r => NewStrs h h' r (weakP b xs)) := by
  intro w mean mg mb dp un gd cn cs a ccd cl outer A₀ base h₀ L m s vs Q E B F X T hk hd hu hpre hret
  obtain ⟨v, t, rfl, la, ws, n, rfl, hl, hs⟩ := hpre
  refine' pure_enter (binds := [(Str.ofString "classes", .ref la), (Str.ofString "sos", .str b t)]) (P := fun h' r => NewStrs s.heap h' r _) B F X T hk ?k6 ?k7 (by omega) ?k9 ?kB ?c5 ?c2 ?c3 ?c4 (fun r h' tk' st hp => hret r h' tk' st hp) ?_
  case k6 => k_is
  case k7 => k_is
  case k9 => exact BindsTo.of_eq rfl
  case kB => exact locs rfl
  case c5 => decide
  case c2 => exact rfl
  case c3 => exact rfl
  case c4 => exact rfl
  intro g L' h₁ hg F' N' B' X' T'
  rw [← hg] at hl
  rw [← hg]
  clear hret B F X T
  have hsT : True → StrsAre ws xs := fun _ => hs
  clear hs
  have l1 : (marksP b xs).length ≤ 100 := by rw [marksP_length]; exact hx
  have l2 : (numsP b (marksP b xs)).length ≤ 100 := by rw [numsP_length]; exact l1
  have l3 : ((numsP b (marksP b xs)).map letterOne).length ≤ 100 := by rw [List.length_map]; exact l2
  have l4 : (sepsW ((numsP b (marksP b xs)).map letterOne)).length ≤ 100 := by unfold sepsW; rw [sepsI_length]; exact l3
  have l5 : (termsW (sepsW ((numsP b (marksP b xs)).map letterOne))).length ≤ 100 := by unfold termsW; rw [termsI_length]; exact l4
  have l6 : ((termsW (sepsW ((numsP b (marksP b xs)).map letterOne))).map overOne).length ≤ 100 := by rw [List.length_map]; exact l5
  k_with_none
  k_with "call ref" => (
    rename Fr _ _ _ _ => F9
    rename News _ _ _ _ => N9
    refine' pure_use (marks_pure xs b hx) ?k1 F9 ?k3 ?k4 ?k5 ?k6 ?k7 ?k8 ?_
    (case k1 => k_asm)
    (case k3 => k_asm)
    (case k4 => k_asm)
    (case k5 => exact rfl)
    (case k6 => show dp + 1 < 400 + 100; omega)
    (case k7 => show un + 3 < 10 * 100; omega)
    (case k8 => exact ⟨_, _, rfl, _, _, _, rfl, F9.keep _ _ hl, hsT trivial⟩)
    rintro r9 h9 tk9 F8 st9 ⟨lr, rs, n9, rfl, hb1, hb2, hs9⟩
    have N8 := news_new F9 N9 st9 hb1 hb2
    have hs8 : True → StrsAre _ _ := fun _ => hs9
    clear N9 F9 hs9)

  k_with "call ref" => (
    rename Fr _ _ _ _ => F9
    rename News _ _ _ _ => N9
    refine' pure_use (nums_pure _ b l1) ?k1 F9 ?k3 ?k4 ?k5 ?k6 ?k7 ?k8 ?_
    (case k1 => k_asm)
    (case k3 => k_asm)
    (case k4 => k_asm)
    (case k5 => exact rfl)
    (case k6 => show dp + 1 < 400 + 100; omega)
    (case k7 => show un + 3 < 10 * 100; omega)
    (case k8 => exact ⟨_, _, rfl, _, _, _, rfl, (N9 _ (.head _)).1, hs8 trivial⟩)
    rintro r9 h9 tk9 F8 st9 ⟨lr, rs, n9, rfl, hb1, hb2, hs9⟩
    have N8 := news_new F9 N9 st9 hb1 hb2
    have hs8 : True → StrsAre _ _ := fun _ => hs9
    clear N9 F9 hs9)

  k_with "call ref" => (
    rename Fr _ _ _ _ => F9
    rename News _ _ _ _ => N9
    refine' pure_use (letters_pure _ l2) ?k1 F9 ?k3 ?k4 ?k5 ?k6 ?k7 ?k8 ?_
    (case k1 => k_asm)
    (case k3 => k_asm)
    (case k4 => k_asm)
    (case k5 => exact rfl)
    (case k6 => show dp + 1 < 400 + 100; omega)
    (case k7 => show un + 3 < 10 * 100; omega)
    (case k8 => exact ⟨_, rfl, _, _, _, rfl, (N9 _ (.head _)).1, hs8 trivial⟩)
    rintro r9 h9 tk9 F8 st9 ⟨lr, rs, n9, rfl, hb1, hb2, hs9⟩
    have N8 := news_new F9 N9 st9 hb1 hb2
    have hs8 : True → StrsAre _ _ := fun _ => hs9
    clear N9 F9 hs9)

  k_with "call ref" => (
    rename Fr _ _ _ _ => F9
    rename News _ _ _ _ => N9
    refine' pure_use (seps_pure _ l3) ?k1 F9 ?k3 ?k4 ?k5 ?k6 ?k7 ?k8 ?_
    (case k1 => k_asm)
    (case k3 => k_asm)
    (case k4 => k_asm)
    (case k5 => exact rfl)
    (case k6 => show dp + 1 < 400 + 100; omega)
    (case k7 => show un + 3 < 10 * 100; omega)
    (case k8 => exact ⟨_, rfl, _, _, _, rfl, (N9 _ (.head _)).1, hs8 trivial⟩)
    rintro r9 h9 tk9 F8 st9 ⟨lr, rs, n9, rfl, hb1, hb2, hs9⟩
    have N8 := news_new F9 N9 st9 hb1 hb2
    have hs8 : True → StrsAre _ _ := fun _ => hs9
    clear N9 F9 hs9)

  k_with "call ref" => (
    rename Fr _ _ _ _ => F9
    rename News _ _ _ _ => N9
    refine' pure_use (terms_pure _ l4) ?k1 F9 ?k3 ?k4 ?k5 ?k6 ?k7 ?k8 ?_
    (case k1 => k_asm)
    (case k3 => k_asm)
    (case k4 => k_asm)
    (case k5 => exact rfl)
    (case k6 => show dp + 1 < 400 + 90; omega)
    (case k7 => show un + 3 < 10 * 90; omega)
    (case k8 => exact ⟨_, rfl, _, _, _, rfl, (N9 _ (.head _)).1, hs8 trivial⟩)
    rintro r9 h9 tk9 F8 st9 ⟨lr, rs, n9, rfl, hb1, hb2, hs9⟩
    have N8 := news_new F9 N9 st9 hb1 hb2
    have hs8 : True → StrsAre _ _ := fun _ => hs9
    clear N9 F9 hs9)

  k_with "call ref" => (
    rename Fr _ _ _ _ => F9
    rename News _ _ _ _ => N9
    refine' pure_use (overs_pure _ l5) ?k1 F9 ?k3 ?k4 ?k5 ?k6 ?k7 ?k8 ?_
    (case k1 => k_asm)
    (case k3 => k_asm)
    (case k4 => k_asm)
    (case k5 => exact rfl)
    (case k6 => show dp + 1 < 400 + 100; omega)
    (case k7 => show un + 3 < 10 * 100; omega)
    (case k8 => exact ⟨_, rfl, _, _, _, rfl, (N9 _ (.head _)).1, hs8 trivial⟩)
    rintro r9 h9 tk9 F8 st9 ⟨lr, rs, n9, rfl, hb1, hb2, hs9⟩
    have N8 := news_new F9 N9 st9 hb1 hb2
    have hs8 : True → StrsAre _ _ := fun _ => hs9
    clear N9 F9 hs9)

  k_with "call ref" => (
    rename Fr _ _ _ _ => F9
    rename News _ _ _ _ => N9
    refine' pure_use (lefts_pure _ b l6) ?k1 F9 ?k3 ?k4 ?k5 ?k6 ?k7 ?k8 ?_
    (case k1 => k_asm)
    (case k3 => k_asm)
    (case k4 => k_asm)
    (case k5 => exact rfl)
    (case k6 => show dp + 1 < 400 + 100; omega)
    (case k7 => show un + 3 < 10 * 100; omega)
    (case k8 => exact ⟨_, _, rfl, _, _, _, rfl, (N9 _ (.head _)).1, hs8 trivial⟩)
    rintro r9 h9 tk9 F8 st9 ⟨lr, rs, n9, rfl, hb1, hb2, hs9⟩
    have N8 := news_new F9 N9 st9 hb1 hb2
    have hs8 : True → StrsAre _ _ := fun _ => hs9
    clear N9 F9 hs9)

  try dsimp only
  try k_fold
  k_steps
  rename Fr _ _ _ _ => F4
  rename News _ _ _ _ => N4
  rename True → StrsAre _ _ => hs4
  exact pure_end F4 (new_strs N4 (hs4 trivial))
end

section
open PySem PySem.W PyProof.Rows PySem.Calls PySem.Spec
set_option Elab.async false
set_option maxRecDepth 100000
set_option maxHeartbeats 8000000

local macro_rules | `(tactic| walk_at "exec Assign cons ListComp") => `(tactic| (k_here; k_dflt (first
  | (refine LCt.Assign_ListComp_T (F₀ := by k_asm) (by rfl) (by with_unfolding_all rfl) (by with_unfolding_all rfl) (by decide) (by rfl) (by decide) (by rfl) (by rfl) (by rfl) ?_)
  | (refine LCg.Assign_ListComp_U (F₀ := by k_asm) (by rfl) (by with_unfolding_all rfl) (by with_unfolding_all rfl) (by decide) (by rfl) (by decide) (by rfl) (by rfl) (by rfl) ?_))))
local macro_rules | `(tactic| walk_at "compareOp NotEq ref ref") => `(tactic| (k_here; (rename News _ _ _ _ => N9); k_dflt (refine' cmp_ne_led N9 ?qm1 ?qm2 ?qm3 ?qm4 ?qm5 ?_; (case qm1 => k_mem); (case qm2 => k_mem); (case qm3 => first | exact .nil | assumption); (case qm4 => first | exact .nil | assumption); (case qm5 => (rw [cLine_is]; (try simp only [units_in1, units_deeper]); (try dsimp only [ktrTop]); omega)))))
def strongK (k : Str) : Bool := [Str.ofString "L", Str.ofString "R", Str.ofString "AL"].any (· == k)
def backP (b : Str) (xs : List Str) (i : Nat) : Str := (((xs.take i).filter strongK).getLast?).getD b
theorem filter_one {α : Type} (q : α → Bool) (y : α) : [y].filter q = if q y = true then [y] else [] := by
  cases h : q y <;> simp [h]
theorem str_is {x y : Str} {t : Tok} (h : x = y) : ∃ t', Value.str x t = Value.str y t' := ⟨t, by rw [h]⟩
theorem back_pure (xs : List Str) (b : Str) (hx : xs.length ≤ 100) (i : Nat) (hi : i ≤ xs.length) : PureFn 100 95 (fun h vs => ∃ v t u, vs = [v, .int (i : Int) u, .str b t] ∧ StrsAt h v xs) (fun h _ h' r => ∃ t, r = .str (backP b xs i) t) := by
  intro w mean mg mb dp un gd cn cs a ccd cl outer A₀ base h₀ L m s vs Q E B F X T hk hd hu hpre hret
  obtain ⟨v, t, u, rfl, la, ws, n, rfl, hl, hs⟩ := hpre
  refine' pure_enter (binds := [(Str.ofString "row", .ref la), (Str.ofString "at", .int (i : Int) u), (Str.ofString "begun", .str b t)]) (P := fun h' r => ∃ t, r = Value.str _ t) B F X T hk ?k6 ?k7 hd ?k9 ?kB ?c5 ?c2 ?c3 ?c4 (fun r h' tk' st hp => hret r h' tk' st hp) ?_
  case k6 => k_is
  case k7 => k_is
  case k9 => exact BindsTo.of_eq rfl
  case kB => exact locs rfl
  case c5 => decide
  case c2 => exact rfl
  case c3 => exact rfl
  case c4 => exact rfl
  intro g L' h₁ hg F' N' B' X' T'
  rw [← hg] at hl
  clear hret B F X T
  have hli : g.IsList la ws.toArray := isList_of_get hl
  have hlen := hs.length
  have hsT : True → StrsAre ws xs := fun _ => hs
  try dsimp only
  try k_fold
  k_steps
  rename Fr _ _ _ _ => F2
  rename News _ _ _ _ => N2
  have eS : slicePick ws.toArray none (some (i : Int)) none = (ws.take i).toArray := by rw [slicePick_upto']
  rw [eS] at N2
  refine LCt.CompSrcT.ledger rfl F2 N2 (.head _) (by rw [List.size_toArray, List.length_take, PySem.sizeLine_eq]; omega) ?_
  intro g'
  refine compT_rest (fun j ys => StrsAre ys (((xs.take i).take j).filter strongK)) .nil (Or.inr ⟨_, .head _, rfl, _, rfl⟩) ?_ ?_
  · intro j v I oI C oC D m₂ ys h tk E' hj hv hR hC hx F3 N3 off ne
    obtain ⟨y, ty, rfl, hy⟩ := StrsAre.item (hs.take' i) j v (by simpa using hv)
    have hR2 : True → StrsAre ys (((xs.take i).take j).filter strongK) := fun _ => hR
    clear F2 N2 hR hsT hs
    try k_fold
    k_steps
    all_goals (
      rename Fr _ _ _ _ => F4
      rename News _ _ _ _ => N4
      refine elt_end F4 (news_drop N4) ?_
      show StrsAre _ _
      rw [take_snoc hy, List.filter_append]
      first
      | (rw [filter_one, ite_t (b := strongK y) (by assumption)]; exact StrsAre.append' (hR2 trivial) (.cons _ _ .nil))
      | (rw [filter_one, ite_f (b := strongK y) (by assumption), List.append_nil]; exact hR2 trivial))
  · intro ys hR
    have eL : ((xs.take i).take (ws.take i).toArray.size) = xs.take i := by
      rw [List.size_toArray, List.length_take, hlen, List.take_take]
      congr 1; omega
    rw [eL] at hR
    clear F2 N2
    k_steps
    · rename Fr _ _ _ _ => F4
      rename decide _ = true => hd9
      refine pure_end F4 (str_is ?_)
      have e := of_decide_eq_true hd9
      unfold backP
      rw [e]; rfl
    · rename decide _ = false => hd9
      rename News _ _ _ _ => N9
      have hne := of_decide_eq_false hd9
      refine last_item (isList_of_get (n := ys.length) (N9 (_, listOf ys.toArray ys.length) (by k_mem)).1) hR hne (Nat.le_trans (List.length_filter_le _ _) (by rw [List.length_take]; omega)) ?_ (by with_unfolding_all rfl)
      intro t9
      k_steps
      rename Fr _ _ _ _ => F4
      refine pure_end F4 ⟨t9, ?_⟩
      have e : ∀ (l : List Str), l ≠ [] → l.getLast?.getD Str.empty = l.getLast?.getD b := by
        intro l hl
        rw [List.getLast?_eq_some_getLast hl]; rfl
      unfold backP
      rw [e _ hne]
end

section
open PySem PySem.W PyProof.Rows PySem.Calls PySem.Spec
set_option Elab.async false
set_option maxRecDepth 100000
set_option maxHeartbeats 8000000

local macro_rules | `(tactic| walk_at "exec While BoolOp cons nil") => `(tactic| (k_here; refine hold_it ?_))
def nb (xs : List Str) : Nat → Option Nat
  | 0 => none
  | k + 1 => if (xs.getD k Str.empty == Str.ofString "NSM") = true then nb xs k else some k
def isoT : List Str := [Str.ofString "LRI", Str.ofString "RLI", Str.ofString "FSI", Str.ofString "PDI"]
def markedOne (b : Str) (xs : List Str) (i : Nat) : Str :=
  if (xs.getD i Str.empty == Str.ofString "NSM") = true then (match nb xs (i + 1) with
    | none => b
    | some j => if (isoT.any (· == xs.getD j Str.empty)) = true then Str.ofString "ON" else xs.getD j Str.empty)
  else xs.getD i Str.empty
theorem getD_oft12 {xs : List Str} {i : Nat} {y : Str} (h : xs[i]? = some y) : xs.getD i Str.empty = y := by rw [List.getD_eq_getElem?_getD, h]; rfl
theorem range_snoc {α : Type} (f : Nat → α) (i : Nat) : (List.range (i + 1)).map f = (List.range i).map f ++ [f i] := by rw [List.range_succ, List.map_append]; rfl

section
variable {xs : List Str} {k i j : Nat} {a : Int} {b y : Str}
theorem nb_stop (hnb : nb xs k = nb xs (i + 1)) (ha : a = (k : Int) - 1) (h0 : 0 ≤ a) (hc : (xs.getD a.toNat Str.empty == Str.ofString "NSM") = false) : nb xs (i + 1) = some a.toNat := by
  rw [← hnb, show k = a.toNat + 1 from by omega, nb, ite_f hc]
theorem nb_none (hnb : nb xs k = nb xs (i + 1)) (ha : a = (k : Int) - 1) (h0 : ¬ 0 ≤ a) : nb xs (i + 1) = none := by
  rw [← hnb, show k = 0 from by omega, nb]
theorem nb_go (hnb : nb xs k = nb xs (i + 1)) (ha : a = (k : Int) - 1) (h0 : 0 ≤ a) (hc : (xs.getD a.toNat Str.empty == Str.ofString "NSM") = true) : nb xs (k - 1) = nb xs (i + 1) := by
  rw [← hnb, show k - 1 = a.toNat from by omega]
  conv => rhs; rw [show k = a.toNat + 1 from by omega, nb, ite_t hc]
theorem mk_y (eY : xs.getD i Str.empty = y) (h : (y == Str.ofString "NSM") = false) : markedOne b xs i = y := by
  unfold markedOne; rw [eY, ite_f h]
theorem mk_b (eY : xs.getD i Str.empty = y) (h : (y == Str.ofString "NSM") = true) (hn : nb xs (i + 1) = none) : markedOne b xs i = b := by
  unfold markedOne; rw [eY, ite_t h, hn]
theorem mk_on (eY : xs.getD i Str.empty = y) (h : (y == Str.ofString "NSM") = true) (hn : nb xs (i + 1) = some j) (hi : (isoT.any (· == xs.getD j Str.empty)) = true) : markedOne b xs i = Str.ofString "ON" := by
  unfold markedOne; rw [eY, ite_t h, hn]; exact ite_t hi
theorem mk_x (eY : xs.getD i Str.empty = y) (h : (y == Str.ofString "NSM") = true) (hn : nb xs (i + 1) = some j) (hi : (isoT.any (· == xs.getD j Str.empty)) = false) : markedOne b xs i = xs.getD j Str.empty := by
  unfold markedOne; rw [eY, ite_t h, hn]; exact ite_f hi
end
theorem marked_pure (xs : List Str) (b : Str) (hx : xs.length ≤ 100) : PureFn 100 102 (fun h vs => ∃ v t, vs = [v, .str b t] ∧ StrsAt h v xs) (fun h _ h' r => NewStrs h h' r ((List.range xs.length).map (markedOne b xs))) := by
  intro w mean mg mb dp un gd cn cs a ccd cl outer A₀ base h₀ L m s vs Q E B F X T hk hd hu hpre hret
  obtain ⟨v, t, rfl, la, ws, n, rfl, hl, hs⟩ := hpre
  refine' pure_enter (binds := [(Str.ofString "row", .ref la), (Str.ofString "begun", .str b t)]) (P := fun h' r => NewStrs s.heap h' r _) B F X T hk ?k6 ?k7 hd ?k9 ?kB ?c5 ?c2 ?c3 ?c4 (fun r h' tk' st hp => hret r h' tk' st hp) ?_
  case k6 => k_is
  case k7 => k_is
  case k9 => exact BindsTo.of_eq rfl
  case kB => exact locs rfl
  case c5 => decide
  case c2 => exact rfl
  case c3 => exact rfl
  case c4 => exact rfl
  intro g L' h₁ hg F' N' B' X' T'
  rw [← hg] at hl
  rw [← hg]
  clear hret B F X T
  have hlen := hs.length
  have hsT : True → StrsAre ws xs := fun _ => hs
  try dsimp only
  try k_fold
  k_steps
  refine hold ?_
  rename EnumAt _ _ _ _ _ _ _ => hE
  rename Fr _ _ _ _ => F2
  rename News _ _ _ _ => N2
  refine iter_enum (fun l' i m nx => ∃ ws' n', nx = [(l', listOf ws'.toArray n')] ∧ StrsAre ws' ((List.range i).map (markedOne b xs)) ∧ Told m [(Str.ofString "found", .ref l'), (Str.ofString "begun", .str b t), (Str.ofString "row", .ref la)])
    rfl hE ⟨_, hl⟩ F2 N2 (by assumption) (by assumption) ?_ ?_ ?_
  · exact ⟨[], 0, rfl, .nil, ⟨rfl, rfl, rfl, trivial⟩⟩
  · rintro i ti v m₁ nx h tk own hv hoff hown ⟨ws', n', rfl, hs', hm⟩ F3 N3
    obtain ⟨y, ty, rfl, hy⟩ := StrsAre.item (hsT trivial) i v hv
    have hi : i < xs.length := (List.getElem?_eq_some_iff.mp hy).1
    clear F2 N2 hE
    replace F3 := frOv2 F3 hm
    simp only [List.cons_append, List.nil_append] at N3
    have hs2 : True → StrsAre ws' ((List.range i).map (markedOne b xs)) := fun _ => hs'
    have hsz : ws'.toArray.size ≤ sizeLine := by
      have h1 := hs'.length
      rw [List.length_map, List.length_range] at h1
      rw [List.size_toArray, PySem.sizeLine_eq]; omega
    clear hs'
    try k_fold
    k_steps
    refine hold ?_
    rename Fr _ _ _ _ => F4
    rename News _ _ _ _ => N4
    refine While_led (n₀ := i + 1) (fun l' n m => ∃ a ta, Told m [(Str.ofString "at", .int a ta), (Str.ofString "kind", .str y ty), (Str.ofString "found", .ref l'), (Str.ofString "begun", .str b t), (Str.ofString "row", .ref la)] ∧ a = (n : Int) - 1 ∧ n ≤ i + 1 ∧ nb xs n = nb xs (i + 1)) F4 N4 ?_ ?_
    · exact ⟨_, _, ⟨rfl, rfl, rfl, rfl, rfl, trivial⟩, by omega, Nat.le_refl _, rfl⟩
    · rintro k m₂ h₂ tk₂ F5 N5 ⟨a, ta, hm2, ha, hk, hnb⟩
      clear F4 N4
      replace F5 := frOv F5 hm2
      have hli : g.IsList la ws.toArray := isList_of_get hl
      have hs := hsT trivial
      try k_fold
      k_steps
      all_goals (
        rename Fr _ _ _ _ => F6
        rename News _ _ _ _ => N6
        have eY := getD_oft12 hy
        try simp only [List.push_toArray] at N6
        first
        | exact while_end (k - 1) F6 N6 (by omega) ⟨rfl, _, _, ⟨rfl, rfl, rfl, rfl, rfl, trivial⟩, by omega, by omega, nb_go hnb ha (by assumption) (by assumption)⟩
        | exact turn_end2 F6 N6 hoff ⟨_, _, rfl, by rw [range_snoc]; exact snocE (hs2 trivial) (mk_on eY (by assumption) (nb_stop hnb ha (by assumption) (by assumption)) (by assumption)), ⟨rfl, rfl, rfl, trivial⟩⟩
        | exact turn_end2 F6 N6 hoff ⟨_, _, rfl, by rw [range_snoc]; exact snocE (hs2 trivial) (mk_x eY (by assumption) (nb_stop hnb ha (by assumption) (by assumption)) (by assumption)), ⟨rfl, rfl, rfl, trivial⟩⟩
        | exact turn_end F6 N6 hoff ⟨_, _, rfl, by rw [range_snoc]; exact snocE (hs2 trivial) (mk_y eY (by assumption)), ⟨rfl, rfl, rfl, trivial⟩⟩
        | exact turn_end F6 N6 hoff ⟨_, _, rfl, by rw [range_snoc]; exact snocE (hs2 trivial) (mk_b eY (by assumption) (nb_none hnb ha (by assumption))), ⟨rfl, rfl, rfl, trivial⟩⟩)
  · rintro m₁ nx h tk ⟨ws', n', rfl, hs', hm⟩ F3 N3
    clear F2 N2 hE
    replace F3 := frOv F3 hm
    dsimp only
    try k_fold
    k_steps
    dsimp only
    rename Fr _ _ _ _ => F4
    rename News _ _ _ _ => N4
    rw [hlen] at hs'
    exact pure_end F4 (new_strs N4 hs')
end

section
open PySem PySem.W PyProof.Rows PySem.Calls PySem.Spec
set_option Elab.async false
set_option maxRecDepth 100000
set_option maxHeartbeats 8000000

local macro_rules | `(tactic| walk_at "compareOp In ref ref") => `(tactic| (k_here; k_dflt (k_extra "compareOp In ref ref")))
def part3 (xs : List Str) (i : Nat) : List Str := (xs.drop i).take 3
def inThree (l : List Str) : Bool := decide ([Str.ofString "EN", Str.ofString "ES", Str.ofString "EN"] = l) || decide ([Str.ofString "EN", Str.ofString "CS", Str.ofString "EN"] = l) || decide ([Str.ofString "AN", Str.ofString "CS", Str.ofString "AN"] = l)
def partsI (xs : List Str) : Nat → List Str
  | 0 => xs
  | i + 1 => if inThree (part3 xs i) = true then (partsI xs i).set (i + 1) (xs.getD i Str.empty) else partsI xs i
theorem partsI_length (xs : List Str) : ∀ i, (partsI xs i).length = xs.length
  | 0 => rfl
  | i + 1 => by
    have ih := partsI_length xs i
    unfold partsI
    split
    · rw [List.length_set]; exact ih
    · exact ih
theorem parted_pure (xs : List Str) (hx : xs.length ≤ 100) : PureFn 100 109 (fun h vs => ∃ v, vs = [v] ∧ StrsAt h v xs) (fun h _ h' r => NewStrs h h' r (partsI xs (xs.length - 2))) := by
  intro w mean mg mb dp un gd cn cs a ccd cl outer A₀ base h₀ L m s vs Q E B F X T hk hd hu hpre hret
  obtain ⟨v, rfl, la, ws, n, rfl, hl, hs⟩ := hpre
  refine' pure_enter (binds := [(Str.ofString "row", .ref la)]) (P := fun h' r => NewStrs s.heap h' r _) B F X T hk ?k6 ?k7 hd ?k9 ?kB ?c5 ?c2 ?c3 ?c4 (fun r h' tk' st hp => hret r h' tk' st hp) ?_
  case k6 => k_is
  case k7 => k_is
  case k9 => exact BindsTo.of_eq rfl
  case kB => exact locs rfl
  case c5 => decide
  case c2 => exact rfl
  case c3 => exact rfl
  case c4 => exact rfl
  intro g L' h₁ hg F' N' B' X' T'
  rw [← hg] at hl
  rw [← hg]
  clear hret B F X T
  have hli : g.IsList la ws.toArray := isList_of_get hl
  have hlen := hs.length
  have hsT : True → StrsAre ws xs := fun _ => hs
  have hszL : ws.toArray.size ≤ sizeLine := by rw [List.size_toArray, PySem.sizeLine_eq]; omega
  try dsimp only
  try k_fold
  k_steps
  refine hold ?_
  rename IsRange _ _ _ _ _ _ _ _ => hR
  rename Fr _ _ _ _ => F2
  rename News _ _ _ _ => N2
  refine iter_range1 (n := xs.length - 2) (fun l' i m nx => ∃ ws' n', nx = [(l', listOf ws'.toArray n')] ∧ StrsAre ws' (partsI xs i) ∧ Told m [(Str.ofString "found", .ref l'), (Str.ofString "row", .ref la)])
    rfl hR (small_one (by omega) (by omega) (by omega) (by omega)) (by rw [rangeSize_nat]; omega) F2 N2 ?_ ?_ ?_
  · exact ⟨_, _, rfl, hsT trivial, ⟨rfl, rfl, trivial⟩⟩
  · rintro i t m₁ nx h tk own hi hoff ⟨ws', n', rfl, hs', hm⟩ F3 N3
    clear F2 N2 hR
    replace F3 := frOv1 F3 hm
    simp only [List.cons_append, List.nil_append] at N3
    have hlen' : ws'.length = xs.length := by rw [hs'.length, partsI_length]
    have hs2 : True → StrsAre ws' (partsI xs i) := fun _ => hs'
    clear hs'
    have hDl : @LT.lt Nat _ _ h.objs.size := Heap.lt_size (N3 _ (.head _)).1
    k_with_none
    k_with "compareOp In ref ref" => (
      rename News _ _ _ _ => N9
      have eS : slicePick ws.toArray (some (1 + (i : Int) - 1)) (some (1 + (i : Int) + 2)) none = ((ws.drop i).take 3).toArray := by
        rw [show 1 + (i : Int) - 1 = ((i : Nat) : Int) from by omega, show 1 + (i : Int) + 2 = ((i + 3 : Nat) : Int) from by omega, slicePick_run _ _ _ (by rw [List.size_toArray]; omega) (by omega), show i + 3 - i = 3 from by omega]
      refine' in_led3 N9 ?qm1 ?qm2 ?qm3 ?qm4 ?qm5 ?qm6 (((hsT trivial).drop' i).take' 3) ?qn1 ?qn2 ?qn3 ?qe1 ?qe2 ?qe3 ?qe4 ?qe5 ?qe6 ?qu ?_
      (case qm1 => k_mem)
      (case qm2 => k_mem)
      (case qm3 => rw [eS])
      (case qm4 => k_mem)
      (case qm5 => k_mem)
      (case qm6 => k_mem)
      (case qn1 => exact .cons _ _ (.cons _ _ (.cons _ _ .nil)))
      (case qn2 => exact .cons _ _ (.cons _ _ (.cons _ _ .nil)))
      (case qn3 => exact .cons _ _ (.cons _ _ (.cons _ _ .nil)))
      (case qe1 => k_ne)
      (case qe2 => k_ne)
      (case qe3 => k_ne)
      (case qe4 => k_ne)
      (case qe5 => k_ne)
      (case qe6 => k_ne)
      (case qu => rw [cLine_is]; show un + 3 + 1 < 9900; omega))
    try k_fold
    k_steps
    all_goals (
      rename Fr _ _ _ _ => F4
      rename News _ _ _ _ => N4
      have e1 : (1 + (i : Int)).toNat = i + 1 := by omega
      have N5 := news_drop (news_drop (news_drop (news_drop (news_drop N4))))
      refine turn_end F4 N5 hoff ⟨_, _, rfl, ?_, ⟨rfl, rfl, trivial⟩⟩
      rw [partsI]
      first
      | (rw [ite_t (b := inThree (part3 xs i)) (by assumption), e1, show (1 + (i : Int) - 1).toNat = i from by omega]; exact setStrs (hs2 trivial) _)
      | (rw [ite_f (b := inThree (part3 xs i)) (by assumption)]; exact hs2 trivial))
  · rintro m₁ nx h tk ⟨ws', n', rfl, hs', hm⟩ F3 N3
    clear F2 N2 hR
    replace F3 := frOv F3 hm
    dsimp only
    try k_fold
    k_steps
    dsimp only
    rename Fr _ _ _ _ => F4
    rename News _ _ _ _ => N4
    exact pure_end F4 (new_strs N4 hs')
end

section
open PySem PySem.W PyProof.Rows PySem.Calls PySem.Spec
set_option Elab.async false
set_option maxRecDepth 100000
set_option maxHeartbeats 8000000

local macro_rules | `(tactic| walk_at "eval ListComp") => `(tactic| (k_here; k_dflt (refine LCt.ListComp_T (F₀ := by k_asm) (by with_unfolding_all rfl) (by decide) (by rfl) (by decide) (by rfl) ?_)))
local macro_rules | `(tactic| walk_at "subscriptTail Name Slice ref ref") => `(tactic| (k_here; (with_reducible show wpAny _ _ (subscriptTail _ (PySem.Expr.Slice none (some _) none _) (Value.ref _) (Value.ref _)) _ _ _); k_dflt (refine' sl_upto ?F ?N ?l ?hv ?hb ?p ?q ?h0 ?_ ?s ?t; (case F => k_asm); (case N => k_asm); (case l => first | exact News.isList (by k_asm) (by k_mem) | exact Fr.lst (by k_asm) (by k_asm)); (case hv => assumption); (case hb => assumption); (case p => exact IsPart.none); (case q => exact IsPart.int _ _); (case h0 => omega); (case s => with_unfolding_all rfl); (case t => (intro _; with_unfolding_all rfl))); intro D' h' F' N' l1 hS' hB'; (try k_lt l1); (try k_sweep)))
local macro_rules | `(tactic| walk_at "subscriptTail Name Slice ref ref") => `(tactic| (k_here; (with_reducible show wpAny _ _ (subscriptTail _ (PySem.Expr.Slice (some _) none none _) (Value.ref _) (Value.ref _)) _ _ _); k_dflt (refine' sl_from ?F ?N ?l ?hv ?hb ?p ?q ?h0 ?_ ?s ?t; (case F => k_asm); (case N => k_asm); (case l => first | exact News.isList (by k_asm) (by k_mem) | exact Fr.lst (by k_asm) (by k_asm)); (case hv => assumption); (case hb => assumption); (case p => exact IsPart.int _ _); (case q => exact IsPart.none); (case h0 => omega); (case s => with_unfolding_all rfl); (case t => (intro _; with_unfolding_all rfl))); intro D' h' F' N' l1 hS' hB'; (try k_lt l1); (try k_sweep)))
local macro_rules | `(tactic| walk_at "subscriptTail Name Slice ref ref") => `(tactic| (k_here; (with_reducible show wpAny _ _ (subscriptTail _ (PySem.Expr.Slice none none (some _) _) (Value.ref _) (Value.ref _)) _ _ _); k_dflt (refine' sl_rev ?F ?N ?l ?hv ?hb ?k ?_ ?s ?t; (case F => k_asm); (case N => k_asm); (case l => first | exact News.isList (by k_asm) (by k_mem) | exact Fr.lst (by k_asm) (by k_asm)); (case hv => assumption); (case hb => assumption); (case k => exact IsPart.int _ _); (case s => with_unfolding_all rfl); (case t => (intro _; with_unfolding_all rfl))); intro D' h' F' N' l1 hS' hB'; (try k_lt l1); (try k_sweep)))
local macro_rules | `(tactic| walk_at "binaryOp Add ref ref") => `(tactic| (k_here; k_dflt (refine' add_strs ?F ?N ?l ?b ?hv ?hw ?hx ?hy ?_; (case F => k_asm); (case N => k_asm); (case l => exact News.isList (by k_asm) (by k_mem)); (case b => exact News.isList (by k_asm) (by k_mem)); (case hv => assumption); (case hw => assumption); (case hx => assumption); (case hy => assumption)); intro D' h' F' N' l1 hS'; (try k_lt l1); (try k_sweep)))
local macro_rules | `(tactic| walk_at "compareOp In str ref") => `(tactic| (k_here; k_dflt (refine' in_list_strs ?l ?hv ?_; (case l => exact News.isList (by k_asm) (by k_mem)); (case hv => assumption))))
def notET (k : Str) : Bool := !(k == Str.ofString "ET")
def nearP (xs : List Str) (i : Nat) : List Str := ((xs.take i).reverse.filter notET).take 1
def farP (xs : List Str) (i : Nat) : List Str := ((xs.drop (i + 1)).filter notET).take 1
def endB (xs : List Str) (i : Nat) : Bool := (nearP xs i ++ farP xs i).any (· == Str.ofString "EN")
def endI (xs : List Str) : Nat → List Str
  | 0 => xs
  | i + 1 => if (xs.getD i Str.empty == Str.ofString "ET") = true then (if endB xs i = true then (endI xs i).set i (Str.ofString "EN") else endI xs i) else endI xs i
theorem endI_length (xs : List Str) : ∀ i, (endI xs i).length = xs.length
  | 0 => rfl
  | i + 1 => by
    have ih := endI_length xs i
    unfold endI
    split
    · split
      · rw [List.length_set]; exact ih
      · exact ih
    · exact ih
theorem filter_onet14 {α : Type} (q : α → Bool) (y : α) : [y].filter q = if q y = true then [y] else [] := by
  cases h : q y <;> simp [h]
theorem getD_oft14 {xs : List Str} {i : Nat} {y : Str} (h : xs[i]? = some y) : xs.getD i Str.empty = y := by rw [List.getD_eq_getElem?_getD, h]; rfl
theorem ended_pure (xs : List Str) (hx : xs.length ≤ 100) : PureFn 100 114 (fun h vs => ∃ v, vs = [v] ∧ StrsAt h v xs) (fun h _ h' r => NewStrs h h' r (endI xs xs.length)) := by
  intro w mean mg mb dp un gd cn cs a ccd cl outer A₀ base h₀ L m s vs Q E B F X T hk hd hu hpre hret
  obtain ⟨v, rfl, la, ws, n, rfl, hl, hs⟩ := hpre
  refine' pure_enter (binds := [(Str.ofString "row", .ref la)]) (P := fun h' r => NewStrs s.heap h' r _) B F X T hk ?k6 ?k7 hd ?k9 ?kB ?c5 ?c2 ?c3 ?c4 (fun r h' tk' st hp => hret r h' tk' st hp) ?_
  case k6 => k_is
  case k7 => k_is
  case k9 => exact BindsTo.of_eq rfl
  case kB => exact locs rfl
  case c5 => decide
  case c2 => exact rfl
  case c3 => exact rfl
  case c4 => exact rfl
  intro g L' h₁ hg F' N' B' X' T'
  rw [← hg] at hl
  rw [← hg]
  clear hret B F X T
  have hli : g.IsList la ws.toArray := isList_of_get hl
  have hlen := hs.length
  have hsT : True → StrsAre ws xs := fun _ => hs
  have hszL : ws.toArray.size ≤ sizeLine := by rw [List.size_toArray, PySem.sizeLine_eq]; omega
  try dsimp only
  try k_fold
  k_steps
  refine hold ?_
  rename EnumAt _ _ _ _ _ _ _ => hE
  rename Fr _ _ _ _ => F2
  rename News _ _ _ _ => N2
  refine iter_enum (fun l' i m nx => ∃ ws' n', nx = [(l', listOf ws'.toArray n')] ∧ StrsAre ws' (endI xs i) ∧ Told m [(Str.ofString "found", .ref l'), (Str.ofString "row", .ref la)])
    rfl hE ⟨_, hl⟩ F2 N2 (by assumption) (by assumption) ?_ ?_ ?_
  · exact ⟨_, _, rfl, hsT trivial, ⟨rfl, rfl, trivial⟩⟩
  · rintro i ti v m₁ nx h tk own hv hoff hown ⟨ws', n', rfl, hs', hm⟩ F3 N3
    obtain ⟨y, ty, rfl, hy⟩ := StrsAre.item (hsT trivial) i v hv
    have hi : i < xs.length := (List.getElem?_eq_some_iff.mp hy).1
    clear F2 N2 hE
    replace F3 := frOv2 F3 hm
    simp only [List.cons_append, List.nil_append] at N3
    have hs2 : True → StrsAre ws' (endI xs i) := fun _ => hs'
    have hlen' : ws'.length = xs.length := by rw [hs'.length, endI_length]
    clear hs'
    have hs9 := hsT trivial
    have hDl : @LT.lt Nat _ _ h.objs.size := Heap.lt_size (N3 _ (.head _)).1
    try k_fold
    k_steps
    rename StrsAre (List.reverse _) _ => hA
    rename Fr _ _ _ _ => F5
    rename News _ _ _ _ => N5
    have hA2 : True → StrsAre _ ((xs.take (i : Int).toNat).reverse) := fun _ => hA
    have hAl : ((xs.take (i : Int).toNat).reverse).length ≤ 100 := by simp only [List.length_reverse, List.length_take, List.length_drop]; omega
    refine LCt.CompSrcT.ledger rfl F5 N5 (by k_mem) (sl_size hA hAl) ?_
    intro g'
    refine compT_rest (fun j ys => StrsAre ys ((((xs.take (i : Int).toNat).reverse).take j).filter notET)) .nil (Or.inr ⟨_, by k_mem, rfl, _, rfl⟩) ?_ ?_
    · intro j v I oI C oC D m₂ ys h tk E' hj hv hR hC hx F6 N6 off ne
      obtain ⟨z, tz, rfl, hz⟩ := StrsAre.item (hA2 trivial) j v (by simpa using hv)
      have hR2 : True → StrsAre ys ((((xs.take (i : Int).toNat).reverse).take j).filter notET) := fun _ => hR
      clear hR
      try k_fold
      k_steps
      all_goals (
        rename Fr _ _ _ _ => F4
        rename News _ _ _ _ => N4
        refine elt_end F4 N4 ?_
        show StrsAre _ _
        rw [take_snoc hz, List.filter_append]
        first
        | (rw [filter_onet14, ite_t (b := notET z) (by assumption)]; exact StrsAre.append' (hR2 trivial) (.cons _ _ .nil))
        | (rw [filter_onet14, ite_f (b := notET z) (by assumption), List.append_nil]; exact hR2 trivial))
    intro ys9 hR
    have eL : StrsAre ys9 (((xs.take (i : Int).toNat).reverse).filter notET) := by
      rw [List.size_toArray, hA.length, List.take_length] at hR
      exact hR
    have hAl2 : (((xs.take (i : Int).toNat).reverse).filter notET).length ≤ 100 := Nat.le_trans (List.length_filter_le _ _) hAl
    clear hR N5 F5 hA
    k_steps
    rename StrsAre (List.drop _ _) _ => hA
    rename Fr _ _ _ _ => F5
    rename News _ _ _ _ => N5
    have hA2 : True → StrsAre _ (xs.drop ((i : Int) + 1).toNat) := fun _ => hA
    have hAl : (xs.drop ((i : Int) + 1).toNat).length ≤ 100 := by simp only [List.length_reverse, List.length_take, List.length_drop]; omega
    refine LCt.CompSrcT.ledger rfl F5 N5 (by k_mem) (sl_size hA hAl) ?_
    intro g'
    refine compT_rest (fun j ys => StrsAre ys (((xs.drop ((i : Int) + 1).toNat).take j).filter notET)) .nil (Or.inr ⟨_, by k_mem, rfl, _, rfl⟩) ?_ ?_
    · intro j v I oI C oC D m₂ ys h tk E' hj hv hR hC hx F6 N6 off ne
      obtain ⟨z, tz, rfl, hz⟩ := StrsAre.item (hA2 trivial) j v (by simpa using hv)
      have hR2 : True → StrsAre ys (((xs.drop ((i : Int) + 1).toNat).take j).filter notET) := fun _ => hR
      clear hR
      try k_fold
      k_steps
      all_goals (
        rename Fr _ _ _ _ => F4
        rename News _ _ _ _ => N4
        refine elt_end F4 N4 ?_
        show StrsAre _ _
        rw [take_snoc hz, List.filter_append]
        first
        | (rw [filter_onet14, ite_t (b := notET z) (by assumption)]; exact StrsAre.append' (hR2 trivial) (.cons _ _ .nil))
        | (rw [filter_onet14, ite_f (b := notET z) (by assumption), List.append_nil]; exact hR2 trivial))
    intro ys9 hR
    have eL : StrsAre ys9 ((xs.drop ((i : Int) + 1).toNat).filter notET) := by
      rw [List.size_toArray, hA.length, List.take_length] at hR
      exact hR
    have hAl2 : ((xs.drop ((i : Int) + 1).toNat).filter notET).length ≤ 100 := Nat.le_trans (List.length_filter_le _ _) hAl
    clear hR N5 F5 hA
    k_steps
    all_goals (
      rename Fr _ _ _ _ => F4
      rename News _ _ _ _ => N4
      have eY := getD_oft14 hy
      have e1 : (i : Int).toNat = i := Int.toNat_natCast i
      have eB : endB xs i = (((xs.take (i : Int).toNat).reverse.filter notET).take (Int.toNat 1) ++ ((xs.drop ((i : Int) + 1).toNat).filter notET).take (Int.toNat 1)).any (· == Str.ofString "EN") := by
        unfold endB nearP farP
        rw [e1, show ((i : Int) + 1).toNat = i + 1 from by omega]; rfl
      first
      | (have hB : endB xs i = true := by rw [eB]; assumption
         refine turn_end F4 (news_drop (news_drop (news_drop (news_drop (news_drop (news_drop (news_drop (news_drop (news_drop N4))))))))) hoff ⟨_, _, rfl, ?_, ⟨rfl, rfl, trivial⟩⟩
         rw [endI, eY, ite_t (b := y == Str.ofString "ET") (by assumption), ite_t hB, e1]
         exact setStrs (hs2 trivial) _)
      | (have hB : endB xs i = false := by rw [eB]; assumption
         refine turn_end F4 (news_drop (news_drop (news_drop (news_drop (news_drop (news_drop (news_drop (news_drop (news_drop N4))))))))) hoff ⟨_, _, rfl, ?_, ⟨rfl, rfl, trivial⟩⟩
         rw [endI, eY, ite_t (b := y == Str.ofString "ET") (by assumption), ite_f hB]
         exact hs2 trivial)
      | (refine turn_end F4 (news_drop (news_drop (news_drop (news_drop (news_drop (news_drop (news_drop (news_drop N4)))))))) hoff ⟨_, _, rfl, ?_, ⟨rfl, rfl, trivial⟩⟩
         rw [endI, eY, ite_f (b := y == Str.ofString "ET") (by assumption)]
         exact hs2 trivial))
  · rintro m₁ nx h tk ⟨ws', n', rfl, hs', hm⟩ F3 N3
    clear F2 N2 hE
    replace F3 := frOv F3 hm
    dsimp only
    try k_fold
    k_steps
    dsimp only
    rename Fr _ _ _ _ => F4
    rename News _ _ _ _ => N4
    rw [hlen] at hs'
    exact pure_end F4 (new_strs N4 hs')
end

section
open PySem PySem.W PyProof.Rows PySem.Calls PySem.Spec
set_option Elab.async false
set_option maxRecDepth 100000
set_option maxHeartbeats 8000000

local macro_rules | `(tactic| k_ne) => `(tactic| (refine neN ?_; (try dsimp only); (repeat (rename _ ∧ _ => hAnd9; obtain ⟨_, _⟩ := hAnd9)); first | assumption | (refine Ne.symm ?_; assumption) | omega))
local macro_rules | `(tactic| walk_at "call type:enumerate") => `(tactic| (k_here; (rename Fr _ _ _ _ => F9); (rename News _ _ _ _ => N9); k_dflt (refine' call_enumL F9 N9 ?qm1 ?_; (case qm1 => k_mem)); intro h' e' it' F' N' hEn' l1' l2'; clear F9 N9))
local macro_rules | `(tactic| walk_at "exec Assign cons ListComp") => `(tactic| (k_here; (with_reducible show wpAny _ _ (exec (PySem.Stmt.Assign [PySem.Expr.Name _ _] (PySem.Expr.ListComp _ [⟨PySem.Expr.Tuple _ _ _, _, _, _⟩] _ _) _) _) _ _ _); k_dflt (refine Assign_ListComp_E (F₀ := by k_asm) (by rfl) (by with_unfolding_all rfl) (by with_unfolding_all rfl) (by decide) (by rfl) (by decide) (by rfl) (by rfl) (by decide) (by rfl) (by rfl) ?_)))
local macro_rules | `(tactic| walk_at "exec Assign cons ListComp") => `(tactic| (k_here; (with_reducible show wpAny _ _ (exec (PySem.Stmt.Assign [PySem.Expr.Name _ _] (PySem.Expr.ListComp _ [⟨PySem.Expr.Name _ _, _, _, _⟩] _ _) _) _) _ _ _); k_dflt (refine LCg.Assign_ListComp_U (F₀ := by k_asm) (by rfl) (by with_unfolding_all rfl) (by with_unfolding_all rfl) (by decide) (by rfl) (by decide) (by rfl) (by rfl) (by rfl) ?_)))
local macro_rules | `(tactic| walk_at "eval ListComp") => `(tactic| (k_here; k_dflt (refine LCg.ListComp_U (F₀ := by k_asm) (by with_unfolding_all rfl) (by decide) (by rfl) (by decide) (by rfl) ?_)))
def ListsAre (h h' : Heap) : List Value → List (List Str) → Prop
  | [], [] => True
  | v :: vs, ys :: yss => NewStrs h h' v ys ∧ ListsAre h h' vs yss
  | _, _ => False
def NewLists (h h' : Heap) (r : Value) (yss : List (List Str)) : Prop := ∃ a vs n, r = .ref a ∧ h.get? a = none ∧ h'.get? a = some (listOf vs.toArray n) ∧ ListsAre h h' vs yss
def markedP (b : Str) (xs : List Str) : List Str := (List.range xs.length).map (markedOne b xs)
def twoOne (b : Str) (xs : List Str) (i : Nat) : Str := if (xs.getD i Str.empty == Str.ofString "EN") = true then (if (backP b xs i == Str.ofString "AL") = true then Str.ofString "AN" else xs.getD i Str.empty) else xs.getD i Str.empty
def twoP (b : Str) (xs : List Str) : List Str := (List.range xs.length).map (twoOne b xs)
def sevenOne (b : Str) (xs : List Str) (i : Nat) : Str := if (xs.getD i Str.empty == Str.ofString "EN") = true then (if (backP b xs i == Str.ofString "L") = true then Str.ofString "L" else xs.getD i Str.empty) else xs.getD i Str.empty
def sevenP (b : Str) (xs : List Str) : List Str := (List.range xs.length).map (sevenOne b xs)
def d1 (b : Str) (xs : List Str) : List Str := markedP b xs
def d2 (b : Str) (xs : List Str) : List Str := twoP b (d1 b xs)
def d3 (b : Str) (xs : List Str) : List Str := (d2 b xs).map letterOne
def d4 (b : Str) (xs : List Str) : List Str := partsI (d3 b xs) ((d3 b xs).length - 2)
def d5 (b : Str) (xs : List Str) : List Str := endI (d4 b xs) (d4 b xs).length
def d6 (b : Str) (xs : List Str) : List Str := (d5 b xs).map overOne
def d7 (b : Str) (xs : List Str) : List Str := sevenP b (d6 b xs)
theorem off_new {h₀ h : Heap} {L b : Addr} {news : List (Addr × Obj)} (N : News h₀ L h news) (hb : h.get? b = none) : LCg.Off1 b news := by
  have : ∀ l : List (Addr × Obj), (∀ p ∈ l, p.1 ≠ b) → LCg.Off1 b l := by
    intro l
    induction l with
    | nil => intro _; trivial
    | cons q r ih => intro h; exact ⟨h q (.head _), ih fun p hp => h p (.tail _ hp)⟩
  exact this news (new_ne N hb)
theorem fr_some {h₀ h : Heap} {L : Addr} {M : Str → Option Value} {l : List (Str × Value)} (F : Fr h₀ L h M) (t : Told M l) : ∃ m', Fr h₀ L h (ovs l m') := ⟨M, frOv F t⟩
theorem new_lst {h h' : Heap} {L l' : Addr} {vs : List Value} {news : List (Addr × Obj)} {ys : List Str} (hs : StrsAre vs ys) (N : News h L h' news) (hm : (l', LCg.lst vs) ∈ news) : NewStrs h h' (.ref l') ys :=
  ⟨l', vs, vs.length, rfl, (N _ hm).2.2, (N _ hm).1, hs⟩
theorem getD_of9 {xs : List Str} {i : Nat} {y : Str} (h : xs[i]? = some y) : xs.getD i Str.empty = y := by rw [List.getD_eq_getElem?_getD, h]; rfl
theorem strs_range {f : Nat → Str} {ys : List Value} {n : Nat} (h : ys.length = n) (k : ∀ (i : Nat) (v : Value), ys[i]? = some v → ∃ t, v = Value.str (f i) t) : StrsAre ys ((List.range n).map f) := by
  refine strs_of (by simp [h]) fun i v hv => ?_
  obtain ⟨t, e⟩ := k i v hv
  refine ⟨f i, t, ?_, e⟩
  have hi : i < n := by rw [← h]; exact (List.getElem?_eq_some_iff.mp hv).1
  simp [hi]
theorem strs_map {f : Str → Str} {ys : List Value} {xs : List Str} (h : ys.length = xs.length) (k : ∀ (i : Nat) (v : Value), ys[i]? = some v → ∃ (x : Str) (t : Tok), xs[i]? = some x ∧ v = Value.str (f x) t) : StrsAre ys (xs.map f) := by
  refine strs_of (by simp [h]) fun i v hv => ?_
  obtain ⟨x, t, e, e2⟩ := k i v hv
  exact ⟨f x, t, by simp [e], e2⟩
theorem d1_len (b : Str) (xs : List Str) : (d1 b xs).length = xs.length := by simp [d1, markedP]
theorem d2_len (b : Str) (xs : List Str) : (d2 b xs).length = xs.length := by simp [d2, twoP, d1_len]
theorem d3_len (b : Str) (xs : List Str) : (d3 b xs).length = xs.length := by simp [d3, d2_len]
theorem d4_len (b : Str) (xs : List Str) : (d4 b xs).length = xs.length := by rw [d4, partsI_length, d3_len]
theorem d5_len (b : Str) (xs : List Str) : (d5 b xs).length = xs.length := by rw [d5, endI_length, d4_len]
theorem d6_len (b : Str) (xs : List Str) : (d6 b xs).length = xs.length := by simp [d6, d5_len]
theorem d7_len (b : Str) (xs : List Str) : (d7 b xs).length = xs.length := by simp [d7, sevenP, d6_len]

theorem steps_pure (xs : List Str) (b : Str) (hx : xs.length ≤ 100) : PureFn 90 119 (fun h vs => ∃ v t, vs = [v, .str b t] ∧ StrsAt h v xs) (fun h _ h' r => NewLists h h' r [d1 b xs, d2 b xs, d3 b xs, d4 b xs, d5 b xs, d6 b xs, d7 b xs]) := by
  intro w mean mg mb dp un gd cn cs a ccd cl outer A₀ base h₀ L m s vs Q E B F X T hk hd hu hpre hret
  obtain ⟨v, t, rfl, la, ws, n, rfl, hl, hs⟩ := hpre
  refine' pure_enterC (binds := [(Str.ofString "row", .ref la), (Str.ofString "begun", .str b t)]) (P := fun h' r => NewLists s.heap h' r _) B F X T hk ?k6 ?k7 (by omega) ?k9 ?kB ?kD ?c2 ?c3 ?c4 (fun r h' tk' st hp => hret r h' tk' st hp) ?_
  case k6 => k_is
  case k7 => k_is
  case k9 => exact BindsTo.of_eq rfl
  case kB => exact rfl
  case kD => decide
  case c2 => exact rfl
  case c3 => exact rfl
  case c4 => exact rfl
  intro g L' h₁ tk₁ cells hg F' N' Y' B' X' T'
  rw [← hg] at hl
  rw [← hg]
  clear hret B F X T
  k_cells Y'
  obtain ⟨m9, Fm⟩ := fr_some (l := [(Str.ofString "row", .ref la)]) F' ⟨rfl, trivial⟩
  clear F'
  have hsT : True → StrsAre ws xs := fun _ => hs
  clear hs
  have k1 : (d1 b xs).length ≤ 100 := by rw [d1_len]; exact hx
  have k2 : (d2 b xs).length ≤ 100 := by rw [d2_len]; exact hx
  have k3 : (d3 b xs).length ≤ 100 := by rw [d3_len]; exact hx
  have k4 : (d4 b xs).length ≤ 100 := by rw [d4_len]; exact hx
  have k5 : (d5 b xs).length ≤ 100 := by rw [d5_len]; exact hx
  have k6 : (d6 b xs).length ≤ 100 := by rw [d6_len]; exact hx
  k_with_none
  k_with "call ref" => (
    rename Fr _ _ _ _ => F9
    rename News _ _ _ _ => N9
    refine' pure_use (marked_pure xs b hx) ?k1 F9 ?k3 ?k4 ?k5 ?k6 ?k7 ?k8 ?_
    (case k1 => k_asm)
    (case k3 => k_asm)
    (case k4 => k_asm)
    (case k5 => exact rfl)
    (case k6 => show dp + 1 < 400 + 100; omega)
    (case k7 => show un + 3 < 10 * 100; omega)
    (case k8 => exact ⟨_, _, rfl, _, _, _, rfl, F9.keep _ _ hl, hsT trivial⟩)
    rintro r9 h9 tk9 F8 st9 ⟨l1, r1, n1, rfl, hb1, hb2, hs9⟩; have N8 := news_new F9 N9 st9 hb1 hb2; have ho1 := off_new N9 hb1; simp only [LCg.Off1, and_true] at ho1; have s1 : True → StrsAre r1 (d1 b xs) := fun _ => hs9; clear N9 F9 hs9)

  try dsimp only
  try k_fold
  k_steps
  refine hold ?_
  rename EnumAt _ _ _ _ _ _ _ => hE
  rename Fr _ _ _ _ => F2
  rename News _ _ _ _ => N2
  try simp only [List.cons_append, List.nil_append] at N2
  have hlens1 := (s1 trivial).length
  refine src_enum (fun i v => ∃ t, v = Value.str (twoOne b (d1 b xs) i) t) rfl hE (by assumption) (by assumption) (by rw [hlens1, PySem.sizeLine_eq]; omega) F2 N2 ?_ ?_
  · rintro i v0 v1 C oC D m₂ ys h tk own E' hi ⟨t0, rfl, hv⟩ hC hx1 hx2 F3 N3
    obtain ⟨y, ty, rfl, hy⟩ := StrsAre.item (s1 trivial) i v1 hv
    have hi2 : i < (d1 b xs).length := (List.getElem?_eq_some_iff.mp hy).1
    clear F2 N2 hE
    simp only [List.cons_append, List.nil_append] at N3
    try k_fold
    k_with "call ref" => (
      rename Fr _ _ _ _ => F9
      rename News _ _ _ _ => N9
      refine' pure_use (back_pure (d1 b xs) b k1 i (Nat.le_of_lt hi2)) ?k1 F9 ?k3 ?k4 ?k5 ?k6 ?k7 ?k8 ?_
      (case k1 => k_asm)
      (case k3 => k_asm)
      (case k4 => k_asm)
      (case k5 => exact rfl)
      (case k6 => show dp + 1 < 400 + 100; omega)
      (case k7 => show un + 3 < 10 * 100; omega)
      (case k8 => exact ⟨_, _, _, rfl, _, _, _, rfl, (N9 (l1, _) (by k_mem)).1, s1 trivial⟩)
      rintro r9 h9 tk9 F8 st9 ⟨t8, rfl⟩
      have N8 := news_stay N9 st9
      clear N9 F9)
    k_steps
    all_goals (
      rename Fr _ _ _ _ => F4
      rename News _ _ _ _ => N4
      have eY := getD_of9 hy
      refine elt_end F4 N4 (str_is ?_)
      unfold twoOne
      rw [eY]
      repeat (first | rw [ite_t (b := y == Str.ofString "EN") (by assumption)] | rw [ite_f (b := y == Str.ofString "EN") (by assumption)] | rw [ite_t (b := backP b (d1 b xs) i == Str.ofString "AL") (by assumption)] | rw [ite_f (b := backP b (d1 b xs) i == Str.ofString "AL") (by assumption)]))
  intro ys9 hl9 hr9
  have s2 : True → StrsAre ys9 (d2 b xs) := fun _ => strs_range (by rw [hl9, hlens1]) hr9
  have hgl : ys9.length = ys9.length := rfl
  clear F2 N2 hE hr9
  try k_fold
  k_steps
  rename Fr _ _ _ _ => F2
  rename News _ _ _ _ => N2
  have hlens2 := (s2 trivial).length
  refine LCg.CompSrc.ledger rfl F2 N2 (by k_mem) (sl_size (s2 trivial) k2) ?_
  intro g'
  refine comp_rest (fun i v => ∃ (x : Str) (t : Tok), (d2 b xs)[i]? = some x ∧ v = Value.str (letterOne x) t) (Or.inr ⟨_, by k_mem, rfl, _, rfl⟩) ?_ ?_
  · intro i v I oI C oC D m₂ ys h tk E' hi hv hC hx F3 N3 off ne
    obtain ⟨y, ty, rfl, hy⟩ := StrsAre.item (s2 trivial) i v (by simpa using hv)
    clear F2 N2
    skip
    try k_fold
    k_steps
    all_goals (
      rename Fr _ _ _ _ => F4
      rename News _ _ _ _ => N4
      refine elt_end F4 N4 (elt_str hy ?_)
      unfold letterOne
      repeat (first | rw [ite_t (b := y == Str.ofString "AL") (by assumption)] | rw [ite_f (b := y == Str.ofString "AL") (by assumption)]))
  intro ys9 hl9 hr9
  have s3 : True → StrsAre ys9 (d3 b xs) := fun _ => strs_map (by rw [hl9, List.size_toArray, hlens2]) hr9
  clear F2 N2 hr9
  k_with "call ref" => (
    rename Fr _ _ _ _ => F9
    rename News _ _ _ _ => N9
    refine' pure_use (parted_pure (d3 b xs) k3) ?k1 F9 ?k3 ?k4 ?k5 ?k6 ?k7 ?k8 ?_
    (case k1 => k_asm)
    (case k3 => k_asm)
    (case k4 => k_asm)
    (case k5 => exact rfl)
    (case k6 => show dp + 1 < 400 + 100; omega)
    (case k7 => show un + 3 < 10 * 100; omega)
    (case k8 => exact ⟨_, rfl, _, _, _, rfl, (N9 (_, listOf ys9.toArray ys9.length) (by k_mem)).1, s3 trivial⟩)
    rintro r9 h9 tk9 F8 st9 ⟨l4, r4, n4, rfl, hb1, hb2, hs9⟩; have N8 := news_new F9 N9 st9 hb1 hb2; have ho4 := off_new N9 hb1; simp only [LCg.Off1, and_true] at ho4; have s4 : True → StrsAre r4 (d4 b xs) := fun _ => hs9; clear N9 F9 hs9)

  k_with "call ref" => (
    rename Fr _ _ _ _ => F9
    rename News _ _ _ _ => N9
    refine' pure_use (ended_pure (d4 b xs) k4) ?k1 F9 ?k3 ?k4 ?k5 ?k6 ?k7 ?k8 ?_
    (case k1 => k_asm)
    (case k3 => k_asm)
    (case k4 => k_asm)
    (case k5 => exact rfl)
    (case k6 => show dp + 1 < 400 + 100; omega)
    (case k7 => show un + 3 < 10 * 100; omega)
    (case k8 => exact ⟨_, rfl, _, _, _, rfl, (N9 (l4, _) (by k_mem)).1, s4 trivial⟩)
    rintro r9 h9 tk9 F8 st9 ⟨l5, r5, n5, rfl, hb1, hb2, hs9⟩; have N8 := news_new F9 N9 st9 hb1 hb2; have ho5 := off_new N9 hb1; simp only [LCg.Off1, and_true] at ho5; have s5 : True → StrsAre r5 (d5 b xs) := fun _ => hs9; clear N9 F9 hs9)

  k_steps
  rename Fr _ _ _ _ => F2
  rename News _ _ _ _ => N2
  have hlens5 := (s5 trivial).length
  refine LCg.CompSrc.ledger rfl F2 N2 (by k_mem) (sl_size (s5 trivial) k5) ?_
  intro g'
  refine comp_rest (fun i v => ∃ (x : Str) (t : Tok), (d5 b xs)[i]? = some x ∧ v = Value.str (overOne x) t) (Or.inr ⟨_, by k_mem, rfl, _, rfl⟩) ?_ ?_
  · intro i v I oI C oC D m₂ ys h tk E' hi hv hC hx F3 N3 off ne
    obtain ⟨y, ty, rfl, hy⟩ := StrsAre.item (s5 trivial) i v (by simpa using hv)
    clear F2 N2
    skip
    try k_fold
    k_steps
    all_goals (
      rename Fr _ _ _ _ => F4
      rename News _ _ _ _ => N4
      refine elt_end F4 (news_drop N4) (elt_str hy ?_)
      unfold overOne
      repeat (first | rw [ite_t (b := [Str.ofString "ES", Str.ofString "ET", Str.ofString "CS"].any (· == y)) (by assumption)] | rw [ite_f (b := [Str.ofString "ES", Str.ofString "ET", Str.ofString "CS"].any (· == y)) (by assumption)]))
  intro ys9 hl9 hr9
  have s6 : True → StrsAre ys9 (d6 b xs) := fun _ => strs_map (by rw [hl9, List.size_toArray, hlens5]) hr9
  clear F2 N2 hr9
  try k_fold
  k_steps
  refine hold ?_
  rename EnumAt _ _ _ _ _ _ _ => hE
  rename Fr _ _ _ _ => F2
  rename News _ _ _ _ => N2
  try simp only [List.cons_append, List.nil_append] at N2
  have hlens6 := (s6 trivial).length
  refine src_enum (fun i v => ∃ t, v = Value.str (sevenOne b (d6 b xs) i) t) rfl hE (by assumption) (by assumption) (by rw [hlens6, PySem.sizeLine_eq]; omega) F2 N2 ?_ ?_
  · rintro i v0 v1 C oC D m₂ ys h tk own E' hi ⟨t0, rfl, hv⟩ hC hx1 hx2 F3 N3
    obtain ⟨y, ty, rfl, hy⟩ := StrsAre.item (s6 trivial) i v1 hv
    have hi2 : i < (d6 b xs).length := (List.getElem?_eq_some_iff.mp hy).1
    clear F2 N2 hE
    simp only [List.cons_append, List.nil_append] at N3
    try k_fold
    k_with "call ref" => (
      rename Fr _ _ _ _ => F9
      rename News _ _ _ _ => N9
      refine' pure_use (back_pure (d6 b xs) b k6 i (Nat.le_of_lt hi2)) ?k1 F9 ?k3 ?k4 ?k5 ?k6 ?k7 ?k8 ?_
      (case k1 => k_asm)
      (case k3 => k_asm)
      (case k4 => k_asm)
      (case k5 => exact rfl)
      (case k6 => show dp + 1 < 400 + 100; omega)
      (case k7 => show un + 3 < 10 * 100; omega)
      (case k8 => exact ⟨_, _, _, rfl, _, _, _, rfl, (N9 (_, listOf ys9.toArray ys9.length) (by k_mem)).1, s6 trivial⟩)
      rintro r9 h9 tk9 F8 st9 ⟨t8, rfl⟩
      have N8 := news_stay N9 st9
      clear N9 F9)
    k_steps
    all_goals (
      rename Fr _ _ _ _ => F4
      rename News _ _ _ _ => N4
      have eY := getD_of9 hy
      refine elt_end F4 N4 (str_is ?_)
      unfold sevenOne
      rw [eY]
      repeat (first | rw [ite_t (b := y == Str.ofString "EN") (by assumption)] | rw [ite_f (b := y == Str.ofString "EN") (by assumption)] | rw [ite_t (b := backP b (d6 b xs) i == Str.ofString "L") (by assumption)] | rw [ite_f (b := backP b (d6 b xs) i == Str.ofString "L") (by assumption)]))
  intro ys9 hl9 hr9
  have s7 : True → StrsAre ys9 (d7 b xs) := fun _ => strs_range (by rw [hl9, hlens6]) hr9
  have hgl : ys9.length = ys9.length := rfl
  clear F2 N2 hE hr9
  k_steps
  rename Fr _ _ _ _ => F4
  rename News _ _ _ _ => N4
  refine pure_end F4 ?_
  refine ⟨_, [_, _, _, _, _, _, _], 0, rfl, (N4 _ (.head _)).2.2, (N4 _ (.head _)).1, ?_⟩
  exact ⟨new_strs' N4 (by k_mem) (s1 trivial), new_lst (s2 trivial) N4 (by k_mem), new_lst (s3 trivial) N4 (by k_mem), new_strs' N4 (by k_mem) (s4 trivial), new_strs' N4 (by k_mem) (s5 trivial), new_lst (s6 trivial) N4 (by k_mem), new_lst (s7 trivial) N4 (by k_mem), trivial⟩
end

section
open PySem PySem.W PyProof.Rows PySem.Calls PySem.Spec
set_option Elab.async false
set_option maxRecDepth 100000
set_option maxHeartbeats 8000000

def DrawFn (f : Addr) : Prop :=
  ∀ (w : World) (mean : ExcName → Option Value) (mg mb : Str → Option Value) (dp un : Nat) (gd : Option (List Code)) (cn : Str) (cs : Scope) (a : Addr) (ccd : Value) (cl : List (Str × Addr)) (outer : List Env)
    (A₀ : Around) (base h₀ : Heap) (L : Addr) (m : Str → Option Value) (s : Shared) (D c : Addr) (k below : Int) (t0 tb : Tok) (nD nc : Nat) (cvs : List Value) (ns : List Int) (Q E : Value → Shared → Prop),
    Below A₀ base outer h₀ → Fr h₀ L s.heap m → (hd.heap_39 w.params).In h₀ → TopIs mean mg mb h₀ → cs.kind = .function →
    dp < 490 → un < 900 → h₀.get? D = none → D ≠ L → s.heap.get? D = some (listOf #[.ref c, .int k t0] nD) → s.heap.get? c = some (listOf cvs.toArray nc) → IntsAre cvs ns → ns.length ≤ 20 → c ≠ D → 0 ≤ k → k ≤ 100 → 0 < below → below ≤ 1000 →
    (∀ r t h' tk' t' n', (∀ b o, b ≠ D → s.heap.get? b = some o → h'.get? b = some o) → h'.get? D = some (listOf #[.ref c, .int (k + 1) t'] n') → 0 ≤ r → r < below → Q (.int r t) { s with heap := h', toks := tk' }) →
    wpAny (model pg w) (ktrTop dp un gd cn cs L a ccd cl outer) (call (.ref f) [.ref D, .int below tb]) Q E s

def DrawEnd (s : Shared) (g : Heap) (L' D c : Addr) (k below : Int) (v : Value) (s' : Shared) : Prop :=
  ∃ r t h' tk' t' n', s' = { s with heap := h', toks := tk' } ∧ v = .int r t ∧ g.StaysIn h' ∧ News g L' h' [(D, listOf #[.ref c, .int (k + 1) t'] n')] ∧ 0 ≤ r ∧ r < below
theorem draw_end {s : Shared} {g : Heap} {L' D c : Addr} {k below r : Int} {t t' : Tok} {n' : Nat} {h' : Heap} {tk' : Nat} {m : Str → Option Value} {own : List (Addr × Obj)} (F : Fr g L' h' m) (N : News g L' h' own) (hm : (D, listOf #[.ref c, .int (k + 1) t'] n') ∈ own) (h0 : 0 ≤ r) (h1 : r < below) :
    DrawEnd s g L' D c k below (.int r t) { s with heap := h', toks := tk' } := ⟨r, t, h', tk', t', n', rfl, rfl, F.keep, fun p hp => by rw [List.mem_singleton.mp hp]; exact N _ hm, h0, h1⟩

section
variable {w : World} {mean : ExcName → Option Value} {mg mb : Str → Option Value} {dp un : Nat} {gd : Option (List Code)} {cn : Str} {cs : Scope} {a : Addr} {ccd : Value} {cl : List (Str × Addr)} {outer : List Env}
    {A₀ : Around} {base h₀ : Heap} {L : Addr} {m : Str → Option Value} {s : Shared} {vs : List Value} {Q E : Value → Shared → Prop}
  {name qual : Str} {params : Arguments} {body : List Stmt} {scope : Scope} {dV kV doc pm cdv ct oc : Value} {an od : Option Addr} {osl : Array (Option Value)} {f : Addr} {binds : List (Str × Value)}

theorem draw_enter {D c : Addr} {k below : Int} {oD : Obj} (B : Below A₀ base outer h₀) (F : Fr h₀ L s.heap m) (X : (hd.heap_39 w.params).In h₀) (T : TopIs mean mg mb h₀) (hk : cs.kind = .function)
    (hD0 : h₀.get? D = none) (hDL : D ≠ L) (hD : s.heap.get? D = some oD)
    (ho : (hd.heap_39 w.params).lookup f = some ⟨oc, od, .func (fnOf name qual params body scope dV kV doc pm an cdv ct), osl⟩) (hcd : codeIn (hd.heap_39 w.params) cdv qual = true) (hroom : dp < 500)
    (hbind : BindsTo s (fnOf name qual params body scope dV kV doc pm an cdv ct) ⟨vs, []⟩ binds) (hloc : ∀ y ∈ binds, scope.names.lookup y.1 = some .local)
    (hcell : ∀ x ∈ scope.names, x.2 ≠ .cell) (hco : scope.isCoroutine = false) (hgen : scope.isGenerator = false) (hks : scope.kind = .function)
    (ret : ∀ r t h' tk' t' n', (∀ b o, b ≠ D → s.heap.get? b = some o → h'.get? b = some o) → h'.get? D = some (listOf #[.ref c, .int (k + 1) t'] n') → 0 ≤ r → r < below → Q (.int r t) { s with heap := h', toks := tk' })
    (h : ∀ g L' h₁, (∀ b o, b ≠ D → s.heap.get? b = some o → g.get? b = some o) → Fr g L' h₁ (fun y => binds.reverse.lookup y) → News g L' h₁ [(D, oD)] → Below (ktrTop dp un gd cn cs L a ccd cl outer) base (envX cn cs L a ccd cl :: outer) g → (hd.heap_39 w.params).In g → TopIs mean mg mb g →
      wpAny (model pg w) ((ktrTop dp un gd cn cs L a ccd cl outer).deeper (envOf qual scope L' f cdv)) (execs body (envOf qual scope L' f cdv))
        (fun fl s' => DrawEnd s g L' D c k below (match fl with | .ret v => v | _ => .none) s') (fun _ _ => False)
        { s with heap := h₁, toks := s.toks + binds.length }) :
    wpAny (model pg w) (ktrTop dp un gd cn cs L a ccd cl outer) (call (.ref f) vs) Q E s := by
  have X' : (hd.heap_39 w.params).In s.heap := X.keeps F.keep
  have T' : TopIs mean mg mb s.heap := T.keeps F.keep
  have N : News h₀ L s.heap [(D, oD)] := fun p hp => by rw [List.mem_singleton.mp hp]; exact ⟨hD, hDL, hD0⟩
  obtain ⟨Fg, Bg, Sg, _⟩ := groundX (A := ktrTop dp un gd cn cs L a ccd cl outer) (env := envX cn cs L a ccd cl) (R := fun _ _ => True) B F N rfl rfl hk
  generalize hgg : hideAll s.heap (([(D, oD)] : List (Addr × Obj)).map (·.1)) = g at Fg Bg Sg
  have gs : g.StaysIn s.heap := fun b o e => of_hideAll _ (hgg ▸ e)
  have sg : ∀ b o, b ≠ D → s.heap.get? b = some o → g.get? b = some o := fun b o hb e => hgg ▸ hideAll_get _ e (by simpa using hb)
  have gD : g.get? D = none := hgg ▸ hideAll_none _ (by simp)
  have gsz : g.objs.size = s.heap.objs.size := hgg ▸ hideAll_size _ _
  refine wpAny_call (codeAny_call_def (fd := fnOf name qual params body scope dV kV doc pm an cdv ct) (body := body) (binds := binds) (by show dp < recursionLimit; unfold recursionLimit; omega) (X' _ _ ho) rfl T'.nolimit (codeRec_of X' hcd) rfl hbind hcell hloc (fun h₁ hns hk₁ => ?_) hco hgen hks)
  have F' : Fr g s.heap.objs.size h₁ (fun y => binds.reverse.lookup y) := ⟨hns, fun b o e => hk₁ b o (gs b o e), Nat.le_of_eq gsz⟩
  refine wpAny_mono (h g s.heap.objs.size h₁ sg F' (fun p hp => by rw [List.mem_singleton.mp hp]; exact ⟨hk₁ _ _ hD, Nat.ne_of_lt (Heap.lt_size hD), gD⟩) Bg (X.keeps Sg) (T.keeps Sg)) ?_ ?_
  · rintro fl s' ⟨r, t, h', tk', t', n', rfl, e, st, N', h0, h1⟩
    have q := ret r t h' tk' t' n' (fun b o hb q => st b o (sg b o hb q)) (N' _ (.head _)).1 h0 h1
    rw [← e] at q
    exact q
  · intro _ _ e
    exact e.elim
end

theorem draw_pure : DrawFn 90 := by
  intro w mean mg mb dp un gd cn cs a ccd cl outer A₀ base h₀ L m s D c k below t0 tb nD nc cvs ns Q E B F X T hk hd hu hD0 hDL hD hc hI hlen hcD hk0 hk1 hb0 hb1 hret
  refine' draw_enter (c := c) (k := k) (below := below) (binds := [(Str.ofString "deck", .ref D), (Str.ofString "below", .int below tb)]) B F X T hk hD0 hDL hD ?k6 ?k7 (by omega) ?k9 ?kB ?c5 ?c2 ?c3 ?c4 hret ?_
  case k6 => k_is
  case k7 => k_is
  case k9 => exact BindsTo.of_eq rfl
  case kB => exact locs rfl
  case c5 => decide
  case c2 => exact rfl
  case c3 => exact rfl
  case c4 => exact rfl
  intro g L' h₁ hsg F' N' B' X' T'
  replace hc := hsg _ _ hcD hc
  have hcl : g.IsList c cvs.toArray := isList_of_get hc
  clear hsg hret hD hD0 hDL B F X T
  try dsimp only
  try k_fold
  k_steps
  all_goals first
    | (show False
       rename decide _ = false => hd9
       apply of_decide_eq_false hd9
       apply List.length_eq_zero_iff.mp
       omega)
    | (rename Fr _ _ _ _ => F4
       rename News _ _ _ _ => N4
       exact draw_end F4 N4 (by k_mem) (Int.fmod_nonneg_of_pos _ hb0) (Int.fmod_lt_of_pos _ hb0))
end

section
open PySem PySem.W PyProof.Rows PySem.Calls PySem.Spec PySem.SeqAt
set_option Elab.async false
set_option maxRecDepth 100000
set_option maxHeartbeats 8000000
section
variable {w : World} {mean : ExcName → Option Value} {mg mb : Str → Option Value} {dp un : Nat} {gd : Option (List Code)} {cn : Str} {cs : Scope} {a : Addr} {ccd : Value} {cl : List (Str × Addr)} {outer : List Env}
    {A₀ : Around} {base h₀ : Heap} {L : Addr} {m : Str → Option Value} {s : Shared} {Q E : Value → Shared → Prop}
theorem draw_use {news : List (Addr × Obj)} {D c : Addr} {k below : Int} {t0 tb : Tok} {nD nc : Nat} {cvs : List Value} {ns : List Int} {g : Obj → List (Addr × Obj)} (B : Below A₀ base outer h₀) (F : Fr h₀ L s.heap m) (X : (hd.heap_39 w.params).In h₀) (T : TopIs mean mg mb h₀) (hk : cs.kind = .function) (hdp : dp < 490) (hun : un < 900)
    (N : News h₀ L s.heap news) (U : UpdF D (listOf #[.ref c, .int k t0] nD) news g) (hc : (c, listOf cvs.toArray nc) ∈ news) (hI : IntsAre cvs ns) (hlen : ns.length ≤ 20) (hcD : @Ne Nat c D) (hk0 : 0 ≤ k) (hk1 : k ≤ 100) (hb0 : 0 < below) (hb1 : below ≤ 1000)
    (h : ∀ r t h' tk' t' n', Fr h₀ L h' m → News h₀ L h' (g (listOf #[.ref c, .int (k + 1) t'] n')) → 0 ≤ r → r < below → Q (.int r t) { s with heap := h', toks := tk' }) :
    wpAny (model pg w) (ktrTop dp un gd cn cs L a ccd cl outer) (call (.ref 90) [.ref D, .int below tb]) Q E s := by
  obtain ⟨pre, post, rfl, hg, h1, h2⟩ := U.split
  have z := N (D, _) (List.mem_append_right _ (.head _))
  refine draw_pure w mean mg mb dp un gd cn cs a ccd cl outer A₀ base h₀ L m s D c k below t0 tb nD nc cvs ns Q E B F X T hk hdp hun z.2.2 z.2.1 z.1 (N _ hc).1 hI hlen hcD hk0 hk1 hb0 hb1 fun r t h' tk' t' n' hkeep hD hr0 hr1 => ?_
  have LD : L ≠ D := Ne.symm z.2.1
  have F' : Fr h₀ L h' m := ⟨F.ns.at' fun o e => hkeep L o LD e, fun b o e => hkeep b o (fun q => by rw [q, z.2.2] at e; cases e) (F.keep b o e), F.above⟩
  refine h r t h' tk' t' n' F' ?_ hr0 hr1
  rw [hg]
  intro p hp
  rcases List.mem_append.mp hp with hp | hp
  · have y := N p (List.mem_append_left _ hp)
    exact ⟨hkeep _ _ (h1 p hp) y.1, y.2⟩
  · rcases List.mem_cons.mp hp with rfl | hp
    · exact ⟨hD, z.2⟩
    · have y := N p (List.mem_append_right _ (.tail _ hp))
      exact ⟨hkeep _ _ (h2 p hp) y.1, y.2⟩
end
/-- the end of one element that may change the ledger -/
def EltEndJ (h₀ : Heap) (L : Addr) (m : Str → Option Value) (s₁ : Shared) (I : Addr) (oI : Obj) (C : Addr) (oC : Obj) (D : Addr) (oD : Obj) (J : List (Addr × Obj) → Prop) (R : Value → Prop) (y : Value) (s₂ : Shared) : Prop :=
  ∃ h' tk' news', s₂ = { s₁ with heap := h', toks := tk' } ∧ Fr h₀ L h' m ∧ News h₀ L h' ((I, oI) :: (C, oC) :: (D, oD) :: news') ∧ LCg.Off3 I C D news' ∧ J news' ∧ R y
section
variable {prog : Program} {w : World} {A : Around} {h₀ : Heap} {L : Addr} {m : Str → Option Value} {env : Env} {elt : Expr} {x : Str} {scope : Scope} {cl : List (Str × Addr)} {s : Shared} {P : Nat → Value → Prop} {Fin : List Value → List (Addr × Obj) → Prop} {news : List (Addr × Obj)}
theorem comp_restJ {n : Nat} (R : Value → Prop) (J : Nat → List (Addr × Obj) → Prop) (hJ : J 0 news)
    (turn : ∀ i v I oI C oC D m₂ ys h tk nx (E' : Value → Shared → Prop), i < n → P i v → J i nx → LCg.NsObj oC m₂ → m₂ x = some v → Fr h₀ L h m → News h₀ L h ((I, oI) :: (C, oC) :: (D, LCg.lst ys) :: nx) → LCg.Off3 I C D nx → ((@Ne Nat I C) ∧ (@Ne Nat I D) ∧ (@Ne Nat C D)) →
      wpAny (model prog w) A (eval elt (compEnvC scope cl C env)) (EltEndJ h₀ L m { s with heap := h, toks := tk } I oI C oC D (LCg.lst ys) (J (i + 1)) R) E' { s with heap := h, toks := tk })
    (fin : ∀ ys nx, ys.length = n → (∀ v ∈ ys, R v) → J n nx → Fin ys nx) : LCg.CompRest prog w A h₀ L m env elt x scope cl s (fun _ => True) P Fin n 0 [] news := by
  have key : ∀ (j i : Nat) (ys : List Value) (nx : List (Addr × Obj)), i + j = n → ys.length = i → J i nx → (∀ v ∈ ys, R v) → LCg.CompRest prog w A h₀ L m env elt x scope cl s (fun _ => True) P Fin j i ys nx := by
    intro j
    induction j with
    | zero =>
      intro i ys nx hi hl hj hy
      have e : i = n := by omega
      exact LCg.CompRest.zero (fin ys nx (by omega) hy (e ▸ hj))
    | succ j ih =>
      intro i ys nx hi hl hj hy
      refine LCg.CompRest.succ ?_
      intro v I oI C oC D m₂ h tk E' hv hC hx F N off ne
      refine wpAny_mono (turn i v I oI C oC D m₂ ys h tk nx E' (by omega) hv hj hC hx F N off ne) (fun y s₂ hq => ?_) fun _ _ e => e
      obtain ⟨h', tk', news', e, F', N', off', hj', hr⟩ := hq
      refine ⟨h', tk', news', e, F', N', off', trivial, ih (i + 1) _ news' (by omega) (by rw [List.length_append, List.length_singleton, hl]) hj' ?_⟩
      intro v' hv'
      rcases List.mem_append.mp hv' with hv' | hv'
      · exact hy v' hv'
      · rw [List.mem_singleton.mp hv']; exact hr
  exact key n 0 [] news (by omega) rfl hJ (fun _ h => by simp at h)
end
/-- a text of a list -/
theorem pick_str {prog : Program} {w : World} {A : Around} {E : Value → Shared → Prop} {s : Shared} {l : Addr} {vs : List Value} {xs : List Str} {Q : Value → Shared → Prop} {value slice : Expr} {r : Int} {u : Tok} (hl : s.heap.IsList l vs.toArray) (hv : StrsAre vs xs) (h0 : 0 ≤ r) (h1 : r < xs.length) (hsz : xs.length ≤ 100) (h : ∀ x t, x ∈ xs → Q (.str x t) s)
    (hs : subscripted slice false (.ref l) (.int r u) = operate [.ref l, .int r u] (getItem (.ref l) (.int r u)) := by with_unfolding_all rfl) :
    wpAny (model prog w) A (subscriptTail value slice (.ref l) (.int r u)) Q E s := by
  have hlen := hv.length
  obtain ⟨x, t, e, hx⟩ := strs_get hv (j := r.toNat) (by omega)
  refine tail_any hl.typeIs slot_list_getitem.lookup (wpAny_getItem_list (x := .str x t) hl h0 (by omega) ?_ ?_) hs
  · simp only [List.getElem?_toArray]
    rw [List.getElem?_eq_getElem (by omega), e]
  · exact h x t (List.mem_of_getElem? hx)
/-- a statement whose end is told, then the rest -/
theorem execs_merge {M : Model} {A : Around} {env : Env} {st : Stmt} {rest : List Stmt} {Q : Flow → Shared → Prop} {E : Value → Shared → Prop} {s : Shared} (J : Shared → Prop) (h1 : wpAny M A (exec st env) (fun f s' => f = .next ∧ J s') E s) (h2 : ∀ s', J s' → wpAny M A (execs rest env) Q E s') : wpAny M A (execs (st :: rest) env) Q E s :=
  wpAny_execs_cons (wpAny_mono h1 (fun f s' h => by obtain ⟨rfl, hj⟩ := h; exact h2 s' hj) fun _ _ e => e)
section
variable {A : Around} {s : Shared}
def EqsAll (A : Around) (s : Shared) : List Value → List Value → Prop
  | [], [] => True
  | v :: vs, w :: ws => EqAt A s v w true ∧ EqsAll A s vs ws
  | _, _ => False
theorem EqsAll.len : ∀ {vs ws : List Value}, EqsAll A s vs ws → vs.length = ws.length
  | [], [], _ => rfl
  | _ :: _, _ :: _, h => by simp [EqsAll.len h.2]
theorem EqsAll.get : ∀ {vs ws : List Value}, EqsAll A s vs ws → ∀ j (h1 : j < vs.length) (h2 : j < ws.length), EqAt A s vs[j] ws[j] true
  | _ :: _, _ :: _, h, 0, _, _ => h.1
  | _ :: _, _ :: _, h, j + 1, h1, h2 => EqsAll.get h.2 j (by simpa using h1) (by simpa using h2)
theorem cmp_eq_nested {prog : Program} {w : World} {E : Value → Shared → Prop} {Q : Value → Shared → Prop} {l b : Addr} {vs ws : List Value} (hl : s.heap.IsList l vs.toArray) (hb : s.heap.IsList b ws.toArray) (hu : A.units < cLine) (he : EqsAll A.in1 s vs ws) (h : Q (.bool true) s) :
    wpAny (model prog w) A (compareOp .Eq (.ref l) (.ref b)) Q E s := by
  have r := RcAt.lists (A := A) (e := fun _ => true) hl hb (by simp [he.len]) hu (fun j h1 h2 => by
    rw [List.getElem_toArray, List.getElem_toArray]
    exact he.get j (by simpa using h1) (by simpa using h2))
  have e : ((List.range vs.toArray.size).all fun _ => true) = true := by simp
  rw [e] at r
  exact cmp_ofEq (r prog w E Q h)
theorem eq_strs_any {h₀ : Heap} {L l b : Addr} {vs ws : List Value} {xs : List Str} {n n' : Nat} {news : List (Addr × Obj)} (N : News h₀ L s.heap news) (hl : (l, listOf vs.toArray n) ∈ news) (hb : (b, listOf ws.toArray n') ∈ news) (hv : StrsAre vs xs) (hw : StrsAre ws xs) (hu : A.units < cLine) : EqAt A s (.ref l) (.ref b) true := by
  by_cases e : l = b
  · rw [e]; exact EqAt.same _
  · have := rc_strs (isList_of_get (N _ hl).1) (isList_of_get (N _ hb).1) hv hw hu
    rw [decide_eq_true rfl] at this
    exact EqAt.of_refs e this
theorem cmp_ne_same {prog : Program} {w : World} {E : Value → Shared → Prop} {Q : Value → Shared → Prop} {h₀ : Heap} {L l b : Addr} {vs ws : List Value} {xs : List Str} {n n' : Nat} {news : List (Addr × Obj)} (N : News h₀ L s.heap news) (hl : (l, listOf vs.toArray n) ∈ news) (hb : (b, listOf ws.toArray n') ∈ news) (hv : True → StrsAre vs xs) (hw : True → StrsAre ws xs) (hu : A.units < cLine) (h : Q (.bool false) s) : wpAny (model prog w) A (compareOp .NotEq (.ref l) (.ref b)) Q E s :=
  cmp_ne_led N hl hb (hv trivial) (hw trivial) hu (by rw [decide_eq_true rfl]; exact h)
theorem cmp_eq_same {prog : Program} {w : World} {E : Value → Shared → Prop} {Q : Value → Shared → Prop} {h₀ : Heap} {L l b : Addr} {vs ws : List Value} {xs : List Str} {n n' : Nat} {news : List (Addr × Obj)} (N : News h₀ L s.heap news) (hl : (l, listOf vs.toArray n) ∈ news) (hb : (b, listOf ws.toArray n') ∈ news) (hv : True → StrsAre vs xs) (hw : True → StrsAre ws xs) (hu : A.units < cLine) (h : Q (.bool true) s) : wpAny (model prog w) A (compareOp .Eq (.ref l) (.ref b)) Q E s :=
  cmp_eq_led N hl hb (hv trivial) (hw trivial) hu (by rw [decide_eq_true rfl]; exact h)
end
theorem off3_upd {I C D d : Addr} {o o' : Obj} {news : List (Addr × Obj)} {g : Obj → List (Addr × Obj)} (U : UpdF d o news g) (h : LCg.Off3 I C D news) : LCg.Off3 I C D (g o') := by
  obtain ⟨pre, post, rfl, hg, _, _⟩ := U.split
  rw [hg]
  have hm := LCg.Off3.mem h
  refine LCg.Off3.of fun p hp => ?_
  rcases List.mem_append.mp hp with hp | hp
  · exact hm p (List.mem_append_left _ hp)
  · rcases List.mem_cons.mp hp with rfl | hp
    · exact hm (d, o) (List.mem_append_right _ (.head _))
    · exact hm p (List.mem_append_right _ (.tail _ hp))
section
variable {prog : Program} {w : World} {A : Around} {E : Value → Shared → Prop} {s : Shared} {h₀ : Heap} {L : Addr} {m : Str → Option Value} {env : Env}
theorem Assign_ListComp_H {elt iter : Expr} {x y : Str} {px py : Pos} {scope : Scope} {cl : List (Str × Addr)} {pos spos : Pos} {Q : Flow → Shared → Prop} (F₀ : Fr h₀ L s.heap m) (hLe : env.locals = L)
    (hsw : swapsWith (.ListComp elt [⟨.Name x px, iter, [], 0⟩] scope pos) (some (.Name y py)) spos.line env = pure true)
    (hclos : closureFor scope env = pure cl) (hcell : ∀ z ∈ scope.names, z.2 ≠ .cell) (hkind : scope.kind = .function)
    (hnames : ∀ z ∈ scope.names, z.2 = .local → scope.names.lookup z.1 = some .local) (hx : scope.names.lookup x = some .local)
    (hy : env.kindOf y = some .local) (hp : (env.scope.kind == .class || (env.scope.kind == .module && env.locals != env.globals)) = false)
    (h : wpAny (model prog w) A (eval iter env) (fun xv s₁ => Hold (LCg.CompSrc prog w A h₀ L m env elt x scope cl (fun s₂ => LCg.FinA h₀ L m s₂ y Q) xv s₁)) E s)
    (hs : ∀ x, foldedSetIterable iter env x = pure x := by intro _; rfl) :
    wpAny (model prog w) A (exec (.Assign [.Name y py] (.ListComp elt [⟨.Name x px, iter, [], 0⟩] scope pos) spos) env) Q E s :=
  LCg.Assign_ListComp_U F₀ hLe hsw hclos hcell hkind hnames hx hy hp h hs
end
/-- the ledger of a drawn row: only the deck's count goes on -/
def DeckAt (g : Obj → List (Addr × Obj)) (c : Addr) (k₀ : Int) (i : Nat) (nx : List (Addr × Obj)) : Prop := ∃ k t n, k = k₀ + (i : Int) ∧ nx = g (listOf #[.ref c, .int k t] n)
theorem deck_elt {h₀ h' : Heap} {L : Addr} {m : Str → Option Value} {s₁ : Shared} {I C D c dk : Addr} {oI oC oD od : Obj} {g : Obj → List (Addr × Obj)} {news : List (Addr × Obj)} {k₀ k : Int} {i n tk' : Nat} {t u : Tok} {sxs : List Str} {x : Str} (U : UpdF dk od news g) (F : Fr h₀ L h' m)
    (N : News h₀ L h' ((I, oI) :: (C, oC) :: (D, oD) :: g (listOf #[.ref c, .int k t] n))) (off : LCg.Off3 I C D news) (e : k = k₀ + ((i + 1 : Nat) : Int)) (hx : x ∈ sxs) :
    EltEndJ h₀ L m s₁ I oI C oC D oD (DeckAt g c k₀ (i + 1)) (fun v => ∃ x t, v = Value.str x t) (Value.str x u) { s₁ with heap := h', toks := tk' } :=
  ⟨h', tk', _, rfl, F, N, off3_upd U off, ⟨k, t, n, e, rfl⟩, x, u, rfl⟩
theorem strs_some : ∀ ys : List Value, (∀ v ∈ ys, ∃ x t, v = Value.str x t) → ∃ xs, StrsAre ys xs
  | [], _ => ⟨[], .nil⟩
  | y :: ys, h => by
    obtain ⟨x, t, rfl⟩ := h y (.head _)
    obtain ⟨xs, hx⟩ := strs_some ys fun v hv => h v (.tail _ hv)
    exact ⟨x :: xs, .cons x t hx⟩
section
variable {prog : Program} {w : World} {A : Around} {h₀ : Heap} {L : Addr} {m : Str → Option Value} {env : Env} {elt : Expr} {x : Str} {scope : Scope} {cl : List (Str × Addr)} {Fin : Shared → List Value → List (Addr × Obj) → Prop} {s₁ : Shared}
def RowEnd (h₀ : Heap) (L : Addr) (m : Str → Option Value) (s₁ : Shared) (I : Addr) (oI : Obj) (C : Addr) (oC : Obj) (D : Addr) (ys : List Value) (sl : Addr) (os : Obj) (dk c : Addr) (oc : Obj) (e1 e2 : Addr × Obj) (k : Int) (y : Value) (s₂ : Shared) : Prop :=
  ∃ h' tk' x u t' n', s₂ = { s₁ with heap := h', toks := tk' } ∧ Fr h₀ L h' m ∧ News h₀ L h' [(I, oI), (C, oC), (D, LCg.lst ys), (sl, os), (dk, listOf #[.ref c, .int (k + 1) t'] n'), (c, oc), e1, e2] ∧ y = Value.str x u
theorem row_end {h₀ h' : Heap} {L I C D sl dk c : Addr} {m : Str → Option Value} {s₁ : Shared} {oI oC os oc : Obj} {ys : List Value} {e1 e2 : Addr × Obj} {k : Int} {x : Str} {u t' : Tok} {n' tk' : Nat} (F : Fr h₀ L h' m) (N : News h₀ L h' [(I, oI), (C, oC), (D, LCg.lst ys), (sl, os), (dk, listOf #[.ref c, .int (k + 1) t'] n'), (c, oc), e1, e2]) :
    RowEnd h₀ L m s₁ I oI C oC D ys sl os dk c oc e1 e2 k (.str x u) { s₁ with heap := h', toks := tk' } := ⟨h', tk', x, u, t', n', rfl, F, N, rfl⟩
theorem row_src {sl dk c r : Addr} {os oc : Obj} {e1 e2 : Addr × Obj} {k₀ : Int} {t₀ u₀ u₁ u₂ : Tok} {n₀ rn : Nat} (hh : A.handled = none) (F : Fr h₀ L s₁.heap m) (N : News h₀ L s₁.heap [(sl, os), (dk, listOf #[.ref c, .int k₀ t₀] n₀), (c, oc), e1, e2])
    (hr : IsRange s₁.heap r 0 (rn : Int) 1 u₀ u₁ u₂) (hrn : rn ≤ 11)
    (turn : ∀ i k t n I oI C oC D m₂ ys h tk (E' : Value → Shared → Prop), i < rn → k = k₀ + (i : Int) → LCg.NsObj oC m₂ → Fr h₀ L h m → News h₀ L h [(I, oI), (C, oC), (D, LCg.lst ys), (sl, os), (dk, listOf #[.ref c, .int k t] n), (c, oc), e1, e2] → LCg.Off3 I C D [(sl, os), (dk, listOf #[.ref c, .int k t] n), (c, oc), e1, e2] → ((@Ne Nat I C) ∧ (@Ne Nat I D) ∧ (@Ne Nat C D)) →
      wpAny (model prog w) A (eval elt (compEnvC scope cl C env)) (RowEnd h₀ L m s₁ I oI C oC D ys sl os dk c oc e1 e2 k) E' { s₁ with heap := h, toks := tk })
    (fin : ∀ g ys xs k t n, StrsAre ys xs → xs.length = rn → Fin { s₁ with heap := g } ys [(sl, os), (dk, listOf #[.ref c, .int k t] n), (c, oc), e1, e2]) : LCg.CompSrc prog w A h₀ L m env elt x scope cl Fin (.ref r) s₁ := by
  have hsm : Builtin.Range.small 0 (rn : Int) 1 = true := small_one (by omega) (by omega) (by omega) (by omega)
  have hsz : Builtin.Range.rangeSize 0 (rn : Int) 1 = ((rn : Nat) : Int) := by rw [rangeSize_nat]; omega
  refine LCg.CompSrc.range hh F N hr hsm hsz (by rw [PySem.sizeLine_eq]; omega) ?_
  intro g
  refine comp_restJ (fun v => ∃ x t, v = Value.str x t) (fun i nx => ∃ k t n, k = k₀ + (i : Int) ∧ nx = [(sl, os), (dk, listOf #[.ref c, .int k t] n), (c, oc), e1, e2]) ⟨k₀, t₀, n₀, by simp, rfl⟩ ?_ ?_
  · rintro i v I oI C oC D m₂ ys h tk nx E' hi _ ⟨k, t, n, hk, rfl⟩ hC _ F₁ N₁ off ne
    refine wpAny_mono (turn i k t n I oI C oC D m₂ ys h tk E' hi hk hC F₁ N₁ off ne) (fun y s₂ hq => ?_) fun _ _ e => e
    obtain ⟨h', tk', x, u, t', n', rfl, F₂, N₂, rfl⟩ := hq
    refine ⟨h', tk', _, rfl, F₂, N₂, ?_, ⟨k + 1, t', n', by rw [hk]; push_cast; omega, rfl⟩, x, u, rfl⟩
    exact off
  · rintro ys nx hl hy ⟨k, t, n, _, rfl⟩
    obtain ⟨xs, hx⟩ := strs_some ys hy
    exact fin g ys xs k t n hx (by rw [← hx.length, hl])
end
end

section
open PySem PySem.W PyProof.Rows PySem.Calls PySem.Spec PySem.SeqAt
set_option Elab.async false
set_option maxRecDepth 100000
set_option maxHeartbeats 8000000
section
variable {prog : Program} {w : World} {A : Around} {E : Value → Shared → Prop} {s : Shared} {h₀ : Heap} {L l b : Addr} {m : Str → Option Value} {news : List (Addr × Obj)} {vs ws : List Value} {n n' : Nat} {Q : Value → Shared → Prop}
theorem copy_strs (F : Fr h₀ L s.heap m) (N : News h₀ L s.heap news) (hm : (l, listOf vs.toArray n) ∈ news) (hsz : vs.length ≤ 100)
    (h : ∀ D h' c', Fr h₀ L h' m → News h₀ L h' ((D, listOf vs.toArray c') :: news) → Q (.ref D) { s with heap := h' }) : wpAny (model prog w) A (call (.type "list") [.ref l]) Q E s := by
  have ho := (N _ hm).1
  refine call_list_seq (hsz := by rw [List.size_toArray, PySem.sizeLine_eq]; omega) l (.inl rfl) ho rfl rfl fun h' c' hk hD => ?_
  refine h _ h' c' (F.keeps hk) (fun p hp => ?_)
  rcases List.mem_cons.mp hp with rfl | hp
  · exact ⟨hD, Nat.ne_of_gt F.ns.lt, none_at_size F⟩
  · exact ⟨hk _ _ (N p hp).1, (N p hp).2⟩
theorem add_refs (F : Fr h₀ L s.heap m) (N : News h₀ L s.heap news) (hl : (l, listOf vs.toArray n) ∈ news) (hb : (b, listOf ws.toArray n') ∈ news) (hv : vs.length ≤ 100) (hw : ws.length ≤ 100)
    (h : ∀ D h', Fr h₀ L h' m → News h₀ L h' ((D, listOf (vs ++ ws).toArray 0) :: news) → Q (.ref D) { s with heap := h' }) :
    wpAny (model prog w) A (binaryOp .Add (.ref l) (.ref b)) Q E s :=
  add_lists F N (isList_of_get (N _ hl).1) (isList_of_get (N _ hb).1) (fun h' F' N' => h _ h' F' N') (by rw [PySem.sizeLine_eq]; omega)
theorem eq_strs_anyT {xs : List Str} (N : News h₀ L s.heap news) (hl : (l, listOf vs.toArray n) ∈ news) (hb : (b, listOf ws.toArray n') ∈ news) (hv : True → StrsAre vs xs) (hw : True → StrsAre ws xs) (hu : A.units < cLine) : EqAt A s (.ref l) (.ref b) true :=
  eq_strs_any N hl hb (hv trivial) (hw trivial) hu
theorem cmp_eq_nested' (N : News h₀ L s.heap news) (hl : (l, listOf vs.toArray n) ∈ news) (hb : (b, listOf ws.toArray n') ∈ news) (hu : A.units < cLine) (he : EqsAll A.in1 s vs ws) (h : Q (.bool true) s) :
    wpAny (model prog w) A (compareOp .Eq (.ref l) (.ref b)) Q E s := cmp_eq_nested (isList_of_get (N _ hl).1) (isList_of_get (N _ hb).1) hu he h
end
theorem strs_eq {vs : List Value} {a b : List Str} (e : a = b) (h : StrsAre vs a) : StrsAre vs b := e ▸ h
theorem lists_cons {h h' : Heap} {y : List Str} {ys : List (List Str)} : ∀ {vs : List Value}, ListsAre h h' vs (y :: ys) → ∃ v vs', vs = v :: vs' ∧ NewStrs h h' v y ∧ ListsAre h h' vs' ys
  | [], H => H.elim
  | v :: vs, H => ⟨v, vs, rfl, H.1, H.2⟩
theorem lists_nil {h h' : Heap} : ∀ {vs : List Value}, ListsAre h h' vs [] → vs = []
  | [], _ => rfl
  | _ :: _, H => H.elim
inductive SevenNews (h₀ : Heap) (L : Addr) (h' : Heap) (news : List (Addr × Obj)) (y1 y2 y3 y4 y5 y6 y7 : List Str) : Value → Prop
  | mk (a : Addr) (n : Nat) (l1 : Addr) (v1 : List Value) (n1 : Nat) (l2 : Addr) (v2 : List Value) (n2 : Nat) (l3 : Addr) (v3 : List Value) (n3 : Nat) (l4 : Addr) (v4 : List Value) (n4 : Nat) (l5 : Addr) (v5 : List Value) (n5 : Nat) (l6 : Addr) (v6 : List Value) (n6 : Nat) (l7 : Addr) (v7 : List Value) (n7 : Nat) :
      News h₀ L h' ((a, listOf #[.ref l1, .ref l2, .ref l3, .ref l4, .ref l5, .ref l6, .ref l7] n) :: (l1, listOf v1.toArray n1) :: (l2, listOf v2.toArray n2) :: (l3, listOf v3.toArray n3) :: (l4, listOf v4.toArray n4) :: (l5, listOf v5.toArray n5) :: (l6, listOf v6.toArray n6) :: (l7, listOf v7.toArray n7) :: news) →
      (True → StrsAre v1 y1) → (True → StrsAre v2 y2) → (True → StrsAre v3 y3) → (True → StrsAre v4 y4) → (True → StrsAre v5 y5) → (True → StrsAre v6 y6) → (True → StrsAre v7 y7) → SevenNews h₀ L h' news y1 y2 y3 y4 y5 y6 y7 (.ref a)
theorem news_cons {h₀ h : Heap} {L b : Addr} {o : Obj} {news : List (Addr × Obj)} (x : h.get? b = some o ∧ b ≠ L ∧ h₀.get? b = none) (N : News h₀ L h news) : News h₀ L h ((b, o) :: news) := by
  intro p hp
  rcases List.mem_cons.mp hp with rfl | hp
  · exact x
  · exact N p hp
theorem seven_news {h₀ h h' : Heap} {L : Addr} {m : Str → Option Value} {news : List (Addr × Obj)} {r : Value} {y1 y2 y3 y4 y5 y6 y7 : List Str} (F : Fr h₀ L h m) (N : News h₀ L h news) (st : h.StaysIn h') (H : NewLists h h' r [y1, y2, y3, y4, y5, y6, y7]) :
    SevenNews h₀ L h' news y1 y2 y3 y4 y5 y6 y7 r := by
  obtain ⟨a, vs, n, rfl, ha, ha', hL⟩ := H
  obtain ⟨w1, u1, rfl, ⟨l1, v1, n1, rfl, p1, q1, s1⟩, g1⟩ := lists_cons hL
  obtain ⟨w2, u2, rfl, ⟨l2, v2, n2, rfl, p2, q2, s2⟩, g2⟩ := lists_cons g1
  obtain ⟨w3, u3, rfl, ⟨l3, v3, n3, rfl, p3, q3, s3⟩, g3⟩ := lists_cons g2
  obtain ⟨w4, u4, rfl, ⟨l4, v4, n4, rfl, p4, q4, s4⟩, g4⟩ := lists_cons g3
  obtain ⟨w5, u5, rfl, ⟨l5, v5, n5, rfl, p5, q5, s5⟩, g5⟩ := lists_cons g4
  obtain ⟨w6, u6, rfl, ⟨l6, v6, n6, rfl, p6, q6, s6⟩, g6⟩ := lists_cons g5
  obtain ⟨w7, u7, rfl, ⟨l7, v7, n7, rfl, p7, q7, s7⟩, g7⟩ := lists_cons g6
  obtain rfl := lists_nil g7
  have one : ∀ (b : Addr) (o : Obj), h.get? b = none → h'.get? b = some o → h'.get? b = some o ∧ b ≠ L ∧ h₀.get? b = none := fun b o hb ho => news_new F N st hb ho (b, o) (.head _)
  exact .mk a n l1 v1 n1 l2 v2 n2 l3 v3 n3 l4 v4 n4 l5 v5 n5 l6 v6 n6 l7 v7 n7 (news_cons (one _ _ ha ha') (news_cons (one _ _ p1 q1) (news_cons (one _ _ p2 q2) (news_cons (one _ _ p3 q3) (news_cons (one _ _ p4 q4) (news_cons (one _ _ p5 q5) (news_cons (one _ _ p6 q6) (news_cons (one _ _ p7 q7) (news_stay N st))))))))) (fun _ => s1) (fun _ => s2) (fun _ => s3) (fun _ => s4) (fun _ => s5) (fun _ => s6) (fun _ => s7)
end

section
open PySem PySem.W PyProof.Rows PySem.Calls PySem.Spec
set_option maxRecDepth 100000
namespace Pl
theorem snoc_ind {α : Type} {P : List α → Prop} (h0 : P []) (h1 : ∀ l a, P l → P (l ++ [a])) : ∀ l, P l := by
  intro l
  rw [← List.reverse_reverse l]
  induction l.reverse with
  | nil => exact h0
  | cons a r ih => rw [List.reverse_cons]; exact h1 _ _ ih
theorem map_range_congr {α : Type} {f g : Nat → α} {n : Nat} (h : ∀ i, i < n → f i = g i) : (List.range n).map f = (List.range n).map g :=
  List.map_congr_left fun i hi => h i (List.mem_range.mp hi)
theorem map_range_snoc {α : Type} {f g : Nat → α} {n : Nat} {y : α} (h : ∀ i, i < n → f i = g i) (e : f n = y) : (List.range (n + 1)).map f = (List.range n).map g ++ [y] := by
  rw [List.range_succ, List.map_append, map_range_congr h, ← e]; rfl
theorem getD_snoc_lt {l : List Str} {k : Str} {i : Nat} (h : i < l.length) : (l ++ [k]).getD i Str.empty = l.getD i Str.empty := by
  rw [List.getD_eq_getElem?_getD, List.getD_eq_getElem?_getD, List.getElem?_append_left h]
theorem getD_snoc {l : List Str} {k : Str} : (l ++ [k]).getD l.length Str.empty = k := by
  rw [List.getD_eq_getElem?_getD, List.getElem?_append_right (Nat.le_refl _), Nat.sub_self]; rfl
theorem backP_snoc_lt {b k : Str} {l : List Str} {i : Nat} (h : i ≤ l.length) : backP b (l ++ [k]) i = backP b l i := by
  unfold backP
  rw [List.take_append_of_le_length h]
theorem backP_len {b : Str} {l l' : List Str} : backP b (l ++ l') l.length = ((l.filter strongK).getLast?).getD b := by
  unfold backP
  rw [List.take_append_of_le_length (Nat.le_refl _), List.take_length]
/-- P2 -/
theorem numsL_back (b : Str) : ∀ l, numsL b l = ((l.filter strongK).getLast?).getD b := by
  refine snoc_ind rfl fun l a ih => ?_
  rw [numsL_snoc, ih, List.filter_append]
  unfold strongOf
  by_cases h : isStrong a = true
  · have h' : strongK a = true := h
    rw [if_pos h]
    simp [h']
  · have h' : ¬ strongK a = true := h
    rw [if_neg h]
    simp [h']
def twoOneQ (b : Str) (xs : List Str) (i : Nat) : Str := if (xs.getD i Str.empty == Str.ofString "EN") = true then (if (backP b xs i == Str.ofString "AL") = true then Str.ofString "AN" else xs.getD i Str.empty) else xs.getD i Str.empty
theorem nums_two (b : Str) : ∀ l, numsP b l = (List.range l.length).map (twoOneQ b l) := by
  refine snoc_ind rfl fun l a ih => ?_
  rw [numsP_snoc, ih, List.length_append, List.length_singleton]
  refine (map_range_snoc (fun i hi => ?_) ?_).symm
  · unfold twoOneQ
    rw [getD_snoc_lt hi, backP_snoc_lt (Nat.le_of_lt hi)]
  · unfold twoOneQ numOne
    rw [getD_snoc, backP_len, numsL_back]
    by_cases h : (a == Str.ofString "EN") = true
    · have e : a = Str.ofString "EN" := eq_of_beq h
      have hs : isStrong a = false := by rw [e]; decide
      rw [if_pos h, if_pos h]
      unfold strongOf
      rw [hs]; rfl
    · rw [if_neg h, if_neg h]
/-- P7 -/
def noAL (l : List Str) : Prop := ∀ k ∈ l, k ≠ Str.ofString "AL"
theorem strongL_eq {k : Str} (h : k ≠ Str.ofString "AL") : isStrongL k = strongK k := by
  unfold isStrongL strongK
  have : (Str.ofString "AL" == k) = false := by
    rw [beq_eq_false_iff_ne]; exact fun e => h e.symm
  simp [List.any, this]
theorem leftsL_back (b : Str) : ∀ l, noAL l → leftsL b l = ((l.filter strongK).getLast?).getD b := by
  refine snoc_ind (fun _ => rfl) fun l a ih hn => ?_
  have ha : a ≠ Str.ofString "AL" := hn a (by simp)
  rw [leftsL_snoc, ih (fun k hk => hn k (by simp [hk])), List.filter_append]
  unfold strongOfL
  rw [strongL_eq ha]
  by_cases h : strongK a = true
  · rw [if_pos h]
    simp [h]
  · rw [if_neg h]
    simp [h]
def sevenOneQ (b : Str) (xs : List Str) (i : Nat) : Str := if (xs.getD i Str.empty == Str.ofString "EN") = true then (if (backP b xs i == Str.ofString "L") = true then Str.ofString "L" else xs.getD i Str.empty) else xs.getD i Str.empty
theorem lefts_seven (b : Str) : ∀ l, noAL l → leftsP b l = (List.range l.length).map (sevenOneQ b l) := by
  refine snoc_ind (fun _ => rfl) fun l a ih hn => ?_
  have hn' : noAL l := fun k hk => hn k (by simp [hk])
  rw [leftsP_snoc, ih hn', List.length_append, List.length_singleton]
  refine (map_range_snoc (fun i hi => ?_) ?_).symm
  · unfold sevenOneQ
    rw [getD_snoc_lt hi, backP_snoc_lt (Nat.le_of_lt hi)]
  · unfold sevenOneQ leftOne
    rw [getD_snoc, backP_len, leftsL_back b l hn']
    by_cases h : (a == Str.ofString "EN") = true
    · have e : a = Str.ofString "EN" := eq_of_beq h
      have hs : isStrongL a = false := by rw [e]; decide
      rw [if_pos h, if_pos h]
      unfold strongOfL
      rw [hs]; rfl
    · rw [if_neg h, if_neg h]
/-- P1 -/
theorem nb_snoc {l : List Str} {k : Str} : ∀ i, i ≤ l.length → nb (l ++ [k]) i = nb l i
  | 0, _ => rfl
  | i + 1, h => by
    unfold nb
    rw [getD_snoc_lt (by omega), nb_snoc i (by omega)]
theorem nb_lt {l : List Str} : ∀ i j, nb l i = some j → j < i
  | 0, _, h => by cases h
  | i + 1, j, h => by
    unfold nb at h
    split at h
    · exact Nat.lt_succ_of_lt (nb_lt i j h)
    · cases h; exact Nat.lt_succ_self _
def qP (b : Str) (l : List Str) : Str := match nb l l.length with
  | none => b
  | some j => if (isoT.any (· == l.getD j Str.empty)) = true then Str.ofString "ON" else l.getD j Str.empty
def fixP (x : Str) : Str := if (isoT.any (· == x)) = true then Str.ofString "ON" else x
theorem fix_fix (x : Str) : fixP (fixP x) = fixP x := by
  unfold fixP
  by_cases h : (isoT.any (· == x)) = true
  · rw [if_pos h]; decide
  · rw [if_neg h, if_neg h]
theorem qP_nsm {b k : Str} {l : List Str} (h : (k == Str.ofString "NSM") = true) : qP b (l ++ [k]) = qP b l := by
  unfold qP
  have e : nb (l ++ [k]) (l ++ [k]).length = nb l l.length := by
    rw [List.length_append, List.length_singleton]
    conv => lhs; unfold nb
    rw [getD_snoc, if_pos h, nb_snoc _ (Nat.le_refl _)]
  rw [e]
  cases hn : nb l l.length with
  | none => rfl
  | some j =>
    have := nb_lt _ _ hn
    simp only [getD_snoc_lt this]
theorem marksL_q (b : Str) (hb : fixP b = b) : ∀ l, fixP (marksL b l) = qP b l := by
  refine snoc_ind hb fun l k ih => ?_
  rw [marksL_snoc]
  unfold markOne
  by_cases h : (k == Str.ofString "NSM") = true
  · rw [if_pos h, qP_nsm h, ← ih]
    exact fix_fix _
  · rw [if_neg h]
    unfold qP
    have e : nb (l ++ [k]) (l ++ [k]).length = some l.length := by
      rw [List.length_append, List.length_singleton]
      unfold nb
      rw [getD_snoc, if_neg h]
    rw [e]
    simp only [getD_snoc]
    rfl
theorem marks_marked (b : Str) (hb : fixP b = b) : ∀ l, marksP b l = (List.range l.length).map (markedOne b l) := by
  refine snoc_ind rfl fun l k ih => ?_
  rw [marksP_snoc, ih, List.length_append, List.length_singleton]
  refine (map_range_snoc (fun i hi => ?_) ?_).symm
  · unfold markedOne
    rw [getD_snoc_lt hi, nb_snoc (i + 1) (by omega)]
    cases hn : nb l (i + 1) with
    | none => rfl
    | some j =>
      have := nb_lt _ _ hn
      simp only [getD_snoc_lt (show j < l.length by omega)]
  · by_cases h : (k == Str.ofString "NSM") = true
    · have e1 : markOne (marksL b l) k = qP b (l ++ [k]) := by
        unfold markOne
        rw [if_pos h, qP_nsm h, ← marksL_q b hb l]; rfl
      rw [e1]
      unfold markedOne qP
      rw [getD_snoc, if_pos h, List.length_append, List.length_singleton]
      all_goals rfl
    · unfold markedOne markOne
      rw [getD_snoc, if_neg h, if_neg h]
end Pl
end

section
open PySem PySem.W PyProof.Rows PySem.Calls PySem.Spec
set_option maxRecDepth 100000
namespace Pl
theorem sep_three (a k c : Str) : sepOne a k c = if inThree [a, k, c] = true then a else k := by
  have q1 : Str.ofString "ES" ≠ Str.ofString "CS" := by decide
  have q2 : Str.ofString "EN" ≠ Str.ofString "AN" := by decide
  unfold sepOne inThree numT
  generalize Str.ofString "ES" = ES at *
  generalize Str.ofString "CS" = CS at *
  generalize Str.ofString "EN" = EN at *
  generalize Str.ofString "AN" = AN at *
  by_cases h1 : a = c
  · subst h1
    by_cases h2 : k = CS
    · subst h2
      by_cases h3 : a = EN
      · subst h3; simp
      · by_cases h4 : a = AN
        · subst h4; simp [q1, h3, Ne.symm h3]
        · simp [Ne.symm q1, h3, h4, Ne.symm h3, Ne.symm h4]
    · by_cases h5 : k = ES
      · subst h5
        by_cases h3 : a = EN
        · subst h3; simp [h2]
        · simp [h2, h3, Ne.symm h3]
          intro _ h; exact absurd h.symm h2
      · simp [h2, h5, Ne.symm h2, Ne.symm h5]
  · simp only [beq_iff_eq, h1, if_false]
    have : ¬ ((decide ([EN, ES, EN] = [a, k, c]) || decide ([EN, CS, EN] = [a, k, c]) || decide ([AN, CS, AN] = [a, k, c])) = true) := by
      simp only [Bool.or_eq_true, decide_eq_true_eq, List.cons.injEq, and_true]
      rintro ((⟨rfl, _, rfl⟩ | ⟨rfl, _, rfl⟩) | ⟨rfl, _, rfl⟩) <;> exact h1 rfl
    rw [if_neg this]
theorem part3_eq {xs : List Str} {i : Nat} (h : i + 2 < xs.length) : part3 xs i = [xs.getD i Str.empty, xs.getD (i + 1) Str.empty, xs.getD (i + 2) Str.empty] := by
  unfold part3
  rw [List.drop_eq_getElem_cons (by omega), List.drop_eq_getElem_cons (by omega), List.drop_eq_getElem_cons (by omega)]
  simp only [List.take_succ_cons, List.take_zero]
  rw [List.getD_eq_getElem?_getD, List.getD_eq_getElem?_getD, List.getD_eq_getElem?_getD, List.getElem?_eq_getElem (by omega), List.getElem?_eq_getElem (by omega), List.getElem?_eq_getElem (by omega)]
  rfl
theorem set_same {l : List Str} {i : Nat} {x : Str} (h : l[i]? = some x) : l.set i x = l := by
  obtain ⟨hi, e⟩ := List.getElem?_eq_some_iff.mp h
  rw [← e]; exact List.set_getElem_self hi
theorem seps_parts (xs : List Str) : ∀ i, i + 2 ≤ xs.length → sepsI xs i = partsI xs i
  | 0, _ => rfl
  | i + 1, h => by
    have ih := seps_parts xs i (by omega)
    have e : sepsF xs (i + 1) = if inThree (part3 xs i) = true then xs.getD i Str.empty else xs.getD (i + 1) Str.empty := by
      rw [part3_eq (by omega), ← sep_three]; rfl
    rw [sepsI, partsI, e, ← ih]
    by_cases hc : inThree (part3 xs i) = true
    · rw [if_pos hc, if_pos hc]
    · rw [if_neg hc, if_neg hc]
      refine set_same ?_
      rw [sepsI_above xs i (i + 1) (by omega), List.getElem?_eq_getElem (show i + 1 < xs.length by omega), List.getD_eq_getElem?_getD, List.getElem?_eq_getElem (show i + 1 < xs.length by omega)]
      rfl
theorem seps_parts' (xs : List Str) : sepsI xs (xs.length - 2) = partsI xs (xs.length - 2) := by
  by_cases h : 2 ≤ xs.length
  · exact seps_parts xs _ (by omega)
  · rw [show xs.length - 2 = 0 by omega]; rfl
/-- P5 -/
def gX (xs : List Str) (i : Nat) : Str := xs.getD i Str.empty
structure RunOK (xs : List Str) (f e : Nat) : Prop where
  lt : f < e
  le : e ≤ xs.length
  all : ∀ i, f ≤ i → i < e → isET (gX xs i) = true
  left : f = 0 ∨ isET (gX xs (f - 1)) = false
  right : e = xs.length ∨ (e < xs.length ∧ isET (gX xs e) = false)
structure RunInv (xs : List Str) (i : Nat) (st : List (Nat × Nat) × Option Nat) : Prop where
  ok : ∀ p ∈ st.1, p.2 < i ∧ RunOK xs p.1 p.2
  cur : ∀ b, st.2 = some b → b < i ∧ (∀ j, b ≤ j → j < i → isET (gX xs j) = true) ∧ (b = 0 ∨ isET (gX xs (b - 1)) = false)
  non : st.2 = none → i = 0 ∨ isET (gX xs (i - 1)) = false
  cov : ∀ j, j < i → isET (gX xs j) = true → (∃ p ∈ st.1, p.1 ≤ j ∧ j < p.2) ∨ ∃ b, st.2 = some b ∧ b ≤ j
theorem run_inv (xs : List Str) : ∀ i, i ≤ xs.length → RunInv xs i (runsState xs i)
  | 0, _ => ⟨fun _ h => (nomatch h), fun _ h => (nomatch h), fun _ => .inl rfl, fun _ h => absurd h (Nat.not_lt_zero _)⟩
  | i + 1, h => by
    have ih := run_inv xs i (by omega)
    show RunInv xs (i + 1) (runsStep (runsState xs i) i (gX xs i))
    generalize runsState xs i = st at ih
    obtain ⟨ps, o⟩ := st
    obtain ⟨ok, cur, non, cov⟩ := ih
    simp only at ok cur non cov
    unfold runsStep
    by_cases hk : isET (gX xs i) = true
    · rw [if_pos hk]
      cases o with
      | none =>
        refine ⟨fun p hp => ⟨Nat.lt_succ_of_lt (ok p hp).1, (ok p hp).2⟩, ?_, fun e => (nomatch e), ?_⟩
        · intro b hb
          obtain rfl : i = b := Option.some.inj hb
          refine ⟨Nat.lt_succ_self _, fun j h1 h2 => ?_, non rfl⟩
          obtain rfl : j = i := by omega
          exact hk
        · intro j hj hE
          by_cases hji : j < i
          · rcases cov j hji hE with hc | ⟨b, hb, _⟩
            · exact .inl hc
            · cases hb
          · exact .inr ⟨i, rfl, by omega⟩
      | some b =>
        obtain ⟨c1, c2, c3⟩ := cur b rfl
        refine ⟨fun p hp => ⟨Nat.lt_succ_of_lt (ok p hp).1, (ok p hp).2⟩, ?_, fun e => (nomatch e), ?_⟩
        · intro b' hb
          obtain rfl : b = b' := Option.some.inj hb
          refine ⟨Nat.lt_succ_of_lt c1, fun j h1 h2 => ?_, c3⟩
          by_cases hji : j < i
          · exact c2 j h1 hji
          · obtain rfl : j = i := by omega
            exact hk
        · intro j hj hE
          by_cases hji : j < i
          · exact cov j hji hE
          · exact .inr ⟨b, rfl, by omega⟩
    · have hk' : isET (gX xs i) = false := by simpa using hk
      rw [if_neg hk]
      cases o with
      | none =>
        refine ⟨fun p hp => ⟨Nat.lt_succ_of_lt (ok p hp).1, (ok p hp).2⟩, fun b hb => (nomatch hb), fun _ => .inr hk', ?_⟩
        intro j hj hE
        by_cases hji : j < i
        · exact cov j hji hE
        · obtain rfl : j = i := by omega
          rw [hk'] at hE; cases hE
      | some b =>
        obtain ⟨c1, c2, c3⟩ := cur b rfl
        refine ⟨?_, fun b hb => (nomatch hb), fun _ => .inr hk', ?_⟩
        · intro p hp
          rcases List.mem_append.mp hp with hp | hp
          · exact ⟨Nat.lt_succ_of_lt (ok p hp).1, (ok p hp).2⟩
          · obtain rfl := List.mem_singleton.mp hp
            exact ⟨Nat.lt_succ_self _, c1, by show i ≤ _; omega, c2, c3, .inr ⟨by show i < _; omega, hk'⟩⟩
        · intro j hj hE
          by_cases hji : j < i
          · rcases cov j hji hE with ⟨p, hp, hc⟩ | ⟨b', hb, hbj⟩
            · exact .inl ⟨p, List.mem_append_left _ hp, hc⟩
            · obtain rfl : b = b' := Option.some.inj hb
              exact .inl ⟨(b, i), by simp, hbj, hji⟩
          · obtain rfl : j = i := by omega
            rw [hk'] at hE; cases hE
theorem runs_spec (xs : List Str) : (∀ p ∈ runsP xs, RunOK xs p.1 p.2) ∧ ∀ j, j < xs.length → isET (gX xs j) = true → ∃ p ∈ runsP xs, p.1 ≤ j ∧ j < p.2 := by
  obtain ⟨ok, cur, non, cov⟩ := run_inv xs xs.length (Nat.le_refl _)
  unfold runsP
  generalize runsState xs xs.length = st at *
  obtain ⟨ps, o⟩ := st
  simp only at ok cur non cov ⊢
  cases o with
  | none =>
    refine ⟨fun p hp => (ok p hp).2, fun j hj hE => ?_⟩
    rcases cov j hj hE with hc | ⟨b, hb, _⟩
    · exact hc
    · cases hb
  | some b =>
    obtain ⟨c1, c2, c3⟩ := cur b rfl
    refine ⟨fun p hp => ?_, fun j hj hE => ?_⟩
    · rcases List.mem_append.mp hp with hp | hp
      · exact (ok p hp).2
      · obtain rfl := List.mem_singleton.mp hp
        exact ⟨c1, Nat.le_refl _, c2, c3, .inl rfl⟩
    · rcases cov j hj hE with ⟨p, hp, hc⟩ | ⟨b', hb, hbj⟩
      · exact ⟨p, List.mem_append_left _ hp, hc⟩
      · obtain rfl : b = b' := Option.some.inj hb
        exact ⟨(b, xs.length), by simp, hbj, hj⟩
theorem setR_get (l : List Str) (f : Nat) : ∀ k i, i < l.length → (setR l f k)[i]? = if f ≤ i ∧ i < f + k then some (Str.ofString "EN") else l[i]?
  | 0, i, _ => by rw [if_neg (by omega)]; rfl
  | k + 1, i, h => by
    have ih := setR_get l f k i h
    have hl := setR_length l f k
    rw [setR, List.getElem?_set]
    by_cases e : f + k = i
    · rw [if_pos e, if_pos (by omega), if_pos (by omega)]
    · rw [if_neg e, ih]
      by_cases c : f ≤ i ∧ i < f + k
      · rw [if_pos c, if_pos (by omega)]
      · rw [if_neg c, if_neg (by omega)]
theorem terms_get (xs : List Str) (ps : List (Nat × Nat)) (hps : ∀ p ∈ ps, p.1 < p.2) : ∀ k i, i < xs.length →
    ((∃ p ∈ ps.take k, p.1 ≤ i ∧ i < p.2 ∧ besideEN xs p.1 p.2 = true) → (termsI xs ps k)[i]? = some (Str.ofString "EN")) ∧
    ((¬ ∃ p ∈ ps.take k, p.1 ≤ i ∧ i < p.2 ∧ besideEN xs p.1 p.2 = true) → (termsI xs ps k)[i]? = xs[i]?)
  | 0, i, _ => ⟨fun ⟨p, hp, _⟩ => by simp at hp, fun _ => rfl⟩
  | k + 1, i, h => by
    obtain ⟨ihA, ihB⟩ := terms_get xs ps hps k i h
    have hlen : (termsI xs ps k).length = xs.length := termsI_length xs ps k
    rw [termsI]
    cases hk : ps[k]? with
    | none =>
      have e : ps.take (k + 1) = ps.take k := by rw [List.take_add_one, hk]; simp
      rw [e]
      exact ⟨ihA, ihB⟩
    | some p =>
      obtain ⟨f, e⟩ := p
      have hfe : f < e := hps (f, e) (List.mem_of_getElem? hk)
      rw [take_snoc hk]
      simp only
      by_cases hb : besideEN xs f e = true
      · rw [if_pos hb, setR_get _ f (e - f) i (by omega)]
        by_cases c : f ≤ i ∧ i < e
        · rw [if_pos (by omega)]
          exact ⟨fun _ => rfl, fun hn => absurd ⟨(f, e), by simp, c.1, c.2, hb⟩ hn⟩
        · rw [if_neg (by omega)]
          refine ⟨fun ⟨p, hp, h1, h2, h3⟩ => ?_, fun hn => ihB fun ⟨p, hp, hq⟩ => hn ⟨p, List.mem_append_left _ hp, hq⟩⟩
          rcases List.mem_append.mp hp with hp | hp
          · exact ihA ⟨p, hp, h1, h2, h3⟩
          · obtain rfl := List.mem_singleton.mp hp
            exact absurd ⟨h1, h2⟩ c
      · rw [if_neg hb]
        refine ⟨fun ⟨p, hp, h1, h2, h3⟩ => ?_, fun hn => ihB fun ⟨p, hp, hq⟩ => hn ⟨p, List.mem_append_left _ hp, hq⟩⟩
        rcases List.mem_append.mp hp with hp | hp
        · exact ihA ⟨p, hp, h1, h2, h3⟩
        · obtain rfl := List.mem_singleton.mp hp
          exact absurd h3 hb
theorem isET_beq (k : Str) : isET k = (k == Str.ofString "ET") := by
  unfold isET
  show (Str.ofString "ET" == k || false) = _
  rw [Bool.or_false, Bool.beq_comm]
theorem ends_get (xs : List Str) : ∀ k i, i < xs.length → (endI xs k)[i]? = if i < k ∧ isET (gX xs i) = true ∧ endB xs i = true then some (Str.ofString "EN") else xs[i]?
  | 0, i, _ => by rw [if_neg (by omega)]; rfl
  | k + 1, i, h => by
    have ih := ends_get xs k i h
    have hl := endI_length xs k
    rw [endI]
    rw [show (xs.getD k Str.empty == Str.ofString "ET") = isET (gX xs k) from (isET_beq _).symm]
    by_cases h1 : isET (gX xs k) = true
    · rw [if_pos h1]
      by_cases h2 : endB xs k = true
      · rw [if_pos h2, List.getElem?_set]
        by_cases e : k = i
        · subst e
          rw [if_pos rfl, if_pos (by omega), if_pos ⟨by omega, h1, h2⟩]
        · rw [if_neg e, ih]
          by_cases c : i < k ∧ isET (gX xs i) = true ∧ endB xs i = true
          · rw [if_pos c, if_pos ⟨by omega, c.2⟩]
          · rw [if_neg c, if_neg (fun c' => c ⟨by omega, c'.2⟩)]
      · rw [if_neg h2, ih]
        by_cases c : i < k ∧ isET (gX xs i) = true ∧ endB xs i = true
        · rw [if_pos c, if_pos ⟨by omega, c.2⟩]
        · rw [if_neg c, if_neg]
          rintro ⟨c1, c2, c3⟩
          by_cases e : k = i
          · subst e; exact h2 c3
          · exact c ⟨by omega, c2, c3⟩
    · rw [if_neg h1, ih]
      by_cases c : i < k ∧ isET (gX xs i) = true ∧ endB xs i = true
      · rw [if_pos c, if_pos ⟨by omega, c.2⟩]
      · rw [if_neg c, if_neg]
        rintro ⟨c1, c2, c3⟩
        by_cases e : k = i
        · subst e; exact h1 c2
        · exact c ⟨by omega, c2, c3⟩
theorem seg_nil {xs : List Str} {f e : Nat} (h : ∀ j, f ≤ j → j < e → isET (gX xs j) = true) : ((xs.take e).drop f).filter notET = [] := by
  rw [List.filter_eq_nil_iff]
  intro x hx
  obtain ⟨j, hj⟩ := List.mem_iff_getElem?.mp hx
  rw [List.getElem?_drop, List.getElem?_take] at hj
  split at hj
  · rename_i hlt
    have := h (f + j) (by omega) hlt
    unfold gX at this
    rw [List.getD_eq_getElem?_getD, hj, isET_beq] at this
    unfold notET
    simp only [Option.getD_some] at this
    rw [this]; decide
  · cases hj
theorem near_eq {xs : List Str} {f e i : Nat} (R : RunOK xs f e) (h1 : f ≤ i) (h2 : i < e) : nearP xs i = if 0 < f then [gX xs (f - 1)] else [] := by
  have hle := R.le
  unfold nearP
  have e0 : xs.take i = xs.take f ++ (xs.take i).drop f := by
    conv => lhs; rw [← List.take_append_drop f (xs.take i)]
    rw [List.take_take, Nat.min_eq_left h1]
  rw [e0, List.reverse_append, List.filter_append, List.filter_reverse, seg_nil (fun j a b => R.all j a (by omega))]
  simp only [List.reverse_nil, List.nil_append]
  rcases R.left with h0 | h0
  · subst h0; simp
  · by_cases hf : 0 < f
    · rw [if_pos hf]
      have hx : xs[f - 1]? = some (gX xs (f - 1)) := by
        unfold gX
        rw [List.getD_eq_getElem?_getD, List.getElem?_eq_getElem (show f - 1 < xs.length by omega)]; rfl
      have e1 : xs.take f = xs.take (f - 1) ++ [gX xs (f - 1)] := by
        have := take_snoc hx
        rw [show f - 1 + 1 = f by omega] at this
        exact this
      rw [e1, List.reverse_append]
      have hn : notET (gX xs (f - 1)) = true := by
        rw [isET_beq] at h0
        unfold notET; rw [h0]; rfl
      simp [hn]
    · rw [if_neg hf, show f = 0 by omega]; simp
theorem far_eq {xs : List Str} {f e i : Nat} (R : RunOK xs f e) (h1 : f ≤ i) (h2 : i < e) : farP xs i = if e < xs.length then [gX xs e] else [] := by
  have hle := R.le
  unfold farP
  have e0 : xs.drop (i + 1) = (xs.take e).drop (i + 1) ++ xs.drop e := by
    conv => lhs; rw [← List.take_append_drop e xs]
    rw [List.drop_append_of_le_length (by rw [List.length_take]; omega)]
  rw [e0, List.filter_append, seg_nil (fun j a b => R.all j (by omega) b), List.nil_append]
  rcases R.right with h0 | ⟨h0, h3⟩
  · rw [if_neg (by omega), h0]; simp
  · rw [if_pos h0, List.drop_eq_getElem_cons h0]
    have hx : xs[e] = gX xs e := by
      unfold gX
      rw [List.getD_eq_getElem?_getD, List.getElem?_eq_getElem h0]; rfl
    have hn : notET (gX xs e) = true := by
      rw [isET_beq] at h3
      unfold notET; rw [h3]; rfl
    rw [hx]
    simp [hn]
theorem end_beside {xs : List Str} {f e i : Nat} (R : RunOK xs f e) (h1 : f ≤ i) (h2 : i < e) : endB xs i = besideEN xs f e := by
  unfold endB besideEN leftOf rightOf
  rw [near_eq R h1 h2, far_eq R h1 h2]
  by_cases a : 0 < f <;> by_cases c : e < xs.length <;> simp [a, c, isO, gX]
theorem terms_ends (xs : List Str) : termsI xs (runsP xs) (runsP xs).length = endI xs xs.length := by
  obtain ⟨ok, cov⟩ := runs_spec xs
  apply List.ext_getElem?
  intro i
  by_cases hi : i < xs.length
  · obtain ⟨tA, tB⟩ := terms_get xs (runsP xs) (fun p hp => (ok p hp).lt) (runsP xs).length i hi
    rw [List.take_length] at tA tB
    rw [ends_get xs xs.length i hi]
    by_cases hE : isET (gX xs i) = true
    · obtain ⟨p, hp, h1, h2⟩ := cov i hi hE
      have eb := end_beside (ok p hp) h1 h2
      by_cases hb : endB xs i = true
      · rw [if_pos ⟨hi, hE, hb⟩]
        exact tA ⟨p, hp, h1, h2, eb ▸ hb⟩
      · rw [if_neg (fun c => hb c.2.2)]
        refine tB fun ⟨q, hq, g1, g2, g3⟩ => hb ?_
        rw [end_beside (ok q hq) g1 g2]; exact g3
    · rw [if_neg (fun c => hE c.2.1)]
      exact tB fun ⟨q, hq, g1, g2, g3⟩ => hE ((ok q hq).all i g1 g2)
  · rw [List.getElem?_eq_none (by rw [termsI_length]; omega), List.getElem?_eq_none (by rw [endI_length]; omega)]
end Pl
end

section
open PySem PySem.W PyProof.Rows PySem.Calls PySem.Spec
set_option maxRecDepth 100000
namespace Pl
theorem noAL_letters (l : List Str) : noAL (l.map letterOne) := by
  intro k hk
  obtain ⟨x, _, rfl⟩ := List.mem_map.mp hk
  unfold letterOne
  by_cases h : (x == Str.ofString "AL") = true
  · rw [if_pos h]; decide
  · rw [if_neg h]; exact fun e => h (by rw [e]; exact beq_self_eq_true _)
theorem noAL_set {l : List Str} {i : Nat} {x : Str} (h : noAL l) (hx : x ≠ Str.ofString "AL") : noAL (l.set i x) := by
  intro k hk
  rcases List.mem_or_eq_of_mem_set hk with hk | rfl
  · exact h k hk
  · exact hx
theorem noAL_getD {l : List Str} {i : Nat} (h : noAL l) : l.getD i Str.empty ≠ Str.ofString "AL" := by
  rw [List.getD_eq_getElem?_getD]
  cases e : l[i]? with
  | none => decide
  | some y => exact h y (List.mem_of_getElem? e)
theorem noAL_parts {l : List Str} (h : noAL l) : ∀ i, noAL (partsI l i)
  | 0 => h
  | i + 1 => by
    rw [partsI]
    split
    · exact noAL_set (noAL_parts h i) (noAL_getD h)
    · exact noAL_parts h i
theorem noAL_ends {l : List Str} (h : noAL l) : ∀ i, noAL (endI l i)
  | 0 => h
  | i + 1 => by
    rw [endI]
    split
    · split
      · exact noAL_set (noAL_ends h i) (by decide)
      · exact noAL_ends h i
    · exact noAL_ends h i
theorem noAL_overs {l : List Str} (h : noAL l) : noAL (l.map overOne) := by
  intro k hk
  obtain ⟨x, hx, rfl⟩ := List.mem_map.mp hk
  unfold overOne
  split
  · decide
  · exact h x hx
theorem noAL_d6 (b : Str) (xs : List Str) : noAL (d6 b xs) := noAL_overs (noAL_ends (noAL_parts (noAL_letters _) _) _)
end Pl
theorem plain_all (xs : List Str) (b : Str) (hb : b ∈ [Str.ofString "L", Str.ofString "R"]) : weakP b xs = d7 b xs ∧ marksP b xs = d1 b xs ∧ numsP b (d1 b xs) = d2 b xs ∧ sepsI (d3 b xs) ((d3 b xs).length - 2) = d4 b xs ∧ termsI (d4 b xs) (runsP (d4 b xs)) (runsP (d4 b xs)).length = d5 b xs ∧ leftsP b (d6 b xs) = d7 b xs := by
  have hf : Pl.fixP b = b := by
    simp only [List.mem_cons, List.not_mem_nil, or_false] at hb
    rcases hb with rfl | rfl <;> decide
  have h1 : marksP b xs = d1 b xs := Pl.marks_marked b hf xs
  have h2 : numsP b (d1 b xs) = d2 b xs := Pl.nums_two b (d1 b xs)
  have h4 : sepsI (d3 b xs) ((d3 b xs).length - 2) = d4 b xs := Pl.seps_parts' (d3 b xs)
  have h5 : termsI (d4 b xs) (runsP (d4 b xs)) (runsP (d4 b xs)).length = d5 b xs := Pl.terms_ends (d4 b xs)
  have h7 : leftsP b (d6 b xs) = d7 b xs := Pl.lefts_seven b (d6 b xs) (Pl.noAL_d6 b xs)
  refine ⟨?_, h1, h2, h4, h5, h7⟩
  have e3 : (numsP b (marksP b xs)).map letterOne = d3 b xs := by rw [h1, h2]; rfl
  have e4 : sepsW (d3 b xs) = d4 b xs := h4
  have e5 : termsW (d4 b xs) = d5 b xs := h5
  unfold weakP
  rw [e3, e4, e5]
  exact h7
end

section
open PySem PySem.W PyProof.Rows PySem.Calls PySem.Spec
set_option Elab.async false
set_option maxRecDepth 100000
set_option maxHeartbeats 8000000

local macro_rules | `(tactic| k_ne) => `(tactic| (refine neN ?_; (try dsimp only); (repeat (rename _ ∧ _ => hAnd9; obtain ⟨_, _⟩ := hAnd9)); first | assumption | (refine Ne.symm ?_; assumption) | omega))
local macro_rules | `(tactic| walk_at "exec If") => `(tactic| (k_here; (with_reducible show wpAny _ _ (exec (PySem.Stmt.If (PySem.Expr.Compare _ _ _ _) _ _ _) _) _ _ _); refine hold_it ?_))
local macro_rules | `(tactic| walk_at "subscriptTail") => `(tactic| (k_here; (with_reducible show wpAny _ _ (subscriptTail _ _ (Value.ref _) (Value.int _ _)) _ _ _); (rename News _ _ _ _ => N9); k_dflt (refine' pick_str ?qm1 ?qm2 ?qm3 ?qm4 ?qm5 ?_; (case qm1 => exact isList_of_get (N9 (_, listOf _ _) (by k_mem)).1); (case qm2 => first | assumption | (repeat constructor)); (case qm3 => assumption); (case qm4 => first | assumption | (simp only [List.length_cons, List.length_nil]; omega)); (case qm5 => first | omega | (simp only [List.length_cons, List.length_nil]; omega))); intro bb tb hbb))
local macro_rules | `(tactic| walk_at "exec Assign cons ListComp") => `(tactic| (k_here; (with_reducible show wpAny _ _ (exec (PySem.Stmt.Assign [PySem.Expr.Name _ _] (PySem.Expr.ListComp _ [⟨PySem.Expr.Name _ _, _, _, _⟩] _ _) _) _) _ _ _); k_dflt (refine Assign_ListComp_H (F₀ := by k_asm) (by rfl) (by with_unfolding_all rfl) (by with_unfolding_all rfl) (by decide) (by rfl) (by decide) (by rfl) (by rfl) (by rfl) ?_)))
local macro_rules | `(tactic| walk_at "call type:list") => `(tactic| (k_here; (with_reducible show wpAny _ _ (call (Value.type _) [Value.ref _]) _ _ _); (rename Fr _ _ _ _ => F9); (rename News _ _ _ _ => N9); k_dflt (refine' copy_strs F9 N9 ?qm1 ?qm2 ?_; (case qm1 => k_mem); (case qm2 => assumption)); intro D' h' c' F' N'; clear F9 N9))
local macro_rules | `(tactic| walk_at "binaryOp Add ref ref") => `(tactic| (k_here; (rename Fr _ _ _ _ => F9); (rename News _ _ _ _ => N9); k_dflt (refine' add_refs F9 N9 ?qm1 ?qm2 ?qm3 ?qm4 ?_; (case qm1 => k_mem); (case qm2 => k_mem); (case qm3 => decide); (case qm4 => decide)); intro D' h' F' N'; clear F9 N9; simp only [List.cons_append, List.nil_append] at N'))
local macro_rules | `(tactic| walk_at "compareOp NotEq ref ref") => `(tactic| (k_here; k_dflt (k_extra "compareOp NotEq ref ref")))
local macro_rules | `(tactic| walk_at "compareOp Eq ref ref") => `(tactic| (k_here; k_dflt (k_extra "compareOp Eq ref ref")))
theorem u6 : (6 : Nat) < cLine := by rw [cLine_is]; decide
theorem u7 : (7 : Nat) < cLine := by rw [cLine_is]; decide
theorem u8 : (8 : Nat) < cLine := by rw [cLine_is]; decide
theorem d1_le {xs : List Str} (b : Str) (h : xs.length ≤ 100) : (d1 b xs).length ≤ 100 := by rw [d1_len]; exact h
theorem d2_le {xs : List Str} (b : Str) (h : xs.length ≤ 100) : (d2 b xs).length ≤ 100 := by rw [d2_len]; exact h
theorem d3_le {xs : List Str} (b : Str) (h : xs.length ≤ 100) : (d3 b xs).length ≤ 100 := by rw [d3_len]; exact h
theorem d4_le {xs : List Str} (b : Str) (h : xs.length ≤ 100) : (d4 b xs).length ≤ 100 := by rw [d4_len]; exact h
theorem d5_le {xs : List Str} (b : Str) (h : xs.length ≤ 100) : (d5 b xs).length ≤ 100 := by rw [d5_len]; exact h
theorem d6_le {xs : List Str} (b : Str) (h : xs.length ≤ 100) : (d6 b xs).length ≤ 100 := by rw [d6_len]; exact h
def RowSt (s₀ : Shared) (h₀ : Heap) (L : Addr) (m : Str → Option Value) (dk c : Addr) (cvs : List Value) (cn : Nat) (oD : Obj) (s' : Shared) : Prop :=
  ∃ h tk sl svs sn sxs t n oS, s' = { s₀ with heap := h, toks := tk } ∧ Fr h₀ L h m ∧ News h₀ L h [(sl, listOf svs.toArray sn), (dk, listOf #[.ref c, .int (0 + 1 + 1) t] n), (c, listOf cvs.toArray cn), (L + 1 + 1, oS), (L + 1, oD)] ∧
    StrsAre svs sxs ∧ 0 < sxs.length ∧ sxs.length ≤ 20 ∧ oS.data = .cell (some (.ref sl)) ∧ (@Ne Nat sl dk) ∧ (@Ne Nat c dk) ∧ (@Ne Nat (L + 1 + 1) dk) ∧ (@Ne Nat (L + 1) dk)
theorem row_st {s₀ : Shared} {h₀ h : Heap} {L dk c sl : Addr} {m : Str → Option Value} {cvs svs : List Value} {cn sn n tk : Nat} {oD oS : Obj} {sxs : List Str} {t : Tok} {own : List (Addr × Obj)} (F : Fr h₀ L h m) (N : News h₀ L h own) (h3 : (L + 1 + 1, oS) ∈ own) (e : oS.data = .cell (some (.ref sl))) (hs : (sl, listOf svs.toArray sn) ∈ own)
    (hd : (dk, listOf #[.ref c, .int (0 + 1 + 1) t] n) ∈ own) (hc : (c, listOf cvs.toArray cn) ∈ own) (h4 : (L + 1, oD) ∈ own) (hv : StrsAre svs sxs) (h0 : 0 < sxs.length) (h1 : sxs.length ≤ 20) (n1 : @Ne Nat sl dk) (n2 : @Ne Nat c dk) (n3 : @Ne Nat (L + 1 + 1) dk) (n4 : @Ne Nat (L + 1) dk) : RowSt s₀ h₀ L m dk c cvs cn oD { s₀ with heap := h, toks := tk } := by
  refine ⟨h, tk, sl, svs, sn, sxs, t, n, oS, rfl, F, fun p hp => ?_, hv, h0, h1, e, n1, n2, n3, n4⟩
  simp only [List.mem_cons, List.not_mem_nil, or_false] at hp
  rcases hp with rfl | rfl | rfl | rfl | rfl
  · exact N _ hs
  · exact N _ hd
  · exact N _ hc
  · exact N _ h3
  · exact N _ h4
theorem law_merge {M : Model} {A : Around} {env : Env} {st : Stmt} {K : Flow → Shared → Prop} {E : Value → Shared → Prop} {s : Shared} {h₀ : Heap} {L x1 sl dk c y1 : Addr} {m : Str → Option Value} {o1 os oy oS oD : Obj} {t : Tok} {n cn : Nat} {cvs : List Value}
    (F : Fr h₀ L s.heap m) (N : News h₀ L s.heap [(x1, o1), (sl, os), (dk, listOf #[.ref c, .int (0 + 1) t] n), (c, listOf cvs.toArray cn), (y1, oy), (L + 1 + 1, oS), (L + 1, oD)])
    (h1 : wpAny M A (exec st env) (fun f s' => f = .next ∧ RowSt s h₀ L m dk c cvs cn oD s') E s) (h2 : ∀ s', RowSt s h₀ L m dk c cvs cn oD s' → K .next s') : wpAny M A (exec st env) K E s :=
  wpAny_mono h1 (fun f s' h => by obtain ⟨rfl, hj⟩ := h; exact h2 s' hj) fun _ _ e => e
theorem law_holds : PySem.Challenge.rw_nt0002_01.Holds := hd (by
  k_go0
  (all_goals try k_fold)
  rename Fr _ _ _ _ => F0
  obtain ⟨m9, Fm⟩ := fr_some (l := [(Str.ofString "script", .ref _)]) F0 ⟨rfl, trivial⟩
  clear F0
  k_with_none
  k_with "call ref" => (
    (with_reducible show wpAny _ _ (call (Value.ref 90) _) _ _ _)
    rename Fr _ _ _ _ => F9
    rename News _ _ _ _ => N9
    refine' draw_use ?qk1 F9 ?qk3 ?qk4 ?qk5 ?qk6 ?qk7 N9 ?qU ?qc ?qi ?ql ?qne ?qb1 ?qb2 ?qb3 ?qb4 ?_
    (case qk1 => k_asm)
    (case qk3 => k_asm)
    (case qk4 => k_asm)
    (case qk5 => exact rfl)
    (case qk6 => decide)
    (case qk7 => decide)
    (case qU => k_updF)
    (case qc => k_mem)
    (case qi => assumption)
    (case ql => first | assumption | (rw [List.length_take]; omega))
    (case qne => first | assumption | omega | k_ne)
    (case qb1 => first | decide | omega)
    (case qb2 => first | decide | omega)
    (case qb3 => first | decide | omega)
    (case qb4 => first | decide | omega)
    intro r9 t9 h9 tk9 t8 n8 F8 N8 hr0 hr1
    clear N9 F9
    (try dsimp only at N8))

  k_steps
  refine hold ?_
  rename Fr _ _ _ _ => F1
  rename News _ _ _ _ => N1
  rename _ ∈ [_, _] => hbb
  rename Str => bS
  have hbbT : True → _ := fun _ => hbb
  clear hbb
  refine law_merge F1 N1 ?_ ?_
  · refine wpAny_If ?_
    k_with "call ref" => (
      (with_reducible show wpAny _ _ (call (Value.ref 90) _) _ _ _)
      rename Fr _ _ _ _ => F9
      rename News _ _ _ _ => N9
      refine' draw_use ?qk1 F9 ?qk3 ?qk4 ?qk5 ?qk6 ?qk7 N9 ?qU ?qc ?qi ?ql ?qne ?qb1 ?qb2 ?qb3 ?qb4 ?_
      (case qk1 => k_asm)
      (case qk3 => k_asm)
      (case qk4 => k_asm)
      (case qk5 => exact rfl)
      (case qk6 => decide)
      (case qk7 => decide)
      (case qU => k_updF)
      (case qc => k_mem)
      (case qi => assumption)
      (case ql => first | assumption | (rw [List.length_take]; omega))
      (case qne => first | assumption | omega | k_ne)
      (case qb1 => first | decide | omega)
      (case qb2 => first | decide | omega)
      (case qb3 => first | decide | omega)
      (case qb4 => first | decide | omega)
      intro r9 t9 h9 tk9 t8 n8 F8 N8 hr0 hr1
      clear N9 F9
      (try dsimp only at N8))
  
    k_steps
    all_goals (
      rename Fr _ _ _ _ => F4
      rename News _ _ _ _ => N4
      refine row_st F4 N4 (by k_mem) (by assumption) (by k_mem) (by k_mem) (by k_mem) (by k_mem) (by repeat constructor) (by decide) (by decide) ?_ ?_ ?_ ?_
      all_goals first | omega | k_ne)
  · rintro s9 ⟨h, tk, sl, svs, sn, sxs, t, n, oS, rfl, F2, N2, hs, hp0, hp1, e9, ne1, ne2, ne3, ne4⟩
    clear F1 N1
    dsimp only
    k_with "call ref" => (
      (with_reducible show wpAny _ _ (call (Value.ref 90) _) _ _ _)
      rename Fr _ _ _ _ => F9
      rename News _ _ _ _ => N9
      refine' draw_use ?qk1 F9 ?qk3 ?qk4 ?qk5 ?qk6 ?qk7 N9 ?qU ?qc ?qi ?ql ?qne ?qb1 ?qb2 ?qb3 ?qb4 ?_
      (case qk1 => k_asm)
      (case qk3 => k_asm)
      (case qk4 => k_asm)
      (case qk5 => exact rfl)
      (case qk6 => decide)
      (case qk7 => decide)
      (case qU => k_updF)
      (case qc => k_mem)
      (case qi => assumption)
      (case ql => first | assumption | (rw [List.length_take]; omega))
      (case qne => first | assumption | omega | k_ne)
      (case qb1 => first | decide | omega)
      (case qb2 => first | decide | omega)
      (case qb3 => first | decide | omega)
      (case qb4 => first | decide | omega)
      intro r9 t9 h9 tk9 t8 n8 F8 N8 hr0 hr1
      clear N9 F9
      (try dsimp only at N8))
  
    k_steps
    refine hold ?_
    rename Fr _ _ _ _ => F3
    rename News _ _ _ _ => N3
    rename IsRange _ _ _ _ _ _ _ _ => hR
    obtain ⟨rn, rfl⟩ := Int.eq_ofNat_of_zero_le hr0
    refine row_src rfl F3 N3 hR (by omega) ?_ ?_
    · intro i k t n I oI C oC D m₂ ys h tk E' hi hk hC F5 N5 off ne
      clear F3 N3
      simp only [LCg.Off3, and_true] at off
      have hk1 : k ≤ 100 := by omega
      have hk0 : 0 ≤ k := by omega
      k_with "call ref" => (
          (with_reducible show wpAny _ _ (call (Value.ref 90) _) _ _ _)
          rename Fr _ _ _ _ => F9
          rename News _ _ _ _ => N9
          refine' draw_use ?qk1 F9 ?qk3 ?qk4 ?qk5 ?qk6 ?qk7 N9 ?qU ?qc ?qi ?ql ?qne ?qb1 ?qb2 ?qb3 ?qb4 ?_
          (case qk1 => k_asm)
          (case qk3 => k_asm)
          (case qk4 => k_asm)
          (case qk5 => exact rfl)
          (case qk6 => decide)
          (case qk7 => decide)
          (case qU => k_updF)
          (case qc => k_mem)
          (case qi => assumption)
          (case ql => first | assumption | (rw [List.length_take]; omega))
          (case qne => first | assumption | omega | k_ne)
          (case qb1 => first | decide | omega)
          (case qb2 => first | decide | omega)
          (case qb3 => first | decide | omega)
          (case qb4 => first | decide | omega)
          intro r9 t9 h9 tk9 t8 n8 F8 N8 hr0 hr1
          clear N9 F9
          (try dsimp only at N8))
      
      try k_fold
      k_steps
      rename Fr _ _ _ _ => F6
      rename News _ _ _ _ => N6
      exact row_end F6 N6
    · intro g9 ys xs k t n hys hxn
      have hysT : True → StrsAre ys xs := fun _ => hys
      have hxl : xs.length ≤ 100 := by omega
      clear F3 N3 hys
      have hP := plain_all xs bS (hbbT trivial)
      obtain ⟨hW, hM, hN, hS, hT, hF⟩ := hP
      unfold LCg.FinA
      intro Dr hr tkr Fr9 Nr9 o1
      have Nr : News _ _ hr [(Dr, LCg.lst ys)] := fun p hp => Nr9 p (by rw [List.mem_singleton.mp hp]; exact .head _)
      clear Nr9 o1
      have hyl : ys.length ≤ 100 := by rw [(hysT trivial).length]; exact hxl
      k_with "call ref" => (refine hold_it ?_)
      k_with "compareOp Eq ref ref" => (refine hold_it ?_)
      k_with "compareOp NotEq ref ref" => (refine hold_it ?_)
      k_steps
      refine hold ?_
      (with_reducible show wpAny _ _ (call (Value.ref 119) _) _ _ _)
      rename Fr _ _ _ _ => F9
      rename News _ _ _ _ => N9
      refine' pure_use (steps_pure xs bS hxl) ?k1 F9 ?k3 ?k4 ?k5 ?k6 ?k7 ?k8 ?_
      (case k1 => k_asm)
      (case k3 => k_asm)
      (case k4 => k_asm)
      (case k5 => exact rfl)
      (case k6 => decide)
      (case k7 => decide)
      (case k8 => (exact ⟨_, _, rfl, _, _, _, rfl, (N9 (_, listOf ys.toArray ys.length) (by k_mem)).1, hysT trivial⟩))
      rintro r9 h9 tk9 F8 st9 hp9; obtain ⟨da, dn, l1, v1, n1, l2, v2, n2, l3, v3, n3, l4, v4, n4, l5, v5, n5, l6, v6, n6, l7, v7, n7, N8, s1, s2, s3, s4, s5, s6, s7⟩ := seven_news F9 N9 st9 hp9; clear N9 F9 hp9
      k_steps
      refine hold ?_
      (with_reducible show wpAny _ _ (call (Value.ref 83) _) _ _ _)
      rename Fr _ _ _ _ => F9
      rename News _ _ _ _ => N9
      refine' pure_use (weak_pure xs bS hxl) ?k1 F9 ?k3 ?k4 ?k5 ?k6 ?k7 ?k8 ?_
      (case k1 => k_asm)
      (case k3 => k_asm)
      (case k4 => k_asm)
      (case k5 => exact rfl)
      (case k6 => decide)
      (case k7 => decide)
      (case k8 => (exact ⟨_, _, rfl, _, _, _, rfl, (N9 (_, listOf ys.toArray ys.length) (by k_mem)).1, hysT trivial⟩))
      rintro r9 h9 tk9 F8 st9 ⟨lrw, rsw, n9, rfl, hb1, hb2, hs9⟩; have N8 := news_new F9 N9 st9 hb1 hb2; have tw : True → StrsAre _ _ := fun _ => strs_eq hW hs9; clear N9 F9 hs9
      k_steps
      refine hold ?_
      rename News _ _ _ _ => N9
      refine' cmp_ne_same N9 ?qm1 ?qm2 tw s7 ?qm5 ?_
      (case qm1 => k_mem)
      (case qm2 => k_mem)
      (case qm5 => first | exact u7 | exact u8 | exact u6)
      k_steps
      refine hold ?_
      rename News _ _ _ _ => N9
      refine' cmp_ne_same N9 ?qm1 ?qm2 hysT hysT ?qm5 ?_
      (case qm1 => k_mem)
      (case qm2 => k_mem)
      (case qm5 => first | exact u7 | exact u8 | exact u6)
      k_steps
      refine hold ?_
      (with_reducible show wpAny _ _ (call (Value.ref 24) _) _ _ _)
      rename Fr _ _ _ _ => F9
      rename News _ _ _ _ => N9
      refine' pure_use (marks_pure xs bS hxl) ?k1 F9 ?k3 ?k4 ?k5 ?k6 ?k7 ?k8 ?_
      (case k1 => k_asm)
      (case k3 => k_asm)
      (case k4 => k_asm)
      (case k5 => exact rfl)
      (case k6 => decide)
      (case k7 => decide)
      (case k8 => (exact ⟨_, _, rfl, _, _, _, rfl, (N9 (_, listOf ys.toArray ys.length) (by k_mem)).1, hysT trivial⟩))
      rintro r9 h9 tk9 F8 st9 ⟨lra, rsa, n9, rfl, hb1, hb2, hs9⟩; have N8 := news_new F9 N9 st9 hb1 hb2; have ta : True → StrsAre _ _ := fun _ => strs_eq hM hs9; clear N9 F9 hs9
      k_steps
      refine hold ?_
      (with_reducible show wpAny _ _ (call (Value.ref 31) _) _ _ _)
      rename Fr _ _ _ _ => F9
      rename News _ _ _ _ => N9
      refine' pure_use (nums_pure (d1 bS xs) bS (d1_le bS hxl)) ?k1 F9 ?k3 ?k4 ?k5 ?k6 ?k7 ?k8 ?_
      (case k1 => k_asm)
      (case k3 => k_asm)
      (case k4 => k_asm)
      (case k5 => exact rfl)
      (case k6 => decide)
      (case k7 => decide)
      (case k8 => (exact ⟨_, _, rfl, _, _, _, rfl, (N9 (l1, _) (by k_mem)).1, s1 trivial⟩))
      rintro r9 h9 tk9 F8 st9 ⟨lrb, rsb, n9, rfl, hb1, hb2, hs9⟩; have N8 := news_new F9 N9 st9 hb1 hb2; have tb : True → StrsAre _ _ := fun _ => strs_eq hN hs9; clear N9 F9 hs9
      k_steps
      refine hold ?_
      (with_reducible show wpAny _ _ (call (Value.ref 36) _) _ _ _)
      rename Fr _ _ _ _ => F9
      rename News _ _ _ _ => N9
      refine' pure_use (letters_pure (d2 bS xs) (d2_le bS hxl)) ?k1 F9 ?k3 ?k4 ?k5 ?k6 ?k7 ?k8 ?_
      (case k1 => k_asm)
      (case k3 => k_asm)
      (case k4 => k_asm)
      (case k5 => exact rfl)
      (case k6 => decide)
      (case k7 => decide)
      (case k8 => (exact ⟨_, rfl, _, _, _, rfl, (N9 (l2, _) (by k_mem)).1, s2 trivial⟩))
      rintro r9 h9 tk9 F8 st9 ⟨lrc, rsc, n9, rfl, hb1, hb2, hs9⟩; have N8 := news_new F9 N9 st9 hb1 hb2; have tc : True → StrsAre _ _ := fun _ => strs_eq (rfl : (d2 bS xs).map letterOne = d3 bS xs) hs9; clear N9 F9 hs9
      k_steps
      refine hold ?_
      (with_reducible show wpAny _ _ (call (Value.ref 43) _) _ _ _)
      rename Fr _ _ _ _ => F9
      rename News _ _ _ _ => N9
      refine' pure_use (seps_pure (d3 bS xs) (d3_le bS hxl)) ?k1 F9 ?k3 ?k4 ?k5 ?k6 ?k7 ?k8 ?_
      (case k1 => k_asm)
      (case k3 => k_asm)
      (case k4 => k_asm)
      (case k5 => exact rfl)
      (case k6 => decide)
      (case k7 => decide)
      (case k8 => (exact ⟨_, rfl, _, _, _, rfl, (N9 (l3, _) (by k_mem)).1, s3 trivial⟩))
      rintro r9 h9 tk9 F8 st9 ⟨lrd, rsd, n9, rfl, hb1, hb2, hs9⟩; have N8 := news_new F9 N9 st9 hb1 hb2; have td : True → StrsAre _ _ := fun _ => strs_eq hS hs9; clear N9 F9 hs9
      k_steps
      refine hold ?_
      (with_reducible show wpAny _ _ (call (Value.ref 64) _) _ _ _)
      rename Fr _ _ _ _ => F9
      rename News _ _ _ _ => N9
      refine' pure_use (terms_pure (d4 bS xs) (d4_le bS hxl)) ?k1 F9 ?k3 ?k4 ?k5 ?k6 ?k7 ?k8 ?_
      (case k1 => k_asm)
      (case k3 => k_asm)
      (case k4 => k_asm)
      (case k5 => exact rfl)
      (case k6 => decide)
      (case k7 => decide)
      (case k8 => (exact ⟨_, rfl, _, _, _, rfl, (N9 (l4, _) (by k_mem)).1, s4 trivial⟩))
      rintro r9 h9 tk9 F8 st9 ⟨lre, rse, n9, rfl, hb1, hb2, hs9⟩; have N8 := news_new F9 N9 st9 hb1 hb2; have te : True → StrsAre _ _ := fun _ => strs_eq hT hs9; clear N9 F9 hs9
      k_steps
      refine hold ?_
      (with_reducible show wpAny _ _ (call (Value.ref 69) _) _ _ _)
      rename Fr _ _ _ _ => F9
      rename News _ _ _ _ => N9
      refine' pure_use (overs_pure (d5 bS xs) (d5_le bS hxl)) ?k1 F9 ?k3 ?k4 ?k5 ?k6 ?k7 ?k8 ?_
      (case k1 => k_asm)
      (case k3 => k_asm)
      (case k4 => k_asm)
      (case k5 => exact rfl)
      (case k6 => decide)
      (case k7 => decide)
      (case k8 => (exact ⟨_, rfl, _, _, _, rfl, (N9 (l5, _) (by k_mem)).1, s5 trivial⟩))
      rintro r9 h9 tk9 F8 st9 ⟨lrf, rsf, n9, rfl, hb1, hb2, hs9⟩; have N8 := news_new F9 N9 st9 hb1 hb2; have tf : True → StrsAre _ _ := fun _ => strs_eq (rfl : (d5 bS xs).map overOne = d6 bS xs) hs9; clear N9 F9 hs9
      k_steps
      refine hold ?_
      (with_reducible show wpAny _ _ (call (Value.ref 76) _) _ _ _)
      rename Fr _ _ _ _ => F9
      rename News _ _ _ _ => N9
      refine' pure_use (lefts_pure (d6 bS xs) bS (d6_le bS hxl)) ?k1 F9 ?k3 ?k4 ?k5 ?k6 ?k7 ?k8 ?_
      (case k1 => k_asm)
      (case k3 => k_asm)
      (case k4 => k_asm)
      (case k5 => exact rfl)
      (case k6 => decide)
      (case k7 => decide)
      (case k8 => (exact ⟨_, _, rfl, _, _, _, rfl, (N9 (l6, _) (by k_mem)).1, s6 trivial⟩))
      rintro r9 h9 tk9 F8 st9 ⟨lrg, rsg, n9, rfl, hb1, hb2, hs9⟩; have N8 := news_new F9 N9 st9 hb1 hb2; have tg : True → StrsAre _ _ := fun _ => strs_eq hF hs9; clear N9 F9 hs9
      k_steps
      refine hold ?_
      rename News _ _ _ _ => N9
      refine' cmp_eq_nested' N9 ?qm1 ?qm2 ?qm5 ?qm3 ?_
      (case qm1 => k_mem)
      (case qm2 => k_mem)
      (case qm5 => first | exact u7 | exact u8 | exact u6)
      (case qm3 =>
        simp only [EqsAll, and_true]
        exact ⟨eq_strs_anyT N9 (by k_mem) (by k_mem) ta s1 (by first | exact u7 | exact u8 | exact u6), eq_strs_anyT N9 (by k_mem) (by k_mem) tb s2 (by first | exact u7 | exact u8 | exact u6), eq_strs_anyT N9 (by k_mem) (by k_mem) tc s3 (by first | exact u7 | exact u8 | exact u6), eq_strs_anyT N9 (by k_mem) (by k_mem) td s4 (by first | exact u7 | exact u8 | exact u6), eq_strs_anyT N9 (by k_mem) (by k_mem) te s5 (by first | exact u7 | exact u8 | exact u6), eq_strs_anyT N9 (by k_mem) (by k_mem) tf s6 (by first | exact u7 | exact u8 | exact u6), eq_strs_anyT N9 (by k_mem) (by k_mem) tg s7 (by first | exact u7 | exact u8 | exact u6)⟩)
      k_steps
      refine hold ?_
      rename News _ _ _ _ => N9
      refine' cmp_eq_same N9 ?qm1 ?qm2 hysT hysT ?qm5 ?_
      (case qm1 => k_mem)
      (case qm2 => k_mem)
      (case qm5 => first | exact u7 | exact u8 | exact u6)
      k_steps
      refine hold ?_
      (with_reducible show wpAny _ _ (call (Value.ref 119) _) _ _ _)
      rename Fr _ _ _ _ => F9
      rename News _ _ _ _ => N9
      refine' pure_use (steps_pure xs bS hxl ) ?k1 F9 ?k3 ?k4 ?k5 ?k6 ?k7 ?k8 ?_
      (case k1 => k_asm)
      (case k3 => k_asm)
      (case k4 => k_asm)
      (case k5 => exact rfl)
      (case k6 => decide)
      (case k7 => decide)
      (case k8 => (exact ⟨_, _, rfl, _, _, _, rfl, (N9 (_, listOf ys.toArray ys.length) (by k_mem)).1, hysT trivial⟩))
      rintro r9 h9 tk9 F8 st9 hp9; obtain ⟨db, dm, l11, v11, n11, l12, v12, n12, l13, v13, n13, l14, v14, n14, l15, v15, n15, l16, v16, n16, l17, v17, n17, N8, s11, s12, s13, s14, s15, s16, s17⟩ := seven_news F9 N9 st9 hp9; clear N9 F9 hp9
      k_steps
      refine hold ?_
      rename News _ _ _ _ => N9
      refine' cmp_eq_nested' N9 ?qm1 ?qm2 ?qm5 ?qm3 ?_
      (case qm1 => k_mem)
      (case qm2 => k_mem)
      (case qm5 => first | exact u7 | exact u8 | exact u6)
      (case qm3 =>
        simp only [EqsAll, and_true]
        exact ⟨eq_strs_anyT N9 (by k_mem) (by k_mem) s1 s11 (by first | exact u7 | exact u8 | exact u6), eq_strs_anyT N9 (by k_mem) (by k_mem) s2 s12 (by first | exact u7 | exact u8 | exact u6), eq_strs_anyT N9 (by k_mem) (by k_mem) s3 s13 (by first | exact u7 | exact u8 | exact u6), eq_strs_anyT N9 (by k_mem) (by k_mem) s4 s14 (by first | exact u7 | exact u8 | exact u6), eq_strs_anyT N9 (by k_mem) (by k_mem) s5 s15 (by first | exact u7 | exact u8 | exact u6), eq_strs_anyT N9 (by k_mem) (by k_mem) s6 s16 (by first | exact u7 | exact u8 | exact u6), eq_strs_anyT N9 (by k_mem) (by k_mem) s7 s17 (by first | exact u7 | exact u8 | exact u6)⟩)
      k_steps)
end

end Mine
end

set_option maxHeartbeats 8000000 in
theorem PySem.Challenge.cw_nt0002_01_holds : PySem.Challenge.rw_nt0002_01.Holds := by
  exact Mine.law_holds
