import PyProof.Rows.All
import Wide.All
import OpenK.AllK
import Wide.FinOn
import Lean
import PySem.Challenge.RW_nu0263_01
open PySem PySem.W PySem.Calls PyProof.Rows PyProof.V
set_option Elab.async false
set_option maxRecDepth 100000
set_option maxHeartbeats 8000000
local macro_rules | `(tactic| walk_at $s:str) => `(tactic| k_extra $(Lean.Syntax.mkStrLit ("my " ++ s.getString)))
theorem Mine.fresh00 : True := by
  w_top off
  k_with_none
  trivial
namespace Mine
-- small instances alone: the head's road by pieces then falls (it wants HAppend's two), and the whole run is shown at once; its compiled text is a sixth of the pieces'
set_option synthInstance.maxSize 1 in
open_top hd for PySem.Challenge.rw_nu0263_01
end Mine

theorem Mine.fresh01 : True := by
  w_top off
  trivial
namespace Mine
abbrev PG : Program := PySem.Challenge.rw_nu0263_01.row.prog
/-- all objects stand as they stood, but those at S -/
def KeepBut (S : List Addr) (h h' : Heap) : Prop := ∀ b o, h.get? b = some o → b ∉ S → h'.get? b = some o
theorem KeepBut.refl {S : List Addr} {h : Heap} : KeepBut S h h := fun _ _ e _ => e
theorem KeepBut.trans {S : List Addr} {h h' h'' : Heap} (x : KeepBut S h h') (y : KeepBut S h' h'') : KeepBut S h h'' := fun b o e n => y b o (x b o e n) n
theorem KeepBut.sub {S S' : List Addr} {h h' : Heap} (x : KeepBut S h h') (hs : ∀ a ∈ S, a ∈ S') : KeepBut S' h h' := fun b o e n => x b o e fun q => n (hs b q)
theorem keepBut_of {H g h' : Heap} {L' : Addr} {m' : Str → Option Value} {S : List Addr} (G : GSub H g S) (F : Fr g L' h' m') : KeepBut S H h' := fun b o e n => F.keep b o (G b o e n)
theorem Fr.callKeep {h₀ h h' : Heap} {L : Addr} {m : Str → Option Value} {S : List Addr} (F : Fr h₀ L h m) (K : KeepBut S h h') (hS : ∀ a ∈ S, h₀.get? a = none ∧ a ≠ L) : Fr h₀ L h' m := by
  obtain ⟨oL, es, ep, hL, r⟩ := F.ns
  refine ⟨⟨oL, es, ep, K L oL hL fun q => (hS L q).2 rfl, r⟩, fun b o e => K b o (F.keep b o e) fun q => ?_, F.above⟩
  rw [(hS b q).1] at e; cases e
theorem News.one {h₀ h : Heap} {L a : Addr} {o : Obj} {news : List (Addr × Obj)} (N : News h₀ L h news) (hm : (a, o) ∈ news) : News h₀ L h [(a, o)] := fun p hp => by
  rw [List.mem_singleton.mp hp]; exact N _ hm
theorem updF_mem {d : Addr} {o : Obj} {l : List (Addr × Obj)} {u : Obj → List (Addr × Obj)} (U : UpdF d o l u) : (d, o) ∈ l := by
  induction U with
  | head _ => exact .head _
  | tail _ _ ih => exact .tail _ ih
/-- the ledger behind a call that turned the object at d -/
theorem news_call {h₀ h h' : Heap} {L d : Addr} {o o' : Obj} {news : List (Addr × Obj)} {u : Obj → List (Addr × Obj)} (N : News h₀ L h news) (U : UpdF d o news u) (K : KeepBut [d] h h') (e : h'.get? d = some o') : News h₀ L h' (u o') := by
  obtain ⟨pre, post, rfl, hu, h1, h2⟩ := U.split
  rw [hu]
  intro p hp
  rcases List.mem_append.mp hp with q | q
  · have P := N p (List.mem_append_left _ q)
    exact ⟨K _ _ P.1 (by simpa using h1 p q), P.2⟩
  · rcases List.mem_cons.mp q with rfl | q
    · exact ⟨e, (N (d, o) (by simp)).2⟩
    · have P := N p (List.mem_append_right _ (.tail _ q))
      exact ⟨K _ _ P.1 (by simpa using h2 p q), P.2⟩
theorem list_ne_dict {h : Heap} {l d : Addr} {its : Array Value} {o : Obj} (hl : h.IsList l its) (e : h.get? d = some o) (hc : o.cls = .type "dict") : l ≠ d := by
  rintro rfl
  obtain ⟨x, h1, h2, _⟩ := hl
  rw [e] at h1; cases h1
  rw [hc] at h2; simp at h2
theorem isList_keep {h h' : Heap} {S : List Addr} {l : Addr} {its : Array Value} (K : KeepBut S h h') (hl : h.IsList l its) (hn : l ∉ S) : h'.IsList l its := by
  obtain ⟨x, h1, h2⟩ := hl
  exact ⟨x, K _ _ h1 hn, h2⟩
theorem isTup_keep {h h' : Heap} {S : List Addr} {l : Addr} {its : Array Value} (K : KeepBut S h h') (hl : IsTup h l its) (hn : l ∉ S) : IsTup h' l its := by
  obtain ⟨x, h1, h2⟩ := hl
  exact ⟨x, K _ _ h1 hn, h2⟩
section
variable {prog : Program} {w : World} {A₀ A : Around} {s : Shared} {base h₀ : Heap} {outer : List Env} {L : Addr} {m : Str → Option Value} {env : Env} {news : List (Addr × Obj)}
  {R : Result → Shared → Prop} {name qual : Str} {params : Arguments} {body : List Stmt} {scope : Scope} {dV kV doc pm cdv ct oc : Value} {an od : Option Addr} {osl : Array (Option Value)} {f : Addr} {args : Args} {binds : List (Str × Value)}
  {K : Frag} {p : Program} {loose : List Str} {mean : ExcName → Option Value} {mg mb : Str → Option Value}
/-- a def with cells of its own is entered; the ground keeps all that the ledger does not name -/
theorem m_enterC (B : Below A₀ base outer h₀) (F : Fr h₀ L s.heap m) (X₀ : K.In h₀) (N : News h₀ L s.heap news) (T : Top p loose mean mg mb h₀) (hA : A.frames = some (env :: outer)) (hf : env.frame = some L) (hke : env.scope.kind = .function)
    (ho : K.lookup f = some ⟨oc, od, .func (fnOf name qual params body scope dV kV doc pm an cdv ct), osl⟩) (hcd : codeIn K cdv qual = true) (hroom : A.depth < recursionLimit)
    (hbind : BindsTo s (fnOf name qual params body scope dV kV doc pm an cdv ct) args binds) (hkind : (binds.all fun y => scope.names.lookup y.1 == some .local || scope.names.lookup y.1 == some .cell) = true)
    (hnd : ((cellsFrom 0 scope.names []).map (·.1)).Nodup)
    (h : ∀ g L' h₁ tk cells, Fr h₀ L g m → Fr g L' h₁ (bindL (envOfC qual scope L' f cdv).kindOf binds fun _ => none) → News g L' h₁ (cells ++ news) →
      CellsAre (bindC (envOfC qual scope L' f cdv).kindOf binds fun _ => none) (cellsFrom (L' + 1) scope.names []) cells → Below A base (env :: outer) g → K.In g → Top p loose mean mg mb g → (∀ p ∈ news, p.1 < L') → GSub s.heap g (news.map (·.1)) →
      wpAny (model prog w) (A.deeper (envOfC qual scope L' f cdv)) (execs body (envOfC qual scope L' f cdv))
        (fun fl s' => LeaveK h₀ L m g R (match fl with | .ret v => v | _ => .none) s')
        (fun e s' => wpAny (model prog w) (A.deeper (envOfC qual scope L' f cdv)) (leaving (envOfC qual scope L' f cdv) e) (fun _ s'' => R (.error e) s'') (fun e' s'' => R (.error e') s'') s')
        { s with heap := h₁, toks := tk })
    (hco : scope.isCoroutine = false) (hgen : scope.isGenerator = false) (hk : scope.kind = .function) : codeAny (model prog w) A (.call (.ref f) args) R s := by
  obtain ⟨FG, BG, st, lv⟩ := groundX (R := R) B F N hA hf hke
  refine codeAny_call_function hroom ((X₀.keeps F.keep) _ _ ho) rfl hco hgen rfl (codeRec_of (X₀.keeps F.keep) hcd) (hbind _ _ _ _ ?_)
  refine wpAny_newFunctionEnv_cells hk (kindsX hkind _) fun env' he s' x => ?_
  subst he
  refine ⟨(T.nolimit.keeps F.keep).keeps x.toInCall.keep, codeAny_func ?_⟩
  obtain ⟨h₁, tk, rfl, _⟩ := x.done
  have up := x.toInCall.keep
  obtain ⟨cells, NC, Y⟩ := Cl.news (h₀ := s.heap) (Nat.le_refl _) fun n c hm => ⟨x.cell n c (lookup_of_mem_nodup (cellsFrom_names scope.names 0 (s.heap.objs.size + 1) [] [] rfl ▸ hnd) hm), x.above n c hm⟩
  have N₁ : News (hideAll s.heap (news.map (·.1))) s.heap.objs.size h₁ (cells ++ news) := by
    intro q hq
    rcases List.mem_append.mp hq with hq | hq
    · refine ⟨(NC q hq).1, (NC q hq).2.1, ?_⟩
      cases z : (hideAll s.heap (news.map (·.1))).get? q.1 with
      | none => rfl
      | some o => have y := of_hideAll _ z; rw [(NC q hq).2.2] at y; cases y
    · exact ⟨up _ _ (N q hq).1, Nat.ne_of_lt (Heap.lt_size (N q hq).1), hideAll_none _ (List.mem_map_of_mem hq)⟩
  exact wpAny_mono (h _ s.heap.objs.size h₁ tk cells FG ⟨x.toInCall.ns, fun b o e => up b o (of_hideAll _ e), Nat.le_of_eq (hideAll_size _ _)⟩ N₁ Y BG (X₀.keeps st) (T.keeps st) (fun q hq => Heap.lt_size (N q hq).1) (fun b o e n => hideAll_get _ e n)) (fun fl s' hl => lv _ _ hl) fun _ _ y => y
end
/-- posts kept opaque while a statement is walked: the walk's terms name a letter in place of the post -/
structure OPo {α : Type} (Q Q' : α → Shared → Prop) : Prop where
  go : ∀ v s, Q v s → Q' v s
structure OSP (M : Model) (A : Around) (rest : List Stmt) (env : Env) (Q : Flow → Shared → Prop) (E : Value → Shared → Prop) (Q' : Flow → Shared → Prop) : Prop where
  next : ∀ s, wpAny M A (execs rest env) Q E s → Q' .next s
  leave : ∀ f s, f ≠ .next → Q f s → Q' f s
theorem OPo.use {α : Type} {Q Q' : α → Shared → Prop} (h : OPo Q Q') {v : α} {s : Shared} (x : Q v s) : Q' v s := h.go v s x
theorem OSP.nextU {M : Model} {A : Around} {rest : List Stmt} {env : Env} {Q : Flow → Shared → Prop} {E : Value → Shared → Prop} {Q' : Flow → Shared → Prop} (h : OSP M A rest env Q E Q') {s : Shared} (x : wpAny M A (execs rest env) Q E s) : Q' .next s := h.next s x
theorem OSP.retU {M : Model} {A : Around} {rest : List Stmt} {env : Env} {Q : Flow → Shared → Prop} {E : Value → Shared → Prop} {Q' : Flow → Shared → Prop} (h : OSP M A rest env Q E Q') {v : Value} {s : Shared} (x : Q (.ret v) s) : Q' (.ret v) s := h.leave _ s (fun e => by cases e) x
theorem OSP.brkU {M : Model} {A : Around} {rest : List Stmt} {env : Env} {Q : Flow → Shared → Prop} {E : Value → Shared → Prop} {Q' : Flow → Shared → Prop} (h : OSP M A rest env Q E Q') {s : Shared} (x : Q .brk s) : Q' .brk s := h.leave _ s (fun e => by cases e) x
theorem OSP.contU {M : Model} {A : Around} {rest : List Stmt} {env : Env} {Q : Flow → Shared → Prop} {E : Value → Shared → Prop} {Q' : Flow → Shared → Prop} (h : OSP M A rest env Q E Q') {s : Shared} (x : Q .cont s) : Q' .cont s := h.leave _ s (fun e => by cases e) x
theorem isSP {M : Model} {A : Around} {rest : List Stmt} {env : Env} {Q : Flow → Shared → Prop} {E : Value → Shared → Prop} {Q' : Flow → Shared → Prop} {A' : Around} {c : Sem Flow} {E' : Value → Shared → Prop} {s : Shared} (_ : OSP M A rest env Q E Q') (x : wpAny M A' c Q' E' s) : wpAny M A' c Q' E' s := x
theorem isP {α : Type} {M : Model} {Q Q' : α → Shared → Prop} {A' : Around} {c : Sem α} {E' : Value → Shared → Prop} {s : Shared} (_ : OPo Q Q') (x : wpAny M A' c Q' E' s) : wpAny M A' c Q' E' s := x
theorem execs_abs {M : Model} {A : Around} {st : Stmt} {rest : List Stmt} {env : Env} {Q : Flow → Shared → Prop} {E : Value → Shared → Prop} {s : Shared} (h : ∀ Q', OSP M A rest env Q E Q' → wpAny M A (exec st env) Q' E s) : wpAny M A (execs (st :: rest) env) Q E s :=
  wpAny_execs_cons (h _ ⟨fun _ x => x, fun f s n x => by cases f <;> first | exact absurd rfl n | exact x⟩)
theorem execs_abs2 {M : Model} {A : Around} {st : Stmt} {rest : List Stmt} {env : Env} {Q : Flow → Shared → Prop} {E : Value → Shared → Prop} {s : Shared} (h : ∀ Q₀, OPo Q Q₀ → ∀ Q', OSP M A rest env Q₀ E Q' → wpAny M A (exec st env) Q' E s) : wpAny M A (execs (st :: rest) env) Q E s :=
  execs_abs (h Q ⟨fun _ _ x => x⟩)
/-- AllLt without the True at its end -/
@[reducible] def Lts (d : Nat) : Addr × Obj → List (Addr × Obj) → Prop
  | p, [] => @LT.lt Nat _ p.1 d
  | p, q :: r => @LT.lt Nat _ p.1 d ∧ Lts d q r
theorem lts_of {d : Nat} : ∀ {r : List (Addr × Obj)} {p : Addr × Obj}, AllLt d (p :: r) → Lts d p r
  | [], _, h => h.1
  | _ :: _, _, h => ⟨h.1, lts_of h.2⟩
theorem all_lts {d : Addr} : ∀ {r : List (Addr × Obj)} {p : Addr × Obj}, Lts d p r → ∀ q ∈ p :: r, @LT.lt Nat _ q.1 d
  | [], _, h, q, hq => by rw [List.mem_singleton.mp hq]; exact h
  | _ :: _, _, h, q, hq => by
    rcases List.mem_cons.mp hq with rfl | hq
    · exact h.1
    · exact all_lts h.2 q hq
theorem all_allLt {d : Addr} : ∀ {r : List (Addr × Obj)}, AllLt d r → ∀ q ∈ r, @LT.lt Nat _ q.1 d
  | [], _, q, hq => by cases hq
  | _ :: _, h, q, hq => by
    rcases List.mem_cons.mp hq with rfl | hq
    · exact h.1
    · exact all_allLt h.2 q hq
theorem all_ne_lts {d : Addr} {p : Addr × Obj} {r : List (Addr × Obj)} (h : Lts d p r) : ∀ q ∈ p :: r, q.1 ≠ d := fun q hq => Nat.ne_of_lt (all_lts h q hq)
theorem all_ne_allLt {d : Addr} {r : List (Addr × Obj)} (h : AllLt d r) : ∀ q ∈ r, q.1 ≠ d := fun q hq => Nat.ne_of_lt (all_allLt h q hq)
theorem ne_lts {x d : Addr} {o : Obj} {p : Addr × Obj} {r : List (Addr × Obj)} (h : Lts x p r) (hm : (d, o) ∈ p :: r) : x ≠ d := Nat.ne_of_gt (all_lts h _ hm)
theorem ne_allLt {x d : Addr} {o : Obj} {r : List (Addr × Obj)} (h : AllLt x r) (hm : (d, o) ∈ r) : x ≠ d := Nat.ne_of_gt (all_allLt h _ hm)
theorem updF_tail3 {d x : Addr} {o o2 : Obj} {r : List (Addr × Obj)} {g : Obj → List (Addr × Obj)} (U : UpdF d o r g) (h : (d, o) ∈ r → x ≠ d) : UpdF d o ((x, o2) :: r) (fun o' => (x, o2) :: g o') :=
  .tail (h (updF_mem U)) U
theorem absQE {α : Type} {M : Model} {A : Around} {c : Sem α} {Q : α → Shared → Prop} {E : Value → Shared → Prop} {s : Shared} (h : ∀ Q' E', OPo Q Q' → OPo E E' → wpAny M A c Q' E' s) : wpAny M A c Q E s := h Q E ⟨fun _ _ x => x⟩ ⟨fun _ _ x => x⟩
theorem absQEp {M : Model} {A : Around} {env : Env} {b : List Stmt} {Q : Flow → Shared → Prop} {E : Value → Shared → Prop} {s : Shared} (p : PassesOwn M A env E)
    (h : ∀ Q' E', OPo Q Q' → OPo E E' → PassesOwn M A env E' → wpAny M A (execs b env) Q' E' s) : wpAny M A (execs b env) Q E s := h Q E ⟨fun _ _ x => x⟩ ⟨fun _ _ x => x⟩ p
theorem all_ne_lts1 {d : Addr} {p : Addr × Obj} {r : List (Addr × Obj)} (h : Lts d p r) : ∀ q ∈ p :: r, q.1 ≠ d + 1 := fun q hq => Nat.ne_of_lt (Nat.lt_succ_of_lt (all_lts h q hq))
theorem all_ne_lts2 {d : Addr} {p : Addr × Obj} {r : List (Addr × Obj)} (h : Lts d p r) : ∀ q ∈ p :: r, q.1 ≠ d + 1 + 1 := fun q hq => Nat.ne_of_lt (Nat.lt_succ_of_lt (Nat.lt_succ_of_lt (all_lts h q hq)))
theorem all_ne_ltsT {d x : Addr} {p : Addr × Obj} {r : List (Addr × Obj)} (h : Lts x p r) (hx : @LT.lt Nat _ x d) : ∀ q ∈ p :: r, q.1 ≠ d := fun q hq => Nat.ne_of_lt (Nat.lt_trans (all_lts h q hq) hx)
theorem upd_mem {d : Addr} {o o' : Obj} {l l' : List (Addr × Obj)} (U : Upd d o o' l l') : (d, o) ∈ l := by
  induction U with
  | head _ => exact .head _
  | tail _ _ ih => exact .tail _ ih
theorem upd_tail3 {d x : Addr} {o o' o2 : Obj} {r r' : List (Addr × Obj)} (h : (d, o) ∈ r → x ≠ d) (U : Upd d o o' r r') : Upd d o o' ((x, o2) :: r) ((x, o2) :: r') := .tail (h (upd_mem U)) U
theorem g1 {a x : Nat} {R : Prop} (h : a < x ∧ R) : a < x := h.1
theorem g2 {a x : Nat} {P1 R : Prop} (h : P1 ∧ a < x ∧ R) : a < x := h.2.1
theorem e2 {a x : Nat} {P1 : Prop} (h : P1 ∧ a < x) : a < x := h.2
theorem g3 {a x : Nat} {P1 P2 R : Prop} (h : P1 ∧ P2 ∧ a < x ∧ R) : a < x := h.2.2.1
theorem e3 {a x : Nat} {P1 P2 : Prop} (h : P1 ∧ P2 ∧ a < x) : a < x := h.2.2
theorem g4 {a x : Nat} {P1 P2 P3 R : Prop} (h : P1 ∧ P2 ∧ P3 ∧ a < x ∧ R) : a < x := h.2.2.2.1
theorem e4 {a x : Nat} {P1 P2 P3 : Prop} (h : P1 ∧ P2 ∧ P3 ∧ a < x) : a < x := h.2.2.2
theorem g5 {a x : Nat} {P1 P2 P3 P4 R : Prop} (h : P1 ∧ P2 ∧ P3 ∧ P4 ∧ a < x ∧ R) : a < x := h.2.2.2.2.1
theorem e5 {a x : Nat} {P1 P2 P3 P4 : Prop} (h : P1 ∧ P2 ∧ P3 ∧ P4 ∧ a < x) : a < x := h.2.2.2.2
theorem g6 {a x : Nat} {P1 P2 P3 P4 P5 R : Prop} (h : P1 ∧ P2 ∧ P3 ∧ P4 ∧ P5 ∧ a < x ∧ R) : a < x := h.2.2.2.2.2.1
theorem e6 {a x : Nat} {P1 P2 P3 P4 P5 : Prop} (h : P1 ∧ P2 ∧ P3 ∧ P4 ∧ P5 ∧ a < x) : a < x := h.2.2.2.2.2
theorem g7 {a x : Nat} {P1 P2 P3 P4 P5 P6 R : Prop} (h : P1 ∧ P2 ∧ P3 ∧ P4 ∧ P5 ∧ P6 ∧ a < x ∧ R) : a < x := h.2.2.2.2.2.2.1
theorem e7 {a x : Nat} {P1 P2 P3 P4 P5 P6 : Prop} (h : P1 ∧ P2 ∧ P3 ∧ P4 ∧ P5 ∧ P6 ∧ a < x) : a < x := h.2.2.2.2.2.2
theorem g8 {a x : Nat} {P1 P2 P3 P4 P5 P6 P7 R : Prop} (h : P1 ∧ P2 ∧ P3 ∧ P4 ∧ P5 ∧ P6 ∧ P7 ∧ a < x ∧ R) : a < x := h.2.2.2.2.2.2.2.1
theorem e8 {a x : Nat} {P1 P2 P3 P4 P5 P6 P7 : Prop} (h : P1 ∧ P2 ∧ P3 ∧ P4 ∧ P5 ∧ P6 ∧ P7 ∧ a < x) : a < x := h.2.2.2.2.2.2.2
theorem g9 {a x : Nat} {P1 P2 P3 P4 P5 P6 P7 P8 R : Prop} (h : P1 ∧ P2 ∧ P3 ∧ P4 ∧ P5 ∧ P6 ∧ P7 ∧ P8 ∧ a < x ∧ R) : a < x := h.2.2.2.2.2.2.2.2.1
theorem e9 {a x : Nat} {P1 P2 P3 P4 P5 P6 P7 P8 : Prop} (h : P1 ∧ P2 ∧ P3 ∧ P4 ∧ P5 ∧ P6 ∧ P7 ∧ P8 ∧ a < x) : a < x := h.2.2.2.2.2.2.2.2
theorem g10 {a x : Nat} {P1 P2 P3 P4 P5 P6 P7 P8 P9 R : Prop} (h : P1 ∧ P2 ∧ P3 ∧ P4 ∧ P5 ∧ P6 ∧ P7 ∧ P8 ∧ P9 ∧ a < x ∧ R) : a < x := h.2.2.2.2.2.2.2.2.2.1
theorem e10 {a x : Nat} {P1 P2 P3 P4 P5 P6 P7 P8 P9 : Prop} (h : P1 ∧ P2 ∧ P3 ∧ P4 ∧ P5 ∧ P6 ∧ P7 ∧ P8 ∧ P9 ∧ a < x) : a < x := h.2.2.2.2.2.2.2.2.2
theorem g11 {a x : Nat} {P1 P2 P3 P4 P5 P6 P7 P8 P9 P10 R : Prop} (h : P1 ∧ P2 ∧ P3 ∧ P4 ∧ P5 ∧ P6 ∧ P7 ∧ P8 ∧ P9 ∧ P10 ∧ a < x ∧ R) : a < x := h.2.2.2.2.2.2.2.2.2.2.1
theorem e11 {a x : Nat} {P1 P2 P3 P4 P5 P6 P7 P8 P9 P10 : Prop} (h : P1 ∧ P2 ∧ P3 ∧ P4 ∧ P5 ∧ P6 ∧ P7 ∧ P8 ∧ P9 ∧ P10 ∧ a < x) : a < x := h.2.2.2.2.2.2.2.2.2.2
theorem g12 {a x : Nat} {P1 P2 P3 P4 P5 P6 P7 P8 P9 P10 P11 R : Prop} (h : P1 ∧ P2 ∧ P3 ∧ P4 ∧ P5 ∧ P6 ∧ P7 ∧ P8 ∧ P9 ∧ P10 ∧ P11 ∧ a < x ∧ R) : a < x := h.2.2.2.2.2.2.2.2.2.2.2.1
theorem e12 {a x : Nat} {P1 P2 P3 P4 P5 P6 P7 P8 P9 P10 P11 : Prop} (h : P1 ∧ P2 ∧ P3 ∧ P4 ∧ P5 ∧ P6 ∧ P7 ∧ P8 ∧ P9 ∧ P10 ∧ P11 ∧ a < x) : a < x := h.2.2.2.2.2.2.2.2.2.2.2
/-- the count of tokens as a letter (the kit's k_gentoks looks for it in the whole goal: 19 s in the law) -/
theorem genToks {α : Type} {M : Model} {A : Around} {c : Sem α} {Q : α → Shared → Prop} {E : Value → Shared → Prop} {h : Heap} {g : Array GenState} {d : Drawn} {o : OsState} {t : Nat} (x : ∀ t', wpAny M A c Q E (Shared.mk h g d t' o)) : wpAny M A c Q E (Shared.mk h g d t o) := x t
end Mine

local macro_rules | `(tactic| walk_at "mine_enter") => `(tactic| (k_extra "mine_ent_a"; intro g' L' h' FG' F' N' B' X' T' kG'; (try dsimp only); (first | k_extra "mine_abs" | (try k_fold))))
local macro_rules | `(tactic| walk_at "mine_enterC") => `(tactic| (k_extra "mine_entC_a"; intro g' L' h' tk' cells' FG' F' N' Y' B' X' T' l1 kG'; (try k_lt l1); k_cells Y'; (try simp only [List.cons_append, List.nil_append] at N'); (try dsimp only); (first | k_extra "mine_abs" | (try k_fold))))
local macro_rules | `(tactic| k_lt $h:ident) => `(tactic| (revert $h:ident; k_extra "mine_klt"; intro $h:ident))
local macro_rules | `(tactic| k_updF) => `(tactic| k_extra "mine_updF")
local macro_rules | `(tactic| k_upd) => `(tactic| k_extra "mine_upd")
local macro_rules | `(tactic| k_all) => `(tactic| k_extra "mine_all")
local macro_rules | `(tactic| k_ne) => `(tactic| k_extra "mine_ne9")
theorem Mine.fresh02 : True := by
  w_top off
  k_with "mine_ent_a" => ((k_dflt (refine' code_defG ?k1qh ?k2qh ?k3qh ?k4qh ?k5qh ?kAqh ?kFqh ?kKqh ?k6qh ?k7qh ?k8qh ?k9qh ?kBqh ?_ ?c2qh ?c3qh ?c4qh ?c5qh; (case kAqh => exact rfl); (case kFqh => exact rfl); (case kKqh => assumption); (case k1qh => k_asm); (case k2qh => k_asm); (case k3qh => k_asm); (case k4qh => k_asm); (case k5qh => k_asm); (case k6qh => k_is); (case k7qh => k_is); (case k8qh => ktr_room); (case k9qh => exact BindsTo.of_eq rfl); (case c5qh => decide); (case kBqh => exact locs rfl); (case c2qh => exact rfl); (case c3qh => exact rfl); (case c4qh => exact rfl); k_whole)))
  k_with "mine_entC_a" => ((k_dflt (refine' Mine.m_enterC ?k1qh ?k2qh ?k3qh ?k4qh ?k5qh ?kAqh ?kFqh ?kKqh ?k6qh ?k7qh ?k8qh ?k9qh ?kBqh ?kDqh ?_ ?c2qh ?c3qh ?c4qh; (case kAqh => exact rfl); (case kFqh => exact rfl); (case kKqh => assumption); (case k1qh => k_asm); (case k2qh => k_asm); (case k3qh => k_asm); (case k4qh => k_asm); (case k5qh => k_asm); (case k6qh => k_is); (case k7qh => k_is); (case k8qh => ktr_room); (case k9qh => exact BindsTo.of_eq rfl); (case kBqh => exact rfl); (case kDqh => decide +kernel); (case c2qh => exact rfl); (case c3qh => exact rfl); (case c4qh => exact rfl); k_whole)))
  k_with "mine_klt" => ((intro hKqz; replace hKqz := allLt_of hKqz; (first | (replace hKqz := Mine.lts_of hKqz; (dsimp only [Mine.Lts] at hKqz); fail_if_success (unfold Mine.Lts at hKqz)) | dsimp only [AllLt] at hKqz); revert hKqz))
  k_with "mine_all" => ((first | exact Mine.all_ne_lts (by with_reducible assumption) | exact Mine.all_ne_lts1 (by with_reducible assumption) | exact Mine.all_ne_lts2 (by with_reducible assumption) | exact Mine.all_ne_ltsT (by with_reducible assumption) (by omega) | exact Mine.all_ne_allLt (by with_reducible assumption)))
  k_with "mine_updF" => ((first | (refine' UpdF.head ?aqh; (case aqh => first | k_extra "mine_all" | k_all)) | (refine' Mine.updF_tail3 ?bqh ?aqh; (case aqh => first | exact Mine.ne_lts (by with_reducible assumption) | exact Mine.ne_allLt (by with_reducible assumption) | (intro _; k_ne)); (case bqh => k_extra "mine_updF"))))
  k_with "mine_upd" => ((first | (refine' Upd.head ?aqh; (case aqh => first | k_extra "mine_all" | k_all)) | (refine' Mine.upd_tail3 ?aqh ?bqh; (case aqh => first | exact Mine.ne_lts (by with_reducible assumption) | exact Mine.ne_allLt (by with_reducible assumption) | (intro _; k_ne)); (case bqh => k_extra "mine_upd"))))
  k_with "mine_lt9" => ((first | with_reducible assumption | exact Mine.g1 (by with_reducible assumption) | exact Mine.g2 (by with_reducible assumption) | exact Mine.g3 (by with_reducible assumption) | exact Mine.g4 (by with_reducible assumption) | exact Mine.g5 (by with_reducible assumption) | exact Mine.g6 (by with_reducible assumption) | exact Mine.g7 (by with_reducible assumption) | exact Mine.g8 (by with_reducible assumption) | exact Mine.g9 (by with_reducible assumption) | exact Mine.g10 (by with_reducible assumption) | exact Mine.g11 (by with_reducible assumption) | exact Mine.g12 (by with_reducible assumption) | exact Mine.e2 (by with_reducible assumption) | exact Mine.e3 (by with_reducible assumption) | exact Mine.e4 (by with_reducible assumption) | exact Mine.e5 (by with_reducible assumption) | exact Mine.e6 (by with_reducible assumption) | exact Mine.e7 (by with_reducible assumption) | exact Mine.e8 (by with_reducible assumption) | exact Mine.e9 (by with_reducible assumption) | exact Mine.e10 (by with_reducible assumption) | exact Mine.e11 (by with_reducible assumption) | exact Mine.e12 (by with_reducible assumption)))
  k_with "mine_ne9" => ((first | exact Nat.succ_ne_self _ | exact (Nat.succ_ne_self _).symm | exact Nat.ne_of_lt (by k_extra "mine_lt9") | exact Nat.ne_of_gt (by k_extra "mine_lt9") | exact Nat.ne_of_lt (Nat.lt_succ_of_lt (by k_extra "mine_lt9")) | exact Nat.ne_of_gt (Nat.lt_succ_of_lt (by k_extra "mine_lt9")) | exact Nat.ne_of_lt (Nat.lt_succ_of_lt (Nat.lt_succ_of_lt (by k_extra "mine_lt9"))) | exact Nat.ne_of_gt (Nat.lt_succ_of_lt (Nat.lt_succ_of_lt (by k_extra "mine_lt9")))))
  trivial
namespace Mine
theorem next_c (w : World) {p : Program} {loose : List Str} {mean : ExcName → Option Value} {mg mb : Str → Option Value}
    (dp un : Nat) (gd : Option (List Code)) (cn : Str) (cs : Scope) (a : Addr) (ccd : Value) (cl : List (Str × Addr)) (outer : List Env) (A₀ : Around) (base h₀ : Heap) (L : Addr) (m : Str → Option Value) (s : Shared)
    (tp cla : Addr) (o : Obj) (vs : List Value) (ns : List Int) (k wide : Int) (tk wt : Tok) (Q E : Value → Shared → Prop)
    (B : Below A₀ base outer h₀) (F : Fr h₀ L s.heap m) (X : (hd.heap_39 w.params).In h₀) (N : News h₀ L s.heap [(tp, o)]) (T : Top p loose mean mg mb h₀) (hk : cs.kind = .function)
    (hd : o.IsDictOf (PySem.strKind PG w) [("cells", .ref cla), ("spot", .int k tk)])
    (hl : s.heap.IsList cla vs.toArray) (hi : IntsAre vs ns) (hlen : ns.length ≤ 60) (hk0 : 0 ≤ k) (hk1 : k ≤ 1000) (hw0 : 0 < wide) (hw1 : wide ≤ 6)
    (hdp : dp + 1 < recursionLimit) (hun : un + 100 < cLine)
    (hret : ∀ r t h' tk' o' t', 0 ≤ r → r < wide → Fr h₀ L h' m → KeepBut [tp] s.heap h' → h'.get? tp = some o' → o'.IsDictOf (PySem.strKind PG w) [("cells", .ref cla), ("spot", .int (k+1) t')] → Q (.int r t) { s with heap := h', toks := tk' }) :
    wpAny (model PG w) (ktrTop dp un gd cn cs L a ccd cl outer) (call (.ref 114) [.ref tp, .int wide wt]) Q E s := by
  suffices h : Mine.hd.heap_39 = Mine.hd.heap_39 → PySem.Challenge.rw_nu0263_01 = PySem.Challenge.rw_nu0263_01 → wpAny (model PG w) (ktrTop dp un gd cn cs L a ccd cl outer) (call (.ref 114) [.ref tp, .int wide wt]) Q E s from h rfl rfl
  k_fill
  intro _ _
  have hne : cla ≠ tp := by
    obtain ⟨es, ep, hx, _⟩ := id hd
    exact list_ne_dict hl (N.get (.head _)) hx.1
  refine wpAny_call ?_
  walk_at "mine_enter"
  rename GSub _ _ _ => kG'
  have hl' := isList_keep (S := [tp]) kG' hl (by simpa using hne)
  k_steps
  all_goals (apply hret)
  all_goals try first
    | exact keepBut_of (S := [tp]) (by assumption) (by assumption)
    | exact Int.fmod_nonneg_of_pos _ hw0
    | exact Int.fmod_lt_of_pos _ hw0
    | (show Fr _ _ _ _; assumption)
    | (show Obj.IsDictOf _ _ _; assumption)
  all_goals exact News.get (by assumption) (List.mem_cons_self ..)

theorem next_k {w : World} {p : Program} {loose : List Str} {mean : ExcName → Option Value} {mg mb : Str → Option Value}
    {dp un : Nat} {gd : Option (List Code)} {cn : Str} {cs : Scope} {a : Addr} {ccd : Value} {cl : List (Str × Addr)} {outer : List Env} {A₀ : Around} {base h₀ : Heap} {L : Addr} {m : Str → Option Value} {s : Shared}
    {tp cla : Addr} {o : Obj} {vs : List Value} {ns : List Int} {k wide : Int} {tk wt : Tok} {Q E : Value → Shared → Prop} {news : List (Addr × Obj)} {u : Obj → List (Addr × Obj)}
    (B : Below A₀ base outer h₀) (F : Fr h₀ L s.heap m) (X : (hd.heap_39 w.params).In h₀) (N : News h₀ L s.heap news) (T : Top p loose mean mg mb h₀) (hk : cs.kind = .function)
    (U : UpdF tp o news u) (hd : o.IsDictOf (PySem.strKind PG w) [("cells", .ref cla), ("spot", .int k tk)])
    (hl : s.heap.IsList cla vs.toArray) (hi : IntsAre vs ns) (hlen : ns.length ≤ 60) (hk0 : 0 ≤ k) (hk1 : k ≤ 1000) (hw0 : 0 < wide) (hw1 : wide ≤ 6)
    (hdp : dp + 1 < recursionLimit) (hun : un + 100 < cLine)
    (hret : ∀ r t h' tk' o' t', 0 ≤ r → r < wide → Fr h₀ L h' m → News h₀ L h' (u o') → KeepBut [tp] s.heap h' → o'.IsDictOf (PySem.strKind PG w) [("cells", .ref cla), ("spot", .int (k+1) t')] → Q (.int r t) { s with heap := h', toks := tk' }) :
    wpAny (model PG w) (ktrTop dp un gd cn cs L a ccd cl outer) (call (.ref 114) [.ref tp, .int wide wt]) Q E s :=
  next_c w dp un gd cn cs a ccd cl outer A₀ base h₀ L m s tp cla o vs ns k wide tk wt Q E B F X (Mine.News.one N (updF_mem U)) T hk hd hl hi hlen hk0 hk1 hw0 hw1 hdp hun
    fun r t h' tk' o' t' h0 h1 F' K e d => hret r t h' tk' o' t' h0 h1 F' (news_call N U K e) K d
end Mine

theorem Mine.fresh03 : True := by
  w_top off
  k_with "mine_nat" => (first | omega | decide | ((try simp only [List.length_append, List.length_cons, List.length_nil] at *); omega))
  k_with "my call ref" => ((k_here; (with_reducible show wpAny _ _ (call (Value.ref 114) [Value.ref _, Value.int _ _]) _ _ _); k_dflt (refine' Mine.next_k ?k1qh ?k2qh ?k3qh ?k4qh ?k5qh ?kKqh ?kUqh ?kdqh ?klqh ?kiqh ?knqh ?k0qh ?khqh ?kwqh ?kvqh ?kpqh ?kuqh ?_; (case k1qh => k_asm); (case k2qh => k_asm); (case k3qh => k_asm); (case k4qh => k_asm); (case k5qh => k_asm); (case kKqh => first | exact rfl | assumption); (case kUqh => k_updF); (case kdqh => assumption); (case klqh => is_list); (case kiqh => assumption); (case knqh => k_extra "mine_nat"); (case k0qh => k_extra "mine_nat"); (case khqh => k_extra "mine_nat"); (case kwqh => k_extra "mine_nat"); (case kvqh => k_extra "mine_nat"); (case kpqh => ktr_room); (case kuqh => ktr_units); k_whole; intro r'qz t'qz h'qz tk'qz o'qz t2'qz hr0'qz hr1'qz F'qz N'qz K'qz hd'qz; (try dsimp only at N'qz); (try k_fold)); walk_say "NEXT"))
  trivial
namespace Mine
theorem literal_c (w : World) {p : Program} {loose : List Str} {mean : ExcName → Option Value} {mg mb : Str → Option Value}
    (dp un : Nat) (gd : Option (List Code)) (cn : Str) (cs : Scope) (a : Addr) (ccd : Value) (cl : List (Str × Addr)) (outer : List Env) (A₀ : Around) (base h₀ : Heap) (L : Addr) (m : Str → Option Value) (s : Shared)
    (tp cla : Addr) (o : Obj) (vs : List Value) (ns : List Int) (k many : Int) (tk wt : Tok) (Q E : Value → Shared → Prop)
    (B : Below A₀ base outer h₀) (F : Fr h₀ L s.heap m) (X : (hd.heap_39 w.params).In h₀) (N : News h₀ L s.heap [(tp, o)]) (T : Top p loose mean mg mb h₀) (hk : cs.kind = .function)
    (hd : o.IsDictOf (PySem.strKind PG w) [("cells", .ref cla), ("spot", .int k tk)])
    (hl : s.heap.IsList cla vs.toArray) (hi : IntsAre vs ns) (hlen : ns.length ≤ 60) (hk0 : 0 ≤ k) (hk1 : k ≤ 1000) (hw0 : 0 < many) (hw1 : many ≤ 3)
    (hdp : dp + 2 < recursionLimit) (hun : un + 200 < cLine)
    (hret : ∀ r t h' tk' o' t', r ≠ 0 → -many ≤ r → r ≤ many → Fr h₀ L h' m → KeepBut [tp] s.heap h' → h'.get? tp = some o' → o'.IsDictOf (PySem.strKind PG w) [("cells", .ref cla), ("spot", .int (k+1) t')] → Q (.int r t) { s with heap := h', toks := tk' }) :
    wpAny (model PG w) (ktrTop dp un gd cn cs L a ccd cl outer) (call (.ref 121) [.ref tp, .int many wt]) Q E s := by
  suffices h : Mine.hd.heap_39 = Mine.hd.heap_39 → PySem.Challenge.rw_nu0263_01 = PySem.Challenge.rw_nu0263_01 → wpAny (model PG w) (ktrTop dp un gd cn cs L a ccd cl outer) (call (.ref 121) [.ref tp, .int many wt]) Q E s from h rfl rfl
  k_fill
  intro _ _
  have hne : cla ≠ tp := by
    obtain ⟨es, ep, hx, _⟩ := id hd
    exact list_ne_dict hl (N.get (.head _)) hx.1
  refine wpAny_call ?_
  walk_at "mine_enter"
  rename GSub _ _ _ => kG'
  have hl' := isList_keep (S := [tp]) kG' hl (by simpa using hne)
  k_steps
  all_goals (apply hret)
  all_goals try first
    | exact keepBut_of (S := [tp]) (by assumption) (by assumption)
    | (show Fr _ _ _ _; assumption)
    | (show Obj.IsDictOf _ _ _; assumption)
    | ((try rw [Int.fdiv_eq_ediv_of_nonneg _ (by decide)]); omega)
  all_goals exact News.get (by assumption) (List.mem_cons_self ..)

theorem literal_k {w : World} {p : Program} {loose : List Str} {mean : ExcName → Option Value} {mg mb : Str → Option Value}
    {dp un : Nat} {gd : Option (List Code)} {cn : Str} {cs : Scope} {a : Addr} {ccd : Value} {cl : List (Str × Addr)} {outer : List Env} {A₀ : Around} {base h₀ : Heap} {L : Addr} {m : Str → Option Value} {s : Shared}
    {tp cla : Addr} {o : Obj} {vs : List Value} {ns : List Int} {k many : Int} {tk wt : Tok} {Q E : Value → Shared → Prop} {news : List (Addr × Obj)} {u : Obj → List (Addr × Obj)}
    (B : Below A₀ base outer h₀) (F : Fr h₀ L s.heap m) (X : (hd.heap_39 w.params).In h₀) (N : News h₀ L s.heap news) (T : Top p loose mean mg mb h₀) (hk : cs.kind = .function)
    (U : UpdF tp o news u) (hd : o.IsDictOf (PySem.strKind PG w) [("cells", .ref cla), ("spot", .int k tk)])
    (hl : s.heap.IsList cla vs.toArray) (hi : IntsAre vs ns) (hlen : ns.length ≤ 60) (hk0 : 0 ≤ k) (hk1 : k ≤ 1000) (hw0 : 0 < many) (hw1 : many ≤ 3)
    (hdp : dp + 2 < recursionLimit) (hun : un + 200 < cLine)
    (hret : ∀ r t h' tk' o' t', r ≠ 0 → -many ≤ r → r ≤ many → Fr h₀ L h' m → News h₀ L h' (u o') → KeepBut [tp] s.heap h' → o'.IsDictOf (PySem.strKind PG w) [("cells", .ref cla), ("spot", .int (k+1) t')] → Q (.int r t) { s with heap := h', toks := tk' }) :
    wpAny (model PG w) (ktrTop dp un gd cn cs L a ccd cl outer) (call (.ref 121) [.ref tp, .int many wt]) Q E s :=
  literal_c w dp un gd cn cs a ccd cl outer A₀ base h₀ L m s tp cla o vs ns k many tk wt Q E B F X (Mine.News.one N (updF_mem U)) T hk hd hl hi hlen hk0 hk1 hw0 hw1 hdp hun
    fun r t h' tk' o' t' h0 h1 h2 F' K e d => hret r t h' tk' o' t' h0 h1 h2 F' (news_call N U K e) K d
end Mine

theorem Mine.fresh04 : True := by
  w_top off
  trivial
namespace Mine
theorem base_neL {g h : Heap} {L l : Addr} {its : Array Value} {m : Str → Option Value} (hl : g.IsList l its) (F : Fr g L h m) : l ≠ L := by
  obtain ⟨o, e, _⟩ := hl
  exact Nat.ne_of_lt (Nat.lt_of_lt_of_le (Heap.lt_size e) F.above)
theorem base_neN {g h : Heap} {L l : Addr} {its : Array Value} {news : List (Addr × Obj)} (hl : g.IsList l its) (N : News g L h news) : ∀ q ∈ news, q.1 ≠ l := by
  obtain ⟨o, e, _⟩ := hl
  intro q hq z
  have := (N q hq).2.2
  rw [z, e] at this; cases this
theorem tbase_neL {g h : Heap} {L l : Addr} {its : Array Value} {m : Str → Option Value} (hl : g.IsTuple l its) (F : Fr g L h m) : l ≠ L := by
  obtain ⟨o, e, _⟩ := hl
  exact Nat.ne_of_lt (Nat.lt_of_lt_of_le (Heap.lt_size e) F.above)
theorem tbase_neN {g h : Heap} {L l : Addr} {its : Array Value} {news : List (Addr × Obj)} (hl : g.IsTuple l its) (N : News g L h news) : ∀ q ∈ news, q.1 ≠ l := by
  obtain ⟨o, e, _⟩ := hl
  intro q hq z
  have := (N q hq).2.2
  rw [z, e] at this; cases this
theorem base_now {g h : Heap} {L l : Addr} {its : Array Value} {m : Str → Option Value} (hl : g.IsList l its) (F : Fr g L h m) : h.IsList l its := by
  obtain ⟨o, e, r⟩ := hl
  exact ⟨o, F.keep _ _ e, r⟩
theorem tbase_now {g h : Heap} {L l : Addr} {its : Array Value} {m : Str → Option Value} (hl : g.IsTuple l its) (F : Fr g L h m) : h.IsTuple l its := by
  obtain ⟨o, e, r⟩ := hl
  exact ⟨o, F.keep _ _ e, r⟩
section
variable {prog : Program} {w : World} {A : Around} {E : Value → Shared → Prop} {s : Shared} {env : Env} {h₀ : Heap} {x : Str} {body : List Stmt} {Q : Flow → Shared → Prop}

/-- a loop by an invariant over the frame's names and the ledger; the ledger may grow -/
theorem m_loop {I : Addr} {fp wr : List Addr} {n : Nat} {P : Nat → Value → Prop} {St : Nat → Heap → Prop} {m₀ : Str → Option Value} {news : List (Addr × Obj)} (J : Nat → (Str → Option Value) → List (Addr × Obj) → Prop)
    (W : Walks prog w A I fp wr n P St) (hLf : env.locals ∉ fp) (hwr : ∀ b ∈ wr, h₀.get? b = none) (hfp : ∀ q ∈ news, q.1 ∉ fp) (hex : ∀ i h, St i h → ∀ b ∈ fp, ∃ o, h.get? b = some o)
    (hst : St 0 s.heap) (F : Fr h₀ env.locals s.heap m₀) (N : News h₀ env.locals s.heap news) (hj : J 0 m₀ news)
    (turn : ∀ i v m₁ nx h tk own, i < n → P i v → TbOff own nx → J i m₁ nx → Fr h₀ env.locals h (fun y => if y = x then some v else m₁ y) → News h₀ env.locals h (nx ++ own) →
      wpAny (model prog w) A (execs body env) (TbPost h₀ env.locals (J (i + 1)) own { s with heap := h, toks := tk } Q) E { s with heap := h, toks := tk })
    (done : ∀ m₁ nx h tk, J n m₁ nx → Fr h₀ env.locals h m₁ → News h₀ env.locals h nx → Q .next { s with heap := h, toks := tk }) :
    LoopAtV prog w A h₀ env x body Q E (.ref I) s := by
  have wf : ∀ b ∈ wr, b ∈ fp := W.sub
  refine ⟨I, fp, wr, n, P, St, m₀, news, fun i m₁ nx => (∀ q ∈ nx, q.1 ∉ fp) ∧ J i m₁ nx, rfl, W, hLf, hwr, fun q hq hb => hfp q hq (wf _ hb), hst, F, N, ⟨hfp, hj⟩, ?_, ?_⟩
  · rintro i v m₁ nx s₁ own ⟨h, tk, rfl⟩ hin hP ⟨hnf, hJ⟩ _ hown _ hall hst₁ F₁ N₁
    have off : TbOff own nx := fun p hp q hq e => hnf q hq (e ▸ hown p hp)
    have N₂ : News h₀ env.locals h (nx ++ own) := fun p hp => N₁ p (by
      rcases List.mem_append.mp hp with q | q
      · exact List.mem_append_right _ q
      · exact List.mem_append_left _ q)
    refine wpAny_mono (turn i v m₁ nx h tk own hin hP off hJ F₁ N₂) (fun f s₂ p => ?_) fun _ _ e => e
    have fin : TbEnd h₀ env.locals (J (i + 1)) own { s with heap := h, toks := tk } s₂ →
        LoopStepU h₀ env.locals wr own (fun m₁ nx => (∀ q ∈ nx, q.1 ∉ fp) ∧ J (i + 1) m₁ nx) { s with heap := h, toks := tk } .next s₂ := by
      rintro ⟨h', tk', m', news', nx', e, F', N', hn, ho, ha, hm⟩
      have far : ∀ q ∈ nx', q.1 ∉ fp := by
        intro q hq hb
        cases hb0 : h₀.get? q.1 with
        | some o => have := (N' q (hn q hq)).2.2; rw [hb0] at this; cases this
        | none =>
          obtain ⟨o, ho'⟩ := hex _ _ hst₁ _ hb
          exact ha _ (hall _ hb hb0 o ho') q hq rfl
      refine ⟨rfl, h', tk', m', nx', e, F', fun p hp => N' p ?_, fun q hq hb => far q hq (wf _ hb), far, hm⟩
      rcases List.mem_append.mp hp with q | q
      · exact ho p q
      · exact hn p q
    cases f with
    | ret v => exact p
    | brk => exact p
    | next => exact fin p
    | cont => exact fin p
  · rintro h' tk m' nx F' N' _ ⟨_, hJ⟩
    exact done m' nx h' tk hJ F' N'

/-- over a list, wherever it stands (in the base, or in the ledger's part that the loop does not name) -/
theorem m_iter_list {l : Addr} {vs : List Value} {m₀ : Str → Option Value} {news : List (Addr × Obj)} (J : Nat → (Str → Option Value) → List (Addr × Obj) → Prop)
    (hh : A.handled = none) (hl : s.heap.IsList l vs.toArray) (hL : l ≠ env.locals) (hn : ∀ q ∈ news, q.1 ≠ l) (F : Fr h₀ env.locals s.heap m₀) (N : News h₀ env.locals s.heap news) (hj : J 0 m₀ news)
    (turn : ∀ i v m₁ nx h tk own, vs[i]? = some v → TbOff own nx → J i m₁ nx → Fr h₀ env.locals h (fun y => if y = x then some v else m₁ y) → News h₀ env.locals h (nx ++ own) →
      wpAny (model prog w) A (execs body env) (TbPost h₀ env.locals (J (i + 1)) own { s with heap := h, toks := tk } Q) E { s with heap := h, toks := tk })
    (done : ∀ m₁ nx h tk, J vs.length m₁ nx → Fr h₀ env.locals h m₁ → News h₀ env.locals h nx → Q .next { s with heap := h, toks := tk }) :
    wpAny (model prog w) A (pyIter (.ref l)) (fun it s₂ => LoopAtV prog w A h₀ env x body Q E it s₂) E s := by
  obtain ⟨ol, hol, _⟩ := id hl
  have hlt : l < s.heap.objs.size := Heap.lt_size hol
  have hLt : env.locals < s.heap.objs.size := F.ns.lt
  refine wpAny_pyIter_list hl (m_loop (s := { s with heap := s.heap.push { cls := .type "list_iterator", data := .fields #[.ref l, .int 0 0] } }) (n := vs.length) J
    (by simpa using Walks.list (prog := prog) (w := w) hh s.heap.objs.size l (Nat.ne_of_lt hlt) vs.toArray) ?_ ?_ ?_ ?_ ?_ (F.push _) (fun p hp => ⟨Heap.get?_push_of_some _ (N p hp).1, (N p hp).2⟩) hj ?_ ?_)
  · intro hm
    rcases List.mem_cons.mp hm with e | hm
    · exact absurd hLt (e ▸ Nat.lt_irrefl _)
    · exact hL (List.mem_singleton.mp hm).symm
  · intro b hb
    rw [List.mem_singleton.mp hb]
    exact next_is_new F
  · intro q hq hm
    rcases List.mem_cons.mp hm with e | hm
    · exact absurd (Heap.lt_size (N q hq).1) (e ▸ Nat.lt_irrefl _)
    · exact hn q hq (List.mem_singleton.mp hm)
  · rintro i h ⟨⟨o1, e1, _⟩, ⟨o2, e2, _⟩⟩ b hb
    rcases List.mem_cons.mp hb with e | hb
    · exact ⟨o1, e ▸ e1⟩
    · exact ⟨o2, (List.mem_singleton.mp hb) ▸ e2⟩
  · exact ⟨⟨_, Heap.get?_push_size _ rfl, rfl, rfl⟩, hl.at fun o e => Heap.get?_push_of_some _ e⟩
  · intro i v m₁ nx h tk own _ hP
    exact turn i v m₁ nx h tk own (by simpa using hP)
  · exact done
/-- over a tuple -/
theorem m_iter_tup {l : Addr} {vs : List Value} {m₀ : Str → Option Value} {news : List (Addr × Obj)} (J : Nat → (Str → Option Value) → List (Addr × Obj) → Prop)
    (hh : A.handled = none) (hl : s.heap.IsTuple l vs.toArray) (hL : l ≠ env.locals) (hn : ∀ q ∈ news, q.1 ≠ l) (F : Fr h₀ env.locals s.heap m₀) (N : News h₀ env.locals s.heap news) (hj : J 0 m₀ news)
    (turn : ∀ i v m₁ nx h tk own, vs[i]? = some v → TbOff own nx → J i m₁ nx → Fr h₀ env.locals h (fun y => if y = x then some v else m₁ y) → News h₀ env.locals h (nx ++ own) →
      wpAny (model prog w) A (execs body env) (TbPost h₀ env.locals (J (i + 1)) own { s with heap := h, toks := tk } Q) E { s with heap := h, toks := tk })
    (done : ∀ m₁ nx h tk, J vs.length m₁ nx → Fr h₀ env.locals h m₁ → News h₀ env.locals h nx → Q .next { s with heap := h, toks := tk }) :
    wpAny (model prog w) A (pyIter (.ref l)) (fun it s₂ => LoopAtV prog w A h₀ env x body Q E it s₂) E s := by
  obtain ⟨ol, hol, _⟩ := id hl
  have hlt : l < s.heap.objs.size := Heap.lt_size hol
  have hLt : env.locals < s.heap.objs.size := F.ns.lt
  refine wpAny_pyIter_tuple hl (m_loop (s := { s with heap := s.heap.push { cls := .type "tuple_iterator", data := .fields #[.ref l, .int 0 0] } }) (n := vs.length) J
    (by simpa using Walks.tuple (prog := prog) (w := w) hh s.heap.objs.size l (Nat.ne_of_lt hlt) vs.toArray) ?_ ?_ ?_ ?_ ?_ (F.push _) (fun p hp => ⟨Heap.get?_push_of_some _ (N p hp).1, (N p hp).2⟩) hj ?_ ?_)
  · intro hm
    rcases List.mem_cons.mp hm with e | hm
    · exact absurd hLt (e ▸ Nat.lt_irrefl _)
    · exact hL (List.mem_singleton.mp hm).symm
  · intro b hb
    rw [List.mem_singleton.mp hb]
    exact next_is_new F
  · intro q hq hm
    rcases List.mem_cons.mp hm with e | hm
    · exact absurd (Heap.lt_size (N q hq).1) (e ▸ Nat.lt_irrefl _)
    · exact hn q hq (List.mem_singleton.mp hm)
  · rintro i h ⟨⟨o1, e1, _⟩, ⟨o2, e2, _⟩⟩ b hb
    rcases List.mem_cons.mp hb with e | hb
    · exact ⟨o1, e ▸ e1⟩
    · exact ⟨o2, (List.mem_singleton.mp hb) ▸ e2⟩
  · exact ⟨⟨_, Heap.get?_push_size _ rfl, rfl, rfl⟩, hl.at fun o e => Heap.get?_push_of_some _ e⟩
  · intro i v m₁ nx h tk own _ hP
    exact turn i v m₁ nx h tk own (by simpa using hP)
  · exact done
/-- over a range by ones from nought -/
theorem m_iter_range {r : Addr} {b₀ : Int} {t₀ u₀ v₀ : Tok} {n : Nat} {m₀ : Str → Option Value} {news : List (Addr × Obj)} (J : Nat → (Str → Option Value) → List (Addr × Obj) → Prop)
    (hh : A.handled = none) (hr : IsRange s.heap r 0 b₀ 1 t₀ u₀ v₀) (hb : b₀ = (n : Int)) (hsmall : b₀ < 2 ^ 62) (F : Fr h₀ env.locals s.heap m₀) (N : News h₀ env.locals s.heap news) (hj : J 0 m₀ news)
    (turn : ∀ (i : Nat) t m₁ nx h tk own, i < n → TbOff own nx → J i m₁ nx → Fr h₀ env.locals h (fun y => if y = x then some (.int (i : Int) t) else m₁ y) → News h₀ env.locals h (nx ++ own) →
      wpAny (model prog w) A (execs body env) (TbPost h₀ env.locals (J (i + 1)) own { s with heap := h, toks := tk } Q) E { s with heap := h, toks := tk })
    (done : ∀ m₁ nx h tk, J n m₁ nx → Fr h₀ env.locals h m₁ → News h₀ env.locals h nx → Q .next { s with heap := h, toks := tk }) :
    wpAny (model prog w) A (pyIter (.ref r)) (fun it s₂ => LoopAtV prog w A h₀ env x body Q E it s₂) E s := by
  subst hb
  have hs : Builtin.Range.small 0 (n : Int) 1 = true := small_one (by decide) (by decide) (by omega) hsmall
  have hz : Builtin.Range.rangeSize 0 (n : Int) 1 = (n : Int) := by
    unfold Builtin.Range.rangeSize
    rw [if_pos (by decide)]
    by_cases h : (0 : Int) < (n : Int)
    · rw [if_pos h]; omega
    · rw [if_neg h]; omega
  have hLt : env.locals < s.heap.objs.size := F.ns.lt
  refine wpAny_pyIter_range hr hs ?_
  rw [hz]
  refine m_loop (s := { s with heap := s.heap.push { cls := .type "range_iterator", data := .fields #[rawInt 0, rawInt (n : Int), rawInt 1] } }) (n := n) J
    (Walks.range (prog := prog) (w := w) hh s.heap.objs.size 0 1 n).bound ?_ ?_ ?_ ?_ ?_ (F.push _) (fun p hp => ⟨Heap.get?_push_of_some _ (N p hp).1, (N p hp).2⟩) hj ?_ ?_
  · intro hm
    exact absurd hLt ((List.mem_singleton.mp hm) ▸ Nat.lt_irrefl _)
  · intro b hb
    rw [List.mem_singleton.mp hb]
    exact next_is_new F
  · intro q hq hm
    exact absurd (Heap.lt_size (N q hq).1) ((List.mem_singleton.mp hm) ▸ Nat.lt_irrefl _)
  · intro i h hst b hb
    rw [List.mem_singleton.mp hb]
    exact ⟨_, hst⟩
  · show IsRangeIter _ _ _ _ _
    simpa using Heap.get?_push_size _ rfl
  · rintro i v m₁ nx h tk own hi ⟨_, t, rfl⟩
    have e : (0 : Int) + (i : Int) * 1 = (i : Int) := by omega
    rw [e]
    exact turn i t m₁ nx h tk own hi
  · exact done

/-- what a turn that stores nothing but the loop's name must leave -/
inductive SEnd (h₀ : Heap) (L : Addr) (x : Str) (m₀ : Str → Option Value) (news own : List (Addr × Obj)) (P : Prop) (s₁ s₂ : Shared) : Prop where
  | mk
    (c1 : P) h' tk m' news'
    (c2 : s₂ = { s₁ with heap := h', toks := tk })
    (c3 : Fr h₀ L h' m')
    (c4 : (∀ z, z ≠ x → m' z = m₀ z))
    (c5 : News h₀ L h' news')
    (c6 : (∀ p ∈ news, p ∈ news'))
    (c7 : (∀ p ∈ own, p ∈ news'))
def SPost (h₀ : Heap) (L : Addr) (x : Str) (m₀ : Str → Option Value) (news own : List (Addr × Obj)) (P : Prop) (s₁ : Shared) (Q : Flow → Shared → Prop) (f : Flow) (s₂ : Shared) : Prop :=
  match f with
  | .ret v => Q (.ret v) s₂
  | .brk => Q .next s₂
  | _ => SEnd h₀ L x m₀ news own P s₁ s₂
theorem SEnd.intro {L : Addr} {m₀ m' : Str → Option Value} {news own news' : List (Addr × Obj)} {P : Prop} {s₁ : Shared} {h' : Heap} {tk : Nat}
    (F : Fr h₀ L h' m') (N : News h₀ L h' news') (hm : ∀ z, z ≠ x → m' z = m₀ z) (h1 : ∀ p ∈ news, p ∈ news') (h2 : ∀ p ∈ own, p ∈ news') (hp : P) : SEnd h₀ L x m₀ news own P s₁ { s₁ with heap := h', toks := tk } :=
  ⟨hp, h', tk, m', news', rfl, F, hm, N, h1, h2⟩
def SInv (x : Str) (m₀ : Str → Option Value) (news : List (Addr × Obj)) (P : Nat → Prop) (i : Nat) (m : Str → Option Value) (nx : List (Addr × Obj)) : Prop :=
  nx = news ∧ (∀ z, z ≠ x → m z = m₀ z) ∧ P i
theorem sInv_map {m₁ m₀ : Str → Option Value} {v : Option Value} (h : ∀ z, z ≠ x → m₁ z = m₀ z) : (fun y => if y = x then v else m₁ y) = fun y => if y = x then v else m₀ y := by
  funext y
  by_cases e : y = x
  · rw [if_pos e, if_pos e]
  · rw [if_neg e, if_neg e, h y e]
theorem sInv_self {m₁ m₀ : Str → Option Value} (h : ∀ z, z ≠ x → m₁ z = m₀ z) : m₁ = fun y => if y = x then m₁ x else m₀ y := by
  funext y
  by_cases e : y = x
  · rw [if_pos e, e]
  · rw [if_neg e, h y e]
theorem sPost_tb {L : Addr} {m₀ : Str → Option Value} {news own : List (Addr × Obj)} {P : Nat → Prop} {i : Nat} {s₁ s₂ : Shared} {f : Flow} (off : TbOff own news)
    (p : SPost h₀ L x m₀ news own (P (i + 1)) s₁ Q f s₂) : TbPost h₀ L (SInv x m₀ news P (i + 1)) own s₁ Q f s₂ := by
  have fin : SEnd h₀ L x m₀ news own (P (i + 1)) s₁ s₂ → TbEnd h₀ L (SInv x m₀ news P (i + 1)) own s₁ s₂ := by
    rintro ⟨hp, h', tk, m', news', e, F', hm, N', h1, h2⟩
    exact ⟨h', tk, m', news', news, e, F', N', h1, h2, off, rfl, hm, hp⟩
  cases f with
  | ret v => exact p
  | brk => exact p
  | next => exact fin p
  | cont => exact fin p
theorem m_search_list {l : Addr} {vs : List Value} {m₀ : Str → Option Value} {news : List (Addr × Obj)} (P : Nat → Prop)
    (hh : A.handled = none) (hl : s.heap.IsList l vs.toArray) (hL : l ≠ env.locals) (hn : ∀ q ∈ news, q.1 ≠ l) (F : Fr h₀ env.locals s.heap m₀) (N : News h₀ env.locals s.heap news) (h0 : P 0)
    (turn : ∀ i v h tk own, vs[i]? = some v → TbOff own news → P i → Fr h₀ env.locals h (fun y => if y = x then some v else m₀ y) → News h₀ env.locals h (news ++ own) →
      wpAny (model prog w) A (execs body env) (SPost h₀ env.locals x m₀ news own (P (i + 1)) { s with heap := h, toks := tk } Q) E { s with heap := h, toks := tk })
    (done : ∀ u h tk, P vs.length → Fr h₀ env.locals h (fun y => if y = x then u else m₀ y) → News h₀ env.locals h news → Q .next { s with heap := h, toks := tk }) :
    wpAny (model prog w) A (pyIter (.ref l)) (fun it s₂ => LoopAtV prog w A h₀ env x body Q E it s₂) E s := by
  refine m_iter_list (SInv x m₀ news P) hh hl hL hn F N ⟨rfl, fun _ _ => rfl, h0⟩ ?_ ?_
  · rintro i v m₁ nx h tk own hv off ⟨rfl, hm, hp⟩ F₁ N₁
    rw [sInv_map hm] at F₁
    exact wpAny_mono (turn i v h tk own hv off hp F₁ N₁) (fun f s₂ p => sPost_tb off p) fun _ _ e => e
  · rintro m₁ nx h tk ⟨rfl, hm, hp⟩ F₁ N₁
    rw [sInv_self hm] at F₁
    exact done _ h tk hp F₁ N₁
end
end Mine

local macro_rules | `(tactic| units_room) => `(tactic| ktr_units)
local macro_rules | `(tactic| passes_own) => `(tactic| assumption)
theorem Mine.fresh05 : True := by
  w_top off
  k_with "mine_steps" => (repeat' ((fail_if_success (with_reducible show wpAny _ _ (pyIter (Value.ref _)) (fun it s₂ => LoopAtV _ _ _ _ _ _ _ _ _ it s₂) _ _)); (first | k_extra "mine_post" | (k_unfold; (try dsimp only)) | (k_end; wrow_close) | walk1 | (dsimp only; walk1) | (leave1; walk_say "STEP leave1"; try dsimp only) | fail "no step")))
  k_with "my exec For Name Name cons nil" => ((k_here; (rename Fr _ _ _ _ => lF'qz); (with_unfolding_all refine' For_invVF lF'qz ?k1qh ?k2qh ?_; (case k1qh => exact rfl); (case k2qh => exact rfl); k_whole); walk_say "FOR"))
  k_with "my call builtin:abs" => (((rename _ ∈ _ => hM9qz); (rename ∀ l ∈ _, l ≠ 0 ∧ (-3 : Int) ≤ l ∧ l ≤ 3 => hB9qz); (have hX9 := hB9qz _ hM9qz); (obtain ⟨hx1, hx2, hx3⟩ := hX9); clear hM9qz; walk_at "call builtin:abs"))
  k_with "my SPost" => ((dsimp only [Mine.SPost]))
  k_with "mine_mem" => ((with_unfolding_all ((try simp only [List.nil_append, List.cons_append]); k_allIn)))
  k_with "mine_same" => ((intro zqz h1qz; first | rfl | (simp [h1qz]; done) | (simp_all; done)))
  k_with "my SEnd" => ((refine' Mine.SEnd.intro ?s1qh ?s2qh ?s3qh ?s4qh ?s5qh ?_; (case s1qh => assumption); (case s2qh => assumption); (case s3qh => k_extra "mine_same"); (case s4qh => k_extra "mine_mem"); (case s5qh => (intro pqz hpqz; k_ownIn)); walk_say "TURN"))
  k_with "mine_stepsL" => (repeat' ((fail_if_success (with_reducible show wpAny _ _ (pyIter (Value.ref _)) (fun it s₂ => LoopAtV _ _ _ _ _ _ _ _ _ it s₂) _ _)); (fail_if_success (with_reducible show wpAny _ _ (eval (Expr.ListComp _ _ _ _) _) _ _ _)); (fail_if_success (with_reducible show wpAny _ _ (exec (Stmt.For _ _ _ _ _) _) _ _ _)); (first | k_extra "mine_post" | (k_unfold; (try dsimp only)) | (k_end; wrow_close) | walk1 | (dsimp only; walk1) | (leave1; walk_say "STEP leave1"; try dsimp only) | fail "no step")))
  k_with "mine_post" => (((fail_if_success (with_reducible show wpAny _ _ _ _ _ _)); (first | refine Mine.OSP.nextU (by with_reducible assumption) ?_ | refine Mine.OSP.retU (by with_reducible assumption) ?_ | (refine Mine.OPo.use (by with_reducible assumption) ?_; (try dsimp only)) | refine Mine.OSP.brkU (by with_reducible assumption) ?_ | refine Mine.OSP.contU (by with_reducible assumption) ?_)))
  k_with "my execs cons" => (((fail_if_success (k_here; k_made)); first | (k_here; k_gentoks) | ((fail_if_success (fail_if_success (first | refine Mine.isSP (by with_reducible assumption) ?_ | refine Mine.isP (by with_reducible assumption) ?_))); refine Mine.execs_abs ?_; intro qPqz hPqz) | (refine Mine.execs_abs2 ?_; intro qRqz hRqz qPqz hPqz)))
  k_with "mine_abs" => ((refine Mine.absQEp (by passes_own) ?_; intro qQqz qEqz hQaqz hEaqz hPaqz))
  trivial
namespace Mine
inductive All2 {α β : Type} (R : α → β → Prop) : List α → List β → Prop
  | nil : All2 R [] []
  | cons {a : α} {b : β} {as : List α} {bs : List β} : R a b → All2 R as bs → All2 R (a :: as) (b :: bs)
theorem All2.get {α β : Type} {R : α → β → Prop} {as : List α} {bs : List β} (h : All2 R as bs) : ∀ {i : Nat} {a : α}, as[i]? = some a → ∃ b, bs[i]? = some b ∧ R a b := by
  induction h with
  | nil => intro _ _ e; simp at e
  | cons r _ ih =>
    intro i a e
    cases i with
    | zero => simp at e; subst e; exact ⟨_, rfl, r⟩
    | succ i => simp at e; simpa using ih e
theorem All2.mono {α β : Type} {R R' : α → β → Prop} (f : ∀ a b, R a b → R' a b) {as : List α} {bs : List β} (h : All2 R as bs) : All2 R' as bs := by
  induction h with
  | nil => exact .nil
  | cons r _ ih => exact .cons (f _ _ r) ih
theorem All2.length {α β : Type} {R : α → β → Prop} {as : List α} {bs : List β} (h : All2 R as bs) : as.length = bs.length := by
  induction h with
  | nil => rfl
  | cons _ _ ih => rw [List.length_cons, List.length_cons, ih]
theorem All2.append {α β : Type} {R : α → β → Prop} {as as' : List α} {bs bs' : List β} (x : All2 R as bs) (y : All2 R as' bs') : All2 R (as ++ as') (bs ++ bs') := by
  induction x with
  | nil => exact y
  | cons r _ ih => exact .cons r ih
def ClauseAt (h : Heap) (v : Value) (c : List Int) : Prop := ∃ a vs, v = .ref a ∧ h.IsList a vs.toArray ∧ IntsAre vs c ∧ c.length ≤ 10 ∧ ∀ l ∈ c, l ≠ 0 ∧ -3 ≤ l ∧ l ≤ 3
def FormAt (h : Heap) (v : Value) (F : List (List Int)) : Prop := ∃ a cvs, v = .ref a ∧ h.IsList a cvs.toArray ∧ All2 (ClauseAt h) cvs F
def litOk (wd a : Int) : Bool := ((wd.fdiv (2 ^ ((if a < 0 then -a else a) - 1).toNat)).fmod 2 == 1) == decide (0 < a)
def clauseOk (wd : Int) (c : List Int) : Bool := !decide (c.filter (litOk wd) = [])
def formOk (wd : Int) (G : List (List Int)) : Bool := G.all (clauseOk wd)
theorem q_bool {Q : Value → Shared → Prop} {b b' : Bool} {s : Shared} (e : b' = b) (h : Q (.bool b') s) : Q (.bool b) s := e ▸ h
theorem clauseOk_of {wd : Int} {c : List Int} {b : Bool} (h : decide (List.map (fun a => a) (List.filter (fun a => ((wd.fdiv (2 ^ ((if a < 0 then -a else a) - 1).toNat)).fmod 2 == 1) == decide (0 < a)) c) = []) = b) : clauseOk wd c = !b := by
  unfold clauseOk litOk
  rw [← h, List.map_id']
theorem take_all {α : Type} {p : α → Bool} {l : List α} {i : Nat} {c : α} (h : (l.take i).all p = true) (hc : l[i]? = some c) (hp : p c = true) : (l.take (i + 1)).all p = true := by
  rw [List.take_add_one, hc, List.all_append, h]
  simp [hp]
theorem all_not {α : Type} {p : α → Bool} {l : List α} {i : Nat} {c : α} (hc : l[i]? = some c) (hp : p c = false) : l.all p = false := by
  rw [List.all_eq_false]
  exact ⟨c, List.mem_of_getElem? hc, by simp [hp]⟩
theorem is_true_c (w : World) {p : Program} {loose : List Str} {mean : ExcName → Option Value} {mg mb : Str → Option Value}
    (dp un : Nat) (gd : Option (List Code)) (cn : Str) (cs : Scope) (a : Addr) (ccd : Value) (cl : List (Str × Addr)) (outer : List Env) (A₀ : Around) (base h₀ : Heap) (L : Addr) (m : Str → Option Value) (s : Shared)
    (fa : Addr) (G : List (List Int)) (wd : Int) (wt : Tok) (Q E : Value → Shared → Prop)
    (B : Below A₀ base outer h₀) (F : Fr h₀ L s.heap m) (X : (hd.heap_39 w.params).In h₀) (T : Top p loose mean mg mb h₀) (hk : cs.kind = .function)
    (hf : FormAt s.heap (.ref fa) G) (hw0 : 0 ≤ wd) (hw1 : wd < 8)
    (hdp : dp + 1 < recursionLimit) (hun : un + 100 < cLine)
    (hret : ∀ h' tk', Fr h₀ L h' m → KeepBut [] s.heap h' → Q (.bool (formOk wd G)) { s with heap := h', toks := tk' }) :
    wpAny (model PG w) (ktrTop dp un gd cn cs L a ccd cl outer) (call (.ref 131) [.ref fa, .int wd wt]) Q E s := by
  suffices h : Mine.hd.heap_39 = Mine.hd.heap_39 → PySem.Challenge.rw_nu0263_01 = PySem.Challenge.rw_nu0263_01 → wpAny (model PG w) (ktrTop dp un gd cn cs L a ccd cl outer) (call (.ref 131) [.ref fa, .int wd wt]) Q E s from h rfl rfl
  k_fill
  intro _ _
  have N : News h₀ L s.heap [] := News.nil
  obtain ⟨a', cvs, e, hl, hc⟩ := hf
  cases e
  refine wpAny_call ?_
  walk_at "mine_enterC"
  rename GSub _ _ _ => kG'
  have hl' := isList_keep (S := []) kG' hl (by simp)
  k_extra "mine_steps"
  rename Fr _ _ _ _ => F1
  rename News _ _ _ _ => N1
  with_unfolding_all refine' m_search_list (fun i => (G.take i).all (clauseOk wd) = true) rfl (base_now hl' F1) (base_neL hl' F1) (base_neN hl' N1) F1 N1 (by simp) ?n3 ?n4
  case n3 =>
    intro i v h tk own hv off hP F2 N2
    obtain ⟨c, hcc, b', vs', e, hl2, hi2, hlen2, hb2⟩ := hc.get hv
    subst e
    have hl3 := isList_keep (S := []) kG' hl2 (by simp)
    simp only [List.nil_append, List.cons_append] at N2
    k_extra "mine_steps"
    all_goals (try k_data)
    · exact q_bool (all_not hcc (clauseOk_of (by assumption))) (hret _ _ (by assumption) (keepBut_of (S := []) (by assumption) (by assumption)))
    · exact take_all hP hcc (clauseOk_of (by assumption))
  case n4 =>
    intro u h tk hP F2 N2
    rw [hc.length, List.take_length] at hP
    k_extra "mine_steps"
    exact q_bool hP (hret _ _ (by assumption) (keepBut_of (S := []) (by assumption) (by assumption)))

theorem is_true_k {w : World} {p : Program} {loose : List Str} {mean : ExcName → Option Value} {mg mb : Str → Option Value}
    {dp un : Nat} {gd : Option (List Code)} {cn : Str} {cs : Scope} {a : Addr} {ccd : Value} {cl : List (Str × Addr)} {outer : List Env} {A₀ : Around} {base h₀ : Heap} {L : Addr} {m : Str → Option Value} {s : Shared}
    {fa : Addr} {G : List (List Int)} {wd : Int} {wt : Tok} {Q E : Value → Shared → Prop} {news : List (Addr × Obj)}
    (B : Below A₀ base outer h₀) (F : Fr h₀ L s.heap m) (X : (hd.heap_39 w.params).In h₀) (N : News h₀ L s.heap news) (T : Top p loose mean mg mb h₀) (hk : cs.kind = .function)
    (hf : FormAt s.heap (.ref fa) G) (hw0 : 0 ≤ wd) (hw1 : wd < 8)
    (hdp : dp + 1 < recursionLimit) (hun : un + 100 < cLine)
    (hret : ∀ h' tk', Fr h₀ L h' m → News h₀ L h' news → KeepBut [] s.heap h' → Q (.bool (formOk wd G)) { s with heap := h', toks := tk' }) :
    wpAny (model PG w) (ktrTop dp un gd cn cs L a ccd cl outer) (call (.ref 131) [.ref fa, .int wd wt]) Q E s :=
  is_true_c w dp un gd cn cs a ccd cl outer A₀ base h₀ L m s fa G wd wt Q E B F X T hk hf hw0 hw1 hdp hun
    fun h' tk' F' K => hret h' tk' F' (fun p hp => ⟨K _ _ (N p hp).1 (by simp), (N p hp).2⟩) K
end Mine

theorem Mine.fresh06 : True := by
  w_top off
  trivial
namespace Mine
/-- a list or a tuple with these items -/
def SeqAt (h : Heap) (a : Addr) (vs : List Value) : Prop := h.IsList a vs.toArray ∨ h.IsTuple a vs.toArray
theorem SeqAt.lt {h : Heap} {a : Addr} {vs : List Value} (x : SeqAt h a vs) : a < h.objs.size := by
  rcases x with ⟨o, e, _⟩ | ⟨o, e, _⟩ <;> exact Heap.lt_size e
theorem SeqAt.mono {h h' : Heap} {a : Addr} {vs : List Value} (x : SeqAt h a vs) (k : ∀ o, h.get? a = some o → h'.get? a = some o) : SeqAt h' a vs := by
  rcases x with ⟨o, e, r⟩ | ⟨o, e, r⟩
  · exact .inl ⟨o, k _ e, r⟩
  · exact .inr ⟨o, k _ e, r⟩
theorem seqAt_keep {h h' : Heap} {S : List Addr} {l : Addr} {its : List Value} (K : KeepBut S h h') (hl : SeqAt h l its) (hn : l ∉ S) : SeqAt h' l its := hl.mono fun o e => K _ _ e hn
def AllNe (d : Addr) : List (Addr × Obj) → Prop
  | [] => True
  | p :: r => @Ne Nat p.1 d ∧ AllNe d r
theorem allNe_of {d : Addr} : ∀ {l : List (Addr × Obj)}, (∀ p ∈ l, p.1 ≠ d) → AllNe d l
  | [], _ => trivial
  | p :: _, h => ⟨h p (.head _), allNe_of fun q hq => h q (.tail _ hq)⟩
theorem AllNe.out {d : Addr} : ∀ {l : List (Addr × Obj)}, AllNe d l → ∀ p ∈ l, p.1 ≠ d
  | [], _, _, hp => (nomatch hp)
  | _ :: _, h, p, hp => by
    rcases List.mem_cons.mp hp with rfl | hp
    · exact h.1
    · exact h.2.out p hp
theorem tbOff_own {own l : List (Addr × Obj)} (h : TbOff own l) : OwnOff own (l.map (·.1)) := fun p hp b hb => by
  obtain ⟨q, hq, rfl⟩ := List.mem_map.mp hb
  exact h p hp q hq
section
variable {prog : Program} {w : World} {A : Around} {E : Value → Shared → Prop} {s : Shared} {env : Env} {h₀ : Heap} {L : Addr} {m : Str → Option Value}
/-- the comprehension's tests, as the machine runs them -/
def testsOf (ifs : List Expr) (cenv : Env) : Sem Bool := forIn ifs true fun c r => if r = true then do let ok ← isTrue c cenv (eval c cenv); pure (ForInStep.yield ok) else pure (ForInStep.yield r)
/-- where the comprehension's source stands: what is to be shown of a turn, what follows -/
inductive CompFrom (prog : Program) (w : World) (A : Around) (env : Env) (scope : Scope) (cl : List (Str × Addr)) (x : Str) (ifs : List Expr) (elt : Expr) (h₀ : Heap) (L : Addr) (m : Str → Option Value) (p : Value → Bool) (R : Value → Value → Prop) (Q : Value → Shared → Prop) (xv : Value) (s₁ : Shared) : Prop where
  | mk (ax : Addr) (vs : List Value) (news : List (Addr × Obj))
    (c1 : xv = .ref ax)
    (c2 : SeqAt s₁.heap ax vs)
    (c3 : vs.length ≤ sizeLine)
    (c4 : Fr h₀ L s₁.heap m)
    (c5 : News h₀ L s₁.heap news)
    (c6 : (∀ C v s₃ m₃ E', v ∈ vs → s₁.heap.objs.size ≤ C → s₃.heap.Ns C m₃ → m₃ x = some v → (∀ b o, s₁.heap.get? b = some o → s₃.heap.get? b = some o) → Fr h₀ L s₃.heap m → News h₀ L s₃.heap news →
      wpAny (model prog w) A (testsOf ifs (compEnvC scope cl C env)) (fun ok s₄ => ok = p v ∧ Keeps s₃ s₄) E' s₃))
    (c7 : (∀ C v s₃ m₃ E', v ∈ vs → p v = true → s₁.heap.objs.size ≤ C → s₃.heap.Ns C m₃ → m₃ x = some v → (∀ b o, s₁.heap.get? b = some o → s₃.heap.get? b = some o) → Fr h₀ L s₃.heap m → News h₀ L s₃.heap news →
      wpAny (model prog w) A (eval elt (compEnvC scope cl C env)) (fun y s₄ => R v y ∧ Keeps s₃ s₄) E' s₃))
    (c8 : (∀ D ys n h' tk, Fr h₀ L h' m → News h₀ L h' ((D, listOf ys.toArray n) :: news) → AllNe D news → Paired R (vs.filter p) ys → KeepBut [] s₁.heap h' → s₁.heap.get? D = none → Q (.ref D) { s₁ with heap := h', toks := tk }))
theorem m_listComp {elt iter : Expr} {x : Str} {px : Pos} {ifs : List Expr} {scope : Scope} {cl : List (Str × Addr)} {pos : Pos} {Q : Value → Shared → Prop} (p : Value → Bool) (R : Value → Value → Prop)
    (_F : Fr h₀ L s.heap m) (hh : A.handled = none) (hclos : closureFor scope env = pure cl) (hcell : ∀ y ∈ scope.names, y.2 ≠ .cell) (hkind : scope.kind = .function)
    (hnames : ∀ y ∈ scope.names, y.2 = .local → scope.names.lookup y.1 = some .local) (hx : scope.names.lookup x = some .local)
    (h : wpAny (model prog w) A (eval iter env) (fun xv s₁ => CompFrom prog w A env scope cl x ifs elt h₀ L m p R Q xv s₁) E s)
    (hs : ∀ x, foldedSetIterable iter env x = pure x) :
    wpAny (model prog w) A (eval (.ListComp elt [⟨.Name x px, iter, ifs, 0⟩] scope pos) env) Q E s := by
  refine wpAny_ListComp_free p R hclos hcell hkind hnames hx (wpAny_mono h (fun xv s₁ h₁ => ?_) fun _ _ e => e) hs
  obtain ⟨ax, vs, news, rfl, hl, hsz, F, N, ht, he, hd⟩ := h₁
  have hlt := hl.lt
  -- the same, whatever the iterator's kind
  have key : ∀ (it : Obj) (St : Nat → Heap → Prop), it.isFreed = false → Walks prog w A s₁.heap.objs.size [s₁.heap.objs.size, ax] [s₁.heap.objs.size] vs.toArray.size (fun i v => vs.toArray[i]? = some v) St → St 0 (s₁.heap.push it) →
      ∃ I fp wr n P St, Value.ref s₁.heap.objs.size = .ref I ∧ Walks prog w A I fp wr n P St ∧ n ≤ sizeLine ∧ St 0 (s₁.heap.push it) ∧ (∀ b ∈ fp, b < (s₁.heap.push it).objs.size) ∧
        QuietOnC prog w A env scope cl x ifs elt wr P p R { s₁ with heap := s₁.heap.push it } ∧
        (∀ D h' tk ys (vs : List Value), (s₁.heap.push it).get? D = none → h'.IsList D ys → h'.PlainList D ys → vs.length = n → (∀ j v, vs[j]? = some v → P j v) → Paired R (vs.filter p) ys.toList →
          (∀ b o, b ∉ wr → (s₁.heap.push it).get? b = some o → h'.get? b = some o) → Q (.ref D) { s₁ with heap := h', toks := tk }) := by
    intro it St hfree W hst
    have up : ∀ (h' : Heap), (∀ b o, b ∉ [s₁.heap.objs.size] → (s₁.heap.push it).get? b = some o → h'.get? b = some o) → ∀ b o, s₁.heap.get? b = some o → h'.get? b = some o :=
      fun h' hk b o e => hk b o (fun hm => absurd (Heap.lt_size e) (by rw [List.mem_singleton.mp hm]; exact Nat.lt_irrefl _)) (Heap.get?_push_of_some _ e)
    have le : ∀ C, (s₁.heap.push it).objs.size ≤ C → s₁.heap.objs.size ≤ C := fun C q => Nat.le_of_succ_le (by simpa [Heap.size_push] using q)
    refine ⟨_, _, _, _, _, St, rfl, W, by simpa using hsz, hst, ?_, ⟨?_, ?_⟩, ?_⟩
    · intro b hb
      rw [Heap.size_push]
      rcases List.mem_cons.mp hb with rfl | hb
      · exact Nat.lt_succ_self _
      · rw [List.mem_singleton.mp hb]; exact Nat.lt_succ_of_lt hlt
    · intro C i v s₃ m₃ E' hC hP hn hm hk _
      have k := up _ hk
      exact ht C v s₃ m₃ E' (by simpa using Array.mem_of_getElem? hP) (le C hC) hn hm k (F.keeps k) (N.grown k)
    · intro C i v s₃ m₃ E' hC hP hp hn hm hk _
      have k := up _ hk
      exact he C v s₃ m₃ E' (by simpa using Array.mem_of_getElem? hP) hp (le C hC) hn hm k (F.keeps k) (N.grown k)
    · intro D h' tk ys vs' hnew _ hpl hlen hP hF hk
      have k := up _ hk
      have e : vs' = vs := by simpa using list_of_places hlen hP
      subst e
      obtain ⟨n, hpl⟩ := hpl
      have hnone : s₁.heap.get? D = none := by
        cases e : s₁.heap.get? D with
        | none => rfl
        | some o => rw [Heap.get?_push_of_some _ e] at hnew; cases hnew
      have far : ∀ q ∈ news, q.1 ≠ D := fun q hq z => by rw [← z, (N q hq).1] at hnone; cases hnone
      obtain ⟨oL, _, _, eL, _⟩ := id F.ns
      refine hd D ys.toList n h' tk (F.keeps k) ?_ (allNe_of far) hF (fun b o e _ => k b o e) hnone
      intro q hq
      rcases List.mem_cons.mp hq with rfl | hq
      · refine ⟨by simpa using hpl, fun (z : D = L) => ?_, ?_⟩
        · rw [z, eL] at hnone; cases hnone
        · show h₀.get? D = none
          cases e : h₀.get? D with
          | none => rfl
          | some o => have := F.keep _ _ e; rw [hnone] at this; cases this
      · exact N.grown k q hq
  rcases hl with hl | hl
  · exact wpAny_pyIter_list hl (key _ _ rfl (Walks.list hh _ _ (Nat.ne_of_lt hlt) vs.toArray) ⟨⟨_, Heap.get?_push_size _ rfl, rfl, rfl⟩, hl.at fun o e => Heap.get?_push_of_some _ e⟩)
  · exact wpAny_pyIter_tuple hl (key _ _ rfl (Walks.tuple hh _ _ (Nat.ne_of_lt hlt) vs.toArray) ⟨⟨_, Heap.get?_push_size _ rfl, rfl, rfl⟩, hl.at fun o e => Heap.get?_push_of_some _ e⟩)
end
end Mine

theorem Mine.fresh07 : True := by
  w_top off
  trivial
namespace Mine
section
variable {prog : Program} {w : World} {A : Around} {E : Value → Shared → Prop} {s : Shared} {env : Env} {h₀ : Heap} {tg : Expr} {body : List Stmt} {Q : Flow → Shared → Prop}
/-- a for loop where the iterator is made; the turn begins with the storing of the item, whatever the target is -/
def MLoopAt (prog : Program) (w : World) (A : Around) (h₀ : Heap) (env : Env) (tg : Expr) (body : List Stmt) (Q : Flow → Shared → Prop) (E : Value → Shared → Prop) (it : Value) (s : Shared) : Prop :=
  ∃ (I : Addr) (fp wr : List Addr) (n : Nat) (P : Nat → Value → Prop) (St : Nat → Heap → Prop) (m : Str → Option Value) (news : List (Addr × Obj)) (J : Nat → (Str → Option Value) → List (Addr × Obj) → Prop),
    it = .ref I ∧ Walks prog w A I fp wr n P St ∧ env.locals ∉ fp ∧ (∀ b ∈ wr, h₀.get? b = none) ∧ (∀ q ∈ news, q.1 ∉ fp) ∧ (∀ i h, St i h → ∀ b ∈ fp, ∃ o, h.get? b = some o) ∧
    St 0 s.heap ∧ Fr h₀ env.locals s.heap m ∧ News h₀ env.locals s.heap news ∧ J 0 m news ∧
    (∀ i v m₁ nx h tk own, i < n → P i v → TbOff own nx → J i m₁ nx → Fr h₀ env.locals h m₁ → News h₀ env.locals h (nx ++ own) →
      wpAny (model prog w) A (assign tg env v) (fun _ s₂ => wpAny (model prog w) A (execs body env) (TbPost h₀ env.locals (J (i + 1)) own { s with heap := h, toks := tk } Q) E s₂) E { s with heap := h, toks := tk }) ∧
    (∀ m₁ nx h tk, J n m₁ nx → Fr h₀ env.locals h m₁ → News h₀ env.locals h nx → Q .next { s with heap := h, toks := tk })

theorem m_For {pos : Pos} {iter : Expr} {m : Str → Option Value} (_F : Fr h₀ env.locals s.heap m)
    (h : wpAny (model prog w) A (eval iter env) (fun xv s₁ => wpAny (model prog w) A (pyIter xv) (fun it s₂ => MLoopAt prog w A h₀ env tg body Q E it s₂) E s₁) E s)
    (hs : ∀ x, foldedSetIterable iter env x = pure x := by intro _; rfl)
    (ht : ∀ it v, letOwnedTupleGo tg it v = pure () := by intro _ _; rfl)
    (hE : PassesOwn (model prog w) A env E := by passes_own) :
    wpAny (model prog w) A (exec (.For tg iter body [] pos) env) Q E s := by
  refine wpAny_For (wpAny_mono h (fun xv s₁ h₁ => wpAny_mono h₁ (fun it s₂ h₂ => ?_) fun _ _ e => e) fun _ _ e => e) hs
  obtain ⟨I, fp, wr, n, P, St, m, news, J, rfl, W, hLf, hwr, hnf, hex, hst, F, N, h0, turn, done⟩ := h₂
  have hLw : env.locals ∉ wr := fun q => hLf (W.sub _ q)
  have old : ∀ b o, h₀.get? b = some o → b ∉ wr := fun b o e hb => by rw [hwr b hb] at e; cases e
  refine codeAny_forLoop (ht := ht (.ref I))
    (fun k s' => ∃ h' tk m' nx i, s' = { s₂ with heap := h', toks := tk } ∧ St i h' ∧ Fr h₀ env.locals h' m' ∧ News h₀ env.locals h' nx ∧ (∀ q ∈ nx, q.1 ∉ fp) ∧ J i m' nx ∧ i ≤ n ∧ k = n + 1 - i) ?_ (n + 1)
    ⟨s₂.heap, s₂.toks, m, news, 0, rfl, hst, F, N, hnf, h0, Nat.zero_le _, rfl⟩
  rintro k s' ⟨h', tk, m', nx, i, rfl, hst', F', N', hnf', hJ, hi, rfl⟩
  have next : ∀ h₁ : Heap, (∀ b o, b ∉ wr → h'.get? b = some o → h₁.get? b = some o) → Fr h₀ env.locals h₁ m' ∧ News h₀ env.locals h₁ nx := fun h₁ hk₁ =>
    ⟨⟨F'.ns.at' fun o e => hk₁ _ o hLw e, fun b o e => hk₁ b o (old b o e) (F'.keep b o e), F'.above⟩, fun q hq => ⟨hk₁ _ _ (fun z => hnf' q hq (W.sub _ z)) (N' q hq).1, (N' q hq).2⟩⟩
  by_cases hlt : i < n
  · refine W.item i _ _ _ hlt hst' fun v h₁ tk₁ hP hst₁ hk₁ => ?_
    obtain ⟨F₁, N₁⟩ := next h₁ hk₁
    have No : News h₀ env.locals h₁ (ownOf h₀ fp h₁) := news_ownOf hLf
    have off : TbOff (ownOf h₀ fp h₁) nx := fun p hp q hq e => hnf' q hq (e ▸ ownOf_sub p hp)
    have N₂ : News h₀ env.locals h₁ (nx ++ ownOf h₀ fp h₁) := fun p hp => (List.mem_append.mp hp).elim (N₁ p) (No p)
    refine wpAny_mono (turn i v m' nx h₁ tk₁ (ownOf h₀ fp h₁) hlt hP off hJ F₁ N₂) (fun _ s₃ h₃ => wpAny_mono h₃ (fun f s₄ h₄ => ?_) fun e s' q => hE e s' q) fun e s' q => hE e s' q
    have fin : TbEnd h₀ env.locals (J (i + 1)) (ownOf h₀ fp h₁) { s₂ with heap := h₁, toks := tk₁ } s₄ →
        ∃ k, k < n + 1 - i ∧ ∃ h' tk m' nx j, s₄ = { s₂ with heap := h', toks := tk } ∧ St j h' ∧ Fr h₀ env.locals h' m' ∧ News h₀ env.locals h' nx ∧ (∀ q ∈ nx, q.1 ∉ fp) ∧ J j m' nx ∧ j ≤ n ∧ k = n + 1 - j := by
      rintro ⟨h₄', tk₄, m₄, news₄, nx₄, rfl, F₄, N₄, hn₄, ho₄, ha₄, hJ₄⟩
      refine ⟨n + 1 - (i + 1), by omega, h₄', tk₄, m₄, nx₄, i + 1, rfl, ?_, F₄, fun q hq => N₄ q (hn₄ q hq), ?_, hJ₄, hlt, rfl⟩
      · refine W.frame _ _ _ hst₁ fun b hb o e => ?_
        cases hn : h₀.get? b with
        | some o₀ =>
          have z : o₀ = o := by have y := F₁.keep b o₀ hn; rw [e] at y; exact (Option.some.inj y).symm
          exact z ▸ F₄.keep b o₀ hn
        | none => exact (N₄ _ (ho₄ _ (mem_ownOf hb hn e))).1
      · intro q hq hb
        cases hn : h₀.get? q.1 with
        | some o => have z := (N₄ q (hn₄ q hq)).2.2; rw [hn] at z; cases z
        | none =>
          obtain ⟨o, ho⟩ := hex _ _ hst₁ _ hb
          exact ha₄ _ (mem_ownOf hb hn ho) q hq rfl
    cases f with
    | ret v => exact h₄
    | brk => exact h₄
    | next => exact fin h₄
    | cont => exact fin h₄
  · have hin : i = n := by omega
    subst hin
    refine W.done _ _ _ hst' fun h₁ tk₁ hk₁ => wpAny_execs_nil ?_
    obtain ⟨F₁, N₁⟩ := next h₁ hk₁
    exact done m' nx h₁ tk₁ hJ F₁ N₁

/-- the three sources -/
theorem mf_range {r : Addr} {b₀ : Int} {t₀ u₀ v₀ : Tok} {n : Nat} {m₀ : Str → Option Value} {news : List (Addr × Obj)} (J : Nat → (Str → Option Value) → List (Addr × Obj) → Prop)
    (hh : A.handled = none) (hr : IsRange s.heap r 0 b₀ 1 t₀ u₀ v₀) (hb : b₀ = (n : Int)) (hsmall : b₀ < 2 ^ 62) (F : Fr h₀ env.locals s.heap m₀) (N : News h₀ env.locals s.heap news) (hj : J 0 m₀ news)
    (turn : ∀ (i : Nat) t m₁ nx h tk own, i < n → TbOff own nx → J i m₁ nx → Fr h₀ env.locals h m₁ → News h₀ env.locals h (nx ++ own) →
      wpAny (model prog w) A (assign tg env (.int (i : Int) t)) (fun _ s₂ => wpAny (model prog w) A (execs body env) (TbPost h₀ env.locals (J (i + 1)) own { s with heap := h, toks := tk } Q) E s₂) E { s with heap := h, toks := tk })
    (done : ∀ m₁ nx h tk, J n m₁ nx → Fr h₀ env.locals h m₁ → News h₀ env.locals h nx → Q .next { s with heap := h, toks := tk }) :
    wpAny (model prog w) A (pyIter (.ref r)) (fun it s₂ => MLoopAt prog w A h₀ env tg body Q E it s₂) E s := by
  subst hb
  have hs : Builtin.Range.small 0 (n : Int) 1 = true := small_one (by decide) (by decide) (by omega) hsmall
  have hz : Builtin.Range.rangeSize 0 (n : Int) 1 = (n : Int) := by
    unfold Builtin.Range.rangeSize
    rw [if_pos (by decide)]
    by_cases h : (0 : Int) < (n : Int)
    · rw [if_pos h]; omega
    · rw [if_neg h]; omega
  have hLt : env.locals < s.heap.objs.size := F.ns.lt
  refine wpAny_pyIter_range hr hs ?_
  rw [hz]
  refine ⟨s.heap.objs.size, _, _, n, _, _, m₀, news, J, rfl, (Walks.range (prog := prog) (w := w) hh s.heap.objs.size 0 1 n).bound, ?_, ?_, ?_, ?_, ?_, F.push _, (fun p hp => ⟨Heap.get?_push_of_some _ (N p hp).1, (N p hp).2⟩), hj, ?_, ?_⟩
  · intro hm
    exact absurd hLt ((List.mem_singleton.mp hm) ▸ Nat.lt_irrefl _)
  · intro b hb
    rw [List.mem_singleton.mp hb]
    exact next_is_new F
  · intro q hq hm
    exact absurd (Heap.lt_size (N q hq).1) ((List.mem_singleton.mp hm) ▸ Nat.lt_irrefl _)
  · intro i h hst b hb
    rw [List.mem_singleton.mp hb]
    exact ⟨_, hst⟩
  · show IsRangeIter _ _ _ _ _
    simpa using Heap.get?_push_size _ rfl
  · rintro i v m₁ nx h tk own hi ⟨_, t, rfl⟩
    have e : (0 : Int) + (i : Int) * 1 = (i : Int) := by omega
    rw [e]
    exact turn i t m₁ nx h tk own hi
  · exact done
theorem mf_seq {l : Addr} {vs : List Value} {m₀ : Str → Option Value} {news : List (Addr × Obj)} (J : Nat → (Str → Option Value) → List (Addr × Obj) → Prop)
    (hh : A.handled = none) (hl : SeqAt s.heap l vs) (hL : l ≠ env.locals) (hn : ∀ q ∈ news, q.1 ≠ l) (F : Fr h₀ env.locals s.heap m₀) (N : News h₀ env.locals s.heap news) (hj : J 0 m₀ news)
    (turn : ∀ i v m₁ nx h tk own, vs[i]? = some v → TbOff own nx → J i m₁ nx → Fr h₀ env.locals h m₁ → News h₀ env.locals h (nx ++ own) →
      wpAny (model prog w) A (assign tg env v) (fun _ s₂ => wpAny (model prog w) A (execs body env) (TbPost h₀ env.locals (J (i + 1)) own { s with heap := h, toks := tk } Q) E s₂) E { s with heap := h, toks := tk })
    (done : ∀ m₁ nx h tk, J vs.length m₁ nx → Fr h₀ env.locals h m₁ → News h₀ env.locals h nx → Q .next { s with heap := h, toks := tk }) :
    wpAny (model prog w) A (pyIter (.ref l)) (fun it s₂ => MLoopAt prog w A h₀ env tg body Q E it s₂) E s := by
  have hlt := hl.lt
  have hLt : env.locals < s.heap.objs.size := F.ns.lt
  have key : ∀ (it : Obj) (St : Nat → Heap → Prop), Walks prog w A s.heap.objs.size [s.heap.objs.size, l] [s.heap.objs.size] vs.toArray.size (fun i v => vs.toArray[i]? = some v) St → St 0 (s.heap.push it) → (∀ i h, St i h → ∀ b ∈ [s.heap.objs.size, l], ∃ o, h.get? b = some o) →
      MLoopAt prog w A h₀ env tg body Q E (.ref s.heap.objs.size) { s with heap := s.heap.push it } := by
    intro it St W hst hex
    refine ⟨s.heap.objs.size, _, _, vs.length, fun i v => vs[i]? = some v, St, m₀, news, J, rfl, by simpa using W, ?_, ?_, ?_, hex, hst, F.push _, (fun p hp => ⟨Heap.get?_push_of_some _ (N p hp).1, (N p hp).2⟩), hj, ?_, done⟩
    · intro hm
      rcases List.mem_cons.mp hm with e | hm
      · exact absurd hLt (e ▸ Nat.lt_irrefl _)
      · exact hL (List.mem_singleton.mp hm).symm
    · intro b hb
      rw [List.mem_singleton.mp hb]
      exact next_is_new F
    · intro q hq hm
      rcases List.mem_cons.mp hm with e | hm
      · exact absurd (Heap.lt_size (N q hq).1) (e ▸ Nat.lt_irrefl _)
      · exact hn q hq (List.mem_singleton.mp hm)
    · intro i v m₁ nx h tk own _ hP
      exact turn i v m₁ nx h tk own hP
  rcases hl with hl | hl
  · refine wpAny_pyIter_list hl (key _ _ (Walks.list hh _ _ (Nat.ne_of_lt hlt) vs.toArray) ⟨⟨_, Heap.get?_push_size _ rfl, rfl, rfl⟩, hl.at fun o e => Heap.get?_push_of_some _ e⟩ ?_)
    rintro i h ⟨⟨o1, e1, _⟩, ⟨o2, e2, _⟩⟩ b hb
    rcases List.mem_cons.mp hb with e | hb
    · exact ⟨o1, e ▸ e1⟩
    · exact ⟨o2, (List.mem_singleton.mp hb) ▸ e2⟩
  · refine wpAny_pyIter_tuple hl (key _ _ (Walks.tuple hh _ _ (Nat.ne_of_lt hlt) vs.toArray) ⟨⟨_, Heap.get?_push_size _ rfl, rfl, rfl⟩, hl.at fun o e => Heap.get?_push_of_some _ e⟩ ?_)
    rintro i h ⟨⟨o1, e1, _⟩, ⟨o2, e2, _⟩⟩ b hb
    rcases List.mem_cons.mp hb with e | hb
    · exact ⟨o1, e ▸ e1⟩
    · exact ⟨o2, (List.mem_singleton.mp hb) ▸ e2⟩

/-- a loop over a range whose target is a cell, and that stores nothing else -/
inductive CEnd (h₀ : Heap) (L : Addr) (m₀ : Str → Option Value) (u : Obj → List (Addr × Obj)) (own : List (Addr × Obj)) (P : Prop) (s₁ s₂ : Shared) : Prop where
  | mk
    (c1 : P) h' tk m' news' oc v
    (c2 : s₂ = { s₁ with heap := h', toks := tk })
    (c3 : Fr h₀ L h' m')
    (c4 : m' = m₀)
    (c5 : News h₀ L h' news')
    (c6 : oc.data = .cell v)
    (c7 : (∀ p ∈ u oc, p ∈ news'))
    (c8 : (∀ p ∈ own, p ∈ news'))
def CPost (h₀ : Heap) (L : Addr) (m₀ : Str → Option Value) (u : Obj → List (Addr × Obj)) (own : List (Addr × Obj)) (P : Prop) (s₁ : Shared) (Q : Flow → Shared → Prop) (f : Flow) (s₂ : Shared) : Prop :=
  match f with
  | .ret v => Q (.ret v) s₂
  | .brk => Q .next s₂
  | _ => CEnd h₀ L m₀ u own P s₁ s₂
theorem CEnd.intro {L : Addr} {m₀ m' : Str → Option Value} {u : Obj → List (Addr × Obj)} {own news' : List (Addr × Obj)} {P : Prop} {s₁ : Shared} {h' : Heap} {tk : Nat} {oc : Obj} {v : Option Value}
    (F : Fr h₀ L h' m') (N : News h₀ L h' news') (hm : m' = m₀) (hc : oc.data = .cell v) (h1 : ∀ p ∈ u oc, p ∈ news') (h2 : ∀ p ∈ own, p ∈ news') (hp : P) : CEnd h₀ L m₀ u own P s₁ { s₁ with heap := h', toks := tk } :=
  ⟨hp, h', tk, m', news', oc, v, rfl, F, hm, N, hc, h1, h2⟩
theorem updF_off {d : Addr} {o o1 o2 : Obj} {news own : List (Addr × Obj)} {u : Obj → List (Addr × Obj)} (U : UpdF d o news u) (h : TbOff own (u o1)) : TbOff own (u o2) := by
  obtain ⟨pre, post, _, hu, _, _⟩ := U.split
  rw [hu] at h ⊢
  intro p hp q hq
  rcases List.mem_append.mp hq with hq | hq
  · exact h p hp q (List.mem_append_left _ hq)
  · rcases List.mem_cons.mp hq with rfl | hq
    · exact h p hp (d, o1) (by simp)
    · exact h p hp q (List.mem_append_right _ (.tail _ hq))
theorem updF_self {d : Addr} {o : Obj} {news : List (Addr × Obj)} {u : Obj → List (Addr × Obj)} (U : UpdF d o news u) : u o = news := by
  obtain ⟨pre, post, e, hu, _, _⟩ := U.split
  rw [hu, e]
theorem mf_cell_range {r : Addr} {b₀ : Int} {t₀ u₀ v₀ : Tok} {n : Nat} {m₀ : Str → Option Value} {news : List (Addr × Obj)} {c : Addr} {oc : Obj} {vc : Option Value} {u : Obj → List (Addr × Obj)} (P : Nat → Prop)
    (hh : A.handled = none) (hr : IsRange s.heap r 0 b₀ 1 t₀ u₀ v₀) (hb : b₀ = (n : Int)) (hsmall : b₀ < 2 ^ 62) (F : Fr h₀ env.locals s.heap m₀) (N : News h₀ env.locals s.heap news) (U : UpdF c oc news u) (hc : oc.data = .cell vc) (h0 : P 0)
    (turn : ∀ (i : Nat) t oc' v' h tk own, i < n → TbOff own (u oc') → oc'.data = .cell v' → P i → Fr h₀ env.locals h m₀ → News h₀ env.locals h (u oc' ++ own) →
      wpAny (model prog w) A (assign tg env (.int (i : Int) t)) (fun _ s₂ => wpAny (model prog w) A (execs body env) (CPost h₀ env.locals m₀ u own (P (i + 1)) { s with heap := h, toks := tk } Q) E s₂) E { s with heap := h, toks := tk })
    (done : ∀ oc' v' h tk, oc'.data = .cell v' → P n → Fr h₀ env.locals h m₀ → News h₀ env.locals h (u oc') → Q .next { s with heap := h, toks := tk }) :
    wpAny (model prog w) A (pyIter (.ref r)) (fun it s₂ => MLoopAt prog w A h₀ env tg body Q E it s₂) E s := by
  refine mf_range (fun i m nx => m = m₀ ∧ P i ∧ ∃ oc' v', oc'.data = .cell v' ∧ nx = u oc') hh hr hb hsmall F N ⟨rfl, h0, oc, vc, hc, (updF_self U).symm⟩ ?_ ?_
  · rintro i t m₁ nx h tk own hi off ⟨rfl, hp, oc', v', hc', rfl⟩ F₁ N₁
    refine wpAny_mono (turn i t oc' v' h tk own hi off hc' hp F₁ N₁) (fun _ s₂ h₂ => wpAny_mono h₂ (fun f s₃ p => ?_) fun _ _ e => e) fun _ _ e => e
    have fin : CEnd h₀ env.locals m₁ u own (P (i + 1)) { s with heap := h, toks := tk } s₃ → TbEnd h₀ env.locals (fun m nx => m = m₁ ∧ P (i + 1) ∧ ∃ oc' v', oc'.data = .cell v' ∧ nx = u oc') own { s with heap := h, toks := tk } s₃ := by
      rintro ⟨hp', h', tk', m', news', oc2, v2, e, F', hm, N', hc2, h1, h2⟩
      exact ⟨h', tk', m', news', u oc2, e, F', N', h1, h2, updF_off U off, hm, hp', oc2, v2, hc2, rfl⟩
    cases f with
    | ret v => exact p
    | brk => exact p
    | next => exact fin p
    | cont => exact fin p
  · rintro m₁ nx h tk ⟨rfl, hp, oc', v', hc', rfl⟩ F₁ N₁
    exact done oc' v' h tk hc' hp F₁ N₁

/-- a goal that the walk leaves alone -/
def Left (p : Prop) : Prop := p
theorem news_plain {g h : Heap} {L D : Addr} {m : Str → Option Value} {news : List (Addr × Obj)} {ys : List Value} (F : Fr g L h m) (N : News g L h news) (hn : g.get? D = none) (hP : NewPlain h news D ys.toArray) : ∃ n, News g L h ((D, listOf ys.toArray n) :: news) ∧ ∀ q ∈ news, q.1 ≠ D := by
  obtain ⟨⟨n, e⟩, far⟩ := hP
  refine ⟨n, fun q hq => ?_, far⟩
  rcases List.mem_cons.mp hq with rfl | hq
  · refine ⟨e, fun (z : D = L) => ?_, hn⟩
    obtain ⟨oL, es, ep, eL, dL, _⟩ := F.ns
    rw [z, eL] at e
    cases e
    cases dL
  · exact N q hq
/-- a loop whose target is a cell and that gives one name a new list at times -/
inductive FEnd (h₀ : Heap) (L : Addr) (x₁ : Str) (mm : Str → Option Value) (c : Addr) (rest own : List (Addr × Obj)) (P : List Value → Prop) (s₁ s₂ : Shared) : Prop where
  | mk h' tk m' news' fl fls n oc vc
    (c1 : s₂ = { s₁ with heap := h', toks := tk })
    (c2 : Fr h₀ L h' m')
    (c3 : (m' = fun y => if y = x₁ then some (.ref fl) else mm y))
    (c4 : News h₀ L h' news')
    (c5 : (c, oc) ∈ news')
    (c6 : oc.data = .cell vc)
    (c7 : (fl, listOf (fls : List Value).toArray n) ∈ news')
    (c8 : (∀ p ∈ rest, p ∈ news'))
    (c9 : (∀ p ∈ own, p ∈ news'))
    (c10 : P fls)
    (c11 : (∀ q ∈ (c, oc) :: rest, q.1 ≠ fl))
    (c12 : (∀ p ∈ own, p.1 ≠ fl))
def FPost (h₀ : Heap) (L : Addr) (x₁ : Str) (mm : Str → Option Value) (c : Addr) (rest own : List (Addr × Obj)) (P : List Value → Prop) (s₁ : Shared) (Q : Flow → Shared → Prop) (f : Flow) (s₂ : Shared) : Prop :=
  match f with
  | .ret v => Q (.ret v) s₂
  | .brk => Q .next s₂
  | _ => FEnd h₀ L x₁ mm c rest own P s₁ s₂
theorem FEnd.intro {L : Addr} {x₁ : Str} {mm m' : Str → Option Value} {c : Addr} {rest own news' : List (Addr × Obj)} {P : List Value → Prop} {s₁ : Shared} {h' : Heap} {tk : Nat} {fl : Addr} {fls : List Value} {n : Nat} {oc : Obj} {vc : Option Value}
    (F : Fr h₀ L h' m') (hm1 : m' x₁ = some (.ref fl)) (hm2 : ∀ y, y ≠ x₁ → m' y = mm y) (N : News h₀ L h' news') (hc : (c, oc) ∈ news') (hd : oc.data = .cell vc) (hl : (fl, listOf fls.toArray n) ∈ news') (h1 : ∀ p ∈ rest, p ∈ news') (h2 : ∀ p ∈ own, p ∈ news')
    (h3 : ∀ q ∈ (c, oc) :: rest, q.1 ≠ fl) (h4 : ∀ p ∈ own, p.1 ≠ fl) (hP : Left (P fls)) : FEnd h₀ L x₁ mm c rest own P s₁ { s₁ with heap := h', toks := tk } :=
  ⟨h', tk, m', news', fl, fls, n, oc, vc, rfl, F, (by funext y; by_cases q : y = x₁; (rw [if_pos q, q, hm1]); (rw [if_neg q, hm2 y q])), N, hc, hd, hl, h1, h2, hP, h3, h4⟩
theorem mf_seq_fl {l fl : Addr} {vs fls₀ : List Value} {nf : Nat} {x₁ : Str} {mm : Str → Option Value} {c : Addr} {oc : Obj} {vc : Option Value} {rest : List (Addr × Obj)} (P : Nat → List Value → Prop)
    (hh : A.handled = none) (hl : SeqAt s.heap l vs) (hL : l ≠ env.locals) (hn : ∀ q ∈ (fl, listOf fls₀.toArray nf) :: (c, oc) :: rest, q.1 ≠ l)
    (F : Fr h₀ env.locals s.heap (fun y => if y = x₁ then some (.ref fl) else mm y)) (N : News h₀ env.locals s.heap ((fl, listOf fls₀.toArray nf) :: (c, oc) :: rest)) (hc : oc.data = .cell vc) (hP : P 0 fls₀) (hfl : ∀ q ∈ (c, oc) :: rest, q.1 ≠ fl)
    (turn : ∀ i v fl fls n oc vc h tk own, vs[i]? = some v → P i fls → oc.data = .cell vc → (∀ q ∈ (c, oc) :: rest, q.1 ≠ fl) → OwnOff own (fl :: c :: rest.map (·.1)) → Fr h₀ env.locals h (fun y => if y = x₁ then some (.ref fl) else mm y) →
      News h₀ env.locals h ((fl, listOf fls.toArray n) :: (c, oc) :: (rest ++ own)) →
      wpAny (model prog w) A (assign tg env v) (fun _ s₂ => wpAny (model prog w) A (execs body env) (FPost h₀ env.locals x₁ mm c rest own (P (i + 1)) { s with heap := h, toks := tk } Q) E s₂) E { s with heap := h, toks := tk })
    (done : ∀ fl fls n oc vc h tk, P vs.length fls → oc.data = .cell vc → (∀ q ∈ (c, oc) :: rest, q.1 ≠ fl) → Fr h₀ env.locals h (fun y => if y = x₁ then some (.ref fl) else mm y) → News h₀ env.locals h ((fl, listOf fls.toArray n) :: (c, oc) :: rest) → Q .next { s with heap := h, toks := tk }) :
    wpAny (model prog w) A (pyIter (.ref l)) (fun it s₂ => MLoopAt prog w A h₀ env tg body Q E it s₂) E s := by
  refine mf_seq (fun i m₁ nx => ∃ fl fls n oc vc, nx = (fl, listOf (fls : List Value).toArray n) :: (c, oc) :: rest ∧ (m₁ = fun y => if y = x₁ then some (.ref fl) else mm y) ∧ P i fls ∧ oc.data = .cell vc ∧ (∀ q ∈ (c, oc) :: rest, q.1 ≠ fl)) hh hl hL hn F N ⟨fl, fls₀, nf, oc, vc, rfl, rfl, hP, hc, hfl⟩ ?_ ?_
  · rintro i v m₁ nx h tk own hv off ⟨fl, fls, n, oc, vc, rfl, rfl, hp, hc, hf⟩ F₁ N₁
    have off' := tbOff_own off
    have oo : OwnOff own (fl :: c :: rest.map (·.1)) := by simpa using off'
    refine wpAny_mono (turn i v fl fls n oc vc h tk own hv hp hc hf oo F₁ (by simpa using N₁)) (fun _ s₂ h₂ => wpAny_mono h₂ (fun f s₃ p => ?_) fun _ _ e => e) fun _ _ e => e
    have fin : FEnd h₀ env.locals x₁ mm c rest own (P (i + 1)) { s with heap := h, toks := tk } s₃ → TbEnd h₀ env.locals (fun m₁ nx => ∃ fl fls n oc vc, nx = (fl, listOf (fls : List Value).toArray n) :: (c, oc) :: rest ∧ (m₁ = fun y => if y = x₁ then some (.ref fl) else mm y) ∧ P (i + 1) fls ∧ oc.data = .cell vc ∧ (∀ q ∈ (c, oc) :: rest, q.1 ≠ fl)) own { s with heap := h, toks := tk } s₃ := by
      rintro ⟨h', tk', m', news', fl', fls', n', oc', vc', e, F', hm, N', hc1, hc2, hl', h1, h2, hp', h3, h4⟩
      refine ⟨h', tk', m', news', (fl', listOf fls'.toArray n') :: (c, oc') :: rest, e, F', N', ?_, h2, ?_, fl', fls', n', oc', vc', rfl, hm, hp', hc2, h3⟩
      · intro q hq
        rcases List.mem_cons.mp hq with rfl | hq
        · exact hl'
        · rcases List.mem_cons.mp hq with rfl | hq
          · exact hc1
          · exact h1 q hq
      · intro p hp q hq
        rcases List.mem_cons.mp hq with rfl | hq
        · exact h4 p hp
        · rcases List.mem_cons.mp hq with rfl | hq
          · exact oo p hp c (by simp)
          · exact oo p hp q.1 (by simp; exact .inr (.inr ⟨q.2, hq⟩))
    cases f with
    | ret v => exact p
    | brk => exact p
    | next => exact fin p
    | cont => exact fin p
  · rintro m₁ nx h tk ⟨fl, fls, n, oc, vc, rfl, rfl, hp, hc, hf⟩ F₁ N₁
    exact done fl fls n oc vc h tk hp hc hf F₁ N₁
end
/-- a list beside an empty one -/
theorem m_eq_nil {prog : Program} {w : World} {A : Around} {E : Value → Shared → Prop} {s : Shared} {l b : Addr} {vs : List Value} {Q : Value → Shared → Prop} (hl : s.heap.IsList l vs.toArray) (hb : s.heap.IsList b ([] : List Value).toArray) (hu : A.units + 64 < cLine)
    (h : Q (.bool vs.isEmpty) s) : wpAny (model prog w) A (compareOp .Eq (.ref l) (.ref b)) Q E s := by
  cases vs with
  | nil => exact _root_.PySem.SeqAt.eq_listAt (e := fun _ => true) hl hb rfl (by omega) (fun j h1 => absurd h1 (by simp)) (by simpa using h)
  | cons v r => exact _root_.PySem.SeqAt.eq_list_lengthsAt hl hb (by simp) (by omega) h
theorem m_len {prog : Program} {w : World} {A : Around} {E : Value → Shared → Prop} {s : Shared} {l : Addr} {vs : List Value} {Q : Value → Shared → Prop} (hl : s.heap.IsList l vs.toArray) (hb : vs.length ≤ 1000)
    (h : Q (.int (vs.length : Int) (s.toks + 1)) { s with toks := s.toks + 1 + 1 }) : wpAny (model prog w) A (call (.builtin "len") [.ref l]) Q E s :=
  Calls.call_len_list hl (by simp [List.size_toArray]; omega) (by simpa using h)
end Mine

theorem Mine.fresh08 : True := by
  w_top off
  k_with "my call ref" => ((k_here; (with_reducible show wpAny _ _ (call (Value.ref 131) [Value.ref _, Value.int _ _]) _ _ _); k_dflt (refine' Mine.is_true_k ?k1qh ?k2qh ?k3qh ?k4qh ?k5qh ?kKqh ?kfqh ?kwqh ?kvqh ?kpqh ?kuqh ?_; (case k1qh => k_asm); (case k2qh => k_asm); (case k3qh => k_asm); (case k4qh => k_asm); (case k5qh => k_asm); (case kKqh => first | exact rfl | assumption); (case kfqh => assumption); (case kwqh => k_extra "mine_nat"); (case kvqh => k_extra "mine_nat"); (case kpqh => ktr_room); (case kuqh => ktr_units); k_whole; intro h'qz tk'qz F'qz N'qz K'qz; (try k_fold)); walk_say "IS_TRUE"))
  k_with "my compareOp Eq ref ref" => ((k_here; (with_reducible show wpAny _ _ (compareOp CmpOp.Eq (Value.ref _) (Value.ref _)) _ _ _); (with_unfolding_all refine' Mine.m_eq_nil ?k1qh ?k2qh ?k3qh ?_; (case k1qh => is_list); (case k2qh => is_list); (case k3qh => units_room)); walk_say "EQ NIL"))
  k_with "my CPost" => ((dsimp only [Mine.CPost]))
  k_with "my binaryOp Add ref ref" => ((k_here; (try dsimp only); (with_reducible show wpAny _ _ (binaryOp Operator.Add (Value.ref _) (Value.ref _)) _ _ _); (with_unfolding_all refine' Mine.m_add ?k1qh ?k2qh ?k3qh ?k4qh ?k5qh ?_; (case k1qh => k_asm); (case k2qh => k_asm); (case k3qh => is_list); (case k4qh => is_list); (case k5qh => omega)); intro D'qz h'qz F'qz N'qz l1qz; (try k_lt l1qz); walk_say "CONCAT"))
  k_with "my subscriptTail" => ((k_here; (with_reducible show wpAny _ _ (subscriptTail _ _ (Value.ref _) (Value.int _ _)) _ _ _); (with_unfolding_all refine' Mine.m_item ?k1qh ?k2qh ?k3qh ?k4qh ?_; (case k1qh => is_list); (case k2qh => omega); (case k3qh => omega); (case k4qh => omega)); walk_say "ITEM"))
  trivial
namespace Mine
/-- I stands in h, off S -/
def InH (I : Heap) (S : List Addr) (h : Heap) : Prop := ∀ b o, I.get? b = some o → h.get? b = some o ∧ b ∉ S
theorem InH.sub {I h : Heap} {S S' : List Addr} (x : InH I S h) (k : ∀ a ∈ S', a ∈ S) : InH I S' h := fun b o e => ⟨(x b o e).1, fun q => (x b o e).2 (k b q)⟩
theorem InH.ground {I h g : Heap} {S : List Addr} (x : InH I S h) (G : GSub h g S) : InH I S g := fun b o e => ⟨G b o (x b o e).1 (x b o e).2, (x b o e).2⟩
theorem InH.keep {I h h' : Heap} {S : List Addr} (x : InH I S h) (K : KeepBut S h h') : InH I S h' := fun b o e => ⟨K b o (x b o e).1 (x b o e).2, (x b o e).2⟩
theorem InH.fr {I g h : Heap} {S : List Addr} {L : Addr} {m : Str → Option Value} (x : InH I S g) (F : Fr g L h m) : InH I S h := fun b o e => ⟨F.keep b o (x b o e).1, (x b o e).2⟩
theorem InH.list {I h : Heap} {S : List Addr} {l : Addr} {its : Array Value} (x : InH I S h) (hl : I.IsList l its) : h.IsList l its := by
  obtain ⟨o, e, r⟩ := hl
  exact ⟨o, (x _ _ e).1, r⟩
theorem InH.seq {I h : Heap} {S : List Addr} {l : Addr} {its : List Value} (x : InH I S h) (hl : SeqAt I l its) : SeqAt h l its := hl.mono fun o e => (x _ _ e).1
theorem InH.clause {I h : Heap} {S : List Addr} {v : Value} {c : List Int} (x : InH I S h) (hc : ClauseAt I v c) : ClauseAt h v c := by
  obtain ⟨a, vs, e, hl, r⟩ := hc
  exact ⟨a, vs, e, x.list hl, r⟩
theorem InH.form {I h : Heap} {S : List Addr} {v : Value} {G : List (List Int)} (x : InH I S h) (hf : FormAt I v G) : FormAt h v G := by
  obtain ⟨a, vs, e, hl, r⟩ := hf
  exact ⟨a, vs, e, x.list hl, r.mono fun _ _ => x.clause⟩
def worlds (many : Int) : Nat := 2 ^ many.toNat
def canB (many : Int) (Fs Gs : List (List (List Int))) (ns : List Int) : Bool :=
  (List.range (worlds many)).any fun wd => (Gs ++ ns.map fun k => Fs.getD k.toNat []).all (formOk (wd : Int))
theorem testsOf_nil {prog : Program} {w : World} {A : Around} {E : Value → Shared → Prop} {s : Shared} {cenv : Env} {b : Bool} (hb : b = true) : wpAny (model prog w) A (testsOf [] cenv) (fun ok s₄ => ok = b ∧ Keeps s s₄) E s := by
  subst hb
  exact wpAny_pure ⟨rfl, s.heap, s.toks, rfl, fun _ _ e => e⟩
theorem m_item {prog : Program} {w : World} {A : Around} {E : Value → Shared → Prop} {s : Shared} {value slice : PySem.Expr} {l : Addr} {vs : List Value} {k : Int} {u : Tok} {Q : Value → Shared → Prop}
    (hl : s.heap.IsList l vs.toArray) (h0 : 0 ≤ k) (hk : k < (vs.length : Int)) (hb : vs.length ≤ 1000) (h : ∀ v, vs[k.toNat]? = some v → Q v s)
    (hs : subscripted slice false (.ref l) (.int k u) = operate [.ref l, .int k u] (getItem (.ref l) (.int k u)) := by with_unfolding_all rfl) :
    wpAny (model prog w) A (subscriptTail value slice (.ref l) (.int k u)) Q E s := by
  have hlt : k.toNat < vs.length := by omega
  have hx : vs[k.toNat]? = some vs[k.toNat] := List.getElem?_eq_getElem hlt
  exact tail_any hl.typeIs slot_list_getitem.lookup (wpAny_getItem_list hl h0 (by omega) (by simpa using hx) (h _ hx)) hs
theorem m_add {prog : Program} {w : World} {A : Around} {E : Value → Shared → Prop} {s : Shared} {h₀ : Heap} {L : Addr} {m : Str → Option Value} {news : List (Addr × Obj)} {l b : Addr} {vs ws : List Value} {Q : Value → Shared → Prop} (F : Fr h₀ L s.heap m) (N : News h₀ L s.heap news) (hl : s.heap.IsList l vs.toArray) (hb : s.heap.IsList b ws.toArray)
    (hsz : vs.length + ws.length ≤ 1000) (h : ∀ D h', Fr h₀ L h' m → News h₀ L h' ((D, listOf (vs ++ ws).toArray 0) :: news) → (∀ q ∈ news, q.1 < D) → Q (.ref D) { s with heap := h' }) :
    wpAny (model prog w) A (binaryOp .Add (.ref l) (.ref b)) Q E s :=
  add_lists (hsz := by rw [sizeLine_eq]; omega) F N hl hb fun h' F' N' => h _ h' F' N' fun q hq => Heap.lt_size (N q hq).1
theorem ints_unique {vs : List Value} {ns : List Int} (h : IntsAre vs ns) : ∀ {ms : List Int}, IntsAre vs ms → ns = ms := by
  induction h with
  | nil => intro _ h'; cases h'; rfl
  | cons k t r ih =>
    intro _ h'
    cases h' with
    | cons _ _ r' => rw [ih r']
theorem worlds_le {many : Int} (h : many ≤ 3) : worlds many ≤ 8 := by
  unfold worlds
  have : many.toNat ≤ 3 := by omega
  exact Nat.pow_le_pow_right (n := 2) (by decide) this
theorem list_unique {h : Heap} {a : Addr} {xs ys : List Value} (h1 : h.IsList a xs.toArray) (h2 : h.IsList a ys.toArray) : xs = ys := by
  obtain ⟨o, e, _, n, d⟩ := h1
  obtain ⟨o', e', _, n', d'⟩ := h2
  rw [e] at e'; cases e'
  rw [d] at d'
  injection d' with z
  simpa using z
theorem clause_unique {h : Heap} {v : Value} {c d : List Int} (h1 : ClauseAt h v c) (h2 : ClauseAt h v d) : c = d := by
  obtain ⟨a, vs, e, hl, hi, _⟩ := h1
  obtain ⟨a', vs', e', hl', hi', _⟩ := h2
  rw [e] at e'; cases e'
  cases list_unique hl hl'
  exact ints_unique hi hi'
theorem all2_unique {α β : Type} {R : α → β → Prop} (f : ∀ a b b', R a b → R a b' → b = b') {as : List α} {bs : List β} (h : All2 R as bs) : ∀ {cs : List β}, All2 R as cs → bs = cs := by
  induction h with
  | nil => intro _ h'; cases h'; rfl
  | cons r _ ih =>
    intro _ h'
    cases h' with
    | cons r' t' => rw [f _ _ _ r r', ih t']
theorem form_unique {h : Heap} {v : Value} {G H : List (List Int)} (h1 : FormAt h v G) (h2 : FormAt h v H) : G = H := by
  obtain ⟨a, vs, e, hl, hi⟩ := h1
  obtain ⟨a', vs', e', hl', hi'⟩ := h2
  rw [e] at e'; cases e'
  cases list_unique hl hl'
  exact all2_unique (R := ClauseAt h) (fun _ _ _ => clause_unique) hi hi'
noncomputable def badForm (I : Heap) (wd : Int) (v : Value) : Bool := !(@decide (∃ G, FormAt I v G ∧ formOk wd G = true) (Classical.propDecidable _))
theorem badForm_eq {I : Heap} {wd : Int} {v : Value} {G : List (List Int)} (hf : FormAt I v G) : badForm I wd v = !formOk wd G := by
  unfold badForm
  congr 1
  cases h : formOk wd G with
  | true => exact @decide_eq_true _ (Classical.propDecidable _) ⟨G, hf, h⟩
  | false =>
    refine @decide_eq_false _ (Classical.propDecidable _) ?_
    rintro ⟨H, hH, h'⟩
    rw [form_unique hH hf, h] at h'
    cases h'
theorem filter_bad {I : Heap} {wd : Int} {vs : List Value} {Gs : List (List (List Int))} (h : All2 (FormAt I) vs Gs) : (vs.filter (badForm I wd)).isEmpty = Gs.all (formOk wd) := by
  induction h with
  | nil => rfl
  | @cons v G _ _ r t ih =>
    rw [List.filter_cons, badForm_eq r, List.all_cons, ← ih]
    cases formOk wd G <;> simp
theorem paired_self {xs ys : List Value} (h : Paired (fun v y => y = v) xs ys) : ys = xs := by
  induction h with
  | nil => rfl
  | cons e _ ih => rw [e, ih]
theorem ints_mem {vs : List Value} {ns : List Int} (x : IntsAre vs ns) : ∀ {v : Value}, v ∈ vs → ∃ k, k ∈ ns ∧ ∃ t, v = .int k t := by
  induction x with
  | nil => intro _ h; cases h
  | cons k t r ih =>
    intro v h
    rcases List.mem_cons.mp h with rfl | h
    · exact ⟨k, .head _, t, rfl⟩
    · obtain ⟨k', hk, t', e⟩ := ih h
      exact ⟨k', .tail _ hk, t', e⟩
theorem forms_of {I : Heap} {fvs : List Value} {Fs : List (List (List Int))} (hF : All2 (FormAt I) fvs Fs) {svs : List Value} {ns : List Int} (x : IntsAre svs ns) : ∀ {ys : List Value}, Paired (fun v y => ∃ k t, v = Value.int k t ∧ fvs[k.toNat]? = some y) svs ys → All2 (FormAt I) ys (ns.map fun k => Fs.getD k.toNat []) := by
  induction x with
  | nil => intro _ p; cases p; exact .nil
  | cons k t r ih =>
    intro _ p
    cases p with
    | cons q p =>
      obtain ⟨k', t', e, hx⟩ := q
      cases e
      obtain ⟨b, hb, hf⟩ := hF.get hx
      refine .cons ?_ (ih p)
      show FormAt I _ (Fs.getD k.toNat [])
      rw [List.getD_eq_getElem?_getD, hb]
      exact hf
theorem all2_mem {α β : Type} {R : α → β → Prop} {as : List α} {bs : List β} (x : All2 R as bs) : ∀ {a : α}, a ∈ as → ∃ b, R a b := by
  induction x with
  | nil => intro _ h; cases h
  | cons r _ ih =>
    intro a h
    rcases List.mem_cons.mp h with rfl | h
    · exact ⟨_, r⟩
    · exact ih h
theorem keepBut_nil {h h' : Heap} {ca : Addr} {o : Obj} (K : KeepBut [ca] h h') (e : h.get? ca = some o) (e' : h'.get? ca = some o) : KeepBut [] h h' := fun b ob eb _ => by
  by_cases q : b = ca
  · subst q; rw [e] at eb; cases eb; exact e'
  · exact K b ob eb (by simpa using q)
theorem seq_ne_dict {h : Heap} {l d : Addr} {its : List Value} {o : Obj} (hl : SeqAt h l its) (e : h.get? d = some o) (hc : o.cls = .type "dict") : l ≠ d := by
  rintro rfl
  rcases hl with ⟨x, h1, h2, _⟩ | ⟨x, h1, h2, _⟩
  · rw [e] at h1; cases h1; rw [hc] at h2; simp at h2
  · rw [e] at h1; cases h1; rw [hc] at h2; simp at h2
theorem canB_true {many : Int} {Fs Gs : List (List (List Int))} {ns : List Int} {i : Nat} (hi : i < worlds many) (h : (Gs ++ ns.map fun k => Fs.getD k.toNat []).all (formOk (i : Int)) = true) : canB many Fs Gs ns = true := by
  unfold canB
  rw [List.any_eq_true]
  exact ⟨i, List.mem_range.mpr hi, h⟩
theorem range_any_succ {p : Nat → Bool} {i : Nat} (h : (List.range i).any p = false) (h' : p i = false) : (List.range (i + 1)).any p = false := by
  rw [List.range_succ, List.any_append, h]
  simp [h']
section
theorem can_c (w : World) {p : Program} {loose : List Str} {mean : ExcName → Option Value} {mg mb : Str → Option Value}
    (dp un : Nat) (gd : Option (List Code)) (cn : Str) (cs : Scope) (a : Addr) (ccd : Value) (cl : List (Str × Addr)) (outer : List Env) (A₀ : Around) (base h₀ : Heap) (L : Addr) (m : Str → Option Value) (s : Shared)
    (I : Heap) (ca fa ga aa sa : Addr) (o : Obj) (many way limit : Int) (t1 t2 t3 : Tok) (fvs gvs svs : List Value) (Fs Gs : List (List (List Int))) (ns : List Int) (Q E : Value → Shared → Prop)
    (B : Below A₀ base outer h₀) (F : Fr h₀ L s.heap m) (X : (hd.heap_39 w.params).In h₀) (N : News h₀ L s.heap [(ca, o)]) (T : Top p loose mean mg mb h₀) (hk : cs.kind = .function)
    (hd : o.IsDictOf (PySem.strKind PG w) [("many", .int many t1), ("formulas", .ref fa), ("granted", .ref ga), ("asked", .ref aa), ("way", .int way t2), ("limit", .int limit t3)])
    (hI : InH I [ca] s.heap) (hfa : I.IsList fa fvs.toArray) (hF : All2 (FormAt I) fvs Fs) (hga : I.IsList ga gvs.toArray) (hG : All2 (FormAt I) gvs Gs) (hfl : fvs.length ≤ 5) (hgl : gvs.length ≤ 5)
    (hs : SeqAt s.heap sa svs) (hsi : IntsAre svs ns) (hsl : ns.length ≤ 500) (hsb : ∀ k ∈ ns, 0 ≤ k ∧ k < (fvs.length : Int)) (hm0 : 2 ≤ many) (hm1 : many ≤ 3)
    (hdp : dp + 2 < recursionLimit) (hun : un + 200 < cLine)
    (hret : ∀ h' tk', Fr h₀ L h' m → KeepBut [] s.heap h' → Q (.bool (canB many Fs Gs ns)) { s with heap := h', toks := tk' }) :
    wpAny (model PG w) (ktrTop dp un gd cn cs L a ccd cl outer) (call (.ref 136) [.ref ca, .ref sa]) Q E s := by
  suffices h : Mine.hd.heap_39 = Mine.hd.heap_39 → PySem.Challenge.rw_nu0263_01 = PySem.Challenge.rw_nu0263_01 → wpAny (model PG w) (ktrTop dp un gd cn cs L a ccd cl outer) (call (.ref 136) [.ref ca, .ref sa]) Q E s from h rfl rfl
  k_fill
  intro _ _
  refine wpAny_call ?_
  walk_at "mine_enterC"
  rename_i g1 L1 hh1 tk1 FG1 F1 B1 X1 T1 kG' l1 oW oC dW dC N0
  have hIg := hI.ground kG'
  have hfa' := hIg.list hfa
  have hga' := hIg.list hga
  k_extra "mine_stepsL"
  rename Fr _ _ _ _ => F0
  refine m_listComp (fun _ => true) (fun v y => ∃ k t, v = .int k t ∧ fvs[k.toNat]? = some y) F0 rfl (by with_unfolding_all rfl) (by decide) rfl (by decide) rfl ?h (fun _ => by with_unfolding_all rfl)
  k_extra "mine_stepsL"
  rename Fr _ _ _ _ => F1
  rename News _ _ _ _ => N1
  have hneq : sa ≠ ca := by
    obtain ⟨es, ep, hx, _⟩ := id hd
    exact seq_ne_dict hs (N.get (.head _)) hx.1
  have hsg : SeqAt g1 sa svs := hs.mono fun o e => kG' _ _ e (by simpa using hneq)
  refine ⟨sa, svs, _, rfl, hsg.mono fun o e => F1.keep _ _ e, by rw [sizeLine_eq, hsi.length]; omega, F1, N1, fun _ _ _ _ _ _ _ _ _ _ _ _ => testsOf_nil rfl, ?_, ?_⟩
  · intro C v s₃ m₃ E' hv _ hC hNs hmx hkeep F3 N3
    obtain ⟨k, hkm, t, rfl⟩ := ints_mem hsi hv
    obtain ⟨hk0, hk1⟩ := hsb k hkm
    k_extra "mine_stepsL"
    exact ⟨_, _, rfl, fun _ _ e => e⟩
  · intro D ys n h' tk F3 N3 hD hP hK hDn
    rw [List.filter_eq_self.mpr (fun _ _ => rfl)] at hP
    have hylen : ys.length ≤ 500 := by rw [← hP.length, hsi.length]; exact hsl
    have hall := hG.append (forms_of hF hsi hP)
    simp only [AllNe, and_true] at hD
    k_extra "mine_stepsL"
    rename Fr _ _ _ _ => F4
    with_unfolding_all refine m_For F4 ?_
    k_extra "mine_stepsL"
    have hw : ((2 : Int) ^ many.toNat) = (worlds many : Int) := by unfold worlds; exact (Int.natCast_pow 2 _).symm
    rename Fr _ _ _ _ => F5
    rename News _ _ _ _ => N5
    rename IsRange _ _ _ _ _ _ _ _ => R5
    with_unfolding_all refine' mf_cell_range (c := L1 + 1 + 1) (oc := oW) (fun i => ((List.range i).any fun wd => (Gs ++ ns.map fun k => Fs.getD k.toNat []).all (formOk (wd : Int))) = false) rfl R5 hw ?small F5 N5 ?U ?hc rfl ?turn ?done
    case hc => exact dW
    case U => k_updF
    case small => rw [hw]; have := worlds_le hm1; omega
    case turn =>
      intro i t oc' v' h tk own hi off hc' hP F6 N6
      have hi8 : (i : Int) < 8 := by have := worlds_le hm1; omega
      refine wpAny_assign_Name ?_
      (try dsimp only at N6)
      replace off := tbOff_own off
      simp only [List.map_cons, List.map_nil] at off
      (try simp only [List.cons_append, List.nil_append] at N6)
      k_extra "mine_stepsL"
      rename Fr _ _ _ _ => F7
      refine m_listComp (badForm I i) (fun v y => y = v) F7 rfl (by with_unfolding_all rfl) (by decide) rfl (by decide) rfl ?h (fun _ => by with_unfolding_all rfl)
      k_extra "mine_stepsL"
      rename Fr _ _ _ _ => F8
      rename News _ _ _ _ => N8
      refine ⟨_, gvs ++ ys, _, rfl, .inl ?_, by rw [sizeLine_eq, List.length_append]; omega, F8, N8, ?_, ?_, ?_⟩
      · exact News.isList N8 (by k_mem)
      · intro C v s₃ m₃ E' hv hC hNs hmx hkeep F9 N9
        obtain ⟨G', hG'⟩ := all2_mem hall hv
        obtain ⟨fa', fcs, rfl, hfl', hfc'⟩ := id hG'
        have hf3 := ((hIg.fr F9).form hG')
        unfold testsOf
        k_extra "mine_stepsL"
        · exact (badForm_eq hG').symm
        · exact ⟨_, _, rfl, fun b o e => by rename KeepBut _ _ _ => K'; exact K' b o e (by simp)⟩
      · intro C v s₃ m₃ E' hv _ hC hNs hmx hkeep F9 N9
        k_extra "mine_stepsL"
        exact ⟨_, _, rfl, fun _ _ e => e⟩
      · intro D2 zs n2 h2 tk2 F9 N9 hD2 hP2 hK2 hDn2
        cases paired_self hP2
        k_extra "mine_stepsL"
        · exact q_bool (canB_true hi (by rw [← filter_bad hall]; assumption)) (hret _ _ (by assumption) (keepBut_nil (keepBut_of (S := [ca]) (by assumption) (by assumption)) (N.get (.head _)) (News.get (by assumption) (by k_mem))))
        · refine' Mine.CEnd.intro ?s1 ?s2 rfl ?s4 ?s5 ?s6 ?_
          case s1 => assumption
          case s2 => assumption
          case s4 => assumption
          case s5 => k_extra "mine_mem"
          case s6 => (intro p hp; k_ownIn)
          exact range_any_succ hP (by rw [← filter_bad hall]; assumption)
    case done =>
      intro oc' v' h tk hc' hP F6 N6
      k_extra "mine_stepsL"
      exact q_bool (by unfold canB; exact hP) (hret _ _ (by assumption) (keepBut_nil (keepBut_of (S := [ca]) (by assumption) (by assumption)) (N.get (.head _)) (News.get (by assumption) (by k_mem))))
end
/-- what stays: the formulas, granted and numbered -/
structure Dat where
  I : Heap
  fa : Addr
  ga : Addr
  fvs : List Value
  gvs : List Value
  Fs : List (List (List Int))
  Gs : List (List (List Int))
  many : Int
structure Dat.Ok (D : Dat) : Prop where
  hfa : D.I.IsList D.fa D.fvs.toArray
  hF : All2 (FormAt D.I) D.fvs D.Fs
  hga : D.I.IsList D.ga D.gvs.toArray
  hG : All2 (FormAt D.I) D.gvs D.Gs
  hfl : D.fvs.length ≤ 5
  hgl : D.gvs.length ≤ 5
  hm0 : 2 ≤ D.many
  hm1 : D.many ≤ 3
def Dat.can (D : Dat) (ns : List Int) : Bool := canB D.many D.Fs D.Gs ns
def Dat.Nums (D : Dat) (ns : List Int) : Prop := ∀ k ∈ ns, 0 ≤ k ∧ k < (D.fvs.length : Int)
theorem Dat.Nums.sub {D : Dat} {ns ms : List Int} (h : D.Nums ns) (hs : ∀ k ∈ ms, k ∈ ns) : D.Nums ms := fun k hk => h k (hs k hk)
theorem can_k {w : World} {p : Program} {loose : List Str} {mean : ExcName → Option Value} {mg mb : Str → Option Value}
    {dp un : Nat} {gd : Option (List Code)} {cn : Str} {cs : Scope} {a : Addr} {ccd : Value} {cl : List (Str × Addr)} {outer : List Env} {A₀ : Around} {base h₀ : Heap} {L : Addr} {m : Str → Option Value} {s : Shared}
    {ca aa sa : Addr} {o : Obj} {many way limit : Int} {t1 t2 t3 : Tok} {svs : List Value} {ns : List Int} {Q E : Value → Shared → Prop} {news : List (Addr × Obj)} {fa ga : Addr} (D : Dat)
    (B : Below A₀ base outer h₀) (F : Fr h₀ L s.heap m) (X : (hd.heap_39 w.params).In h₀) (N : News h₀ L s.heap news) (T : Top p loose mean mg mb h₀) (hk : cs.kind = .function)
    (hm : (ca, o) ∈ news) (hd : o.IsDictOf (PySem.strKind PG w) [("many", .int many t1), ("formulas", .ref fa), ("granted", .ref ga), ("asked", .ref aa), ("way", .int way t2), ("limit", .int limit t3)])
    (ef : fa = D.fa) (eg : ga = D.ga) (em : many = D.many) (ok : D.Ok) (hI : InH D.I [ca] s.heap)
    (hs : SeqAt s.heap sa svs) (hsi : IntsAre svs ns) (hsl : ns.length ≤ 500) (hsb : D.Nums ns)
    (hdp : dp + 2 < recursionLimit) (hun : un + 200 < cLine)
    (hret : ∀ h' tk', Fr h₀ L h' m → News h₀ L h' news → KeepBut [] s.heap h' → Q (.bool (D.can ns)) { s with heap := h', toks := tk' }) :
    wpAny (model PG w) (ktrTop dp un gd cn cs L a ccd cl outer) (call (.ref 136) [.ref ca, .ref sa]) Q E s := by
  subst ef eg em
  exact can_c w dp un gd cn cs a ccd cl outer A₀ base h₀ L m s D.I ca D.fa D.ga aa sa o D.many way limit t1 t2 t3 D.fvs D.gvs svs D.Fs D.Gs ns Q E B F X (Mine.News.one N hm) T hk hd hI ok.hfa ok.hF ok.hga ok.hG ok.hfl ok.hgl hs hsi hsl hsb ok.hm0 ok.hm1 hdp hun
    fun h' tk' F' K => hret h' tk' F' (fun p hp => ⟨K _ _ (N p hp).1 (by simp), (N p hp).2⟩) K
end Mine

theorem Mine.fresh09 : True := by
  w_top off
  k_with "mine_inh" => (first | assumption | exact Mine.InH.fr (by assumption) (by k_asm) | exact Mine.InH.sub (Mine.InH.fr (by assumption) (by k_asm)) (by simp))
  k_with "mine_seq" => (first | assumption | exact Or.inl (by is_list) | exact Or.inr (by assumption) | exact Mine.SeqAt.mono (by assumption) (fun o e => Fr.keep (by k_asm) _ _ e))
  k_with "mine_len" => (first | assumption | omega | ((try simp only [List.length_map]); exact Nat.le_trans (List.length_filter_le _ _) (by first | assumption | omega)))
  k_with "mine_nums" => (first | assumption | exact Mine.Dat.Nums.sub (by assumption) (fun k9 hk9 => by first | exact hk9 | (simp only [List.map_id', List.mem_filter] at hk9; exact hk9.1)))
  k_with "my call ref" => ((k_here; (with_reducible show wpAny _ _ (call (Value.ref 136) [Value.ref _, Value.ref _]) _ _ _); (rename Mine.Dat.Ok _ => ok9qz); k_dflt (refine' Mine.can_k _ ?k1qh ?k2qh ?k3qh ?k4qh ?k5qh ?kKqh ?kmqh ?kdqh rfl rfl rfl ok9qz ?kIqh ?ksqh ?kiqh ?klqh ?kbqh ?kpqh ?kuqh ?_; (case k1qh => k_asm); (case k2qh => k_asm); (case k3qh => k_asm); (case k4qh => k_asm); (case k5qh => k_asm); (case kKqh => first | exact rfl | assumption); (case kmqh => k_mem); (case kdqh => assumption); (case kIqh => k_extra "mine_inh"); (case ksqh => k_extra "mine_seq"); (case kiqh => first | assumption | l_ints); (case klqh => k_extra "mine_len"); (case kbqh => k_extra "mine_nums"); (case kpqh => ktr_room); (case kuqh => ktr_units); k_whole; intro h'qz tk'qz F'qz N'qz K'qz; (try k_fold)); walk_say "CAN"))
  k_with "my FPost" => ((dsimp only [Mine.FPost]))
  k_with "my FEnd" => ((refine' Mine.FEnd.intro ?s1qh ?s2qh ?s2bqh ?s3qh ?s4qh ?s5qh ?s6qh ?s7qh ?s8qh ?s9qh ?s10qh ?_; (case s1qh => assumption); (case s2qh => with_unfolding_all rfl); (case s2bqh => k_extra "mine_same"); (case s3qh => assumption); (case s4qh => k_mem); (case s5qh => assumption); (case s6qh => k_mem); (case s7qh => k_extra "mine_mem"); (case s8qh => (intro pqz hpqz; k_ownIn)); (case s9qh => k_all); (case s10qh => k_all); walk_say "FTURN"))
  k_with "my FEnd" => (((rename NewPlain _ _ _ _ => hP9qz); (rename Fr _ _ _ _ => hF9qz); (rename News _ _ _ _ => hN9qz); (have hX9 := Mine.news_plain hF9qz hN9qz (by assumption) hP9qz); clear hP9qz hN9qz; (obtain ⟨n9, hN9qz, hfar9⟩ := hX9); walk_say "NEW LIST"; (refine' Mine.FEnd.intro ?s1qh ?s2qh ?s2bqh ?s3qh ?s4qh ?s5qh ?s6qh ?s7qh ?s8qh ?s9qh ?s10qh ?_; (case s1qh => exact hF9qz); (case s2qh => with_unfolding_all rfl); (case s2bqh => k_extra "mine_same"); (case s3qh => exact hN9qz); (case s4qh => k_mem); (case s5qh => assumption); (case s6qh => exact List.mem_cons_self ..); (case s7qh => k_extra "mine_mem"); (case s8qh => (intro pqz hpqz; k_ownIn)); (case s9qh => (intro q9qz hq9qz; refine hfar9 q9qz ?_; exact (by k_extra "mine_mem" : ∀ pqz ∈ _, pqz ∈ _) q9qz hq9qz)); (case s10qh => (intro pqz hpqz; refine hfar9 pqz ?_; k_ownIn)); walk_say "FTURN2")))
  k_with "my call type:tuple" => ((k_here; (with_reducible show wpAny _ _ (call (Value.type _) [Value.ref _]) _ _ _); k_dflt (refine' kde_tupleOf ?k1qh ?k2qh ?k3qh ?k4qh rfl ?_; (case k1qh => k_asm); (case k2qh => k_asm); (case k3qh => is_list); (case k4qh => ((try simp only [List.size_toArray]); omega)); k_whole); intro D'qz h'qz F'qz N'qz l1qz; (try k_lt l1qz); (try k_sweep); walk_say "TUPLE"))
  trivial
namespace Mine
theorem news_tail {h₀ h : Heap} {L : Addr} {p : Addr × Obj} {l : List (Addr × Obj)} (N : News h₀ L h (p :: l)) : News h₀ L h l := fun q hq => N q (.tail _ hq)
theorem fresh_call {H g h : Heap} {S : List Addr} {L ra : Addr} {x : Obj} {news : List (Addr × Obj)} (G : GSub H g S) (N : News g L h news) (hm : (ra, x) ∈ news) (hS : ra ∉ S) : H.get? ra = none := by
  cases e : H.get? ra with
  | none => rfl
  | some o => have y := (N _ hm).2.2; rw [G ra o e hS] at y; cases y
/-- a list that was made for a loop, by whichever way -/
inductive SrcPost (g : Heap) (L : Addr) (m : Str → Option Value) (news : List (Addr × Obj)) (s : Shared) (v : Value) (s' : Shared) : Prop where
  | mk (l : Addr) (lvs : List Value) (lns : List Int) (n : Nat) (h : Heap) (tk : Nat) (e : v = .ref l) (e' : s' = { s with heap := h, toks := tk }) (F : Fr g L h m) (N : News g L h ((l, listOf (List.toArray lvs) n) :: news)) (d : ∀ q ∈ news, q.1 ≠ l) (i : IntsAre lvs lns)
theorem join_src {M : Model} {A : Around} {e : Sem Value} {Q : Value → Shared → Prop} {E : Value → Shared → Prop} {s : Shared} {g : Heap} {L : Addr} {m : Str → Option Value} {news : List (Addr × Obj)} (_F : Fr g L s.heap m) (_N : News g L s.heap news) (ha : wpAny M A e (SrcPost g L m news s) E s)
    (hb : ∀ l lvs lns n h tk, Fr g L h m → News g L h ((l, listOf (List.toArray lvs) n) :: news) → (∀ q ∈ news, q.1 ≠ l) → IntsAre lvs lns → Q (.ref l) { s with heap := h, toks := tk }) : wpAny M A e Q E s :=
  wpAny_mono ha (fun _ _ q => by
    obtain ⟨l, lvs, lns, n, h, tk, rfl, rfl, F, N, d, i⟩ := q
    exact hb l lvs lns n h tk F N d i) fun _ _ x => x
theorem news_skip {h₀ h : Heap} {L : Addr} {x y : Addr × Obj} {r : List (Addr × Obj)} (N : News h₀ L h (x :: y :: r)) : News h₀ L h (x :: r) := fun q hq => N q (by
  rcases List.mem_cons.mp hq with rfl | hq
  · exact .head _
  · exact .tail _ (.tail _ hq))
theorem failed_c (w : World) {p : Program} {loose : List Str} {mean : ExcName → Option Value} {mg mb : Str → Option Value}
    (dp un : Nat) (gd : Option (List Code)) (cn : Str) (cs : Scope) (a : Addr) (ccd : Value) (cl : List (Str × Addr)) (outer : List Env) (A₀ : Around) (base h₀ : Heap) (L : Addr) (m : Str → Option Value) (s : Shared)
    (D : Dat) (ca aa sa : Addr) (o : Obj) (way limit : Int) (t1 t2 t3 : Tok) (svs : List Value) (ns : List Int) (Q E : Value → Shared → Prop)
    (B : Below A₀ base outer h₀) (F : Fr h₀ L s.heap m) (X : (hd.heap_39 w.params).In h₀) (N : News h₀ L s.heap [(ca, o)]) (T : Top p loose mean mg mb h₀) (hk : cs.kind = .function)
    (hd : o.IsDictOf (PySem.strKind PG w) [("many", .int D.many t1), ("formulas", .ref D.fa), ("granted", .ref D.ga), ("asked", .ref aa), ("way", .int way t2), ("limit", .int limit t3)])
    (ok : D.Ok) (hI : InH D.I [ca] s.heap) (hw0 : 0 ≤ way) (hw1 : way ≤ 2)
    (hs : s.heap.IsTuple sa svs.toArray) (hsi : IntsAre svs ns) (hsl : ns.length ≤ 5) (hsb : D.Nums ns) (hno : D.can ns = false)
    (hdp : dp + 3 < recursionLimit) (hun : un + 300 < cLine)
    (hret : ∀ ra fts fs n h' tk', Fr h₀ L h' m → KeepBut [] s.heap h' → s.heap.get? ra = none → h'.get? ra = some { cls := .type "tuple", data := .seq fts.toArray n } → IntsAre fts fs → List.Sublist fs ns → D.can fs = false → Q (.ref ra) { s with heap := h', toks := tk' }) :
    wpAny (model PG w) (ktrTop dp un gd cn cs L a ccd cl outer) (call (.ref 141) [.ref ca, .ref sa]) Q E s := by
  suffices h : Mine.hd.heap_39 = Mine.hd.heap_39 → PySem.Challenge.rw_nu0263_01 = PySem.Challenge.rw_nu0263_01 → wpAny (model PG w) (ktrTop dp un gd cn cs L a ccd cl outer) (call (.ref 141) [.ref ca, .ref sa]) Q E s from h rfl rfl
  k_fill
  intro _ _
  refine wpAny_call ?_
  walk_at "mine_enterC"
  rename_i g1 L1 hh1 tk1 FG1 F1 B1 X1 T1 kG' l1 oK dK N0
  have hneq : sa ≠ ca := by
    obtain ⟨es, ep, hx, _⟩ := id hd
    exact seq_ne_dict (.inr hs) (N.get (.head _)) hx.1
  have hsg : SeqAt g1 sa svs := SeqAt.mono (.inr hs) fun o e => kG' _ _ e (by simpa using hneq)
  have hsg' : IsTup g1 sa svs.toArray := isTup_keep (S := [ca]) kG' hs (by simpa using hneq)
  have hIg := hI.ground kG'
  have hsv : svs.length ≤ 5 := by rw [hsi.length]; exact hsl
  k_extra "mine_steps"
  · rename Fr _ _ _ _ => F4
    with_unfolding_all refine m_For F4 ?_
    rename News _ _ _ _ => N4
    refine join_src F4 N4 ?_ ?_
    · k_extra "mine_steps"
      all_goals (
        rename Fr _ _ _ _ => F5
        rename News _ _ _ _ => N5)
      · exact ⟨_, _, ns, _, _, _, rfl, rfl, F5, N5, (by k_all), hsi⟩
      · rename IntsAre _ _ => hI5
        exact ⟨_, _, ns.reverse, _, _, _, rfl, rfl, F5, news_skip N5, (by k_all), hI5⟩
    · clear F4 N4
      intro l lvs lns n5 h5 tk5 F5 N5 hd5 hli
      have N5' := news_tail N5
      have hl2 := (N5 _ (List.mem_cons_self ..)).2.1
      with_unfolding_all refine' mf_seq_fl (x₁ := Str.ofString "found") (fun i fls => ∃ fs, IntsAre fls fs ∧ List.Sublist fs ns ∧ D.can fs = false) rfl (.inl (News.isList N5 (List.mem_cons_self ..))) hl2 ?hl1 F5 N5' dK ?hj ?hd ?turn ?done
      case hl1 => exact hd5
      case hd => k_all
      case hj => exact ⟨ns, hsi, List.Sublist.refl _, hno⟩
      case turn =>
        rintro i v fl fls n oc vc h tk own hv ⟨fs, hif, hsub, hnf⟩ hoc hne off F6 N6
        obtain ⟨k, _, t, rfl⟩ := ints_mem hli (List.mem_of_getElem? hv)
        refine wpAny_assign_Name ?_
        simp only [List.map_cons, List.map_nil] at off
        simp only [List.cons_append, List.nil_append] at N6
        replace hne := allNe_of hne
        simp only [AllNe, and_true] at hne
        have hfn : D.Nums fs := hsb.sub fun k hk => hsub.subset hk
        have hfl : fs.length ≤ 5 := Nat.le_trans hsub.length_le hsl
        k_extra "mine_steps"
        all_goals (try k_data)
        · exact ⟨fs, hif, hsub, hnf⟩
        · rename CarriedAll _ _ => hC9
          rename D.can _ = false => hD9
          rw [List.map_id'] at hD9
          have hi9 := CarriedAll.intsOf hC9
          exact ⟨_, by simpa using hi9, List.filter_sublist.trans hsub, hD9⟩
      case done =>
        rintro fl fls n oc vc h tk ⟨fs, hif, hsub, hnf⟩ hoc hne F6 N6
        have hfl5 : fls.length ≤ 5 := by rw [hif.length]; exact Nat.le_trans hsub.length_le hsl
        replace hne := allNe_of hne
        simp only [AllNe, and_true] at hne
        k_extra "mine_steps"
        exact hret _ fls fs _ _ _ (by assumption) (keepBut_nil (keepBut_of (S := [ca]) kG' (by assumption)) (N.get (.head _)) (News.get (by assumption) (by k_mem))) (fresh_call kG' (by assumption) (List.mem_cons_self ..) (fun q => (neN (by omega) : _ ≠ ca) (List.mem_singleton.mp q))) (News.get (by assumption) (List.mem_cons_self ..)) hif hsub hnf
  · exact hret _ svs ns _ _ _ (by assumption) (keepBut_nil (keepBut_of (S := [ca]) kG' (by assumption)) (N.get (.head _)) (News.get (by assumption) (by k_mem))) (fresh_call kG' (by assumption) (List.mem_cons_self ..) (fun q => (neN (by omega) : _ ≠ ca) (List.mem_singleton.mp q))) (News.get (by assumption) (List.mem_cons_self ..)) hsi (List.Sublist.refl _) hno

abbrev tupObj (vs : List Value) (n : Nat) : Obj := { cls := .type "tuple", data := .seq vs.toArray n }
/-- the ledger behind a call that made one object known to the caller -/
theorem news_new {h₀ h h' : Heap} {L ra : Addr} {x : Obj} {m : Str → Option Value} {news : List (Addr × Obj)} (F : Fr h₀ L h m) (N : News h₀ L h news) (K : KeepBut [] h h') (hn : h.get? ra = none) (e : h'.get? ra = some x) :
    News h₀ L h' ((ra, x) :: news) ∧ AllNe ra news := by
  refine ⟨fun p hp => ?_, allNe_of fun q hq z => ?_⟩
  · rcases List.mem_cons.mp hp with rfl | hp
    · refine ⟨e, fun (z : ra = L) => ?_, ?_⟩
      · obtain ⟨oL, _, _, eL, _⟩ := F.ns
        rw [z, eL] at hn; cases hn
      · show h₀.get? ra = none
        cases y : h₀.get? ra with
        | none => rfl
        | some o => rw [F.keep _ _ y] at hn; cases hn
    · exact ⟨K _ _ (N p hp).1 (by simp), (N p hp).2⟩
  · rw [← z, (N q hq).1] at hn; cases hn
theorem failed_k {w : World} {p : Program} {loose : List Str} {mean : ExcName → Option Value} {mg mb : Str → Option Value}
    {dp un : Nat} {gd : Option (List Code)} {cn : Str} {cs : Scope} {a : Addr} {ccd : Value} {cl : List (Str × Addr)} {outer : List Env} {A₀ : Around} {base h₀ : Heap} {L : Addr} {m : Str → Option Value} {s : Shared}
    (D : Dat) {ca aa sa : Addr} {o : Obj} {way limit : Int} {t1 t2 t3 : Tok} {svs : List Value} {ns : List Int} {Q E : Value → Shared → Prop} {news : List (Addr × Obj)}
    (B : Below A₀ base outer h₀) (F : Fr h₀ L s.heap m) (X : (hd.heap_39 w.params).In h₀) (N : News h₀ L s.heap news) (T : Top p loose mean mg mb h₀) (hk : cs.kind = .function)
    (hm : (ca, o) ∈ news) (hd : o.IsDictOf (PySem.strKind PG w) [("many", .int D.many t1), ("formulas", .ref D.fa), ("granted", .ref D.ga), ("asked", .ref aa), ("way", .int way t2), ("limit", .int limit t3)])
    (ok : D.Ok) (hI : InH D.I [ca] s.heap) (hw0 : 0 ≤ way) (hw1 : way ≤ 2)
    (hs : s.heap.IsTuple sa svs.toArray) (hsi : IntsAre svs ns) (hsl : ns.length ≤ 5) (hsb : D.Nums ns) (hno : D.can ns = false)
    (hdp : dp + 3 < recursionLimit) (hun : un + 300 < cLine)
    (hret : ∀ ra fts fs n h' tk', Fr h₀ L h' m → News h₀ L h' ((ra, tupObj fts n) :: news) → AllNe ra news → KeepBut [] s.heap h' → IntsAre fts fs → List.Sublist fs ns → D.can fs = false → Q (.ref ra) { s with heap := h', toks := tk' }) :
    wpAny (model PG w) (ktrTop dp un gd cn cs L a ccd cl outer) (call (.ref 141) [.ref ca, .ref sa]) Q E s :=
  failed_c w dp un gd cn cs a ccd cl outer A₀ base h₀ L m s D ca aa sa o way limit t1 t2 t3 svs ns Q E B F X (Mine.News.one N hm) T hk hd ok hI hw0 hw1 hs hsi hsl hsb hno hdp hun
    fun ra fts fs n h' tk' F' K hn e hi hsub hc =>
      have y := news_new F N K hn e
      hret ra fts fs n h' tk' F' y.1 y.2 K hi hsub hc
end Mine

theorem Mine.fresh10 : True := by
  w_top off
  k_with "my call ref" => ((k_here; (with_reducible show wpAny _ _ (call (Value.ref 141) [Value.ref _, Value.ref _]) _ _ _); (rename Mine.Dat.Ok _ => ok9qz); k_dflt (refine' Mine.failed_k _ ?k1qh ?k2qh ?k3qh ?k4qh ?k5qh ?kKqh ?kmqh ?kdqh ok9qz ?kIqh ?kwqh ?kvqh ?ksqh ?kiqh ?klqh ?kbqh ?knqh ?kpqh ?kuqh ?_; (case k1qh => k_asm); (case k2qh => k_asm); (case k3qh => k_asm); (case k4qh => k_asm); (case k5qh => k_asm); (case kKqh => first | exact rfl | assumption); (case kmqh => k_mem); (case kdqh => assumption); (case kIqh => k_extra "mine_inh"); (case kwqh => omega); (case kvqh => omega); (case ksqh => k_extra "mine_tup"); (case kiqh => first | assumption | l_ints); (case klqh => k_extra "mine_len"); (case kbqh => k_extra "mine_nums"); (case knqh => assumption); (case kpqh => ktr_room); (case kuqh => ktr_units); k_whole; intro ra'qz fts'qz fs'qz n'qz h'qz tk'qz F'qz N'qz ne'qz K'qz hi'qz hsub'qz hc'qz; (try simp only [Mine.AllNe, and_true] at ne'qz); (try k_fold)); walk_say "FAILED"))
  k_with "mine_tup" => (first | assumption | exact News.isTup (by k_asm) (by k_mem) | exact Mine.tbase_now (by assumption) (by k_asm))
  k_with "my call builtin:len" => ((k_here; (with_reducible show wpAny _ _ (call (Value.builtin "len") [Value.ref _]) _ _ _); (with_unfolding_all refine' Mine.m_len ?k1qh ?k2qh ?_; (case k1qh => is_list); (case k2qh => k_extra "mine_nat"); k_whole); (try simp only [List.length_append, List.length_cons, List.length_nil, Nat.zero_add]); walk_say "LEN"))
  k_with "mine_stepsG" => (repeat' ((fail_if_success (with_reducible show wpAny _ _ (getMethod (Value.ref _) _ _) _ _ _)); (first | k_extra "mine_post" | (k_unfold; (try dsimp only)) | (k_end; wrow_close) | walk1 | (dsimp only; walk1) | (leave1; walk_say "STEP leave1"; try dsimp only) | fail "no step")))
  trivial
namespace Mine
theorem slot_wget : Slot "wrapper_descriptor" "__get__" "wrapper_descriptor.__get__" :=
  .of (owner := "wrapper_descriptor") (n := "__get__") (by rw [typeLookup_type, builtinLookup_eq_fast]; kernel_rfl) (by decide +kernel) (by decide +kernel) (by decide +kernel)
    (by first | exact .inl (by decide +kernel) | exact .inr (by decide +kernel)) (by rw [isSubtype_type]; kernel_rfl)
theorem entry_wget : entryFor table "wrapper_descriptor.__get__" = some Builtin.«wrapper_descriptor.__get__» := entryFor_of_tree (by kernel_rfl)
theorem args_wget (a b c : Value) : argsOk "wrapper_descriptor.__get__" ⟨[a, b, c], []⟩ := by unfold argsOk; kernel_rfl
theorem type_ei : typeOf (.builtin "Exception.__init__") = pure (.type "wrapper_descriptor") := by show builtinType _ = _; rw [builtinType_eq_fast]; kernel_rfl
theorem data_ei : (withoutEnding? "Exception.__init__" "#data").isSome = false := by decide +kernel
theorem name_ei : (kfb_private% "nameAndClass") (.builtin "Exception.__init__") = pure (("__init__" : Str), Value.type "Exception") := by first | rfl | kernel_rfl
abbrev wrapObj (x : Addr) : Obj := { cls := .type "method-wrapper", data := .fields #[.builtin "Exception.__init__", .ref x] }
section
variable {prog : Program} {w : World} {M : Model} {A : Around} {E : Value → Shared → Prop} {h : Heap} {g : Array GenState} {d : Drawn} {t : Nat} {os : OsState}
theorem chk_ei {x C : Addr} {ox : Obj} {Q : Unit → Shared → Prop} (hx : h.get? x = some ox) (hxc : ox.cls = .ref C) (hs : Looks M h (isSubtype (.ref C) (.type "Exception")) true) (hq : Q () ⟨h, g, d, t, os⟩) :
    wpAny M A ((kfb_private% "checkInstance") (.builtin "Exception.__init__") (.ref x)) Q E ⟨h, g, d, t, os⟩ := by
  refine wpAny_bind (wpAny_of_eq name_ei ?_)
  refine wpAny_bind ?_
  show wpAny _ _ (isInstance (.ref x) (.type "Exception")) _ _ _
  unfold isInstance
  refine wpAny_bind ?_
  show wpAny _ _ (loadPart x _ >>= fun o => pure o.cls) _ _ _
  refine wpAny_bind (wpAny_loadPart_at hx (wpAny_pure ?_))
  rw [hxc]
  refine Looks.at hs ?_
  exact wpAny_pure hq
theorem run_wget {x C : Addr} {ox : Obj} {Q : Fin → Shared → Prop} (hx : h.get? x = some ox) (hxc : ox.cls = .ref C) (hs : Looks M h (isSubtype (.ref C) (.type "Exception")) true) 
    (hq : Q (.done (.ret (.ref h.objs.size))) ⟨h.push (wrapObj x), g, d, t, os⟩) :
    wpAny M A (Builtin.«wrapper_descriptor.__get__» ⟨[.builtin "Exception.__init__", .ref x, .ref C], []⟩) Q E ⟨h, g, d, t, os⟩ := by
  unfold Builtin.«wrapper_descriptor.__get__»
  refine wpAny_bind (wpAny_of_eq (a := (.builtin "Exception.__init__", some (.ref x), some (.ref C))) rfl ?_)
  show wpAny M A ((kfb_private% "checkInstance") (.builtin "Exception.__init__") (.ref x) >>= fun _ => _) _ _ _
  refine wpAny_bind (chk_ei hx hxc hs ?_)
  refine wpAny_bind ?_
  unfold newFields
  exact wpAny_newObj_type (by exact wpAny_pure hq)
theorem m_super_ga {so x D C : Addr} {ox : Obj} {K : Frag} {l₀ l : List Value} {tk : Tok} {Q : Fin → Shared → Prop}
  (hso : h.get? so = some { cls := .type "super", dict := none, data := .fields #[.ref D, .ref x, .ref C], slots := #[] }) (hno : Looks (model prog w) h (opaqueClassAbove (.ref C)) none)
  (hC : Looks (model prog w) h (mroOf (.ref C)) l₀) (hl : (l₀.dropWhile (· != .ref D)).drop 1 = l) (X : K.In h)
  (hf : alongIn K "__init__" l = some (some (.builtin "Exception.__init__"))) (hs : Looks (model prog w) h (isSubtype (.ref C) (.type "Exception")) true) (hx : h.get? x = some ox) (hxc : ox.cls = .ref C) (hxC : x ≠ C)
  (hq : Q (.done (.ret (.ref h.objs.size))) ⟨h.push (wrapObj x), g, d, t, os⟩) :
    wpAny (model prog w) A (Builtin.«super.__getattribute__» ⟨[.ref so, .str "__init__" tk], []⟩) Q E ⟨h, g, d, t, os⟩ := by
  have hlk := slot_wget.lookup
  have hn : (("__init__" : Str) == ("__class__" : Str)) = false := by decide
  have hne : (Value.ref x == Value.ref C) = false := by simp [hxC]
  have hdt : ({ cls := .type "super", dict := none, data := .fields #[.ref D, .ref x, .ref C], slots := #[] } : Obj).data = .fields #[.ref D, .ref x, .ref C] := rfl
  have f0 : (#[.ref D, .ref x, .ref C] : Array Value)[0]? = some (.ref D) := rfl
  have f1 : (#[.ref D, .ref x, .ref C] : Array Value)[1]? = some (.ref x) := rfl
  have f2 : (#[.ref D, .ref x, .ref C] : Array Value)[2]? = some (.ref C) := rfl
  have hty : ∀ {Q' : Value → Shared → Prop} {E' : Value → Shared → Prop} {A' : Around} {s' : Shared}, Q' (.type "wrapper_descriptor") s' → wpAny (model prog w) A' (typeOf (.builtin "Exception.__init__")) Q' E' s' := fun q => wpAny_of_eq type_ei q
  have hT : (⟨h, g, d, t, os⟩ : Shared).TypeIs (.builtin "Exception.__init__") "wrapper_descriptor" := by first | exact type_ei | exact ⟨_, rfl⟩ | rfl
  unfold Builtin.«super.__getattribute__»
  repeat (first
    | (with_reducible refine wpAny_field hso hdt f0 ?_) | (with_reducible refine wpAny_field hso hdt f1 ?_) | (with_reducible refine wpAny_field hso hdt f2 ?_)
    | (with_reducible refine ks_wpAny_notOpaque hno ?_)
    | (with_reducible refine Looks.at hC ?_; rw [hl])
    | (refine ks_forIn_along X (fun _ _ => rfl) rfl ?_ hf)
    | (with_reducible refine hty ?_)
    | (simp only [hn, hne, Bool.or_false, Bool.false_eq_true, if_false])
    | (with_reducible refine wpAny_call_entry slot_wget hT entry_wget ?_ (args_wget _ _ _))
    | (with_reducible refine run_wget hx hxc hs ?_)
    | (with_reducible refine ⟨_, rfl, ?_⟩)
    | (simp only [hn, hne, Bool.or_false, Bool.false_eq_true, if_false])
    | wp_step
    | dsimp only)
  all_goals exact hq
theorem m_getMethod_super {so x D C : Addr} {ox : Obj} {K : Frag} {l₀ l : List Value} {pl : Sem Bool} {Q : Value × List Value → Shared → Prop}
  (hso : h.get? so = some { cls := .type "super", dict := none, data := .fields #[.ref D, .ref x, .ref C], slots := #[] }) (hno : Looks (model prog w) h (opaqueClassAbove (.ref C)) none)
  (hC : Looks (model prog w) h (mroOf (.ref C)) l₀) (hl : (l₀.dropWhile (· != .ref D)).drop 1 = l) (X : K.In h)
  (hf : alongIn K "__init__" l = some (some (.builtin "Exception.__init__"))) (hs : Looks (model prog w) h (isSubtype (.ref C) (.type "Exception")) true) (hx : h.get? x = some ox) (hxc : ox.cls = .ref C) (hxC : x ≠ C)
  (hq : Q (.ref h.objs.size, []) ⟨h.push (wrapObj x), g, d, t + 1, os⟩) :
    wpAny (model prog w) A (getMethod (.ref so) "__init__" pl) Q E ⟨h, g, d, t, os⟩ := by
  have hlk := F.ks_slot_super_ga.lookup
  have hcan := F.ks_canon_super_ga
  have hT : ∀ t', (⟨h, g, d, t', os⟩ : Shared).TypeIs (.ref so) "super" := fun _ => ⟨_, hso, rfl⟩
  unfold getMethod
  refine wpAny_bind (wpAny_specialOf (hT _) hlk ?_)
  show wpAny _ _ (if (Manifest.canonical "super.__getattribute__" != "object.__getattribute__") = true then _ else _) _ _ _
  rw [if_pos hcan]
  unfold getAttr getAttrBy
  refine wpAny_bind (wpAny_bind (wpAny_mkText (wpAny_holding (wpAny_bind (wpAny_typeOf (hT _) (wpAny_bind (wpAny_of_eq hlk ?_)))))))
  show wpAny _ _ (getAttrByItsOwn (.ref so) (.str "__init__" t) (.type "super") (.builtin "super.__getattribute__") true false) _ _ _
  unfold getAttrByItsOwn hookBefore callGetattribute boundAndCalled
  refine wpAny_bind (wpAny_of_eq (show (if onTheHeap (.type "super") then typeLookup (.type "super") "__getattr__" else pure none) = pure none from rfl) ?_)
  refine wpAny_bind (wpAny_attempt (wpAny_holding ?_))
  show wpAny _ _ (bindSpecial (.builtin "super.__getattribute__") (.ref so) >>= _) _ _ _
  refine wpAny_bind (wpAny_of_eq (F.ks_slot_super_ga.bind _) ?_)
  refine wpAny_mono (Q := fun v s' => v = .ref h.objs.size ∧ s' = ⟨h.push (wrapObj x), g, d, t + 1, os⟩) (E := fun _ _ => False)
    (wpAny_call_entry F.ks_slot_super_ga (hT _) F.ks_entry_super_ga (m_super_ga hso hno hC hl X hf hs hx hxc hxC ⟨_, rfl, rfl, rfl⟩) (F.ks_gaArgs_super _ _)) (fun v s' hv => ?_) fun _ _ z => z.elim
  obtain ⟨rfl, rfl⟩ := hv
  exact wpAny_pure (wpAny_pure hq)
theorem m_callWith_wrap {s : Shared} {pos : Pos} {u x : Addr} {first : List Value} {env : Env} {e : Expr} {rest : List Expr} {Q : Value → Shared → Prop}
    (h : wpAny M A (spliced (backTo pos (starEach (e :: rest) env))) (fun vs s₁ => s₁.heap.get? u = some (wrapObj x) ∧ wpAny M A (call (.ref u) (first ++ vs)) Q E s₁) E s)
    (he : starEach (e :: rest) env = (false, eval e env) :: starEach rest env := by rfl) (hplain : (backTo pos (starEach rest env)).any (·.1) = false := by rfl) :
    wpAny M A (callWith pos (.ref u) first (backTo pos (starEach (e :: rest) env)) []) Q E s := by
  rw [he] at h ⊢
  have hp : (backTo pos ((false, eval e env) :: starEach rest env)).any (·.1) = false := by show (false || (backTo pos (starEach rest env)).any (·.1)) = false; rw [hplain]; rfl
  unfold callWith
  refine wpAny_bind (wpAny_holding (wpAny_mono (evalArgs_plain (Q := fun y s₁ => s₁.heap.get? u = some (wrapObj x) ∧ wpAny M A (call (.ref u) (first ++ y.pos) y.kw) Q E s₁) h) (fun y s₁ h₁ => wpAny_bind (wpAny_standAt ?_)) fun _ _ z => z))
  obtain ⟨ho, hcall⟩ := h₁
  simp only [hp, List.any_nil, Bool.or_false]
  refine wpAny_bind (m := keeperOf (.ref u)) ?_
  unfold keeperOf
  refine wpAny_bind (wpAny_load ho ?_)
  simp only [show (Value.type "method-wrapper" != Value.type "method") = true by decide, show (Value.type "method-wrapper" == Value.type "builtin_function_or_method" || Value.type "method-wrapper" == Value.type "method-wrapper") = true by decide, if_true]
  refine wpAny_pure ?_
  exact wpAny_bind (wpAny_mono hcall (fun r s₂ hr => wpAny_bind (wpAny_holding (wpAny_point (wpAny_pure hr)))) fun _ _ z => z)
theorem m_checkBound {x C : Addr} {ox : Obj} {c0 : Value} {dd : Option Addr} {cd : ClassData} {sl : Array (Option Value)} {rest : List Value} {Q : Unit → Shared → Prop} (hx : h.get? x = some ox) (hxc : ox.cls = .ref C) (hC : h.get? C = some { cls := c0, dict := dd, data := .cls cd, slots := sl })
    (hq : Q () ⟨h, g, d, t, os⟩) : wpAny M A (checkBoundCall "Exception.__init__" ⟨.ref x :: rest, []⟩) Q E ⟨h, g, d, t, os⟩ := by
  have F := PySem.F.excBase_Exception
  unfold checkBoundCall
  simp only [F.initRow, F.initKind]
  unfold Bind.checkArgs
  repeat (first | (with_reducible refine wpAny_loadPart_at hx ?_; rw [hxc]) | with_reducible refine wpAny_loadPart_at hC ?_ | wp_step)
  refine wpAny_onRaise ?_
  rw [show ∀ (a b : String) (n : Nat), Bind.check ⟨.positional, "*", "Exception", .self, [⟨"args", .varPos, false⟩]⟩ a b n (List.map (fun x => x.fst) ({ pos := Value.ref x :: rest } : Args).kw) = pure () from
    fun a b n => check_star_args _ _ _ _ _ _]
  exact wpAny_pure hq
theorem m_call_wrap {u x : Addr} {C : Addr} {c0 : Value} {dd : Option Addr} {cd : ClassData} {sl : Array (Option Value)} {rest : List Value} {v0 v1 v2 v3 v4 : Value} {t0 : Addr} {Q : Value → Shared → Prop} (hu : h.get? u = some (wrapObj x)) (hx : h.get? x = some { cls := .ref C, data := .fields #[.ref t0, v1, v2, v3, v4, v0] }) (hC : h.get? C = some { cls := c0, dict := dd, data := .cls cd, slots := sl }) (hr : rest.length ≤ sizeLine)
    (hq : ∀ h' t1, h.get? t1 = none → h'.get? t1 = some { cls := .type "tuple", data := .seq rest.toArray } → h'.get? x = some { cls := .ref C, data := .fields #[.ref t1, v1, v2, v3, v4, v0] } → (∀ b o, b ≠ x → h.get? b = some o → h'.get? b = some o) → Q .none ⟨h', g, d, t, os⟩) :
    wpAny (model prog w) A (call (.ref u) rest) Q E ⟨h, g, d, t, os⟩ := by
  refine wpAny_call (codeAny_of_tree ?_)
  show wpAny _ A.in1 (callAny (.ref u) ⟨rest, []⟩) _ _ _
  simp only [callAny]
  refine wpAny_bind (wpAny_load hu ?_)
  simp only [show (Value.type "method-wrapper" == Value.type "method" || Value.type "method-wrapper" == Value.type "builtin_function_or_method" || Value.type "method-wrapper" == Value.type "method-wrapper") = true by decide, if_true]
  refine KFB.if_so (by decide) ?_
  refine wpAny_bind (m_checkBound hx rfl hC ?_)
  refine wpAny_bind (wpAny_pure (wpAny_pure ?_))
  refine ⟨Code.quiet_builtin _ (by decide +kernel), codeAny_builtin PySem.F.excBase_Exception.initEntry ?_⟩
  unfold Builtin.«BaseException.__init__» Builtin.BaseException.bexcPut
  repeat (first | wp_step)
  have hx1 := Heap.get?_push_of_some { cls := .type "tuple", data := .seq rest.toArray } hx
  have hxs := Heap.lt_size hx
  refine hq _ h.objs.size (Heap.get?_none_of_le (Nat.le_refl _)) ?_ ?_ ?_
  · rw [Heap.get?_update_other _ _ (Nat.ne_of_lt hxs)]
    exact Heap.get?_push_at rfl rfl
  · rw [Heap.get?_update_self _ hx1 rfl]
    rfl
  · intro b o hb e
    rw [Heap.get?_update_other _ _ hb.symm]
    exact Heap.get?_push_of_some _ e
end
end Mine
namespace Mine
section
open Builtin Builtin.ObjectAttr
variable {prog : Program} {w : World} {A : Around} {E : Value → Shared → Prop} {h : Heap} {g : Array GenState} {d : Drawn} {t : Nat} {os : OsState}
theorem m_set_exc {K : Frag} {x C D : Addr} {ox : Obj} {cd : ClassData} {name : Str} {v : Value} {Q : Unit → Shared → Prop} (X : K.In h) (I : InstAt h x ox C none) (hdn : ox.dict = none)
    (hc : clsIn K C = some cd) (hm : cd.mro = [.ref C, .ref D, .type "Exception", .type "BaseException", .type "object"]) (hdct : cd.hasDict = true)
    (hs : findIn K (.ref C) "__setattr__" = some (some (.builtin "object.__setattr__"))) (ht : takerIn K C name = some none)
    (hq : ∀ h' tk' dx, h.get? dx = none → h'.get? x = some { ox with dict := some dx } → (∀ b o, b ≠ x → h.get? b = some o → h'.get? b = some o) → Q () ⟨h', g, d, tk', os⟩) :
    wpAny (model prog w) A (setAttr (.ref x) name v) Q E ⟨h, g, d, t, os⟩ := by
  refine set_plain X I hs ?_
  have SF := PySem.F.store_object
  have SE := PySem.F.store_Exception
  have sub : Looks (model prog w) h (isInstance (.ref x) (.type "object")) true := I.type.andThen (looks_mroIn X (by unfold mroIn; rw [hc, Option.bind_some, hm]; rfl))
  refine codeAny_call_builtin SF.slot.plain SF.entry (@check_slot (model prog w) _ _ _ "object.__setattr__" "object" "__setattr__" (.ref x) [.str name t, v] [] _ SF.kind SF.split sub (SF.args (.ref x) (.str name t) v) ?_)
  obtain ⟨attr, ha, hr⟩ := Option.bind_eq_some_iff.mp ht
  have hmr : Looks (model prog w) h (mroOf (.ref C)) cd.mro := (looks_clsIn X hc).andThen .now
  have L3 : Looks (model prog w) h (storeTaker? attr) none := by
    cases attr with
    | none => exact .now
    | some a =>
      obtain ⟨b, hb, hbn⟩ := Option.map_eq_some_iff.mp hr
      refine (looks_takesIn X hb).andThen ?_
      cases b <;> first | exact .now | cases hbn
  rw [osa_eq, refuse_eq]
  refine wpAny_bind (wpAny_bind (I.type.here (wpAny_bind (hmr.here ?_))))
  rw [hm, refuseLoop_ref, refuseLoop_ref, SE.passes]
  refine wpAny_pure (wpAny_bind (I.type.here (wpAny_bind ((looks_findIn X ha).here (wpAny_bind (L3.here ?_))))))
  dsimp only
  obtain ⟨hx, hcl, hno, -⟩ := I
  obtain ⟨oc, odi, oda, osl⟩ := ox
  dsimp only at hcl hdn
  subst hcl hdn
  refine wpAny_bind (wpAny_pure (wpAny_bind (wpAny_bind (wpAny_loadPart hx (wpAny_bind ((looks_clsIn X hc).here ?_))))))
  rw [hdct]
  have hx₁ : (h.push { cls := .type "dict", data := .dict #[] }).get? x = some ⟨.ref C, none, oda, osl⟩ := Heap.get?_push_of_some _ hx
  have hxs : x ≠ h.objs.size := Nat.ne_of_lt (Heap.lt_size hx)
  have hgd : ((h.push { cls := .type "dict", data := .dict #[] }).update x fun o => { cls := o.cls, dict := some h.objs.size, data := o.data, slots := o.slots }).get? h.objs.size
          = some { cls := .type "dict", data := .dict #[] } :=
        (Heap.get?_update_ne _ _ _ _ hxs.symm).trans (Heap.get?_push_at rfl rfl)
  have hnd : ((h.push { cls := .type "dict", data := .dict #[] }).update x fun o => { cls := o.cls, dict := some h.objs.size, data := o.data, slots := o.slots }).Ns h.objs.size (fun _ => none) :=
        ⟨_, #[], _, hgd, rfl, fun e he => absurd he (by simp), fun _ => rfl⟩
  have key : wpAny (model prog w) A.in1 (alloc { cls := .type "dict", data := .dict #[] } >>= fun d => update x (fun o => { o with dict := some d }) >>= fun _ => dictMade (.ref C) x d) (fun od s' => wpAny (model prog w) A.in1 (match od with | some d => storeInDict d (.str name t) name v | none => noDictFor (.ref x) (.ref C) name attr.isSome) (fun fin s' => fin = .done (.ret .none) ∧ Q () s') (fun _ _ => False) s') (fun _ _ => False) ⟨h, g, d, t + 1, os⟩ := by
    refine wpAny_bind (wpAny_alloc' ?_)
    refine wpAny_bind (wpAny_update' hx₁ ?_)
    refine wpAny_pure (a := some h.objs.size) ?_
    show wpAny _ _ (storeInDict h.objs.size (.str name t) name v) _ _ _
    unfold storeInDict newKeyGuard
    refine wpAny_bind (wpAny_pure (wpAny_bind (wpAny_nsSet1 (Heap.Ns1.of_empty hnd) fun h' hn' hs => ?_)))
    obtain ⟨oD, esD, epD, hoD, hdD, hcD⟩ := hn'.count (Within.cons name v Within.nil)
    refine wpAny_bind (wpAny_lookBehind hoD (by rw [hdD]; exact pastItsLine_dict (Nat.le_trans hcD (by rw [List.length_cons, List.length_nil, sizeLine_eq]; omega))) ?_)
    wp_walk
    refine ⟨rfl, hq h' _ h.objs.size (Heap.get?_none_of_le (Nat.le_refl _)) ?_ fun b ob hbx hb => ?_⟩
    · refine (hs.2 x hxs).trans (Heap.get?_update_self _ hx₁ ?_)
      have hfr := (Heap.get?_some_iff.mp hx).2
      cases oda <;> first | rfl | exact hfr
    · exact (hs.2 b (Nat.ne_of_lt (Heap.lt_size hb))).trans ((Heap.get?_update_ne _ _ _ _ hbx).trans (Heap.get?_push_of_some _ hb))
  cases oda <;> first | cases hno; done | (refine wpAny_mono key (fun od s' hh => wpAny_mono hh (fun fin s'' hz => ?_) fun _ _ z => z.elim) fun _ _ z => z.elim; obtain ⟨rfl, hz⟩ := hz; exact hz)
end
end Mine
namespace Mine
abbrev excObj (tu : Addr) : Obj := { cls := .ref 53, data := .fields #[.ref tu, .none, .none, .none, .bool false, .none] }
theorem cls_at {K : Frag} {h : Heap} {C : Addr} {cd : ClassData} (X : K.In h) (hc : clsIn K C = some cd) : ∃ c0 dd sl, h.get? C = some { cls := c0, dict := dd, data := .cls cd, slots := sl } := by
  unfold clsIn at hc
  split at hc
  · rename_i c d cd' sl ho
    cases hc
    exact ⟨c, d, sl, X _ _ ho⟩
  · cases hc
section
variable {prog : Program} {w : World} {A₀ A : Around} {s : Shared} {base h₀ : Heap} {outer : List Env} {L : Addr} {m mg mb : Str → Option Value} {env : Env} {news : List (Addr × Obj)} {K : Frag} {p : Program} {loose : List Str} {mean : ExcName → Option Value}
  {R : Result → Shared → Prop} {name qual : Str} {params : Arguments} {body : List Stmt} {scope : Scope} {dV kV doc pm cdv ct oc : Value} {an od : Option Addr} {osl : Array (Option Value)} {f cc : Addr} {args : Args} {binds : List (Str × Value)}
/-- a def over __class__ is entered; the ground keeps all that the ledger does not name -/
theorem m_code_super (B : Below A₀ base outer h₀) (F : Fr h₀ L s.heap m) (X₀ : K.In h₀) (N : News h₀ L s.heap news) (T : Top p loose mean mg mb h₀) (hA : A.frames = some (env :: outer)) (hf : env.frame = some L) (hke : env.scope.kind = .function)
    (ho : K.lookup f = some ⟨oc, od, .func (ksFn name qual params body scope dV kV doc pm an cdv ct cc), osl⟩) (hcd : codeIn K cdv qual = true) (hroom : A.depth < recursionLimit)
    (hbind : BindsTo s (ksFn name qual params body scope dV kV doc pm an cdv ct cc) args binds) (hloc : ∀ y ∈ binds, scope.names.lookup y.1 = some .local)
    (h : ∀ g L' h₁, Fr h₀ L g m → Fr g L' h₁ (fun y => binds.reverse.lookup y) → News g L' h₁ news → Below A base (env :: outer) g → K.In g → Top p loose mean mg mb g → (∀ p ∈ news, p.1 < L') → GSub s.heap g (news.map (·.1)) →
      _root_.PySem.wpAt (model prog w) (A.deeper (ksEnv qual scope L' f cdv cc)) (.func body (ksEnv qual scope L' f cdv cc)) (execs body (ksEnv qual scope L' f cdv cc))
        (fun fl s' => LeaveK h₀ L m g R (match fl with | .ret v => v | _ => .none) s')
        (fun e s' => wpAny (model prog w) (A.deeper (ksEnv qual scope L' f cdv cc)) (leaving (ksEnv qual scope L' f cdv cc) e) (fun _ s'' => R (.error e) s'') (fun e' s'' => R (.error e') s'') s')
        { s with heap := h₁, toks := s.toks + binds.length })
    (hcell : ∀ x ∈ scope.names, x.2 ≠ .cell) (hco : scope.isCoroutine = false) (hgen : scope.isGenerator = false) (hk : scope.kind = .function) : codeAny (model prog w) A (.call (.ref f) args) R s := by
  obtain ⟨FG, BG, st, lv⟩ := groundX (R := R) B F N hA hf hke
  refine ks_codeAny_call_defAt (fd := ksFn name qual params body scope dV kV doc pm an cdv ct cc) (body := body) (binds := binds) hroom ((X₀.keeps F.keep) _ _ ho) rfl (T.nolimit.keeps F.keep) (codeRec_of (X₀.keeps F.keep) hcd) rfl hbind hcell hloc (fun h₁ hns hk₁ => ?_) hco hgen hk
  exact ks_wpAt_mono (h _ s.heap.objs.size h₁ FG ⟨hns, fun b o e => hk₁ b o (of_hideAll _ e), Nat.le_of_eq (hideAll_size _ _)⟩
    (fun p hp => ⟨hk₁ _ _ (N p hp).1, Nat.ne_of_lt (Heap.lt_size (N p hp).1), hideAll_none _ (List.mem_map_of_mem hp)⟩) BG (X₀.keeps st) (T.keeps st) (fun p hp => Heap.lt_size (N p hp).1) (fun b o e n => hideAll_get _ e n)) (fun fl s' hl => lv _ _ hl) fun _ _ y => y
end
theorem init_c (w : World) {p : Program} {loose : List Str} {mean : ExcName → Option Value} {mg mb : Str → Option Value}
    (dp un : Nat) (gd : Option (List Code)) (cn : Str) (cs : Scope) (a : Addr) (ccd : Value) (cl : List (Str × Addr)) (outer : List Env) (A₀ : Around) (base h₀ : Heap) (L : Addr) (m : Str → Option Value) (s : Shared)
    (e tu : Addr) (tk : Tok) (Q E : Value → Shared → Prop)
    (B : Below A₀ base outer h₀) (F : Fr h₀ L s.heap m) (X : (hd.heap_39 w.params).In h₀) (N : News h₀ L s.heap [(e, excObj tu)]) (T : Top p loose mean mg mb h₀) (hk : cs.kind = .function)
    (hdp : dp + 1 < recursionLimit) (hun : un + 100 < cLine)
    (hret : ∀ t1 dx h' tk', Fr h₀ L h' m → KeepBut [e] s.heap h' → s.heap.get? t1 = none → h'.get? t1 = some { cls := .type "tuple", data := .seq #[.str (Str.ofString "a limit") tk] } → h'.get? e = some { excObj t1 with dict := some dx } → Q .none { s with heap := h', toks := tk' }) :
    wpAny (model PG w) (ktrTop dp un gd cn cs L a ccd cl outer) (call (.ref 30) [.ref e, .str (Str.ofString "a limit") tk]) Q E s := by
  suffices h : Mine.hd.heap_39 = Mine.hd.heap_39 → PySem.Challenge.rw_nu0263_01 = PySem.Challenge.rw_nu0263_01 → wpAny (model PG w) (ktrTop dp un gd cn cs L a ccd cl outer) (call (.ref 30) [.ref e, .str (Str.ofString "a limit") tk]) Q E s from h rfl rfl
  k_fill
  intro _ _
  refine wpAny_call ?_
  refine' m_code_super ?k1 ?k2 ?k3 ?k4 ?k5 ?kA ?kF ?kK ?k6 ?k7 ?k8 ?k9 ?kB ?_ ?c1 ?c2 ?c3 ?c4; (case kA => exact rfl); (case kF => exact rfl); (case kK => assumption); (case k1 => k_asm); (case k2 => k_asm); (case k3 => k_asm); (case k4 => k_asm); (case k5 => k_asm); (case k6 => k_is); (case k7 => k_is); (case k8 => ktr_room); (case k9 => exact BindsTo.of_eq rfl); (case kB => exact locs rfl); (case c1 => decide); (case c2 => exact rfl); (case c3 => exact rfl); (case c4 => exact rfl); intro g' L' h' FG' F' N' B' X' T' l1 kG'; (try k_lt l1); (try dsimp only); (try k_lift B')
  have I : InstAt h' e (excObj tu) 53 none := ⟨(N'.get (.head _)), rfl, rfl, trivial⟩
  k_extra "mine_steps"
  refine ks_node (D := 40) (cc := 18) (cda := 29) (by k_asm) (by k_asm) (by k_asm) (by k_asm) (by k_is) (by rfl) (by rfl) I (by k_is) (by rfl) (by first | rfl | decide +kernel) (by k_is) (by k_is) (by k_is) (by k_is) (by decide) (by rfl) (by rfl) (by rfl) (by rfl) (by decide +kernel) (by first | boot_by_name | rfl | kernel_rfl) ?_
  intro so h2 F2 N2 l2
  k_extra "mine_stepsG"
  have e2 := N2.get (List.mem_cons_self ..)
  have I2 : InstAt h2 e (excObj tu) 53 none := ⟨(N2.get (.tail _ (.head _))), rfl, rfl, trivial⟩
  have X2 := X'.keeps F2.keep
  obtain ⟨hs0, gs0, d0, t0, os0⟩ := s
  have hcm : (clsIn (hd.heap_39 w.params) 53).map (fun cd => (cd.mro, cd.hasDict)) = some ([.ref 53, .ref 40, .type "Exception", .type "BaseException", .type "object"], true) := by kernel_rfl
  obtain ⟨cd, hcd, hcdm⟩ := Option.map_eq_some_iff.mp hcm
  obtain ⟨hcdm, hcdd⟩ := Prod.mk.inj hcdm
  refine m_getMethod_super (K := hd.heap_39 w.params) (l₀ := cd.mro) (l := [.type "Exception", .type "BaseException", .type "object"]) e2 (looks_opaque X2 (by k_is)) (fun A Q E s k q => wpAny_bind ((looks_clsIn X2 hcd) A _ E s k (wpAny_pure q))) (by rw [hcdm]; first | done | rfl) X2 (by kernel_rfl) (looks_mroIn X2 (by k_is)) I2.at_ rfl (ks_ne X2 I2 hcd) ?_
  have F3 := F2.push (wrapObj e)
  have N3 := News.push F2 N2 (wrapObj e)
  have l3 : ∀ p ∈ [(so, ks_superObj 40 e 53), (e, excObj tu)], p.1 < h2.objs.size := fun p hp => Heap.lt_size (N2 p hp).1
  generalize h2.push (wrapObj e) = h3 at F3 N3 ⊢
  generalize h2.objs.size = q at F3 N3 l3 ⊢
  clear I2 X2 e2 I
  k_lt l3
  dsimp only
  refine m_callWith_wrap (x := e) ?_
  k_extra "mine_steps"
  · exact N3.get (List.mem_cons_self ..)
  obtain ⟨c0, dd, sl, hC⟩ := cls_at (X'.keeps F3.keep) hcd
  refine m_call_wrap (N3.get (List.mem_cons_self ..)) (N3.get (by k_mem)) hC (by show 1 ≤ sizeLine; decide) ?_
  intro h4 t1 z1 z2 z3 z4
  have K4 : KeepBut [e] h3 h4 := fun b o y n => z4 b o (by simpa using n) y
  have F4 := Mine.Fr.callKeep F3 K4 (fun b hb => by obtain rfl := List.mem_singleton.mp hb; exact ⟨(N3 (b, excObj tu) (by simp)).2.2, (N3 (b, excObj tu) (by simp)).2.1⟩)
  have ft : g'.get? t1 = none ∧ t1 ≠ L' := by
    constructor
    · cases y : g'.get? t1 with
      | none => rfl
      | some o => rw [F3.keep _ _ y] at z1; cases z1
    · rintro rfl
      obtain ⟨oL, _, _, eL, _⟩ := F3.ns
      rw [eL] at z1; cases z1
  have N4 : News g' L' h4 [(e, excObj t1), (t1, { cls := .type "tuple", data := .seq #[.str (Str.ofString "a limit") tk] })] := by
    intro r hr
    rcases List.mem_cons.mp hr with rfl | hr
    · exact ⟨z3, (N3 (e, excObj tu) (by simp)).2⟩
    · obtain rfl := List.mem_singleton.mp hr
      exact ⟨z2, ft.2, ft.1⟩
  have ne1 : t1 ≠ e := by
    rintro rfl
    rw [N3.get (List.mem_cons_of_mem _ (List.mem_cons_of_mem _ (.head _)))] at z1; cases z1
  replace ne1 := neN ne1
  clear hC z1 z2 z3 z4 K4 ft N3 F3 N2 F2 N'
  k_extra "mine_steps"
  have I4 : InstAt h4 e (excObj t1) 53 none := ⟨(N4.get (.head _)), rfl, rfl, trivial⟩
  refine m_set_exc (K := hd.heap_39 w.params) (C := 53) (D := 40) (X'.keeps F4.keep) I4 rfl hcd hcdm hcdd (by kernel_rfl) (by kernel_rfl) ?_
  intro h5 tk5 dx y1 y2 y3
  have K5 : KeepBut [e] h4 h5 := fun b o y n => y3 b o (by simpa using n) y
  have F5 := Mine.Fr.callKeep F4 K5 (fun b hb => by obtain rfl := List.mem_singleton.mp hb; exact ⟨(N4 _ (.head _)).2.2, (N4 _ (.head _)).2.1⟩)
  have N5 : News g' L' h5 [(e, { excObj t1 with dict := some dx }), (t1, { cls := .type "tuple", data := .seq #[.str (Str.ofString "a limit") tk] })] := by
    intro r hr
    rcases List.mem_cons.mp hr with rfl | hr
    · exact ⟨y2, (N4 _ (.head _)).2⟩
    · obtain rfl := List.mem_singleton.mp hr
      exact ⟨y3 _ _ (fun z => absurd z ne1) (N4 _ (.tail _ (.head _))).1, (N4 _ (.tail _ (.head _))).2⟩
  clear I4 y1 y2 y3 K5 N4 F4
  k_extra "mine_steps"
  rename News h₀ _ _ _ => N9
  rename Fr h₀ _ _ _ => F9
  refine hret t1 dx _ _ F9 (keepBut_of kG' F5) ?_ (News.get N9 (.tail _ (.head _))) (News.get N9 (.head _))
  have hn1 := (N5 _ (.tail _ (.head _))).2.2
  cases y : hs0.get? t1 with
  | none => rfl
  | some o => have z := kG' t1 o y (fun q => absurd (List.mem_singleton.mp q) ne1); dsimp only at hn1; rw [z] at hn1; cases hn1
end Mine
namespace Mine
abbrev limCls : Obj := excClassObj "LimitFault" "LimitFault" 53 52 [.ref 40] [.ref 40, .type "Exception", .type "BaseException", .type "object"] true [] [] false none none (some (.ref 44)) none (some (.str "LimitFault" 227)) (some (.str "LimitFault" 235)) (some (.bool true)) "Exception.__new__"
theorem at53 (P : Params) : (hd.heap_39 P).lookup 53 = some limCls := by kernel_rfl
section
variable {prog : Program} {w : World} {A : Around} {E : Value → Shared → Prop} {h : Heap} {g : Array GenState} {d : Drawn} {t : Nat} {os : OsState}
theorem lim_check_new {M : Model} {rest : List Value} {Q : Unit → Shared → Prop} (hC : h.get? 53 = some limCls) (hq : Q () ⟨h, g, d, t, os⟩) : wpAny M A (checkBuiltinCall "Exception.__new__" ⟨.ref 53 :: rest, []⟩) Q E ⟨h, g, d, t, os⟩ := by
  have F := PySem.F.excBase_Exception
  have hstar := F.noStar
  simp only [checkBuiltinCall, F.newKind, F.newSplit, F.newRow]
  repeat (first | refine wpAny_loadPart_at hC ?_ | (refine wpAny_isSubtype_exc hC ?_; rw [show ([Value.ref 53, .ref 40, .type "Exception", .type "BaseException", .type "object"] : List Value).contains (.type "Exception") = true from rfl]) | refine wpAny_staticBase_exc hC ?_ | refine wpAny_madeBy_exc hC ?_ | simp only [bne_self_eq_false, Bool.false_eq_true, if_false] | wp_step)
  exact hq
theorem lim_new {rest : List Value} {R : Result → Shared → Prop} (hC : h.get? 53 = some limCls)
    (hq : R (.ok (.ret (.ref (h.objs.size + 1)))) ⟨(h.push { cls := .type "tuple", data := .seq rest.toArray }).push { cls := .ref 53, data := .fields #[.ref h.objs.size, .none, .none, .none, .bool false, .none] }, g, d, t, os⟩) (hrest : rest.length ≤ sizeLine) :
    codeAny (model prog w) A (.builtin "Exception.__new__" ⟨.ref 53 :: rest, []⟩) R ⟨h, g, d, t, os⟩ := by
  have F := PySem.F.excBase_Exception
  have hends := F.ends
  refine codeAny_builtinAt F.entry ?_
  unfold Builtin.«BaseException.__new__»
  refine _root_.PySem.wpAt_bind ?_
  show _root_.PySem.wpAt _ _ _ (stack >>= _) _ _ _
  refine _root_.PySem.wpAt_bind (_root_.PySem.wpAt_stack fun p below => _root_.PySem.wpAt_of_wpAny ?_)
  wp_walk
  refine _root_.PySem.wpAt_of_wpAny ?_
  rw [F.owner]
  repeat (first | with_reducible refine wpAny_madeHere_exc F.canon hC ?_ | with_reducible refine wpAny_loadPart_at hC ?_ | (with_reducible refine wpAny_isSubtype_exc hC ?_; first | rw [show ([Value.ref 53, .ref 40, .type "Exception", .type "BaseException", .type "object"] : List Value).contains (.type "Exception") = true from rfl] | rw [show ([Value.ref 53, .ref 40, .type "Exception", .type "BaseException", .type "object"] : List Value).contains (.type "AttributeError") = false from rfl] | rw [show ([Value.ref 53, .ref 40, .type "Exception", .type "BaseException", .type "object"] : List Value).contains (.type "NameError") = false from rfl]) | wp_step)
  show R _ _
  rw [Heap.size_push]
  exact hq
theorem lim_type_call {K : Frag} {rest : List Value} {Q : Fin → Shared → Prop} (hC : h.get? 53 = some limCls) (X : K.In h) (hi : findIn K (.ref 53) "__init__" = some (some (.ref 30))) (hf : typeIn K (.ref 30) = some (.type "function"))
    (hq : wpAny (model prog w) A (call (.ref 30) (.ref (h.objs.size + 1) :: rest)) (fun r s' => r = .none ∧ Q (.done (.ret (.ref (h.objs.size + 1)))) s') E ⟨(h.push { cls := .type "tuple", data := .seq rest.toArray }).push { cls := .ref 53, data := .fields #[.ref h.objs.size, .none, .none, .none, .bool false, .none] }, g, d, t, os⟩) (hrest : rest.length ≤ sizeLine) :
    wpAny (model prog w) A (Builtin.«type.__call__» ⟨.ref 53 :: rest, []⟩) Q E ⟨h, g, d, t, os⟩ := by
  have F := PySem.F.excBase_Exception
  repeat (first | with_reducible refine wpAny_loadPart_at hC ?_ | with_reducible refine wpAny_madeBy_exc hC ?_ | wp_step)
  refine codeAny_call_builtin_code (Code.quiet_builtin _ F.quiet) (lim_check_new hC ?_)
  refine lim_new hC ?_ hrest
  show wpAny _ _ _ _ _ _
  have k : ∀ b o, h.get? b = some o → ((h.push { cls := .type "tuple", data := .seq rest.toArray }).push { cls := .ref 53, data := .fields #[.ref h.objs.size, .none, .none, .none, .bool false, .none] }).get? b = some o := fun b o e => Heap.get?_push_of_some _ (Heap.get?_push_of_some _ e)
  have hC₁ := k _ _ hC
  have hget : ((h.push { cls := .type "tuple", data := .seq rest.toArray }).push
      { cls := .ref 53, data := .fields #[.ref h.objs.size, .none, .none, .none, .bool false, .none] }).get? (h.objs.size + 1) = some
      { cls := .ref 53, data := .fields #[.ref h.objs.size, .none, .none, .none, .bool false, .none] } := by heap_get
  unfold isInstance
  repeat (first | with_reducible refine wpAny_loadPart_at hget ?_ | (with_reducible refine wpAny_isSubtype_exc hC₁ ?_; rw [show ([Value.ref 53, .ref 40, .type "Exception", .type "BaseException", .type "object"] : List Value).contains (.ref 53) = true from rfl]) | wp_step)
  show wpAny _ _ (typeLookup (.ref 53) _) _ _ _
  refine ((looks_findIn (X.keeps k) hi).here ?_)
  refine wpAny_holding (wpAny_bind ?_)
  refine ((bind_fn (X.keeps k) _ hf).here ?_)
  refine (wpAny_bind (wpAny_mono hq (fun r s' hr => ?_) fun _ _ x => x))
  obtain ⟨rfl, hQ⟩ := hr
  wp_walk
  exact hQ
theorem lim_call {K : Frag} {rest : List Value} {Q : Value → Shared → Prop} (hC : h.get? 53 = some limCls) (X : K.In h) (hi : findIn K (.ref 53) "__init__" = some (some (.ref 30))) (hf : typeIn K (.ref 30) = some (.type "function"))
    (hq : wpAny (model prog w) (A.under (.builtin "type.__call__" ⟨.ref 53 :: rest, []⟩)) (call (.ref 30) (.ref (h.objs.size + 1) :: rest)) (fun r s' => r = .none ∧ Q (.ref (h.objs.size + 1)) s') E ⟨(h.push { cls := .type "tuple", data := .seq rest.toArray }).push { cls := .ref 53, data := .fields #[.ref h.objs.size, .none, .none, .none, .bool false, .none] }, g, d, t, os⟩) (hrest : rest.length ≤ sizeLine) :
    wpAny (model prog w) A (call (.ref 53) rest) Q E ⟨h, g, d, t, os⟩ := by
  have f1 := tc_lookup
  have f2 := tc_bind (.ref 53)
  have hT : (⟨h, g, d, t, os⟩ : Shared).TypeIs (.ref 53) "type" := ⟨_, hC, rfl⟩
  refine wpAny_call (codeAny_of_tree ?_)
  show wpAny _ _ (callAny (.ref 53) _) _ _ _
  repeat (any_goals (first | assumption | with_reducible refine wpAny_loadPart_at hC ?_ | wp_step))
  refine ⟨rfl, ?_⟩
  exact codeAny_call_builtin_at (Code.quiet_builtin _ (by decide +kernel)) entry_typeCall (wpAny_check_type_call_sub hC (lim_type_call hC X hi hf hq hrest))
end
theorem limit_k {w : World} {p : Program} {loose : List Str} {mean : ExcName → Option Value} {mg mb : Str → Option Value}
    {dp un : Nat} {gd : Option (List Code)} {cn : Str} {cs : Scope} {a : Addr} {ccd : Value} {cl : List (Str × Addr)} {outer : List Env} {A₀ : Around} {base h₀ : Heap} {L : Addr} {m : Str → Option Value} {s : Shared}
    {tk : Tok} {Q E : Value → Shared → Prop} {news : List (Addr × Obj)}
    (B : Below A₀ base outer h₀) (F : Fr h₀ L s.heap m) (X : (hd.heap_39 w.params).In h₀) (N : News h₀ L s.heap news) (T : Top p loose mean mg mb h₀) (hk : cs.kind = .function)
    (hdp : dp + 2 < recursionLimit) (hun : un + 200 < cLine)
    (hret : ∀ e t1 dx h' tk', Fr h₀ L h' m → News h₀ L h' ((e, { excObj t1 with dict := some dx }) :: (t1, { cls := .type "tuple", data := .seq #[.str (Str.ofString "a limit") tk] }) :: news) → KeepBut [] s.heap h' → (∀ q ∈ news, q.1 ≠ e ∧ q.1 ≠ t1) → t1 ≠ e → Q (.ref e) { s with heap := h', toks := tk' }) :
    wpAny (model PG w) (ktrTop dp un gd cn cs L a ccd cl outer) (call (.ref 53) [.str (Str.ofString "a limit") tk]) Q E s := by
  obtain ⟨h, g, d, t, os⟩ := s
  have Xh : (hd.heap_39 w.params).In h := X.keeps F.keep
  refine lim_call (K := hd.heap_39 w.params) (Xh _ _ (at53 _)) Xh (by kernel_rfl) (by kernel_rfl) ?_ (by show 1 ≤ sizeLine; decide)
  rw [show (ktrTop dp un gd cn cs L a ccd cl outer).under (Code.builtin "type.__call__" ⟨[.ref 53, .str (Str.ofString "a limit") tk], []⟩) = ktrTop (dp+1) (un+1) gd cn cs L a ccd cl outer from by cases gd <;> rfl]
  have F1 := F.push { cls := .type "tuple", data := .seq [Value.str (Str.ofString "a limit") tk].toArray }
  have F2 := F1.push (excObj h.objs.size)
  have en : h.get? (h.objs.size + 1) = none := Heap.get?_none_of_le (Nat.le_succ _)
  have k2 : ∀ b o, h.get? b = some o → ((h.push { cls := .type "tuple", data := .seq [Value.str (Str.ofString "a limit") tk].toArray }).push (excObj h.objs.size)).get? b = some o := fun b o e => Heap.get?_push_of_some _ (Heap.get?_push_of_some _ e)
  have fresh : ∀ {b : Addr}, h.get? b = none → h₀.get? b = none ∧ b ≠ L := by
    intro b hb
    constructor
    · cases y : h₀.get? b with
      | none => rfl
      | some o => rw [F.keep _ _ y] at hb; cases hb
    · rintro rfl
      obtain ⟨oL, _, _, eL, _⟩ := F.ns
      rw [eL] at hb; cases hb
  have N2 : News h₀ L ((h.push { cls := .type "tuple", data := .seq [Value.str (Str.ofString "a limit") tk].toArray }).push (excObj h.objs.size)) [(h.objs.size + 1, excObj h.objs.size)] := by
    intro r hr
    obtain rfl := List.mem_singleton.mp hr
    exact ⟨by heap_get, (fresh en).2, (fresh en).1⟩
  refine init_c w (p := p) (loose := loose) (mean := mean) (mg := mg) (mb := mb) (dp+1) (un+1) gd cn cs a ccd cl outer A₀ base h₀ L m _ (h.objs.size + 1) h.objs.size tk _ E B F2 X N2 T hk (by omega) (by omega) ?_
  intro t1 dx h' tk' F' K' z1 z2 z3
  refine ⟨rfl, ?_⟩
  have zt : h.get? t1 = none := by
    cases y : h.get? t1 with
    | none => rfl
    | some o => rw [k2 _ _ y] at z1; cases z1
  have K0 : KeepBut [] h h' := fun b o e _ => K' b o (k2 b o e) (fun q => by rw [List.mem_singleton.mp q, en] at e; cases e)
  have hnn : ∀ q ∈ news, q.1 ≠ h.objs.size + 1 ∧ q.1 ≠ t1 := fun q hq => by
    constructor
    · intro z; have y := (N q hq).1; rw [z] at y; dsimp only at y; rw [en] at y; cases y
    · intro z; have y := (N q hq).1; rw [z] at y; dsimp only at y; rw [zt] at y; cases y
  have hte : t1 ≠ h.objs.size + 1 := by
    rintro rfl
    rw [N2.get (.head _)] at z1; cases z1
  refine hret _ t1 dx h' tk' F' ?_ K0 hnn hte
  intro r hr
  rcases List.mem_cons.mp hr with rfl | hr
  · exact ⟨z3, (fresh en).2, (fresh en).1⟩
  rcases List.mem_cons.mp hr with rfl | hr
  · exact ⟨z2, (fresh zt).2, (fresh zt).1⟩
  · exact ⟨K0 _ _ (N r hr).1 (by simp), (N r hr).2⟩
end Mine

theorem Mine.fresh11 : True := by
  w_top off
  trivial
namespace Mine
/-- what a raise asks of the object that it raises -/
def LimRaisable (E : Value → Shared → Prop) (v : Value) (s₁ : Shared) : Prop :=
  ∃ x ob vs, v = .ref x ∧ s₁.heap.get? x = some ob ∧ ob.cls = .ref 53 ∧ ob.data = .fields vs ∧ vs[1]? = some .none ∧ s₁.heap.get? 53 = some limCls ∧ E (.ref x) s₁
section
variable {M : Model} {A : Around} {E : Value → Shared → Prop} {s : Shared} {env : Env}
theorem m_raise {e : Expr} {pos : Pos} {Q : Flow → Shared → Prop} (hh : A.handled = none) (h : wpAny M A (eval e env) (LimRaisable E) E s) : wpAny M A (exec (.Raise (some e) none pos) env) Q E s := by
  show wpAny M A (do standAt pos; raiseStmt env (some (do let v ← eval e env; standAt pos; pure v)) none) Q E s
  refine wpAny_bind (wpAny_standAt ?_)
  unfold raiseStmt
  dsimp only
  refine wpAny_bind (wpAny_bind (wpAny_mono h (fun v s₁ h₁ => wpAny_bind (wpAny_standAt (wpAny_pure ?_))) fun _ _ x => x))
  obtain ⟨x, ob, vs, rfl, hx, hxc, hxd, h1, hC, hE⟩ := h₁
  obtain ⟨hp, g, d, tk, os⟩ := s₁
  obtain ⟨oc, od, oda, osl⟩ := ob
  dsimp only at hxc hxd
  subst hxc hxd
  have hB : ([Value.ref 53, .ref 40, .type "Exception", .type "BaseException", .type "object"] : List Value).contains (.type "BaseException") = true := rfl
  repeat (first | with_reducible refine wpAny_loadPart_at hx ?_ | with_reducible refine wpAny_loadPart_at hC ?_ | (with_reducible refine wpAny_isSubtype_exc hC ?_; rw [hB]) | wp_step)
  rw [h1]
  refine wpAny_pure ?_
  rw [if_neg (by decide)]
  refine wpAny_pure ?_
  unfold raiseNew
  refine wpAny_bind (wpAny_handled ?_)
  rw [hh]
  first
    | exact wpAny_throw hE
    | exact wpAny_bind (wpAny_pure (wpAny_throw hE))
end
section
variable {M : Model} {A : Around} {E : Value → Shared → Prop} {s' : Shared} {base g : Heap} {outer : List Env} {L e t : Addr} {m : Str → Option Value} {Q : Unit → Shared → Prop} {news : List (Addr × Obj)} {env : Env} {name : Str} {scope : Scope} {cd : Value} {a : Addr}
/-- the first frame that an exception of one's own leaves -/
theorem m_leave_first {cls : Value} {vs : List Value} {eo : Obj} {evs : Array Value} {tn : Nat} (K : Below A base outer g) (F : Fr g L s'.heap m) (N : News g L s'.heap ((e, eo) :: (t, { cls := .type "tuple", data := .seq vs.toArray tn }) :: news)) (hne : ∀ q ∈ news, q.1 ≠ e ∧ q.1 ≠ t)
    (hc : eo.cls = cls) (hd : eo.data = .fields evs) (h0 : evs[0]? = some (.ref t)) (h1 : evs[1]? = some .none) (hte : t ≠ e)
    (hQ : ∀ h', RaisedS base g outer e cls t vs news h' → g.UpToSlots h' → Q () { s' with heap := h' }) (hk : scope.kind = .function) :
    wpAny M (A.deeper (envOf name scope L a cd)) (leaving (envOf name scope L a cd) (.ref e)) Q E s' := by
  have K' := K.push (name := name) (a := a) (cd := cd) F hk
  have he := (N _ (.head _)).1
  have ht := (N _ (.tail _ (.head _))).1
  have ge := (N _ (.head _)).2.2
  have gt := (N _ (.tail _ (.head _))).2.2
  dsimp only at he ht ge gt
  have up : base.StaysIn g := K.stays
  have hin : ∀ env' ∈ (envOf name scope L a cd :: outer), ∀ b, env'.frame = some b → b ∈ e :: t :: (envOf name scope L a cd :: outer).filterMap (·.frame) := fun env' he b hb => .tail _ (.tail _ (List.mem_filterMap.mpr ⟨env', he, hb⟩))
  have st : base.StaysIn (hideAll s'.heap (e :: t :: (envOf name scope L a cd :: outer).filterMap (·.frame))) := fun b o q => hideAll_get _ (K'.stays b o q) fun hm => by
    rcases List.mem_cons.mp hm with rfl | hm
    · rw [up _ _ q] at ge; cases ge
    rcases List.mem_cons.mp hm with rfl | hm
    · rw [up _ _ q] at gt; cases gt
    · rw [(K'.frames.mem hm).1] at q; cases q
  have sg : ∀ b o, g.get? b = some o → b ∉ outer.filterMap (·.frame) → (hideAll s'.heap (e :: t :: (envOf name scope L a cd :: outer).filterMap (·.frame))).get? b = some o := fun b o q nm => hideAll_get _ (F.keep b o q) fun hm => by
    rcases List.mem_cons.mp hm with rfl | hm
    · rw [q] at ge; cases ge
    rcases List.mem_cons.mp hm with rfl | hm
    · rw [q] at gt; cases gt
    rcases kts_mem hm with z | z
    · rw [z, kts_self F] at q
      cases q
    · exact nm z
  have hl : ∀ q ∈ news, (hideAll s'.heap (e :: t :: (envOf name scope L a cd :: outer).filterMap (·.frame))).get? q.1 = some q.2 ∧ g.get? q.1 = none ∧ base.get? q.1 = none := fun q hq => by
    have Nq := N q (.tail _ (.tail _ hq))
    refine ⟨hideAll_get _ Nq.1 fun hm => ?_, Nq.2.2, fresh_of_stays K.stays Nq.2.2⟩
    rcases List.mem_cons.mp hm with z | hm
    · exact (hne q hq).1 z
    rcases List.mem_cons.mp hm with z | hm
    · exact (hne q hq).2 z
    rcases kts_mem hm with z | z
    · exact Nq.2.1 z
    · obtain ⟨o, ho, _⟩ := (K.frames.mem z).2
      rw [Nq.2.2] at ho; cases ho
  have hen : (hideAll s'.heap (e :: t :: (envOf name scope L a cd :: outer).filterMap (·.frame))).get? e = none := hideAll_none _ (.head _)
  subst hc
  refine wpAny_leaving_firstW (a0 := .ref t) K'.stack (funFrames_hide K'.frames hin) rfl he (fun b o q => of_hideAll _ q) hen hd h1 h0 fun h' hL => ?_
  obtain ⟨k1, ⟨_, _, k2⟩, k3, k4⟩ := hL
  exact hQ h' ⟨⟨_, st, sg, hl, ⟨k1, hen, k2, k3⟩, hideAll_none _ (.tail _ (.head _))⟩, Heap.TupAt.of_slots ⟨_, _, ht, rfl, rfl⟩ k4⟩ ((Heap.UpToSlots.of_keeps F.keep).trans k4)
end
/-- what a caller knows of an exception that a call let through: the ground kept, off S, up to the frames' slots -/
structure Flown (h₀ : Heap) (L : Addr) (m : Str → Option Value) (base : Heap) (l : List Env) (h : Heap) (S : List Addr) (news : List (Addr × Obj)) (e : Addr) (h' : Heap) : Prop where
  out : ∃ g t vs, Fr h₀ L g m ∧ GSub h g S ∧ RaisedS base g l e (.ref 53) t vs news h' ∧ g.UpToSlots h'
end Mine
namespace Mine
theorem hide_fr {h₀ g : Heap} {L : Addr} {m : Str → Option Value} {as : List Addr} (F : Fr h₀ L g m) (hS : ∀ a ∈ as, h₀.get? a = none ∧ a ≠ L) : Fr h₀ L (hideAll g as) m := by
  obtain ⟨oL, es, ep, hL, r⟩ := F.ns
  refine ⟨⟨oL, es, ep, hideAll_get _ hL fun q => (hS L q).2 rfl, r⟩, fun b o e => hideAll_get _ (F.keep b o e) fun q => ?_, ?_⟩
  · rw [(hS b q).1] at e; cases e
  · exact F.above
theorem hide_none {h : Heap} {as : List Addr} {a : Addr} (e : h.get? a = none) : (hideAll h as).get? a = none := by
  cases y : (hideAll h as).get? a with
  | none => rfl
  | some o => rw [of_hideAll _ y] at e; cases e
theorem Flown.more {A : Around} {h₀ base h h' : Heap} {L e : Addr} {m : Str → Option Value} {env : Env} {outer : List Env} {S : List Addr} {news newsc news' : List (Addr × Obj)} (B : Below A base outer h₀) (N : News h₀ L h news)
    (X : Flown h₀ L m base (env :: outer) h S newsc e h') (hf : env.frame = some L) (hS : ∀ b ∈ S, b ∈ news.map (·.1)) (hc : ∀ q ∈ news', q ∈ newsc ∨ (q ∈ news ∧ q.1 ∉ S)) : Flown h₀ L m base (env :: outer) h (news.map (·.1)) news' e h' := by
  obtain ⟨g, t, vs, F, G, ⟨⟨B', hB, hBG, hl, hfl, hnew⟩, htup⟩, U⟩ := X.out
  have hN : ∀ a ∈ news.map (·.1), h₀.get? a = none ∧ a ≠ L := fun a ha => by
    obtain ⟨q, hq, rfl⟩ := List.mem_map.mp ha
    exact ⟨(N q hq).2.2, (N q hq).2.1⟩
  refine ⟨hideAll g (news.map (·.1)), t, vs, hide_fr F hN, fun b o eb n => hideAll_get _ (G b o eb fun q => n (hS b q)) n, ⟨⟨B', hB, fun b o eb nm => hBG b o (of_hideAll _ eb) nm, fun q hq => ?_, hfl, hnew⟩, htup⟩, fun b o eb hn => U b o (of_hideAll _ eb) hn⟩
  rcases hc q hq with z | ⟨z, zS⟩
  · exact ⟨(hl q z).1, hide_none (hl q z).2.1, (hl q z).2.2⟩
  · have Nq := N q z
    refine ⟨hBG q.1 q.2 (G _ _ Nq.1 zS) fun hm => ?_, hideAll_none _ (List.mem_map_of_mem z), fresh_of_stays B.stays Nq.2.2⟩
    obtain ⟨env', he, hfr⟩ := List.mem_filterMap.mp hm
    rcases List.mem_cons.mp he with rfl | he
    · rw [hf] at hfr; exact Nq.2.1 (Option.some.inj hfr).symm
    · obtain ⟨o, ho, _⟩ := (B.frames.mem (List.mem_filterMap.mpr ⟨env', he, hfr⟩)).2
      rw [Nq.2.2] at ho; cases ho
section
variable {M : Model} {A : Around} {E : Value → Shared → Prop} {s' : Shared} {base g : Heap} {outer : List Env} {L e : Addr} {m : Str → Option Value} {Q : Unit → Shared → Prop} {news : List (Addr × Obj)} {env : Env}
/-- a further frame that an exception leaves -/
theorem m_leave_on {h : Heap} {S : List Addr} (K : Below A base outer g) (X : Flown g L m base (env :: outer) h S news e s'.heap) (hf : env.frame = some L)
    (hQ : ∀ h' t vs, RaisedS base g outer e (.ref 53) t vs news h' → g.UpToSlots h' → Q () { s' with heap := h' }) :
    wpAny M (A.deeper env) (leaving env (.ref e)) Q E s' := by
  obtain ⟨g₂, t, vs, F, G, ⟨⟨B, hB, hBG, hl, hfl, hnew⟩, htup⟩, hsm⟩ := X.out
  have hmem : ∀ b, b ∈ (env :: outer).filterMap (·.frame) → b = L ∨ b ∈ outer.filterMap (·.frame) := fun b hm => by
    obtain ⟨env', he, hfr⟩ := List.mem_filterMap.mp hm
    rcases List.mem_cons.mp he with rfl | he
    · rw [hf] at hfr; exact .inl (Option.some.inj hfr).symm
    · exact .inr (List.mem_filterMap.mpr ⟨env', he, hfr⟩)
  exact wpAny_leaves_onW (Around.frames_deeper K.stack) hf hfl fun h' x1 x2 =>
    hQ h' t vs ⟨⟨B, hB, fun b o q nm => hBG b o (F.keep b o q) (fun hm => by
      rcases hmem b hm with z | z
      · rw [z, kts_self F] at q
        cases q
      · exact nm z), fun q hq => ⟨(hl q hq).1, kts_none F.keep (hl q hq).2.1, (hl q hq).2.2⟩, x1, hnew⟩, htup.of_slots x2⟩ ((Heap.UpToSlots.of_keeps F.keep).trans (hsm.trans x2))
end
end Mine

theorem Mine.fresh12 : True := by
  w_top off
  k_with "my exec Raise some none" => ((refine Mine.m_raise rfl ?_; walk_say "RAISE"))
  k_with "my call ref" => ((k_here; (with_reducible show wpAny _ _ (call (Value.ref 53) [Value.str _ _]) _ _ _); k_dflt (refine' Mine.limit_k ?k1qh ?k2qh ?k3qh ?k4qh ?k5qh ?kKqh ?kpqh ?kuqh ?_; (case k1qh => k_asm); (case k2qh => k_asm); (case k3qh => k_asm); (case k4qh => k_asm); (case k5qh => k_asm); (case kKqh => first | exact rfl | assumption); (case kpqh => ktr_room); (case kuqh => ktr_units); k_whole; intro e'qz t1'qz dx'qz h'qz tk'qz F'qz N'qz K'qz hn'qz ht'qz); walk_say "LIMIT"))
  trivial
namespace Mine
theorem keepBut_drop {S' S : List Addr} {h h' : Heap} {c : Addr} {o : Obj} (K : KeepBut S' h h') (hs : ∀ a ∈ S', a = c ∨ a ∈ S) (e : h.get? c = some o) (e' : h'.get? c = some o) : KeepBut S h h' := fun b ob eb n => by
  by_cases hc : b = c
  · subst hc; rw [e] at eb; cases eb; exact e'
  · exact K b ob eb fun q => (hs b q).elim hc n
theorem told_c (w : World) {p : Program} {loose : List Str} {mean : ExcName → Option Value} {mg mb : Str → Option Value}
    (dp un : Nat) (gd : Option (List Code)) (cn : Str) (cs : Scope) (a : Addr) (ccd : Value) (cl : List (Str × Addr)) (outer : List Env) (A₀ : Around) (base h₀ : Heap) (L : Addr) (m : Str → Option Value) (s : Shared)
    (D : Dat) (ca aa sa : Addr) (o : Obj) (way limit : Int) (t1 t2 t3 : Tok) (svs avs : List Value) (an : Nat) (ns : List Int) (Q E : Value → Shared → Prop)
    (B : Below A₀ base outer h₀) (F : Fr h₀ L s.heap m) (X : (hd.heap_39 w.params).In h₀) (N : News h₀ L s.heap [(aa, listOf avs.toArray an), (ca, o)]) (T : Top p loose mean mg mb h₀) (hk : cs.kind = .function)
    (hd : o.IsDictOf (PySem.strKind PG w) [("many", .int D.many t1), ("formulas", .ref D.fa), ("granted", .ref D.ga), ("asked", .ref aa), ("way", .int way t2), ("limit", .int limit t3)])
    (ok : D.Ok) (hI : InH D.I [aa, ca] s.heap) (hw0 : 0 ≤ way) (hw1 : way ≤ 2) (hav : avs.length ≤ 500) (hlm0 : 0 ≤ limit) (hlm1 : limit ≤ 10)
    (hs : s.heap.IsTuple sa svs.toArray) (hsi : IntsAre svs ns) (hsl : ns.length ≤ 5) (hsb : D.Nums ns)
    (hdp : dp + 4 < recursionLimit) (hun : un + 400 < cLine)
    (hret : ∀ ra fa b fvs fs n n' an' h' tk', Fr h₀ L h' m → KeepBut [aa] s.heap h' → h'.get? aa = some (listOf (avs ++ [Value.ref sa]).toArray an') → s.heap.get? ra = none → s.heap.get? fa = none → ra ≠ fa →
      h'.get? ra = some (tupObj [.bool b, .ref fa] n) → h'.get? fa = some (tupObj fvs n') → IntsAre fvs fs → b = !D.can ns → (b = true → List.Sublist fs ns ∧ D.can fs = false) → ((avs.length + 1 : Nat) : Int) ≠ limit → Q (.ref ra) { s with heap := h', toks := tk' })
    (hraise : ∀ e an' h' tk', Flown h₀ L m base (envX cn cs L a ccd cl :: outer) s.heap [aa, ca] [(aa, listOf (avs ++ [Value.ref sa]).toArray an'), (ca, o)] e h' → ((avs.length + 1 : Nat) : Int) = limit → E (.ref e) { s with heap := h', toks := tk' }) :
    wpAny (model PG w) (ktrTop dp un gd cn cs L a ccd cl outer) (call (.ref 148) [.ref ca, .ref sa]) Q E s := by
  suffices h : Mine.hd.heap_39 = Mine.hd.heap_39 → PySem.Challenge.rw_nu0263_01 = PySem.Challenge.rw_nu0263_01 → wpAny (model PG w) (ktrTop dp un gd cn cs L a ccd cl outer) (call (.ref 148) [.ref ca, .ref sa]) Q E s from h rfl rfl
  k_fill
  intro _ _
  have hac : aa ≠ ca := by
    obtain ⟨es, ep, hx, _⟩ := id hd
    exact seq_ne_dict (.inl (News.isList N (.head _))) (N.get (.tail _ (.head _))) hx.1
  have hsa : sa ≠ aa := by
    rintro rfl
    obtain ⟨x, e, hc, _⟩ := hs
    rw [N.get (.head _)] at e
    cases e
    simp at hc
  have hsc : sa ≠ ca := by
    obtain ⟨es, ep, hx, _⟩ := id hd
    exact seq_ne_dict (.inr hs) (N.get (.tail _ (.head _))) hx.1
  refine wpAny_call ?_
  walk_at "mine_enter"
  rename GSub _ _ _ => kG'
  rename_i g1 L1 hh1 FG1 F1 N1 B1 X1 T1
  have hsg : IsTup _ sa svs.toArray := isTup_keep (S := [aa, ca]) kG' hs (by simp [hsa, hsc])
  have hsg' : SeqAt _ sa svs := .inr hsg
  have hIg := hI.ground kG'
  replace hac := neN hac
  k_extra "mine_steps"
  · rename News _ _ _ _ => N9
    rename Fr _ _ _ _ => F9
    rename Fr h₀ _ _ _ => FG9
    rename Frag.In _ _ => X9
    rename Below _ _ _ _ => B9
    refine ⟨_, _, _, rfl, N9.get (.head _), rfl, rfl, rfl, (X9.keeps F9.keep) _ _ (at53 _), ?_⟩
    k_extra "mine_post"
    show wpAny _ _ (leaving _ _) _ _ _
    refine m_leave_first B9 F9 N9 (by assumption) rfl rfl rfl rfl (by assumption) ?_ rfl
    intro h9 R9 U9
    exact hraise _ _ _ _ ⟨_, _, _, FG9, kG', R9, U9⟩ (by assumption)
  all_goals (
    rename News h₀ _ _ _ => N9
    rename Fr h₀ _ _ _ => F9
    rename News g1 _ _ _ => N8
    rename Fr g1 _ _ _ => F8
    have k9 := keepBut_drop (S := [aa]) (keepBut_of kG' F8) (by simp) (N.get (.tail _ (.head _))) (N9.get (by k_mem)))
  · exact hret _ _ _ [] [] _ _ _ _ _ F9 k9 (N9.get (.tail _ (.tail _ (.head _)))) (fresh_call kG' N8 (List.mem_cons_self ..) (fun q => by rcases List.mem_cons.mp q with z | z; exact (neN (by omega) : _ ≠ aa) z; exact (neN (by omega) : _ ≠ ca) (List.mem_singleton.mp z))) (fresh_call kG' N8 (.tail _ (.head _)) (fun q => by rcases List.mem_cons.mp q with z | z; exact (neN (by omega) : _ ≠ aa) z; exact (neN (by omega) : _ ≠ ca) (List.mem_singleton.mp z))) (neN (by omega)) (N9.get (List.mem_cons_self ..)) (N9.get (.tail _ (.head _))) .nil (by simp_all) (by simp) (by assumption)
  · exact hret _ _ _ _ _ _ _ _ _ _ F9 k9 (N9.get (.tail _ (.tail _ (.head _)))) (fresh_call kG' N8 (List.mem_cons_self ..) (fun q => by rcases List.mem_cons.mp q with z | z; exact (neN (by omega) : _ ≠ aa) z; exact (neN (by omega) : _ ≠ ca) (List.mem_singleton.mp z))) (fresh_call kG' N8 (.tail _ (.head _)) (fun q => by rcases List.mem_cons.mp q with z | z; exact (neN (by omega) : _ ≠ aa) z; exact (neN (by omega) : _ ≠ ca) (List.mem_singleton.mp z))) (neN (by omega)) (N9.get (List.mem_cons_self ..)) (N9.get (.tail _ (.head _))) (by assumption) (by simp_all) (fun _ => ⟨by assumption, by assumption⟩) (by assumption)
/-- one more new object on the ledger -/
theorem news_more {h₀ h h' : Heap} {L ra : Addr} {x : Obj} {m : Str → Option Value} {l : List (Addr × Obj)} (F : Fr h₀ L h m) (N : News h₀ L h' l) (hl : ∀ q ∈ l, ∃ o, h.get? q.1 = some o) (hn : h.get? ra = none) (e : h'.get? ra = some x) :
    News h₀ L h' ((ra, x) :: l) ∧ AllNe ra l := by
  refine ⟨fun p hp => ?_, allNe_of fun q hq z => ?_⟩
  · rcases List.mem_cons.mp hp with rfl | hp
    · refine ⟨e, fun (z : ra = L) => ?_, ?_⟩
      · obtain ⟨oL, _, _, eL, _⟩ := F.ns
        rw [z, eL] at hn; cases hn
      · show h₀.get? ra = none
        cases y : h₀.get? ra with
        | none => rfl
        | some o => rw [F.keep _ _ y] at hn; cases hn
    · exact N p hp
  · obtain ⟨o, y⟩ := hl q hq
    rw [← z, y] at hn; cases hn
theorem updF_addrs {d : Addr} {o o' : Obj} {l : List (Addr × Obj)} {u : Obj → List (Addr × Obj)} (U : UpdF d o l u) {h₀ h : Heap} {L : Addr} (N : News h₀ L h l) : ∀ q ∈ u o', ∃ x, h.get? q.1 = some x := by
  obtain ⟨pre, post, rfl, hu, _⟩ := U.split
  intro q hq
  rw [hu] at hq
  rcases List.mem_append.mp hq with q' | q'
  · exact ⟨_, (N q (List.mem_append_left _ q')).1⟩
  · rcases List.mem_cons.mp q' with rfl | q'
    · exact ⟨_, (N (d, o) (by simp)).1⟩
    · exact ⟨_, (N q (List.mem_append_right _ (.tail _ q'))).1⟩
theorem updF_cases {d : Addr} {o o' : Obj} {l : List (Addr × Obj)} {u : Obj → List (Addr × Obj)} (U : UpdF d o l u) : ∀ q ∈ u o', q = (d, o') ∨ (q ∈ l ∧ q.1 ≠ d) := by
  obtain ⟨pre, post, rfl, hu, h1, h2⟩ := U.split
  intro q hq
  rw [hu] at hq
  rcases List.mem_append.mp hq with q' | q'
  · exact .inr ⟨List.mem_append_left _ q', h1 q q'⟩
  · rcases List.mem_cons.mp q' with rfl | q'
    · exact .inl rfl
    · exact .inr ⟨List.mem_append_right _ (.tail _ q'), h2 q q'⟩
theorem told_k {w : World} {p : Program} {loose : List Str} {mean : ExcName → Option Value} {mg mb : Str → Option Value}
    {dp un : Nat} {gd : Option (List Code)} {cn : Str} {cs : Scope} {a : Addr} {ccd : Value} {cl : List (Str × Addr)} {outer : List Env} {A₀ : Around} {base h₀ : Heap} {L : Addr} {m : Str → Option Value} {s : Shared}
    (D : Dat) {ca aa sa : Addr} {o : Obj} {way limit : Int} {t1 t2 t3 : Tok} {svs avs : List Value} {an : Nat} {ns : List Int} {Q E : Value → Shared → Prop} {news : List (Addr × Obj)} {u : Obj → List (Addr × Obj)}
    (B : Below A₀ base outer h₀) (F : Fr h₀ L s.heap m) (X : (hd.heap_39 w.params).In h₀) (N : News h₀ L s.heap news) (T : Top p loose mean mg mb h₀) (hk : cs.kind = .function)
    (U : UpdF aa (listOf avs.toArray an) news u) (hm : (ca, o) ∈ news)
    (hd : o.IsDictOf (PySem.strKind PG w) [("many", .int D.many t1), ("formulas", .ref D.fa), ("granted", .ref D.ga), ("asked", .ref aa), ("way", .int way t2), ("limit", .int limit t3)])
    (ok : D.Ok) (hI : InH D.I [aa, ca] s.heap) (hw0 : 0 ≤ way) (hw1 : way ≤ 2) (hav : avs.length ≤ 500) (hlm0 : 0 ≤ limit) (hlm1 : limit ≤ 10)
    (hs : s.heap.IsTuple sa svs.toArray) (hsi : IntsAre svs ns) (hsl : ns.length ≤ 5) (hsb : D.Nums ns)
    (hdp : dp + 4 < recursionLimit) (hun : un + 400 < cLine)
    (hret : ∀ ra fa b fvs fs n n' an' h' tk', Fr h₀ L h' m → News h₀ L h' ((ra, tupObj [.bool b, .ref fa] n) :: (fa, tupObj fvs n') :: u (listOf (avs ++ [Value.ref sa]).toArray an')) → KeepBut [aa] s.heap h' →
      AllNe ra ((fa, tupObj fvs n') :: u (listOf (avs ++ [Value.ref sa]).toArray an')) → AllNe fa (u (listOf (avs ++ [Value.ref sa]).toArray an')) → IntsAre fvs fs → b = !D.can ns → (b = true → List.Sublist fs ns ∧ D.can fs = false) → ((avs.length + 1 : Nat) : Int) ≠ limit → Q (.ref ra) { s with heap := h', toks := tk' })
    (hraise : ∀ e an' h' tk', Flown h₀ L m base (envX cn cs L a ccd cl :: outer) s.heap (news.map (·.1)) (u (listOf (avs ++ [Value.ref sa]).toArray an')) e h' → ((avs.length + 1 : Nat) : Int) = limit → E (.ref e) { s with heap := h', toks := tk' }) :
    wpAny (model PG w) (ktrTop dp un gd cn cs L a ccd cl outer) (call (.ref 148) [.ref ca, .ref sa]) Q E s := by
  have ha := updF_mem U
  refine told_c w dp un gd cn cs a ccd cl outer A₀ base h₀ L m s D ca aa sa o way limit t1 t2 t3 svs avs an ns Q E B F X (fun q hq => ?_) T hk hd ok hI hw0 hw1 hav hlm0 hlm1 hs hsi hsl hsb hdp hun ?_ ?_
  · rcases List.mem_cons.mp hq with rfl | hq
    · exact N _ ha
    · rw [List.mem_singleton.mp hq]; exact N _ hm
  · intro ra fa b fvs fs n n' an' h' tk' F' K ea hra hfa hne era efa hi hb hc hl
    have N1 := news_call N U K ea
    have N2 := news_more (ra := fa) F N1 (updF_addrs U N) hfa efa
    have N3 := news_more (ra := ra) F N1 (updF_addrs U N) hra era
    refine hret ra fa b fvs fs n n' an' h' tk' F' (fun q hq => ?_) K ⟨neN hne.symm, N3.2⟩ N2.2 hi hb hc hl
    rcases List.mem_cons.mp hq with rfl | hq
    · exact N3.1 _ (.head _)
    · exact N2.1 q hq
  · intro e an' h' tk' fl hl
    refine hraise e an' h' tk' (Flown.more B N fl rfl ?_ ?_) hl
    · intro b hb
      rcases List.mem_cons.mp hb with rfl | hb
      · exact List.mem_map_of_mem ha
      · rw [List.mem_singleton.mp hb]; exact List.mem_map_of_mem hm
    · intro q hq
      rcases updF_cases U q hq with rfl | ⟨z, zn⟩
      · exact .inl (.head _)
      · by_cases hc : q.1 = ca
        · left
          have : q.2 = o := by
            have y1 := (N q z).1
            have y2 := (N _ hm).1
            rw [hc] at y1; dsimp only at y2; rw [y1] at y2; exact Option.some.inj y2
          obtain ⟨q1, q2⟩ := q
          dsimp only at hc this
          subst hc this
          exact .tail _ (.head _)
        · exact .inr ⟨z, fun y => by
            rcases List.mem_cons.mp y with y | y
            · exact zn y
            · exact hc (List.mem_singleton.mp y)⟩
end Mine

theorem Mine.fresh13 : True := by
  w_top off
  trivial
namespace Mine
section
variable {prog : Program} {w : World} {A : Around} {E : Value → Shared → Prop} {s : Shared} {env : Env} {h₀ : Heap} {L : Addr} {m : Str → Option Value}
/-- what an element's evaluation leaves: one object turned -/
inductive EEnd (d : Addr) (P : Value → Obj → Prop) (s₃ : Shared) (y : Value) (s₄ : Shared) : Prop where
  | mk h' tk o''
    (c1 : s₄ = { s₃ with heap := h', toks := tk })
    (c2 : KeepBut [d] s₃.heap h')
    (c3 : h'.get? d = some o'')
    (c4 : P y o'')
/-- a comprehension over a range whose element turns one object of the ledger: what is to be shown of a turn, what follows -/
inductive CompEFrom (prog : Program) (w : World) (A : Around) (env : Env) (scope : Scope) (cl : List (Str × Addr)) (x : Str) (elt : Expr) (h₀ : Heap) (L : Addr) (m : Str → Option Value) (d : Addr) (J : Nat → List Value → Obj → Prop) (Q : Value → Shared → Prop) (xv : Value) (s₁ : Shared) : Prop where
  | mk (r : Addr) (n : Nat) (b : Int) (t₀ u₀ v₀ : Tok) (news : List (Addr × Obj)) (o : Obj) (u : Obj → List (Addr × Obj))
    (c1 : xv = .ref r)
    (c2 : IsRange s₁.heap r 0 b 1 t₀ u₀ v₀)
    (c3 : b = (n : Int))
    (c4 : n ≤ 1000)
    (c5 : Fr h₀ L s₁.heap m)
    (c6 : News h₀ L s₁.heap news)
    (c7 : UpdF d o news u)
    (c8 : J 0 [] o)
    (c9 : (∀ i ys o', J i ys o' → ys.length = i))
    (c10 : (∀ C i ys o' s₃ m₃ E' t, i < n → J i ys o' → s₁.heap.objs.size ≤ C → s₃.heap.Ns C m₃ → m₃ x = some (.int (i : Int) t) → Fr h₀ L s₃.heap m → News h₀ L s₃.heap (u o') → KeepBut [d] s₁.heap s₃.heap →
      wpAny (model prog w) A (eval elt (compEnvC scope cl C env)) (EEnd d (fun y o'' => J (i + 1) (ys ++ [y]) o'') s₃) E' s₃))
    (c11 : (∀ D ys k o' h' tk, J n ys o' → Fr h₀ L h' m → News h₀ L h' ((D, listOf ys.toArray k) :: u o') → AllNe D (u o') → KeepBut [d] s₁.heap h' → s₁.heap.get? D = none → Q (.ref D) { s₁ with heap := h', toks := tk }))
theorem CompEFrom.intro {scope : Scope} {cl : List (Str × Addr)} {x : Str} {elt : Expr} {d : Addr} {J : Nat → List Value → Obj → Prop} {Q : Value → Shared → Prop} {s₁ : Shared}
    {r : Addr} {n : Nat} {b : Int} {t₀ u₀ v₀ : Tok} {news : List (Addr × Obj)} {o : Obj} {u : Obj → List (Addr × Obj)} (hr : IsRange s₁.heap r 0 b 1 t₀ u₀ v₀) (hb : b = (n : Int)) (hn : n ≤ 1000) (F : Fr h₀ L s₁.heap m) (N : News h₀ L s₁.heap news) (U : UpdF d o news u) (hJ : J 0 [] o) (hl : ∀ i ys o', J i ys o' → ys.length = i)
    (turn : ∀ C i ys o' s₃ m₃ E' t, i < n → J i ys o' → s₁.heap.objs.size ≤ C → s₃.heap.Ns C m₃ → m₃ x = some (.int (i : Int) t) → Fr h₀ L s₃.heap m → News h₀ L s₃.heap (u o') → KeepBut [d] s₁.heap s₃.heap →
      wpAny (model prog w) A (eval elt (compEnvC scope cl C env)) (EEnd d (fun y o'' => J (i + 1) (ys ++ [y]) o'') s₃) E' s₃)
    (done : ∀ D ys k o' h' tk, J n ys o' → Fr h₀ L h' m → News h₀ L h' ((D, listOf ys.toArray k) :: u o') → AllNe D (u o') → KeepBut [d] s₁.heap h' → s₁.heap.get? D = none → Q (.ref D) { s₁ with heap := h', toks := tk }) :
    CompEFrom prog w A env scope cl x elt h₀ L m d J Q (.ref r) s₁ :=
  ⟨r, n, b, t₀, u₀, v₀, news, o, u, rfl, hr, hb, hn, F, N, U, hJ, hl, turn, done⟩
theorem m_listCompE {elt iter : Expr} {x : Str} {px : Pos} {scope : Scope} {cl : List (Str × Addr)} {pos : Pos} {Q : Value → Shared → Prop} (d : Addr) (J : Nat → List Value → Obj → Prop)
    (_F : Fr h₀ L s.heap m) (hh : A.handled = none) (hclos : closureFor scope env = pure cl) (hcell : ∀ y ∈ scope.names, y.2 ≠ .cell) (hkind : scope.kind = .function)
    (hnames : ∀ y ∈ scope.names, y.2 = .local → scope.names.lookup y.1 = some .local) (hx : scope.names.lookup x = some .local)
    (h : wpAny (model prog w) A (eval iter env) (fun xv s₁ => CompEFrom prog w A env scope cl x elt h₀ L m d J Q xv s₁) E s)
    (hs : ∀ x, foldedSetIterable iter env x = pure x) :
    wpAny (model prog w) A (eval (.ListComp elt [⟨.Name x px, iter, [], 0⟩] scope pos) env) Q E s := by
  rw [eval_ListComp]
  refine wpAny_comprehension_free (use := none) rfl hs hclos hkind hnames (wpAny_mono h (fun xv s₁ h₁ => ?_) fun _ _ e => e)
  obtain ⟨r, n, b, t₀, u₀, v₀, news, o, u, rfl, hr, rfl, hn, F, N, U, hJ0, hJl, turn, done⟩ := h₁
  have hsm : Builtin.Range.small 0 (n : Int) 1 = true := small_one (by decide) (by decide) (by omega) (by omega)
  have hz : Builtin.Range.rangeSize 0 (n : Int) 1 = (n : Int) := by
    unfold Builtin.Range.rangeSize
    rw [if_pos (by decide)]
    by_cases h : (0 : Int) < (n : Int)
    · rw [if_pos h]; omega
    · rw [if_neg h]; omega
  refine wpAny_pyIter_range hr hsm ?_
  rw [hz]
  have W := Walks.range (prog := prog) (w := w) hh s₁.heap.objs.size 0 1 n
  generalize hH1 : s₁.heap.push { cls := .type "range_iterator", data := .fields #[rawInt 0, rawInt (n : Int), rawInt 1] } = H1
  have hH1s : H1.objs.size = s₁.heap.objs.size + 1 := by rw [← hH1, Heap.size_push]
  have st1 : IsRangeIter H1 s₁.heap.objs.size (0 + ((0 : Nat) : Int) * 1) ((n : Int) - ((0 : Nat) : Int)) 1 := by
    show IsRangeIter _ _ _ _ _
    rw [← hH1]
    simpa using Heap.get?_push_size _ rfl
  have k1 : ∀ b o, s₁.heap.get? b = some o → H1.get? b = some o := fun b o e => hH1 ▸ Heap.get?_push_of_some _ e
  refine wpAny_newObj_type (wpAny_newFunctionEnv hcell (by intro y hy; simp at hy) (fun h₁ hns₁ hsb₁ => ?_) hkind)
  dsimp only at hns₁ hsb₁ ⊢
  generalize hH2 : H1.push { cls := .type "list", dict := none, data := .seq ([] : List Value).toArray } = H2 at hns₁ hsb₁ ⊢
  have hC : H2.objs.size = H1.objs.size + 1 := by rw [← hH2, Heap.size_push]
  have hDC : H1.objs.size ≠ H2.objs.size := by rw [hC]; exact Nat.ne_of_lt (Nat.lt_succ_self _)
  have below : ∀ b, b < H1.objs.size → b ≠ H2.objs.size ∧ b ≠ H1.objs.size := fun b hb => ⟨by rw [hC]; exact Nat.ne_of_lt (Nat.lt_succ_of_lt hb), Nat.ne_of_lt hb⟩
  have old : ∀ b o, H1.get? b = some o → h₁.get? b = some o := fun b o e => hsb₁.extBut b o (below b (Heap.lt_size e)).1 (Heap.get?_push_of_some _ (hH2 ▸ Heap.get?_push_of_some _ e))
  have hacc : h₁.PlainList H1.objs.size #[] := ⟨_, hsb₁.extBut _ _ hDC (Heap.get?_push_of_some _ (hH2 ▸ Heap.get?_push_size _ rfl))⟩
  have hIs : s₁.heap.objs.size < H1.objs.size := by rw [hH1s]; exact Nat.lt_succ_self _
  have hID : s₁.heap.objs.size ≠ H1.objs.size := Nat.ne_of_lt hIs
  have hIC : s₁.heap.objs.size ≠ H2.objs.size := (below _ hIs).1
  have far : ∀ b o, s₁.heap.get? b = some o → b ≠ s₁.heap.objs.size ∧ b ≠ H1.objs.size ∧ b ≠ H2.objs.size := fun b o e => by
    have q := Heap.lt_size e
    exact ⟨Nat.ne_of_lt q, Nat.ne_of_lt (Nat.lt_trans q hIs), (below _ (Nat.lt_trans q hIs)).1⟩
  have hst₁ := W.frame _ _ _ st1 fun b _ o e => old b o e
  have ed := (N _ (updF_mem U)).1
  have hCle : s₁.heap.objs.size ≤ H2.objs.size := by rw [hC]; exact Nat.le_succ_of_le (Nat.le_of_lt hIs)
  have hdS : ∀ a ∈ [d], h₀.get? a = none ∧ a ≠ L := fun a ha => by rw [List.mem_singleton.mp ha]; exact ⟨(N _ (updF_mem U)).2.2, (N _ (updF_mem U)).2.1⟩
  have Dnone : s₁.heap.get? H1.objs.size = none := by
    cases e : s₁.heap.get? H1.objs.size with
    | none => rfl
    | some o => exact absurd rfl (far _ _ e).2.1
  have loop : ∀ s₃ : Shared, s₃ = { s₁ with heap := h₁, toks := s₁.toks + ([] : List (Str × Value)).length } →
      codeAny (model prog w) A (.compLoop (.ListComp elt [⟨.Name x px, iter, [], 0⟩] scope pos) 0 (.ref s₁.heap.objs.size) (.ref H1.objs.size) (compEnvC scope cl H2.objs.size env))
        (compPost (model prog w) A E none Q (.ref H1.objs.size) H2.objs.size) s₃ := by
    rintro s₃ rfl
    refine codeAny_compLoop_list (fun k s' => ∃ h' tk m' ys i o', s' = { s₁ with heap := h', toks := tk } ∧ IsRangeIter h' s₁.heap.objs.size (0 + (i : Nat) * 1) ((n : Int) - (i : Nat)) 1 ∧ h'.PlainList H1.objs.size (List.toArray ys) ∧
        h'.Ns H2.objs.size m' ∧ J i ys o' ∧ i ≤ n ∧ k = n + 1 - i ∧ h'.get? d = some o' ∧ KeepBut [d] s₁.heap h') ?_ (n + 1)
      ⟨h₁, _, _, [], 0, o, rfl, hst₁, hacc, hns₁, hJ0, Nat.zero_le _, rfl, old _ _ (k1 _ _ ed), fun b o e _ => old _ _ (k1 _ _ e)⟩
    rintro k s' ⟨h', tk, m', ys, i, o', rfl, hit, hac, hns, hJ, hi, rfl, hd, K⟩
    by_cases hlt : i < n
    · refine W.item i _ _ _ hlt hit fun v h₂ tk₂ hPv hst₂ hk₂ => ?_
      obtain ⟨t, rfl⟩ := hPv
      refine wpAny_assign_Name (wpAny_storeName_local (lookup_relabel_local hx) (hns.at' fun o e => hk₂ _ o (by simpa using hIC.symm) e) (fun h₃ hn₃ hs₃ => ?_) (by simp [compEnvC, relabel, hkind]))
      have up₃ : ∀ b o, b ≠ H2.objs.size → b ≠ s₁.heap.objs.size → h'.get? b = some o → h₃.get? b = some o := fun b o hbC hbI e => hs₃.extBut b o hbC (hk₂ b o (by simpa using hbI) e)
      have K₃ : KeepBut [d] s₁.heap h₃ := fun b o e nd => up₃ b o (far b o e).2.2 (far b o e).1 (K b o e nd)
      have d₃ : h₃.get? d = some o' := up₃ d o' (far _ _ ed).2.2 (far _ _ ed).1 hd
      have hst₃ := W.frame _ _ _ hst₂ fun b hb o e => hs₃.extBut b o (by rw [List.mem_singleton.mp hb]; exact hIC) e
      refine wpAny_mono (turn H2.objs.size i ys o' { s₁ with heap := h₃, toks := tk₂ + 1 } _ _ t hlt hJ hCle hn₃ (by simp) (Mine.Fr.callKeep F K₃ hdS) (news_call N U K₃ d₃) K₃) (fun y s₄ h₄ => ?_) fun _ _ e => e
      obtain ⟨h₄, tk₄, o₄, rfl, K₄, d₄, J₄⟩ := h₄
      have nd : ∀ {b : Addr}, s₁.heap.get? b = none → b ∉ [d] := fun hb q => by rw [List.mem_singleton.mp q, ed] at hb; cases hb
      have In : s₁.heap.get? s₁.heap.objs.size = none := by
        cases e : s₁.heap.get? s₁.heap.objs.size with
        | none => rfl
        | some o => exact absurd rfl (far _ _ e).1
      have Cn : s₁.heap.get? H2.objs.size = none := by
        cases e : s₁.heap.get? H2.objs.size with
        | none => rfl
        | some o => exact absurd rfl (far _ _ e).2.2
      have hyl : (List.toArray ys).size ≤ sizeLine := by rw [List.size_toArray, hJl _ _ _ hJ, sizeLine_eq]; omega
      refine wpAny_list_append_plain (hsz := hyl) (l := H1.objs.size) (hac.at fun o e => K₄ _ o (up₃ _ o hDC hID.symm e) (nd Dnone)) fun h₅ hl₅ hs₅ => ?_
      refine ⟨n + 1 - (i + 1), by omega, h₅, tk₄, _, ys ++ [y], i + 1, o₄, rfl, ?_, by simpa using hl₅, (hn₃.at' fun o e => K₄ _ o e (nd Cn)).sameBut hs₅ hDC.symm, J₄, hlt, rfl, hs₅.extBut d o₄ (far _ _ ed).2.1 d₄, fun b ob e hb => hs₅.extBut b ob (far b ob e).2.1 (K₄ b ob (K₃ b ob e hb) hb)⟩
      exact W.frame _ _ _ hst₃ fun b hb o e => hs₅.extBut b o (by rw [List.mem_singleton.mp hb]; exact hID) (K₄ b o e (by rw [List.mem_singleton.mp hb]; exact nd In))
    · have hin : i = n := by omega
      subst hin
      refine W.done _ _ _ hit fun h₂ tk₂ hk₂ => ?_
      refine ⟨m', hns.at' fun o e => hk₂ _ o (by simpa using hIC.symm) e, fun h₃ hs₃ => ?_⟩
      have up₃ : ∀ b o, b ≠ H2.objs.size → b ≠ s₁.heap.objs.size → h'.get? b = some o → h₃.get? b = some o := fun b o hbC hbI e => hs₃.extBut b o hbC (hk₂ b o (by simpa using hbI) e)
      have K₃ : KeepBut [d] s₁.heap h₃ := fun b o e nd => up₃ b o (far b o e).2.2 (far b o e).1 (K b o e nd)
      have d₃ : h₃.get? d = some o' := up₃ d o' (far _ _ ed).2.2 (far _ _ ed).1 hd
      obtain ⟨k, hpl⟩ := hac
      have NM := news_more (ra := H1.objs.size) F (news_call N U K₃ d₃) (updF_addrs U N) Dnone (up₃ _ _ hDC hID.symm hpl)
      exact done H1.objs.size ys k o' h₃ _ hJ (Mine.Fr.callKeep F K₃ hdS) NM.1 NM.2 K₃ Dnone
  exact codeAny_compStart_list (loop _ rfl) (W.self 0 _ _ _ hst₁ (loop _ rfl))
end
end Mine
namespace Mine
section
variable {prog : Program} {w : World} {A : Around} {E : Value → Shared → Prop} {s : Shared} {env : Env} {h₀ : Heap} {x y : Str} {body : List Stmt} {Q : Flow → Shared → Prop}
/-- what a turn of a loop with a growing ledger must leave: two names may be set -/
inductive GEnd (h₀ : Heap) (L : Addr) (x y : Str) (m₀ : Str → Option Value) (own : List (Addr × Obj)) (J : List (Addr × Obj) → Prop) (s₁ s₂ : Shared) : Prop where
  | mk h' tk m' news' nx
    (c1 : s₂ = { s₁ with heap := h', toks := tk })
    (c2 : Fr h₀ L h' m')
    (c3 : (∀ z, z ≠ x → z ≠ y → m' z = m₀ z))
    (c4 : News h₀ L h' news')
    (c5 : (∀ p ∈ nx, p ∈ news'))
    (c6 : (∀ p ∈ own, p ∈ news'))
    (c7 : TbOff own nx)
    (c8 : J nx)
def GPost (h₀ : Heap) (L : Addr) (x y : Str) (m₀ : Str → Option Value) (own : List (Addr × Obj)) (J : List (Addr × Obj) → Prop) (s₁ : Shared) (Q : Flow → Shared → Prop) (f : Flow) (s₂ : Shared) : Prop :=
  match f with
  | .ret v => Q (.ret v) s₂
  | .brk => Q .next s₂
  | _ => GEnd h₀ L x y m₀ own J s₁ s₂
theorem GEnd.intro {L : Addr} {m₀ m' : Str → Option Value} {own news' nx : List (Addr × Obj)} {J : List (Addr × Obj) → Prop} {s₁ : Shared} {h' : Heap} {tk : Nat}
    (F : Fr h₀ L h' m') (hm : ∀ z, z ≠ x → z ≠ y → m' z = m₀ z) (N : News h₀ L h' news') (h1 : ∀ p ∈ nx, p ∈ news') (h2 : ∀ p ∈ own, p ∈ news') (off : TbOff own nx) (hj : J nx) : GEnd h₀ L x y m₀ own J s₁ { s₁ with heap := h', toks := tk } :=
  ⟨h', tk, m', news', nx, rfl, F, hm, N, h1, h2, off, hj⟩
theorem g_self {m₁ m₀ : Str → Option Value} (h : ∀ z, z ≠ x → z ≠ y → m₁ z = m₀ z) : m₁ = fun z => if z = x then m₁ x else if z = y then m₁ y else m₀ z := by
  funext z
  by_cases e : z = x
  · rw [if_pos e, e]
  · rw [if_neg e]
    by_cases e' : z = y
    · rw [if_pos e', e']
    · rw [if_neg e', h z e e']
theorem g_map {m₁ m₀ : Str → Option Value} {v : Option Value} (h : ∀ z, z ≠ x → z ≠ y → m₁ z = m₀ z) : (fun z => if z = x then v else m₁ z) = fun z => if z = x then v else if z = y then m₁ y else m₀ z := by
  funext z
  by_cases e : z = x
  · rw [if_pos e, if_pos e]
  · rw [if_neg e, if_neg e]
    by_cases e' : z = y
    · rw [if_pos e', e']
    · rw [if_neg e', h z e e']
theorem m_grow_range {r : Addr} {b₀ : Int} {t₀ u₀ v₀ : Tok} {n : Nat} {m₀ : Str → Option Value} {news : List (Addr × Obj)} (J : Nat → List (Addr × Obj) → Prop)
    (hh : A.handled = none) (hr : IsRange s.heap r 0 b₀ 1 t₀ u₀ v₀) (hb : b₀ = (n : Int)) (hsmall : b₀ < 2 ^ 62) (F : Fr h₀ env.locals s.heap m₀) (N : News h₀ env.locals s.heap news) (h0 : J 0 news)
    (turn : ∀ (i : Nat) t wv nx h tk own, i < n → TbOff own nx → J i nx → Fr h₀ env.locals h (fun z => if z = x then some (.int (i : Int) t) else if z = y then wv else m₀ z) → News h₀ env.locals h (nx ++ own) →
      wpAny (model prog w) A (execs body env) (GPost h₀ env.locals x y m₀ own (J (i + 1)) { s with heap := h, toks := tk } Q) E { s with heap := h, toks := tk })
    (done : ∀ u u' nx h tk, J n nx → Fr h₀ env.locals h (fun z => if z = x then u else if z = y then u' else m₀ z) → News h₀ env.locals h nx → Q .next { s with heap := h, toks := tk }) :
    wpAny (model prog w) A (pyIter (.ref r)) (fun it s₂ => LoopAtV prog w A h₀ env x body Q E it s₂) E s := by
  refine m_iter_range (fun i m nx => (∀ z, z ≠ x → z ≠ y → m z = m₀ z) ∧ J i nx) hh hr hb hsmall F N ⟨fun _ _ _ => rfl, h0⟩ ?_ ?_
  · rintro i t m₁ nx h tk own hi off ⟨hm, hp⟩ F₁ N₁
    rw [g_map hm] at F₁
    refine wpAny_mono (turn i t _ nx h tk own hi off hp F₁ N₁) (fun f s₂ p => ?_) fun _ _ e => e
    have fin : GEnd h₀ env.locals x y m₀ own (J (i + 1)) { s with heap := h, toks := tk } s₂ → TbEnd h₀ env.locals (fun m nx => (∀ z, z ≠ x → z ≠ y → m z = m₀ z) ∧ J (i + 1) nx) own { s with heap := h, toks := tk } s₂ := by
      rintro ⟨h', tk', m', news', nx', e, F', hm', N', h1, h2, off', hj⟩
      exact ⟨h', tk', m', news', nx', e, F', N', h1, h2, off', hm', hj⟩
    cases f with
    | ret v => exact p
    | brk => exact p
    | next => exact fin p
    | cont => exact fin p
  · rintro m₁ nx h tk ⟨hm, hp⟩ F₁ N₁
    rw [g_self hm] at F₁
    exact done _ _ nx h tk hp F₁ N₁
end
end Mine

theorem Mine.fresh14 : True := by
  w_top off
  k_with "my call ref" => ((k_here; (with_reducible show wpAny _ _ (call (Value.ref 121) [Value.ref _, Value.int _ _]) _ _ _); k_dflt (refine' Mine.literal_k ?k1qh ?k2qh ?k3qh ?k4qh ?k5qh ?kKqh ?kUqh ?kdqh ?klqh ?kiqh ?knqh ?k0qh ?khqh ?kwqh ?kvqh ?kpqh ?kuqh ?_; (case k1qh => k_asm); (case k2qh => k_asm); (case k3qh => k_asm); (case k4qh => k_asm); (case k5qh => k_asm); (case kKqh => first | exact rfl | assumption); (case kUqh => k_updF); (case kdqh => assumption); (case klqh => is_list); (case kiqh => assumption); (case knqh => k_extra "mine_nat"); (case k0qh => k_extra "mine_nat"); (case khqh => k_extra "mine_nat"); (case kwqh => k_extra "mine_nat"); (case kvqh => k_extra "mine_nat"); (case kpqh => ktr_room); (case kuqh => ktr_units); k_whole; intro r'qz t'qz h'qz tk'qz o'qz t2'qz hr0'qz hr1'qz hr2'qz F'qz N'qz K'qz hd'qz; (try dsimp only at N'qz); (try k_fold)); walk_say "LITERAL"))
  trivial
namespace Mine
def ClauseIn (l : List (Addr × Obj)) (v : Value) (c : List Int) : Prop := ∃ a vs n, v = .ref a ∧ (a, listOf (List.toArray vs) n) ∈ l ∧ IntsAre vs c ∧ c.length ≤ 10 ∧ ∀ k ∈ c, k ≠ 0 ∧ -3 ≤ k ∧ k ≤ 3
def FormIn (l : List (Addr × Obj)) (v : Value) (F : List (List Int)) : Prop := ∃ a cvs n, v = .ref a ∧ (a, listOf (List.toArray cvs) n) ∈ l ∧ All2 (ClauseIn l) cvs F
theorem ClauseIn.mono {l l' : List (Addr × Obj)} {v : Value} {c : List Int} (x : ClauseIn l v c) (h : ∀ q ∈ l, q ∈ l') : ClauseIn l' v c := by
  obtain ⟨a, vs, n, e, hm, r⟩ := x
  exact ⟨a, vs, n, e, h _ hm, r⟩
theorem FormIn.mono {l l' : List (Addr × Obj)} {v : Value} {F : List (List Int)} (x : FormIn l v F) (h : ∀ q ∈ l, q ∈ l') : FormIn l' v F := by
  obtain ⟨a, vs, n, e, hm, r⟩ := x
  exact ⟨a, vs, n, e, h _ hm, r.mono fun _ _ y => y.mono h⟩
/-- what the formula's loop keeps: the clauses made so far, the tape's spot -/
inductive FInv (w : World) (k : Int) (cla tp L1 : Addr) (c1 c2 : Obj) (l : Addr) (i : Nat) (nx : List (Addr × Obj)) : Prop where
  | mk nn cvs Fs add kk kt o'
    (c1 : nx = (l, listOf (List.toArray cvs) nn) :: (L1 + 1 + 1, c2) :: (L1 + 1, c1) :: (tp, o') :: add)
    (c2 : All2 (ClauseIn add) cvs Fs)
    (c3 : cvs.length = i)
    (c4 : k + 1 ≤ kk)
    (c5 : kk ≤ k + 1 + 3 * (i : Int))
    (c6 : o'.IsDictOf (PySem.strKind PG w) [("cells", .ref cla), ("spot", .int kk kt)])
    (c7 : OwnOff add [l, L1 + 1 + 1, L1 + 1, tp])
def LitJ (w : World) (cla : Addr) (k0 : Int) (i : Nat) (ys : List Value) (o' : Obj) : Prop :=
  ∃ ks kt, IntsAre ys ks ∧ ys.length = i ∧ (∀ l ∈ ks, l ≠ 0 ∧ -3 ≤ l ∧ l ≤ 3) ∧ o'.IsDictOf (PySem.strKind PG w) [("cells", .ref cla), ("spot", .int (k0 + (i : Int)) kt)]
theorem LitJ.nil {w : World} {cla : Addr} {k0 : Int} {o' : Obj} {kt : Tok} (h : o'.IsDictOf (PySem.strKind PG w) [("cells", .ref cla), ("spot", .int k0 kt)]) : LitJ w cla k0 0 [] o' :=
  ⟨[], kt, .nil, rfl, (fun _ hl => nomatch hl), by rw [show k0 + ((0 : Nat) : Int) = k0 by omega]; exact h⟩
theorem intsAre_snoc {v : Int} {t : Tok} {vs : List Value} {ns : List Int} (h : IntsAre vs ns) : IntsAre (vs ++ [.int v t]) (ns ++ [v]) := by
  induction h with
  | nil => exact .cons v t .nil
  | cons k t' r ih => exact .cons k t' ih
theorem LitJ.snoc {w : World} {cla : Addr} {k0 r : Int} {i : Nat} {ys : List Value} {o' o'' : Obj} {t kt : Tok} (x : LitJ w cla k0 i ys o') (h0 : r ≠ 0) (h1 : -3 ≤ r) (h2 : r ≤ 3)
    (h : o''.IsDictOf (PySem.strKind PG w) [("cells", .ref cla), ("spot", .int (k0 + (i : Int) + 1) kt)]) : LitJ w cla k0 (i + 1) (ys ++ [.int r t]) o'' := by
  obtain ⟨ks, kt', hi, hl, hb, _⟩ := x
  refine ⟨ks ++ [r], kt, intsAre_snoc hi, by rw [List.length_append, hl]; rfl, fun l hl => ?_, by rw [show k0 + ((i + 1 : Nat) : Int) = k0 + (i : Int) + 1 by omega]; exact h⟩
  rcases List.mem_append.mp hl with q | q
  · exact hb l q
  · rw [List.mem_singleton.mp q]; exact ⟨h0, h1, h2⟩
theorem ownOff_append {a b : List (Addr × Obj)} {l : List Addr} (h : OwnOff a l) (h' : OwnOff b l) : OwnOff (a ++ b) l := fun p hp c hc => (List.mem_append.mp hp).elim (fun q => h p q c hc) (fun q => h' p q c hc)
theorem ownOff_cons {a : List (Addr × Obj)} {D : Addr} {l : List Addr} (hD : ∀ p ∈ a, p.1 ≠ D) (h : OwnOff a l) : OwnOff a (D :: l) := fun p hp c hc => by
  rcases List.mem_cons.mp hc with rfl | hc
  · exact hD p hp
  · exact h p hp c hc
theorem tbOff_pre {own pre add : List (Addr × Obj)} (h : TbOff own (pre ++ add)) : OwnOff own (pre.map (·.1)) := fun p hp c hc => by
  obtain ⟨q, hq, rfl⟩ := List.mem_map.mp hc
  exact h p hp q (List.mem_append_left _ hq)
theorem formula_turn {w : World} {k kk : Int} {cla tp L1 l D : Addr} {c1 c2 o2 : Obj} {i nn kx : Nat} {cvs ys : List Value} {ks : List Int} {Gs : List (List Int)} {add own : List (Addr × Obj)} {h₀ h' : Heap} {m₀ m' : Str → Option Value} {x y : Str} {s₁ : Shared} {tk : Nat} {kt : Tok}
    (F : Fr h₀ L1 h' m') (hm : ∀ z, z ≠ x → z ≠ y → m' z = m₀ z) (N : News h₀ L1 h' ((D, listOf ys.toArray kx) :: (l, listOf (cvs.toArray.push (.ref D)) nn) :: (L1 + 1 + 1, c2) :: (L1 + 1, c1) :: (tp, o2) :: (add ++ own)))
    (hcv : All2 (ClauseIn add) cvs Gs) (hcl : cvs.length = i) (hi : IntsAre ys ks) (hlen : ks.length ≤ 10) (hb : ∀ l ∈ ks, l ≠ 0 ∧ -3 ≤ l ∧ l ≤ 3) (h0 : k + 1 ≤ kk) (h1 : kk ≤ k + 1 + 3 * ((i + 1 : Nat) : Int))
    (D9 : o2.IsDictOf (PySem.strKind PG w) [("cells", .ref cla), ("spot", .int kk kt)]) (hoff : OwnOff (add ++ own) [D, l, L1 + 1 + 1, L1 + 1, tp]) (off : ∀ p ∈ own, ∀ q ∈ add, p.1 ≠ q.1) (e1 : l ≠ D) (e2 : L1 + 1 + 1 ≠ D) (e3 : L1 + 1 ≠ D) (e4 : tp ≠ D) :
    GEnd h₀ L1 x y m₀ own (FInv w k cla tp L1 c1 c2 l (i + 1)) s₁ { s₁ with heap := h', toks := tk } := by
  refine GEnd.intro (nx := (l, listOf (List.toArray (cvs ++ [.ref D])) nn) :: (L1 + 1 + 1, c2) :: (L1 + 1, c1) :: (tp, o2) :: (D, listOf ys.toArray kx) :: add) F hm N ?_ ?_ ?_ ?_
  · intro q hq
    rw [show (List.toArray (cvs ++ [.ref D])) = cvs.toArray.push (.ref D) by simp] at hq
    simp only [List.mem_cons, List.mem_append] at hq ⊢
    rcases hq with q | q | q | q | q | q <;> simp [q]
  · intro q hq; simp only [List.mem_cons, List.mem_append]; simp [hq]
  · intro p hp q hq
    rcases List.mem_cons.mp hq with rfl | hq
    · exact hoff p (List.mem_append_right _ hp) _ (by simp)
    rcases List.mem_cons.mp hq with rfl | hq
    · exact hoff p (List.mem_append_right _ hp) _ (by simp)
    rcases List.mem_cons.mp hq with rfl | hq
    · exact hoff p (List.mem_append_right _ hp) _ (by simp)
    rcases List.mem_cons.mp hq with rfl | hq
    · exact hoff p (List.mem_append_right _ hp) _ (by simp)
    rcases List.mem_cons.mp hq with rfl | hq
    · exact hoff p (List.mem_append_right _ hp) _ (by simp)
    · exact off p hp q hq
  · refine ⟨nn, cvs ++ [.ref D], Gs ++ [ks], (D, listOf ys.toArray kx) :: add, kk, kt, o2, rfl, ?_, ?_, h0, h1, D9, ?_⟩
    · exact (hcv.mono fun _ _ q => q.mono fun _ hp => .tail _ hp).append (.cons ⟨D, ys, kx, rfl, .head _, hi, hlen, hb⟩ .nil)
    · simp [hcl]
    · intro p hp c hc
      rcases List.mem_cons.mp hp with rfl | hp
      · rcases List.mem_cons.mp hc with rfl | hc
        · exact fun z => e1 z.symm
        rcases List.mem_cons.mp hc with rfl | hc
        · exact fun z => e2 z.symm
        rcases List.mem_cons.mp hc with rfl | hc
        · exact fun z => e3 z.symm
        · rw [List.mem_singleton.mp hc]; exact fun z => e4 z.symm
      · exact hoff p (List.mem_append_left _ hp) c (.tail _ hc)
theorem formula_c (w : World) {p : Program} {loose : List Str} {mean : ExcName → Option Value} {mg mb : Str → Option Value}
    (dp un : Nat) (gd : Option (List Code)) (cn : Str) (cs : Scope) (a : Addr) (ccd : Value) (cl : List (Str × Addr)) (outer : List Env) (A₀ : Around) (base h₀ : Heap) (L : Addr) (m : Str → Option Value) (s : Shared)
    (tp cla : Addr) (o : Obj) (vs : List Value) (ns : List Int) (k many : Int) (tk wt : Tok) (Q E : Value → Shared → Prop)
    (B : Below A₀ base outer h₀) (F : Fr h₀ L s.heap m) (X : (hd.heap_39 w.params).In h₀) (N : News h₀ L s.heap [(tp, o)]) (T : Top p loose mean mg mb h₀) (hk : cs.kind = .function)
    (hd : o.IsDictOf (PySem.strKind PG w) [("cells", .ref cla), ("spot", .int k tk)])
    (hl : s.heap.IsList cla vs.toArray) (hi : IntsAre vs ns) (hlen : ns.length ≤ 60) (hk0 : 0 ≤ k) (hk1 : k ≤ 900) (hw0 : 0 < many) (hw1 : many ≤ 3)
    (hdp : dp + 3 < recursionLimit) (hun : un + 300 < cLine)
    (hret : ∀ f Fm add k' t' o' h' tk', k ≤ k' → k' ≤ k + 7 → Fr h₀ L h' m → KeepBut [tp] s.heap h' → h'.get? tp = some o' → o'.IsDictOf (PySem.strKind PG w) [("cells", .ref cla), ("spot", .int k' t')] →
      FormIn add (.ref f) Fm → (∀ q ∈ add, h'.get? q.1 = some q.2 ∧ s.heap.get? q.1 = none) → Q (.ref f) { s with heap := h', toks := tk' }) :
    wpAny (model PG w) (ktrTop dp un gd cn cs L a ccd cl outer) (call (.ref 126) [.ref tp, .int many wt]) Q E s := by
  suffices h : Mine.hd.heap_39 = Mine.hd.heap_39 → PySem.Challenge.rw_nu0263_01 = PySem.Challenge.rw_nu0263_01 → wpAny (model PG w) (ktrTop dp un gd cn cs L a ccd cl outer) (call (.ref 126) [.ref tp, .int many wt]) Q E s from h rfl rfl
  k_fill
  intro _ _
  have hne : cla ≠ tp := by
    obtain ⟨es, ep, hx, _⟩ := id hd
    exact list_ne_dict hl (N.get (.head _)) hx.1
  refine wpAny_call ?_
  walk_at "mine_enterC"
  rename_i g1 L1 hh1 tk1 FG1 F1 B1 X1 T1 kG' l1 c2 c1 d2 d1 N1
  have hl' := isList_keep (S := [tp]) kG' hl (by simpa using hne)
  k_extra "mine_steps"
  all_goals (try (exfalso; omega))
  all_goals (
    rename Fr _ _ _ _ => F5
    rename News _ _ _ _ => N5
    rename IsRange _ _ _ _ _ _ _ _ => R5
    rename Obj.IsDictOf _ _ _ => D5
    with_unfolding_all refine' m_grow_range (y := Str.ofString "lap") (FInv w k cla tp L1 c1 c2 _) rfl R5 (Int.toNat_of_nonneg ?hb).symm ?hsmall F5 N5 ⟨_, [], [], [], _, _, _, rfl, .nil, rfl, Int.le_refl _, by omega, D5, fun _ hp => nomatch hp⟩ ?turn ?done
    case hb => omega
    case hsmall => omega
    case turn =>
      clear F5 N5 R5 D5
      rintro i t wv nx h tk own hi9 off ⟨nn, cvs, Fs, add, kk, kt, o9, rfl, hcv, hcl, hkk0, hkk1, D5, hoff⟩ F6 N6
      have off1 := tbOff_pre (pre := [(_, listOf (List.toArray cvs) nn), (L1 + 1 + 1, c2), (L1 + 1, c1), (tp, o9)]) (add := add) off
      replace hoff := ownOff_append hoff off1
      simp only [List.cons_append] at N6
      have hi3 : (i : Int) < 2 := by omega
      k_extra "mine_stepsL"
      rename Fr _ _ _ _ => F7
      refine m_listCompE tp (LitJ w cla (kk + 1)) F7 rfl (by with_unfolding_all rfl) (by decide) rfl (by decide) rfl ?_ (fun _ => by with_unfolding_all rfl)
      k_extra "mine_stepsL"
      all_goals (try (exfalso; omega))
      all_goals (
        rename Fr _ _ _ _ => F8
        rename News _ _ _ _ => N8
        rename IsRange _ _ _ _ _ _ _ _ => R8
        rename Obj.IsDictOf _ _ _ => D8
        with_unfolding_all refine' CompEFrom.intro R8 (Int.toNat_of_nonneg ?hb2).symm ?hsmall2 F8 N8 ?U2 (LitJ.nil D8) ?len2 ?turn2 ?done2
        case U2 => k_updF
        case len2 => rintro i ys o' ⟨_, _, _, z, _⟩; exact z
        case hb2 => omega
        case hsmall2 => omega
        case turn2 =>
          clear F8 N8 R8 D8 F7
          rintro C i2 ys o2 s₃ m₃ E' t2 hi2 hJ hC hNs hmx F9 N9 K9
          obtain ⟨ks9, kt9, hi9', hl9, hb9, D9⟩ := id hJ
          k_extra "mine_stepsL"
          rename Obj.IsDictOf _ _ _ => D10
          rename News _ _ _ _ => N10
          exact ⟨_, _, _, rfl, by assumption, N10.get (by k_mem), hJ.snoc (by assumption) (by omega) (by omega) D10⟩
        case done2 =>
          clear F8 N8 R8 D8 F7
          rintro D ys kx o2 h2 tk2 hJ F9 N9 hD K9 hDn
          obtain ⟨ks9, kt9, hi9', hl9, hb9, D9⟩ := id hJ
          try dsimp only at N9
          try dsimp only at hD
          have hDo := hD.out
          obtain ⟨e1, e2, e3, e4, _⟩ := hD
          replace hoff := ownOff_cons (D := D) (fun p hp => hDo p (by simp only [List.mem_cons]; exact .inr (.inr (.inr (.inr hp))))) hoff
          k_extra "mine_stepsL"
          rename Fr _ _ _ _ => F10
          rename News _ _ _ _ => N10
          show GEnd _ _ _ _ _ _ _ _ _
          refine formula_turn F10 (fun z z1 z2 => by simp [z1]) N10 hcv hcl hi9' (by rw [← hi9'.length, hl9]; omega) hb9 ?_ ?_ D9 hoff (fun p hp q hq => off p hp q (by simp [hq])) e1 e2 e3 e4
          · omega
          · omega)
    case done =>
      clear F5 N5 R5 D5
      rintro u u' nx h tk ⟨nn, cvs, Gs, add, kk, kt, o9, rfl, hcv, hcl, hkk0, hkk1, D5, hoff⟩ F6 N6
      k_extra "mine_steps"
      rename Fr h₀ _ _ _ => F9
      rename News h₀ _ _ _ => N9
      refine hret _ Gs ((_, listOf (List.toArray cvs) nn) :: add) kk kt o9 _ _ (by omega) (by omega) F9 (keepBut_of kG' F6) (N9.get (by k_mem)) D5 ⟨_, cvs, nn, rfl, .head _, hcv.mono fun _ _ q => q.mono fun _ hp => .tail _ hp⟩ ?_
      intro q hq
      rcases List.mem_cons.mp hq with rfl | hq
      · exact ⟨(N9 _ (.head _)).1, fresh_call kG' N6 (.head _) (fun z => (neN (by omega) : _ ≠ tp) (List.mem_singleton.mp z))⟩
      · exact ⟨(N9 _ (.tail _ (.tail _ (.tail _ (.tail _ hq))))).1, fresh_call (ra := q.1) (x := q.2) kG' N6 (.tail _ (.tail _ (.tail _ (.tail _ hq)))) (fun z => hoff q hq tp (by simp) (List.mem_singleton.mp z))⟩)
theorem formula_k {w : World} {p : Program} {loose : List Str} {mean : ExcName → Option Value} {mg mb : Str → Option Value}
    {dp un : Nat} {gd : Option (List Code)} {cn : Str} {cs : Scope} {a : Addr} {ccd : Value} {cl : List (Str × Addr)} {outer : List Env} {A₀ : Around} {base h₀ : Heap} {L : Addr} {m : Str → Option Value} {s : Shared}
    {tp cla : Addr} {o : Obj} {vs : List Value} {ns : List Int} {k many : Int} {tk wt : Tok} {Q E : Value → Shared → Prop} {news : List (Addr × Obj)} {u : Obj → List (Addr × Obj)}
    (B : Below A₀ base outer h₀) (F : Fr h₀ L s.heap m) (X : (hd.heap_39 w.params).In h₀) (N : News h₀ L s.heap news) (T : Top p loose mean mg mb h₀) (hk : cs.kind = .function)
    (U : UpdF tp o news u) (hd : o.IsDictOf (PySem.strKind PG w) [("cells", .ref cla), ("spot", .int k tk)])
    (hl : s.heap.IsList cla vs.toArray) (hi : IntsAre vs ns) (hlen : ns.length ≤ 60) (hk0 : 0 ≤ k) (hk1 : k ≤ 900) (hw0 : 0 < many) (hw1 : many ≤ 3)
    (hdp : dp + 3 < recursionLimit) (hun : un + 300 < cLine)
    (hret : ∀ f Fm add k' t' o' h' tk', k ≤ k' → k' ≤ k + 7 → Fr h₀ L h' m → News h₀ L h' (u o' ++ add) → KeepBut [tp] s.heap h' → o'.IsDictOf (PySem.strKind PG w) [("cells", .ref cla), ("spot", .int k' t')] →
      FormIn add (.ref f) Fm → TbOff add (u o') → Q (.ref f) { s with heap := h', toks := tk' }) :
    wpAny (model PG w) (ktrTop dp un gd cn cs L a ccd cl outer) (call (.ref 126) [.ref tp, .int many wt]) Q E s :=
  formula_c w dp un gd cn cs a ccd cl outer A₀ base h₀ L m s tp cla o vs ns k many tk wt Q E B F X (Mine.News.one N (updF_mem U)) T hk hd hl hi hlen hk0 hk1 hw0 hw1 hdp hun
    fun f Fm add k' t' o' h' tk' h0 h1 F' K e d hf hadd => by
      have N1 := news_call N U K e
      refine hret f Fm add k' t' o' h' tk' h0 h1 F' (fun q hq => ?_) K d hf (fun q hq c hc z => ?_)
      · rcases List.mem_append.mp hq with hq | hq
        · exact N1 q hq
        · exact (news_more (ra := q.1) (x := q.2) F N1 (updF_addrs U N) (hadd q hq).2 (hadd q hq).1).1 _ (.head _)
      · obtain ⟨x, hx⟩ := updF_addrs U N c hc
        rw [← z, (hadd q hq).2] at hx; cases hx
end Mine

theorem Mine.fresh15 : True := by
  w_top off
  k_with "my call ref" => ((k_here; (with_reducible show wpAny _ _ (call (Value.ref 126) [Value.ref _, Value.int _ _]) _ _ _); k_dflt (refine' Mine.formula_k ?k1qh ?k2qh ?k3qh ?k4qh ?k5qh ?kKqh ?kUqh ?kdqh ?klqh ?kiqh ?knqh ?k0qh ?khqh ?kwqh ?kvqh ?kpqh ?kuqh ?_; (case k1qh => k_asm); (case k2qh => k_asm); (case k3qh => k_asm); (case k4qh => k_asm); (case k5qh => k_asm); (case kKqh => first | exact rfl | assumption); (case kUqh => k_updF); (case kdqh => assumption); (case klqh => is_list); (case kiqh => first | assumption | l_ints); (case knqh => k_extra "mine_nat"); (case k0qh => k_extra "mine_nat"); (case khqh => k_extra "mine_nat"); (case kwqh => k_extra "mine_nat"); (case kvqh => k_extra "mine_nat"); (case kpqh => ktr_room); (case kuqh => ktr_units); k_whole; intro f'qz Fm'qz add'qz kk'qz t'qz o'qz h'qz tk'qz hkk0'qz hkk1'qz F'qz N'qz K'qz hd'qz hf'qz ho'qz; (try dsimp only at N'qz); (try dsimp only at ho'qz); (try k_fold)); walk_say "FORMULA"))
  k_with "my call type:range" => ((k_here; (with_reducible show wpAny _ _ (call _ [Value.int _ _]) _ _ _); (rename Fr _ _ _ _ => F'qz); (rename News _ _ _ _ => N'qz); (with_unfolding_all refine range1_rows F'qz N'qz ?_); intro _ _ _ _ _ _ _ _ _; walk_say "RANGE"))
  k_with "my call ref" => ((k_here; (with_reducible show wpAny _ _ (call (Value.ref 114) [Value.ref _, Value.int _ _]) _ _ _); k_dflt (refine' Mine.next_k ?k1qh ?k2qh ?k3qh ?k4qh ?k5qh ?kKqh ?kUqh ?kdqh ?klqh ?kiqh ?knqh ?k0qh ?khqh ?kwqh ?kvqh ?kpqh ?kuqh ?_; (case k1qh => k_asm); (case k2qh => k_asm); (case k3qh => k_asm); (case k4qh => k_asm); (case k5qh => k_asm); (case kKqh => first | exact rfl | assumption); (case kUqh => k_updF); (case kdqh => assumption); (case klqh => is_list); (case kiqh => l_ints); (case knqh => simp only [List.length_cons, List.length_nil]; omega); (case k0qh => k_extra "mine_nat"); (case khqh => k_extra "mine_nat"); (case kwqh => k_extra "mine_nat"); (case kvqh => k_extra "mine_nat"); (case kpqh => ktr_room); (case kuqh => ktr_units); k_whole; intro r'qz t'qz h'qz tk'qz o'qz t2'qz hr0'qz hr1'qz F'qz N'qz K'qz hd'qz; (try dsimp only at N'qz); (try k_fold)); walk_say "NEXT2"))
  k_with "my call ref" => ((k_here; (with_reducible show wpAny _ _ (call (Value.ref 114) [Value.ref _, Value.int _ _]) _ _ _); k_dflt (refine' Mine.next_k ?k1qh ?k2qh ?k3qh ?k4qh ?k5qh ?kKqh ?kUqh ?kdqh ?klqh ?kiqh ?knqh ?k0qh ?khqh ?kwqh ?kvqh ?kpqh ?kuqh ?_; (case k1qh => k_asm); (case k2qh => k_asm); (case k3qh => k_asm); (case k4qh => k_asm); (case k5qh => k_asm); (case kKqh => first | exact rfl | assumption); (case kUqh => k_updF); (case kdqh => assumption); (case klqh => is_list); (case kiqh => assumption); (case knqh => k_extra "mine_nat"); (case k0qh => k_extra "mine_nat"); (case khqh => k_extra "mine_nat"); (case kwqh => k_extra "mine_nat"); (case kvqh => k_extra "mine_nat"); (case kpqh => ktr_room); (case kuqh => ktr_units); k_whole; intro r'qz t'qz h'qz tk'qz o'qz t2'qz hr0'qz hr1'qz F'qz N'qz K'qz hd'qz; (try dsimp only at N'qz); (try k_fold)); walk_say "NEXT"))
  trivial
namespace Mine
section
open PySem.Sem (wp)
open PySem.AutoSeq1 (wpAny_loadPart')
variable {prog : Program} {w : World} {A : Around} {E : Value → Shared → Prop} {s : Shared}
theorem m_collect_range {Q : List Value → Shared → Prop} {r : Addr} {a b c : Int} {t u v : Tok} {n : Nat} (hh : A.handled = none) (hr : IsRange s.heap r a b c t u v) (hsmall : Builtin.Range.small a b c = true)
    (hn : Builtin.Range.rangeSize a b c = n) (hlen : n ≤ 2 ^ 24)
    (hQ : ∀ h' tk acc, (∀ b o', s.heap.get? b = some o' → h'.get? b = some o') → ItemsOf (fun i v => ∃ t, v = .int (a + i * c) t) acc n → Q acc.toList { s with heap := h', toks := tk }) :
    wpAny (model prog w) A (collect (.ref r)) Q E s := by
  unfold collect
  refine wpAny_bind (wpAny_runValue (codeAny_builtin F.entry_proto_collect ?_))
  rw [Around.under_plainId F.plain_proto_collect _]
  show wpAny _ A.in1 (newList [] >>= fun l => again (.builtin "list.__iadd__" ⟨[l, .ref r], []⟩)) _ _ s
  refine wpAny_bind (wpAny_newObj_type ?_)
  refine wpAny_pure ⟨plainId_quiet F.plain_list_iadd _, codeAny_builtin F.entry_list_iadd ?_⟩
  rw [Around.under_plainId F.plain_list_iadd _]
  show wpAny _ A.in1 (Builtin.List.listExtendWith (.ref s.heap.objs.size) (.ref r) (.ref s.heap.objs.size)) _ _ _
  have hS : (s.heap.push { cls := .type "list", data := .seq ([] : List Value).toArray }).get? s.heap.objs.size = some { cls := .type "list", data := .seq #[] 0 } := Heap.get?_push_size _ rfl
  have fin' : ∀ (r' : Result) (s' : Shared), (∃ h' tk acc' c', r' = .ok (.ret (.ref s.heap.objs.size)) ∧ s' = { s with heap := h', toks := tk } ∧ (∀ b o, b ≠ s.heap.objs.size → (s.heap.push { cls := .type "list", data := .seq ([] : List Value).toArray }).get? b = some o → h'.get? b = some o) ∧
      h'.get? s.heap.objs.size = some { cls := .type "list", dict := none, data := .seq acc' c', slots := #[] } ∧ ItemsOf (fun i v => ∃ t, v = .int (a + i * c) t) acc' n) → ∀ v, r' = .ok (.ret v) →
      wpAny (model prog w) A (match v with
      | Value.ref a => do
        match (← load a).data with
          | Data.seq xs _ => pure xs.toList
          | _ => unsupported "internal:collect"
      | _ => unsupported "internal:collect") Q E s' := by
    rintro _ _ ⟨h', tk, acc', c', rfl, rfl, hk, hS', hacc⟩ v ev
    cases ev
    show wpAny _ A (load s.heap.objs.size >>= _) _ _ _
    refine wpAny_bind (wpAny_load hS' ?_)
    refine wpAny_pure ?_
    exact hQ h' tk acc' (fun b o' hb => hk b o' (Nat.ne_of_lt (Heap.lt_size hb)) (Heap.get?_push_of_some _ hb)) hacc
  refine wpAny_mono (wpAny_extend_range (A := A) (R := fun r' s' => ∃ h' tk acc' c', r' = .ok (.ret (.ref s.heap.objs.size)) ∧ s' = { s with heap := h', toks := tk } ∧ (∀ b o, b ≠ s.heap.objs.size → (s.heap.push { cls := .type "list", data := .seq ([] : List Value).toArray }).get? b = some o → h'.get? b = some o) ∧
      h'.get? s.heap.objs.size = some { cls := .type "list", dict := none, data := .seq acc' c', slots := #[] } ∧ ItemsOf (fun i v => ∃ t, v = .int (a + i * c) t) acc' n)
    (s := { s with heap := s.heap.push { cls := .type "list", data := .seq ([] : List Value).toArray } }) hh (Heap.get?_push_of_some _ hr) hsmall hn hlen s.heap.objs.size (.ref s.heap.objs.size) 0 hS fun h' tk acc' c' hk hS' hacc => ⟨h', tk, acc', c', rfl, rfl, hk, hS', hacc⟩) (fun fin s' h => ?_) (fun e s' h => ?_)
  · cases fin with
    | done f =>
      obtain ⟨h', tk, acc', c', e, r⟩ := id h
      cases e
      exact fin' _ _ h _ rfl
    | again c' => exact ⟨h.1, codeAny_mono h.2 fun r s'' hr => by
        obtain ⟨h', tk, acc', c', e, r'⟩ := id hr
        subst e
        exact fin' _ _ hr _ rfl⟩
  · obtain ⟨_, _, _, _, e, _⟩ := h
    cases e
theorem m_meets_tuple_range (r : Addr) (a b c : Int) (t u v : Tok) (n : Nat) (hsmall : Builtin.Range.small a b c = true)
    (hn : Builtin.Range.rangeSize a b c = n) (hlen : n ≤ 2 ^ 24) :
    Meets (Builtin.«tuple.__new__» ⟨[.type "tuple", .ref r], []⟩)
      (fun A R s => A.handled = none ∧ IsRange s.heap r a b c t u v ∧ ∀ (h' : Heap) tk (acc : Array Value), (∀ b o, s.heap.get? b = some o → h'.get? b = some o) → ItemsOf (fun i v => ∃ t, v = .int (a + i * c) t) acc n →
        R (.ok (.ret (.ref h'.objs.size))) { s with heap := h'.push { cls := .type "tuple", data := .seq acc }, toks := tk }) :=
  .of_wp fun prog w A R s h => by
    obtain ⟨hp, g, d, tk, os⟩ := s
    obtain ⟨hh, hr, h⟩ := h
    have hsub := sub_tuple_self
    have hinit := init_tuple_lookup
    have hmh := madeHere_tuple
    have hT : Shared.TypeIs ⟨hp, g, d, tk, os⟩ (.ref r) "range" := ⟨_, hr, rfl⟩
    have hh1 : A.in1.handled = none := hh
    wp_walk using wpAny_loadPart' hr, wpAny_typeOf hT, m_collect_range (hlen := hlen) hh1 hr hsmall hn
    intro h' tk' acc hk hacc
    show wpAny _ _ (Builtin.Tuple.tupleExact acc.toList.toArray >>= fun v => ret v) _ _ _
    unfold Builtin.Tuple.tupleExact
    have hsz : (2 : Nat) ^ 24 ≤ sizeLine := by rw [sizeLine_eq]; decide
    refine wpAny_bind (wpAny_newObj_type ?_ (show acc.toList.toArray.size ≤ sizeLine by simp only [Array.toArray_toList]; rw [hacc.1]; exact Nat.le_trans hlen hsz))
    refine wpAny_pure ⟨_, rfl, ?_⟩
    have e : acc.toList.toArray = acc := by simp
    rw [e]
    exact h h' tk' acc hk hacc
theorem m_call_tuple_range {Q : Value → Shared → Prop} {r : Addr} {a b c : Int} {t u v : Tok} {n : Nat} (hh : A.handled = none) (hr : IsRange s.heap r a b c t u v) (hsmall : Builtin.Range.small a b c = true)
    (hn : Builtin.Range.rangeSize a b c = n) (hlen : n ≤ 2 ^ 24)
    (h : ∀ (h' : Heap) tk (acc : Array Value), (∀ b o, s.heap.get? b = some o → h'.get? b = some o) → ItemsOf (fun i v => ∃ t, v = .int (a + i * c) t) acc n → Q (.ref h'.objs.size) { s with heap := h'.push { cls := .type "tuple", data := .seq acc }, toks := tk }) :
    wpAny (model prog w) A (call (.type "tuple") [.ref r]) Q E s := by
  refine callType_new F.called_tuple (by decide) (F.typeCall_tuple_1 _) (F.newCall_tuple_1 _) (fun obj => F.args_object_init_2 obj _) F.entry_tuple_new
    (m_meets_tuple_range r a b c t u v n hsmall hn hlen) ⟨hh, hr, fun h' tk acc hk hacc => ⟨⟨_, Heap.get?_push_size _ rfl, rfl⟩, ?_⟩⟩
  exact h h' tk acc hk hacc
variable {h₀ : Heap} {L : Addr} {m : Str → Option Value} {news : List (Addr × Obj)}
theorem m_rsize (n : Nat) : Builtin.Range.rangeSize 0 (n : Int) 1 = (n : Int) := by
  unfold Builtin.Range.rangeSize
  rw [if_pos (by decide)]
  by_cases h : (0 : Int) < (n : Int)
  · rw [if_pos h]; omega
  · rw [if_neg h]; omega
/-- tuple(range(n)) -/
theorem m_tupleRange {Q : Value → Shared → Prop} {r : Addr} {b : Int} {t u v : Tok} (hh : A.handled = none) (F : Fr h₀ L s.heap m) (N : News h₀ L s.heap news) (hr : IsRange s.heap r 0 b 1 t u v) (hb : 0 ≤ b) (hz : b ≤ 1000)
    (h : ∀ D us h' tk, Fr h₀ L h' m → News h₀ L h' ((D, tupObj us 0) :: news) → (∀ p ∈ news, p.1 < D) → IntsAre us (rangeKs 0 b.toNat) → Q (.ref D) { s with heap := h', toks := tk }) :
    wpAny (model prog w) A (call (.type "tuple") [.ref r]) Q E s := by
  have e : b = (b.toNat : Int) := (Int.toNat_of_nonneg hb).symm
  rw [e] at hr
  refine m_call_tuple_range hh hr (small_one (by decide) (by decide) (by omega) (by omega)) (m_rsize _) (by omega) fun h' tk acc hk hI => ?_
  refine h _ acc.toList _ tk ((F.keeps hk).push _) ?_ (fun p hp => Heap.lt_size (N.grown hk p hp).1) (kll_ints _ _ _ (by rw [Array.length_toList]; exact hI.1) fun j v hj => hI.2 j v (by rw [← hj, Array.getElem?_toList]))
  have := (N.grown hk).push (F.keeps hk) { cls := .type "tuple", data := .seq acc }
  rwa [show tupObj acc.toList 0 = { cls := .type "tuple", data := .seq acc } by simp [tupObj]]
end
end Mine

theorem Mine.fresh16 : True := by
  w_top off
  k_with "my eval Name" => ((k_here; (with_reducible show wpAny _ _ (eval (Expr.Name (Str.ofString "case") _) _) _ _ _); k_dflt (refine' nameX_F ?Nqh ?cqh ?mqh ?dqh ?_ ?aqh ?bqh; (case aqh => rfl); (case bqh => rfl); (case Nqh => k_asm); (case cqh => rfl); (case mqh => k_mem); (case dqh => k_asm); k_whole)))
  k_with "my call ref" => ((k_here; (with_reducible show wpAny _ _ (call (Value.ref 148) [Value.ref _, Value.ref _]) _ _ _); (rename Mine.Dat.Ok _ => ok9qz); k_dflt (refine' Mine.told_k _ ?k1qh ?k2qh ?k3qh ?k4qh ?k5qh ?kKqh ?kUqh ?kmqh ?kdqh ok9qz ?kIqh ?kwqh ?kvqh ?kaqh ?kl0qh ?kl1qh ?ksqh ?kiqh ?klqh ?kbqh ?kpqh ?kuqh ?_ ?_; (case k1qh => k_asm); (case k2qh => k_asm); (case k3qh => k_asm); (case k4qh => k_asm); (case k5qh => k_asm); (case kKqh => first | exact rfl | assumption); (case kdqh => assumption); (case kUqh => k_updF); (case kmqh => k_mem); (case kIqh => k_extra "mine_inh"); (case kwqh => omega); (case kvqh => omega); (case kaqh => assumption); (case kl0qh => omega); (case kl1qh => omega); (case ksqh => k_extra "mine_tup"); (case kiqh => first | assumption | l_ints); (case klqh => k_extra "mine_len"); (case kbqh => k_extra "mine_nums"); (case kpqh => ktr_room); (case kuqh => ktr_units); k_whole); walk_say "TOLD"))
  trivial
namespace Mine
def askArgs : Arguments := { posonlyargs := [], args := [{ arg := Str.ofString "some", annotation := none, pos := { line := 116, col := 17, endLine := 116, endCol := 21 } }], vararg := none, kwonlyargs := [], kw_defaults := [], kwarg := none, defaults := [] }
def askBody : List Stmt := [Stmt.Return (some ((Expr.Name (Str.ofString "_law_told") { line := 117, col := 15, endLine := 117, endCol := 24 }).Call
          [Expr.Name (Str.ofString "case") { line := 117, col := 25, endLine := 117, endCol := 29 }, Expr.Name (Str.ofString "some") { line := 117, col := 31, endLine := 117, endCol := 35 }]
          [] { line := 117, col := 15, endLine := 117, endCol := 36 })) { line := 117, col := 8, endLine := 117, endCol := 36 }]
def askScope : Scope := { kind := ScopeKind.function, names := [(Str.ofString "some", NameKind.local), (Str.ofString "case", NameKind.free), (Str.ofString "_law_told", NameKind.globalImplicit)], isGenerator := false, isCoroutine := false }
abbrev askFn (cca c' : Addr) (doc pm ctv : Value) : Obj := fnMade (Str.ofString "_law_ask") (Str.ofString "law.<locals>._law_ask") askArgs askBody askScope [(Str.ofString "case", cca)] doc pm c' ctv
section
variable {prog : Program} {w : World} {A A₀ : Around} {s : Shared} {K : Frag} {L : Addr} {h₀ base : Heap} {m mg mb : Str → Option Value} {news : List (Addr × Obj)} {p : Program} {loose : List Str} {mean : ExcName → Option Value}
/-- a nested def is entered; the ground keeps all that the ledger does not name -/
theorem m_code_nest {env : Env} {outer : List Env} {R : Result → Shared → Prop} {name qual : Str} {params : Arguments} {body : List Stmt} {scope : Scope} {cl : List (Str × Addr)} {doc pm ctv : Value} {c' : Addr} {f : Addr} {args : Args} {binds : List (Str × Value)}
    (B : Below A₀ base outer h₀) (F : Fr h₀ L s.heap m) (X₀ : K.In h₀) (N : News h₀ L s.heap news) (T : Top p loose mean mg mb h₀) (hA : A.frames = some (env :: outer)) (hf : env.frame = some L) (hke : env.scope.kind = .function)
    (ho : s.heap.get? f = some (fnMade name qual params body scope cl doc pm c' ctv)) (hcd : s.heap.CodeRec (.ref c') qual) (hroom : A.depth < recursionLimit)
    (hbind : BindsTo s (fnX name qual params body scope cl .none .none doc pm none (.ref c') ctv) args binds) (hloc : ∀ y ∈ binds, scope.names.lookup y.1 = some .local)
    (h : ∀ g L' h₁, Fr h₀ L g m → Fr g L' h₁ (fun y => binds.reverse.lookup y) → News g L' h₁ news → Below A base (env :: outer) g → K.In g → Top p loose mean mg mb g → GSub s.heap g (news.map (·.1)) →
      wpAny (model prog w) (A.deeper (envX qual scope L' f (.ref c') cl)) (execs body (envX qual scope L' f (.ref c') cl))
        (fun fl s' => LeaveK h₀ L m g R (match fl with | .ret v => v | _ => .none) s')
        (fun e s' => wpAny (model prog w) (A.deeper (envX qual scope L' f (.ref c') cl)) (leaving (envX qual scope L' f (.ref c') cl) e) (fun _ s'' => R (.error e) s'') (fun e' s'' => R (.error e') s'') s')
        { s with heap := h₁, toks := s.toks + binds.length })
    (hco : scope.isCoroutine = false) (hgen : scope.isGenerator = false) (hk : scope.kind = .function)
    (hcell : ∀ x ∈ scope.names, x.2 ≠ .cell) : codeAny (model prog w) A (.call (.ref f) args) R s := by
  obtain ⟨FG, BG, st, lv⟩ := groundX (R := R) B F N hA hf hke
  refine codeAny_call_def (fd := fnX name qual params body scope cl .none .none doc pm none (.ref c') ctv) (body := body) (binds := binds) hroom ho rfl (T.nolimit.keeps F.keep) hcd rfl hbind hcell hloc (fun h₁ hns hk₁ => ?_) hco hgen hk
  exact wpAny_mono (h _ s.heap.objs.size h₁ FG ⟨hns, fun b o e => hk₁ b o (of_hideAll _ e), Nat.le_of_eq (hideAll_size _ _)⟩
    (fun p hp => ⟨hk₁ _ _ (N p hp).1, Nat.ne_of_lt (Heap.lt_size (N p hp).1), hideAll_none _ (List.mem_map_of_mem hp)⟩) BG (X₀.keeps st) (T.keeps st) (fun b o e n => hideAll_get _ e n)) (fun fl s' hl => lv _ _ hl) fun _ _ y => y
end
theorem ask_c (w : World) {p : Program} {loose : List Str} {mean : ExcName → Option Value} {mg mb : Str → Option Value}
    (dp un : Nat) (gd : Option (List Code)) (cn : Str) (cs : Scope) (a : Addr) (ccd : Value) (cl : List (Str × Addr)) (outer : List Env) (A₀ : Around) (base h₀ : Heap) (L : Addr) (m : Str → Option Value) (s : Shared)
    (D : Dat) (fk c' cca ca aa sa : Addr) (doc pm ctv : Value) (o cco : Obj) (way limit : Int) (t1 t2 t3 : Tok) (svs avs : List Value) (an : Nat) (ns : List Int) (Q E : Value → Shared → Prop)
    (B : Below A₀ base outer h₀) (F : Fr h₀ L s.heap m) (X : (hd.heap_39 w.params).In h₀) (N : News h₀ L s.heap [(cca, cco), (aa, listOf avs.toArray an), (ca, o)]) (T : Top p loose mean mg mb h₀) (hk : cs.kind = .function)
    (hfk : s.heap.get? fk = some (askFn cca c' doc pm ctv)) (hrec : s.heap.CodeRec (.ref c') (Str.ofString "law.<locals>._law_ask")) (hcco : cco.data = .cell (some (.ref ca)))
    (hd : o.IsDictOf (PySem.strKind PG w) [("many", .int D.many t1), ("formulas", .ref D.fa), ("granted", .ref D.ga), ("asked", .ref aa), ("way", .int way t2), ("limit", .int limit t3)])
    (ok : D.Ok) (hI : InH D.I [aa, ca] s.heap) (hIc : InH D.I [cca] s.heap) (hw0 : 0 ≤ way) (hw1 : way ≤ 2) (hav : avs.length ≤ 500) (hlm0 : 0 ≤ limit) (hlm1 : limit ≤ 10)
    (hs : s.heap.IsTuple sa svs.toArray) (hsi : IntsAre svs ns) (hsl : ns.length ≤ 5) (hsb : D.Nums ns)
    (hdp : dp + 5 < recursionLimit) (hun : un + 500 < cLine)
    (hret : ∀ ra fa b fvs fs n n' an' h' tk', Fr h₀ L h' m → KeepBut [aa] s.heap h' → h'.get? aa = some (listOf (avs ++ [Value.ref sa]).toArray an') → s.heap.get? ra = none → s.heap.get? fa = none → ra ≠ fa →
      h'.get? ra = some (tupObj [.bool b, .ref fa] n) → h'.get? fa = some (tupObj fvs n') → IntsAre fvs fs → b = !D.can ns → (b = true → List.Sublist fs ns ∧ D.can fs = false) → ((avs.length + 1 : Nat) : Int) ≠ limit → Q (.ref ra) { s with heap := h', toks := tk' })
    (hraise : ∀ e an' h' tk', Flown h₀ L m base (envX cn cs L a ccd cl :: outer) s.heap [cca, aa, ca] [(cca, cco), (aa, listOf (avs ++ [Value.ref sa]).toArray an'), (ca, o)] e h' → ((avs.length + 1 : Nat) : Int) = limit → E (.ref e) { s with heap := h', toks := tk' }) :
    wpAny (model PG w) (ktrTop dp un gd cn cs L a ccd cl outer) (call (.ref fk) [.ref sa]) Q E s := by
  suffices h : Mine.hd.heap_39 = Mine.hd.heap_39 → PySem.Challenge.rw_nu0263_01 = PySem.Challenge.rw_nu0263_01 → wpAny (model PG w) (ktrTop dp un gd cn cs L a ccd cl outer) (call (.ref fk) [.ref sa]) Q E s from h rfl rfl
  k_fill
  intro _ _
  have hac : aa ≠ ca := by
    obtain ⟨es, ep, hx, _⟩ := id hd
    exact seq_ne_dict (.inl (News.isList N (.tail _ (.head _)))) (N.get (.tail _ (.tail _ (.head _)))) hx.1
  have hsa : sa ≠ aa := by
    rintro rfl
    obtain ⟨x, e, hc, _⟩ := hs
    rw [N.get (.tail _ (.head _))] at e
    cases e
    simp at hc
  have hsc : sa ≠ ca := by
    obtain ⟨es, ep, hx, _⟩ := id hd
    exact seq_ne_dict (.inr hs) (N.get (.tail _ (.tail _ (.head _)))) hx.1
  have hss : sa ≠ cca := by
    rintro rfl
    obtain ⟨x, e, _, _, hc⟩ := hs
    rw [N.get (.head _)] at e
    cases e
    rw [hcco] at hc; cases hc
  have hca : cca ≠ aa := by
    rintro rfl
    have e := N.get (.tail _ (.head _))
    rw [N.get (.head _)] at e
    cases e
    cases hcco
  have hcc : cca ≠ ca := by
    rintro rfl
    obtain ⟨es, ep, hx, hdt, _⟩ := id hd
    have e := N.get (.tail _ (.tail _ (.head _)))
    rw [N.get (.head _)] at e
    cases e
    rw [hcco] at hdt; cases hdt
  refine wpAny_call ?_
  refine' m_code_nest ?k1 ?k2 ?k3 ?k4 ?k5 ?kA ?kF ?kK hfk hrec ?k8 ?k9 ?kB ?_ ?c2 ?c3 ?c4 ?c5; (case kA => exact rfl); (case kF => exact rfl); (case kK => assumption); (case k1 => k_asm); (case k2 => k_asm); (case k3 => k_asm); (case k4 => k_asm); (case k5 => k_asm); (case k8 => ktr_room); (case k9 => exact BindsTo.of_eq rfl); (case c5 => decide); (case kB => exact locs rfl); (case c2 => exact rfl); (case c3 => exact rfl); (case c4 => exact rfl); intro g1 L1 h1 FG1 F1 N1 B1 X1 T1 kG'; (try dsimp only)
  have hsg : IsTup g1 sa svs.toArray := isTup_keep (S := [cca, aa, ca]) kG' hs (by simp [hsa, hsc, hss])
  have hI3 : InH D.I [cca, aa, ca] s.heap := fun b o e => ⟨(hI b o e).1, fun q => by
    rcases List.mem_cons.mp q with q | q
    · exact (hIc b o e).2 (by simp [q])
    · exact (hI b o e).2 q⟩
  have hIg' := hI3.ground kG'
  have hIg : InH D.I [aa, ca] g1 := hIg'.sub fun a ha => .tail _ ha
  replace hac := neN hac
  replace hca := neN hca
  replace hcc := neN hcc
  k_extra "mine_steps"
  · rename News g1 _ _ _ => N8
    rename Fr g1 _ _ _ => F8
    rename News h₀ _ _ _ => N9
    rename Fr h₀ _ _ _ => F9
    rename IntsAre _ _ => I9
    rename _ = !D.can ns => b9
    rename AllNe _ (_ :: _ :: _ :: _ :: []) => hr9
    rename AllNe _ (_ :: _ :: _ :: []) => hf9
    obtain ⟨r1, r2, r3, r4, _⟩ := hr9
    obtain ⟨f2, f3, f4, _⟩ := hf9
    have k9 := keepBut_drop (S := [aa, ca]) (keepBut_of (S := [cca, aa, ca]) kG' F8) (fun a ha => by simpa using ha) (N.get (.head _)) (N9.get (by k_mem))
    have k8 := keepBut_drop (S := [aa]) k9 (fun a ha => by simpa [or_comm] using ha) (N.get (.tail _ (.tail _ (.head _)))) (N9.get (by k_mem))
    refine hret _ _ _ _ _ _ _ _ _ _ F9 k8 (N9.get (.tail _ (.tail _ (.tail _ (.head _))))) (fresh_call kG' N8 (.head _) ?_) (fresh_call kG' N8 (.tail _ (.head _)) ?_) (fun z => r1 z.symm) (N9.get (.head _)) (N9.get (.tail _ (.head _))) I9 b9 (by assumption) (by assumption)
    · intro q
      simp only [List.map_cons, List.map_nil, List.mem_cons, List.not_mem_nil, or_false] at q
      rcases q with q | q | q
      · exact r2 q.symm
      · exact r3 q.symm
      · exact r4 q.symm
    · intro q
      simp only [List.map_cons, List.map_nil, List.mem_cons, List.not_mem_nil, or_false] at q
      rcases q with q | q | q
      · exact f2 q.symm
      · exact f3 q.symm
      · exact f4 q.symm
  · rename Flown _ _ _ _ _ _ _ _ _ _ => X9
    refine m_leave_on B1 X9 rfl fun h9 t9 vs9 R9 U9 => ?_
    exact hraise _ _ _ _ ⟨_, _, _, FG1, kG', R9, U9⟩ (by assumption)
theorem news_eq {h₀ h : Heap} {L a : Addr} {o : Obj} {news : List (Addr × Obj)} {q : Addr × Obj} (N : News h₀ L h news) (hm : (a, o) ∈ news) (hq : q ∈ news) (e : q.1 = a) : q = (a, o) := by
  have y1 := (N q hq).1
  have y2 := (N _ hm).1
  rw [e] at y1; dsimp only at y2; rw [y1] at y2
  obtain ⟨q1, q2⟩ := q
  dsimp only at e y2
  rw [e, Option.some.inj y2]
theorem ask_k {w : World} {p : Program} {loose : List Str} {mean : ExcName → Option Value} {mg mb : Str → Option Value}
    {dp un : Nat} {gd : Option (List Code)} {cn : Str} {cs : Scope} {a : Addr} {ccd : Value} {cl : List (Str × Addr)} {outer : List Env} {A₀ : Around} {base h₀ : Heap} {L : Addr} {m : Str → Option Value} {s : Shared}
    (D : Dat) {fk c' cca ca aa sa : Addr} {doc pm ctv : Value} {o cco : Obj} {way limit : Int} {t1 t2 t3 : Tok} {svs avs : List Value} {an : Nat} {ns : List Int} {Q E : Value → Shared → Prop} {news : List (Addr × Obj)} {u : Obj → List (Addr × Obj)}
    (B : Below A₀ base outer h₀) (F : Fr h₀ L s.heap m) (X : (hd.heap_39 w.params).In h₀) (N : News h₀ L s.heap news) (T : Top p loose mean mg mb h₀) (hk : cs.kind = .function)
    (U : UpdF aa (listOf avs.toArray an) news u) (hm : (ca, o) ∈ news) (hmc : (cca, cco) ∈ news)
    (hfk : s.heap.get? fk = some (askFn cca c' doc pm ctv)) (hrec : s.heap.CodeRec (.ref c') (Str.ofString "law.<locals>._law_ask")) (hcco : cco.data = .cell (some (.ref ca)))
    (hd : o.IsDictOf (PySem.strKind PG w) [("many", .int D.many t1), ("formulas", .ref D.fa), ("granted", .ref D.ga), ("asked", .ref aa), ("way", .int way t2), ("limit", .int limit t3)])
    (ok : D.Ok) (hI : InH D.I [cca, aa, ca] s.heap) (hw0 : 0 ≤ way) (hw1 : way ≤ 2) (hav : avs.length ≤ 500) (hlm0 : 0 ≤ limit) (hlm1 : limit ≤ 10)
    (hs : s.heap.IsTuple sa svs.toArray) (hsi : IntsAre svs ns) (hsl : ns.length ≤ 5) (hsb : D.Nums ns)
    (hdp : dp + 5 < recursionLimit) (hun : un + 500 < cLine)
    (hret : ∀ ra fa b fvs fs n n' an' h' tk', Fr h₀ L h' m → News h₀ L h' ((ra, tupObj [.bool b, .ref fa] n) :: (fa, tupObj fvs n') :: u (listOf (avs ++ [Value.ref sa]).toArray an')) → KeepBut [aa] s.heap h' →
      AllNe ra ((fa, tupObj fvs n') :: u (listOf (avs ++ [Value.ref sa]).toArray an')) → AllNe fa (u (listOf (avs ++ [Value.ref sa]).toArray an')) → IntsAre fvs fs → b = !D.can ns → (b = true → List.Sublist fs ns ∧ D.can fs = false) → ((avs.length + 1 : Nat) : Int) ≠ limit → Q (.ref ra) { s with heap := h', toks := tk' })
    (hraise : ∀ e an' h' tk', Flown h₀ L m base (envX cn cs L a ccd cl :: outer) s.heap (news.map (·.1)) (u (listOf (avs ++ [Value.ref sa]).toArray an')) e h' → ((avs.length + 1 : Nat) : Int) = limit → E (.ref e) { s with heap := h', toks := tk' }) :
    wpAny (model PG w) (ktrTop dp un gd cn cs L a ccd cl outer) (call (.ref fk) [.ref sa]) Q E s := by
  have ha := updF_mem U
  refine ask_c w dp un gd cn cs a ccd cl outer A₀ base h₀ L m s D fk c' cca ca aa sa doc pm ctv o cco way limit t1 t2 t3 svs avs an ns Q E B F X (fun q hq => ?_) T hk hfk hrec hcco hd ok (hI.sub fun a ha => .tail _ ha) (hI.sub fun a ha => by rw [List.mem_singleton.mp ha]; exact .head _) hw0 hw1 hav hlm0 hlm1 hs hsi hsl hsb hdp hun ?_ ?_
  · rcases List.mem_cons.mp hq with rfl | hq
    · exact N _ hmc
    rcases List.mem_cons.mp hq with rfl | hq
    · exact N _ ha
    · rw [List.mem_singleton.mp hq]; exact N _ hm
  · intro ra fa b fvs fs n n' an' h' tk' F' K ea hra hfa hne era efa hi hb hc hl
    have N1 := news_call N U K ea
    have N2 := news_more (ra := fa) F N1 (updF_addrs U N) hfa efa
    have N3 := news_more (ra := ra) F N1 (updF_addrs U N) hra era
    refine hret ra fa b fvs fs n n' an' h' tk' F' (fun q hq => ?_) K ⟨neN hne.symm, N3.2⟩ N2.2 hi hb hc hl
    rcases List.mem_cons.mp hq with rfl | hq
    · exact N3.1 _ (.head _)
    · exact N2.1 q hq
  · intro e an' h' tk' fl hl
    refine hraise e an' h' tk' (Flown.more B N fl rfl ?_ ?_) hl
    · intro b hb
      rcases List.mem_cons.mp hb with rfl | hb
      · exact List.mem_map_of_mem hmc
      rcases List.mem_cons.mp hb with rfl | hb
      · exact List.mem_map_of_mem ha
      · rw [List.mem_singleton.mp hb]; exact List.mem_map_of_mem hm
    · intro q hq
      rcases updF_cases U q hq with rfl | ⟨z, zn⟩
      · exact .inl (.tail _ (.head _))
      · by_cases hc : q.1 = ca
        · left; rw [news_eq N hm z hc]; exact .tail _ (.tail _ (.head _))
        · by_cases hc2 : q.1 = cca
          · left; rw [news_eq N hmc z hc2]; exact .head _
          · exact .inr ⟨z, fun y => by
              rcases List.mem_cons.mp y with y | y
              · exact hc2 y
              rcases List.mem_cons.mp y with y | y
              · exact zn y
              · exact hc (List.mem_singleton.mp y)⟩
end Mine

theorem Mine.fresh17 : True := by
  w_top off
  trivial
namespace Mine
/-- is this value an int of these -/
def inP (fs : List Int) : Value → Bool
  | .int k _ => decide (k ∈ fs)
  | _ => false
theorem ints_filter {q : Int → Bool} {p : Value → Bool} (hp : ∀ k t, p (.int k t) = q k) {vs : List Value} {ns : List Int} (h : IntsAre vs ns) : IntsAre (vs.filter p) (ns.filter q) := by
  induction h with
  | nil => exact .nil
  | cons k t r ih =>
    rw [List.filter_cons, List.filter_cons, hp]
    cases q k with
    | true => exact .cons k t ih
    | false => exact ih
theorem any_mem (fs : List Int) (k : Int) : (fs.any (· == k)) = decide (k ∈ fs) := by
  rw [Bool.eq_iff_iff, List.any_eq_true]
  simp
theorem any_memS (fs : List Str) (k : Str) : (fs.any (· == k)) = decide (k ∈ fs) := by
  rw [Bool.eq_iff_iff, List.any_eq_true, decide_eq_true_eq]
  constructor
  · rintro ⟨x, hx, e⟩
    rw [← (beq_iff_eq.mp e)]; exact hx
  · intro hx
    exact ⟨k, hx, beq_iff_eq.mpr rfl⟩
section
variable {prog : Program} {w : World} {A : Around} {E : Value → Shared → Prop} {s : Shared}
theorem m_in {l : Addr} {vs : List Value} {ns : List Int} {k : Int} {t : Tok} {Q : Value → Shared → Prop} (hl : SeqAt s.heap l vs) (hi : IntsAre vs ns) (h : Q (.bool (decide (k ∈ ns))) s) : wpAny (model prog w) A (compareOp .In (.int k t) (.ref l)) Q E s := by
  rcases hl with hl | hl
  · exact in_list_ints hl hi (by rw [any_mem]; exact h)
  · exact in_tuple_ints (items := vs.toArray) hl hi (by rw [any_mem]; exact h)
theorem m_notin {l : Addr} {vs : List Value} {ns : List Int} {k : Int} {t : Tok} {Q : Value → Shared → Prop} (hl : SeqAt s.heap l vs) (hi : IntsAre vs ns) (h : Q (.bool (!decide (k ∈ ns))) s) : wpAny (model prog w) A (compareOp .NotIn (.int k t) (.ref l)) Q E s := by
  rcases hl with hl | hl
  · exact notin_list_ints hl hi (by rw [any_mem]; exact h)
  · exact notin_tuple_ints (items := vs.toArray) hl hi (by rw [any_mem]; exact h)
variable {env : Env} {h₀ : Heap} {L : Addr} {m : Str → Option Value}
/-- as CompFrom, over a range from nought -/
inductive CompFromR (prog : Program) (w : World) (A : Around) (env : Env) (scope : Scope) (cl : List (Str × Addr)) (x : Str) (ifs : List Expr) (elt : Expr) (h₀ : Heap) (L : Addr) (m : Str → Option Value) (p : Value → Bool) (R : Value → Value → Prop) (Q : Value → Shared → Prop) (xv : Value) (s₁ : Shared) : Prop where
  | mk (ax : Addr) (n : Nat) (b : Int) (t₀ u₀ v₀ : Tok) (news : List (Addr × Obj))
    (c1 : xv = .ref ax)
    (c2 : IsRange s₁.heap ax 0 b 1 t₀ u₀ v₀)
    (c3 : b = (n : Int))
    (c4 : n ≤ 1000)
    (c5 : Fr h₀ L s₁.heap m)
    (c6 : News h₀ L s₁.heap news)
    (c7 : (∀ C (i : Nat) t s₃ m₃ E', i < n → s₁.heap.objs.size ≤ C → s₃.heap.Ns C m₃ → m₃ x = some (.int (i : Int) t) → (∀ b o, s₁.heap.get? b = some o → s₃.heap.get? b = some o) → Fr h₀ L s₃.heap m → News h₀ L s₃.heap news →
      wpAny (model prog w) A (testsOf ifs (compEnvC scope cl C env)) (fun ok s₄ => ok = p (.int (i : Int) t) ∧ Keeps s₃ s₄) E' s₃))
    (c8 : (∀ C (i : Nat) t s₃ m₃ E', i < n → p (.int (i : Int) t) = true → s₁.heap.objs.size ≤ C → s₃.heap.Ns C m₃ → m₃ x = some (.int (i : Int) t) → (∀ b o, s₁.heap.get? b = some o → s₃.heap.get? b = some o) → Fr h₀ L s₃.heap m → News h₀ L s₃.heap news →
      wpAny (model prog w) A (eval elt (compEnvC scope cl C env)) (fun y s₄ => R (.int (i : Int) t) y ∧ Keeps s₃ s₄) E' s₃))
    (c9 : (∀ D vs ys k h' tk, IntsAre vs (rangeKs 0 n) → Fr h₀ L h' m → News h₀ L h' ((D, listOf ys.toArray k) :: news) → AllNe D news → Paired R (vs.filter p) ys → KeepBut [] s₁.heap h' → s₁.heap.get? D = none → Q (.ref D) { s₁ with heap := h', toks := tk }))
theorem m_listCompR {elt iter : Expr} {x : Str} {px : Pos} {ifs : List Expr} {scope : Scope} {cl : List (Str × Addr)} {pos : Pos} {Q : Value → Shared → Prop} (p : Value → Bool) (R : Value → Value → Prop)
    (_F : Fr h₀ L s.heap m) (hh : A.handled = none) (hclos : closureFor scope env = pure cl) (hcell : ∀ y ∈ scope.names, y.2 ≠ .cell) (hkind : scope.kind = .function)
    (hnames : ∀ y ∈ scope.names, y.2 = .local → scope.names.lookup y.1 = some .local) (hx : scope.names.lookup x = some .local)
    (h : wpAny (model prog w) A (eval iter env) (fun xv s₁ => CompFromR prog w A env scope cl x ifs elt h₀ L m p R Q xv s₁) E s)
    (hs : ∀ x, foldedSetIterable iter env x = pure x) :
    wpAny (model prog w) A (eval (.ListComp elt [⟨.Name x px, iter, ifs, 0⟩] scope pos) env) Q E s := by
  refine wpAny_ListComp_free p R hclos hcell hkind hnames hx (wpAny_mono h (fun xv s₁ h₁ => ?_) fun _ _ e => e) hs
  obtain ⟨ax, n, b, t₀, u₀, v₀, news, rfl, hr, rfl, hsz, F, N, ht, he, hd⟩ := h₁
  have hlt : ax < s₁.heap.objs.size := Heap.lt_size hr
  have hsm : Builtin.Range.small 0 (n : Int) 1 = true := small_one (by decide) (by decide) (by omega) (by omega)
  refine wpAny_pyIter_range hr hsm ?_
  rw [m_rsize]
  generalize hit : ({ cls := .type "range_iterator", data := .fields #[rawInt 0, rawInt (n : Int), rawInt 1] } : Obj) = it
  have W := (Walks.range (prog := prog) (w := w) hh s₁.heap.objs.size 0 1 n)
  have hst : IsRangeIter (s₁.heap.push it) s₁.heap.objs.size (0 + ((0 : Nat) : Int) * 1) ((n : Int) - ((0 : Nat) : Int)) 1 := by
    show IsRangeIter _ _ _ _ _
    rw [← hit]
    simpa using Heap.get?_push_size _ rfl
  have up : ∀ (h' : Heap), (∀ b o, b ∉ [s₁.heap.objs.size] → (s₁.heap.push it).get? b = some o → h'.get? b = some o) → ∀ b o, s₁.heap.get? b = some o → h'.get? b = some o :=
    fun h' hk b o e => hk b o (fun hm => absurd (Heap.lt_size e) (by rw [List.mem_singleton.mp hm]; exact Nat.lt_irrefl _)) (Heap.get?_push_of_some _ e)
  have le : ∀ C, (s₁.heap.push it).objs.size ≤ C → s₁.heap.objs.size ≤ C := fun C q => Nat.le_of_succ_le (by simpa [Heap.size_push] using q)
  refine ⟨s₁.heap.objs.size, [s₁.heap.objs.size], [s₁.heap.objs.size], n, fun i v => i < n ∧ ∃ t, v = .int (0 + (i : Int) * 1) t, fun i h => IsRangeIter h s₁.heap.objs.size (0 + (i : Nat) * 1) ((n : Int) - (i : Nat)) 1, rfl, W.bound, ?_, hst, ?_, ⟨?_, ?_⟩, ?_⟩
  · rw [sizeLine_eq]; omega
  · intro b hb
    rw [List.mem_singleton.mp hb, Heap.size_push]
    exact Nat.lt_succ_self _
  · rintro C i v s₃ m₃ E' hC ⟨hi, t, rfl⟩ hn hm hk _
    have k := up _ hk
    rw [show (0 : Int) + (i : Int) * 1 = (i : Int) by omega] at hm ⊢
    exact ht C i t s₃ m₃ E' hi (le C hC) hn hm k (F.keeps k) (N.grown k)
  · rintro C i v s₃ m₃ E' hC ⟨hi, t, rfl⟩ hp hn hm hk _
    have k := up _ hk
    rw [show (0 : Int) + (i : Int) * 1 = (i : Int) by omega] at hm hp ⊢
    exact he C i t s₃ m₃ E' hi hp (le C hC) hn hm k (F.keeps k) (N.grown k)
  · intro D h' tk ys vs hnew _ hpl hlen hP hF hk
    have k := up _ hk
    obtain ⟨nn, hpl⟩ := hpl
    have hnone : s₁.heap.get? D = none := by
      cases e : s₁.heap.get? D with
      | none => rfl
      | some o => rw [Heap.get?_push_of_some _ e] at hnew; cases hnew
    have far : ∀ q ∈ news, q.1 ≠ D := fun q hq z => by rw [← z, (N q hq).1] at hnone; cases hnone
    obtain ⟨oL, _, _, eL, _⟩ := id F.ns
    refine hd D vs ys.toList nn h' tk (kll_ints _ _ _ hlen fun j v hj => (hP j v hj).2) (F.keeps k) ?_ (allNe_of far) hF (fun b o e _ => k b o e) hnone
    intro q hq
    rcases List.mem_cons.mp hq with rfl | hq
    · refine ⟨by simpa using hpl, fun (z : D = L) => ?_, ?_⟩
      · rw [z, eL] at hnone; cases hnone
      · show h₀.get? D = none
        cases e : h₀.get? D with
        | none => rfl
        | some o => have := F.keep _ _ e; rw [hnone] at this; cases this
    · exact N.grown k q hq
end
abbrev Asc (ns : List Int) : Prop := ns.Pairwise (· < ·)
theorem sub_filter {fs ns : List Int} (h : fs.Sublist ns) (ha : Asc ns) : ns.filter (fun k => decide (k ∈ fs)) = fs := by
  induction h with
  | slnil => rfl
  | cons a h ih =>
    have ha' := List.pairwise_cons.mp ha
    rw [List.filter_cons, if_neg, ih ha'.2]
    intro q
    have := ha'.1 a (h.subset (of_decide_eq_true q))
    omega
  | @cons_cons l₁ l₂ a h ih =>
    have ha' := List.pairwise_cons.mp ha
    rw [List.filter_cons, if_pos (by simp)]
    congr 1
    rw [← ih ha'.2]
    apply List.filter_congr
    intro k hk
    have := ha'.1 k hk
    simp only [List.mem_cons, ih ha'.2]
    have : k ≠ a := by omega
    simp [this]
abbrev finEs (P : Params) (k1 k2 k3 : Tok) (fk : Addr) (n : Int) (tn : Tok) (b : Bool) : List DictEntry :=
  [{ hash := PyData.keyHash P (Str.ofString "ask"), key := .str (Str.ofString "ask") k1, val := .ref fk },
   { hash := PyData.keyHash P (Str.ofString "many"), key := .str (Str.ofString "many") k2, val := .int n tn },
   { hash := PyData.keyHash P (Str.ofString "is_least"), key := .str (Str.ofString "is_least") k3, val := .bool b }]
/-- the six objects of the ledger are six -/
structure Six (fk fd dd cca aa ca : Nat) : Prop where
  h1 : fk ≠ fd
  h2 : fk ≠ dd
  h3 : fk ≠ cca
  h4 : fk ≠ aa
  h5 : fk ≠ ca
  h6 : fd ≠ dd
  h7 : fd ≠ cca
  h8 : fd ≠ aa
  h9 : fd ≠ ca
  h10 : dd ≠ cca
  h11 : dd ≠ aa
  h12 : dd ≠ ca
  h13 : cca ≠ aa
  h14 : cca ≠ ca
  h15 : aa ≠ ca
/-- a source: a list, or a range from nought -/
def SrcAt (h : Heap) (a : Addr) (ns : List Int) : Prop := (∃ vs, h.IsList a (List.toArray vs) ∧ IntsAre vs ns) ∨ (∃ b t u v, IsRange h a 0 b 1 t u v ∧ 0 ≤ b ∧ b ≤ 5 ∧ ns = rangeKs 0 b.toNat)
theorem SrcAt.ground {h g : Heap} {a : Addr} {ns : List Int} {S : List Addr} (x : SrcAt h a ns) (G : GSub h g S) (n : a ∉ S) : SrcAt g a ns := by
  rcases x with ⟨vs, hl, hi⟩ | ⟨b, t, u, v, hr, r⟩
  · exact .inl ⟨vs, isList_keep (S := S) G hl n, hi⟩
  · exact .inr ⟨b, t, u, v, G _ _ hr n, r⟩
theorem codeRec_ground {h g : Heap} {c : Addr} {q : Str} {S : List Addr} (G : GSub h g S) (x : h.CodeRec (.ref c) q) (n : c ∉ S) : g.CodeRec (.ref c) q := by
  obtain ⟨a, o, vs, t, e, ho, r⟩ := x
  cases e
  exact ⟨_, o, vs, t, rfl, G _ _ ho n, r⟩
theorem RaisedS.sub {base G : Heap} {l : List Env} {e t : Addr} {cls : Value} {vs : List Value} {news news' : List (Addr × Obj)} {h : Heap} (R : RaisedS base G l e cls t vs news h) (hs : ∀ q ∈ news', q ∈ news) : RaisedS base G l e cls t vs news' h := by
  obtain ⟨⟨B, hB, hBG, hl, hfl, hnew⟩, htup⟩ := R
  exact ⟨⟨B, hB, hBG, fun q hq => hl q (hs q hq), hfl, hnew⟩, htup⟩
theorem named {vs : List Value} {ns : List Int} (_ : IntsAre vs ns) : ∃ vs' ns', vs' = vs ∧ ns' = ns := ⟨_, _, rfl, rfl⟩
/-- what failed_of gives back -/
def FoRes (D : Dat) (H h' : Heap) (ns : List Int) (r : Value) (qa : Addr) : Prop :=
  (r = .none ∧ D.can ns = true) ∨ (∃ fa fvs fs n, r = .ref fa ∧ H.get? fa = none ∧ h'.get? fa = some (tupObj fvs n) ∧ IntsAre fvs fs ∧ fs.Sublist ns ∧ D.can fs = false ∧ D.can ns = false ∧ fa ≠ qa)
theorem fresh2 {H g h : Heap} {S : List Addr} {L ra : Addr} {x : Obj} {news : List (Addr × Obj)} (G : GSub H g S) (N : News g L h news) (hm : (ra, x) ∈ news) (hS : AllNe ra (S.map fun a => (a, x))) : H.get? ra = none :=
  fresh_call G N hm fun q => (hS.out (ra, x) (List.mem_map.mpr ⟨ra, q, rfl⟩)) rfl
theorem keepBut_drops {h h' : Heap} {L : Addr} {h₀ g : Heap} {L' : Addr} {news news' : List (Addr × Obj)} {S : List Addr} (K : KeepBut (news.map (·.1)) h h') (N : News h₀ L h news) (N' : News g L' h' news') (hs : ∀ p ∈ news, p ∈ news' ∨ p.1 ∈ S) : KeepBut S h h' := fun b o e n => by
  by_cases hb : b ∈ news.map (·.1)
  · obtain ⟨p, hp, rfl⟩ := List.mem_map.mp hb
    rcases hs p hp with q | q
    · have := (N p hp).1
      rw [e] at this; cases this
      exact (N' p q).1
    · exact absurd q n
  · exact K b o e hb
end Mine

theorem Mine.fresh18 : True := by
  w_top off
  k_with "my callWith ref" => ((k_here; (try dsimp only); (with_reducible show wpAny _ _ (callWith _ (Value.ref _) _ _ _) _ _ _); k_dflt (refine' callWith_F ?k1qh ?_; (case k1qh => exact FnAt.of (by k_asm) (by k_mem)); k_whole); walk_say "CALLWITH FN"))
  k_with "my call ref" => ((k_here; (try dsimp only [List.nil_append, List.cons_append]); (with_reducible show wpAny _ _ (call (Value.ref _) [Value.ref _]) _ _ _); (rename Mine.Dat.Ok _ => ok9qz); k_dflt (refine' Mine.ask_k _ ?k1qh ?k2qh ?k3qh ?k4qh ?k5qh ?kKqh ?kUqh ?kmqh ?kmcqh ?kfqh ?krqh ?kccqh ?kdqh ok9qz ?kIqh ?kwqh ?kvqh ?kaqh ?kl0qh ?kl1qh ?ksqh ?kiqh ?klqh ?kbqh ?kpqh ?kuqh ?_ ?_; (case k1qh => k_asm); (case k2qh => k_asm); (case k3qh => k_asm); (case k4qh => k_asm); (case k5qh => k_asm); (case kKqh => first | exact rfl | assumption); (case kfqh => exact News.get (by k_asm) (by k_mem)); (case krqh => exact PySem.Heap.CodeRec.keeps (by assumption) (Fr.keep (by k_asm))); (case kdqh => assumption); (case kUqh => k_updF); (case kmqh => k_mem); (case kccqh => assumption); (case kmcqh => k_mem); (case kIqh => k_extra "mine_inh"); (case kwqh => omega); (case kvqh => omega); (case kaqh => assumption); (case kl0qh => omega); (case kl1qh => omega); (case ksqh => k_extra "mine_tup"); (case kiqh => first | assumption | l_ints); (case klqh => k_extra "mine_len"); (case kbqh => k_extra "mine_nums"); (case kpqh => ktr_room); (case kuqh => ktr_units); k_whole); (intro ra'qz fa'qz b'qz fvs'qz fs'qz n1'qz n2'qz an'qz h'qz tk'qz F'qz N'qz K'qz ne1'qz ne2'qz hi'qz hb'qz hc'qz hl'qz); (try simp only [Mine.AllNe, and_true] at ne1'qz ne2'qz); (try dsimp only at N'qz); walk_say "ASK"))
  k_with "my call type:tuple" => ((k_here; (with_reducible show wpAny _ _ (call (Value.type _) [Value.ref _]) _ _ _); k_dflt (refine' Mine.m_tupleRange ?k0qh ?k1qh ?k2qh ?k3qh ?k4qh ?k5qh ?_; (case k0qh => rfl); (case k1qh => k_asm); (case k2qh => k_asm); (case k3qh => first | assumption | exact Fr.keep (by k_asm) _ _ (by assumption)); (case k4qh => omega); (case k5qh => omega); k_whole); (intro D'qz us'qz h'qz tk'qz F'qz N'qz l1qz hi'qz); (try k_lt l1qz); walk_say "TUPLE RANGE"))
  k_with "mine_seq2" => (first | exact Or.inr (News.isTup (by k_asm) (by k_mem)) | exact Or.inl (by is_list) | assumption | exact Mine.SeqAt.mono (by assumption) (fun o e => Fr.keep (by k_asm) _ _ e))
  k_with "my compareOp In int ref" => ((k_here; (with_reducible show wpAny _ _ (compareOp CmpOp.In (Value.int _ _) (Value.ref _)) _ _ _); (refine' Mine.m_in ?k1qh ?k2qh ?_; (case k1qh => k_extra "mine_seq2"); (case k2qh => assumption)); walk_say "IN"))
  k_with "mine_at" => ((repeat (first | exact List.Mem.head _ | refine List.Mem.tail _ ?_)))
  k_with "my getMethod ref" => ((k_here; (with_reducible show wpAny _ _ (getMethod (Value.ref _) (Str.ofString "ask") _) _ _ _); k_dflt (refine' kmu_own ?k1qh ?k2qh ?k3qh ?k4qh ?k5qh ?_; (case k1qh => k_asm); (case k2qh => k_asm); (case k3qh => k_inst); (case k4qh => k_is); (case k5qh => k_is); k_whole)))
  trivial
namespace Mine
theorem fo_c (w : World) {p : Program} {loose : List Str} {mean : ExcName → Option Value} {mg mb : Str → Option Value}
    (dp un : Nat) (gd : Option (List Code)) (cn : Str) (cs : Scope) (a : Addr) (ccd : Value) (cl : List (Str × Addr)) (outer : List Env) (A₀ : Around) (base h₀ : Heap) (L : Addr) (m : Str → Option Value) (s : Shared)
    (D : Dat) (fd dd fk c' cca ca aa sa : Addr) (doc pm ctv : Value) (o cco : Obj) (k1 k2 k3 tn : Tok) (many : Int) (lea : Bool) (way limit : Int) (t1 t2 t3 : Tok) (avs : List Value) (an : Nat) (ns : List Int) (Q E : Value → Shared → Prop)
    (B : Below A₀ base outer h₀) (F : Fr h₀ L s.heap m) (X : (hd.heap_39 w.params).In h₀) (N : News h₀ L s.heap [(fk, askFn cca c' doc pm ctv), (fd, instObj 96 dd), (dd, dictOf (finEs w.params k1 k2 k3 fk many tn lea) 3), (cca, cco), (aa, listOf avs.toArray an), (ca, o)]) (T : Top p loose mean mg mb h₀) (hk : cs.kind = .function)
    (six : Six fk fd dd cca aa ca)
    (hrec : s.heap.CodeRec (.ref c') (Str.ofString "law.<locals>._law_ask")) (hcco : cco.data = .cell (some (.ref ca)))
    (hd : o.IsDictOf (PySem.strKind PG w) [("many", .int D.many t1), ("formulas", .ref D.fa), ("granted", .ref D.ga), ("asked", .ref aa), ("way", .int way t2), ("limit", .int limit t3)])
    (ok : D.Ok) (hI : InH D.I [fk, fd, dd, cca, aa, ca] s.heap) (hw0 : 0 ≤ way) (hw1 : way ≤ 2) (hav : avs.length ≤ 500) (hlm0 : 0 ≤ limit) (hlm1 : limit ≤ 10)
    (hs : SrcAt s.heap sa ns) (hsa : sa ∉ [fk, fd, dd, cca, aa, ca]) (hc' : c' ∉ [fk, fd, dd, cca, aa, ca]) (hsl : ns.length ≤ 5) (hsb : D.Nums ns)
    (hasc : Asc ns) (hdp : dp + 6 < recursionLimit) (hun : un + 600 < cLine)
    (hret : ∀ r qa qvs qn an' h' tk', Fr h₀ L h' m → KeepBut [aa] s.heap h' → h'.get? aa = some (listOf (avs ++ [Value.ref qa]).toArray an') → s.heap.get? qa = none → h'.get? qa = some (tupObj qvs qn) → IntsAre qvs ns →
      ((avs.length + 1 : Nat) : Int) ≠ limit → FoRes D s.heap h' ns r qa → Q r { s with heap := h', toks := tk' })
    (hraise : ∀ e qa qvs qn an' h' tk', Flown h₀ L m base (envX cn cs L a ccd cl :: outer) s.heap [fk, fd, dd, cca, aa, ca] [(qa, tupObj qvs qn), (fk, askFn cca c' doc pm ctv), (fd, instObj 96 dd), (dd, dictOf (finEs w.params k1 k2 k3 fk many tn lea) 3), (cca, cco), (aa, listOf (avs ++ [Value.ref qa]).toArray an'), (ca, o)] e h' →
      s.heap.get? qa = none → IntsAre qvs ns → ((avs.length + 1 : Nat) : Int) = limit → E (.ref e) { s with heap := h', toks := tk' }) :
    wpAny (model PG w) (ktrTop dp un gd cn cs L a ccd cl outer) (call (.ref 74) [.ref fd, .ref sa]) Q E s := by
  suffices h : Mine.hd.heap_39 = Mine.hd.heap_39 → PySem.Challenge.rw_nu0263_01 = PySem.Challenge.rw_nu0263_01 → wpAny (model PG w) (ktrTop dp un gd cn cs L a ccd cl outer) (call (.ref 74) [.ref fd, .ref sa]) Q E s from h rfl rfl
  k_fill
  intro _ _
  obtain ⟨f1, f2, f3, f4, f5, f6, f7, f8, f9, f10, f11, f12, f13, f14, f15⟩ := six
  refine wpAny_call ?_
  walk_at "mine_enterC"
  rename_i g1 L1 hh1 tk1 FG1 F1 B1 X1 T1 kG' l1 oK dK N0
  have hrg := codeRec_ground kG' hrec hc'
  have hsg := hs.ground kG' hsa
  have hIg := hI.ground kG'
  rcases hsg with ⟨svs, hsl', hsi⟩ | ⟨rb, rt, ru, rv, hsr, hrb0, hrb1, rfl⟩
  have hsv : svs.length ≤ 5 := by rw [hsi.length]; exact hsl
  all_goals k_extra "mine_stepsL"
  · rename Fr _ _ _ _ => F9
    rename _ → _ ∧ _ => hc9
    rename IntsAre _ _ => hi9
    rename _ = true => ht9
    rename _ = !D.can _ => hb9
    obtain ⟨hsub, hcan⟩ := hc9 ht9
    have hno : D.can ns = false := by rw [hb9] at ht9; simpa using ht9
    obtain ⟨fvs9, fs9, rfl, rfl⟩ := named hi9
    refine m_listComp (inP fs9) (fun v y => y = v) F9 rfl (by with_unfolding_all rfl) (by decide) rfl (by decide) rfl ?_ (fun _ => by with_unfolding_all rfl)
    k_extra "mine_stepsL"
    rename Fr _ _ _ _ => F10
    rename News _ _ _ _ => N10
    refine ⟨sa, svs, _, rfl, .inl (base_now hsl' F10), by rw [sizeLine_eq]; omega, F10, N10, ?_, ?_, ?_⟩
    · intro C v s₃ m₃ E' hv hC hNs hmx hkeep F3 N3
      obtain ⟨k, hkm, t, rfl⟩ := ints_mem hsi hv
      unfold testsOf
      k_extra "mine_stepsL"
      exact ⟨_, _, rfl, fun _ _ e => e⟩
    · intro C v s₃ m₃ E' hv hp hC hNs hmx hkeep F3 N3
      obtain ⟨k, hkm, t, rfl⟩ := ints_mem hsi hv
      k_extra "mine_stepsL"
      exact ⟨_, _, rfl, fun _ _ e => e⟩
    · intro D2 ys n2 h2 tk2 F3 N3 hD2 hP2 hK2 hDn2
      obtain ⟨vs2, e2⟩ : ∃ v, v = svs := ⟨_, rfl⟩
      rw [← e2] at hP2
      have hiv : IntsAre vs2 ns := e2 ▸ hsi
      cases paired_self hP2
      have hlv : (vs2.filter (inP fs9)).length ≤ 5 := Nat.le_trans (List.length_filter_le _ _) (by rw [hiv.length]; exact hsl)
      have hif := ints_filter (p := inP fs9) (q := fun k => decide (k ∈ fs9)) (fun _ _ => rfl) hiv
      rw [sub_filter hsub hasc] at hif
      simp only [AllNe, and_true] at hD2
      k_extra "mine_stepsL"
      rename Fr h₀ _ _ _ => F12
      rename Fr g1 _ _ _ => F11
      rename News g1 _ _ _ => N11
      refine hret _ _ svs _ _ _ _ F12 (keepBut_drops (S := [aa]) (keepBut_of kG' F11) N N11 (by (intro p9 hp9; simp only [List.mem_cons, List.not_mem_nil, or_false] at hp9; (rcases hp9 with hp9 | hp9 | hp9 | hp9 | hp9 | hp9) <;> (subst hp9; first | exact .inr (List.mem_singleton.mpr rfl) | exact .inl (by k_mem))))) (N11.get (by k_mem)) (by (refine' Mine.fresh2 (by assumption) ?zfa ?zfb ?_; (case zfa => k_asm); (case zfb => k_extra "mine_at"); (simp only [List.map_cons, List.map_nil, Mine.AllNe, and_true]; omega))) (N11.get (by k_mem)) ?_ (by assumption) (.inr ⟨_, _, fs9, _, rfl, (by (refine' Mine.fresh2 (by assumption) ?zfa ?zfb ?_; (case zfa => k_asm); (case zfb => k_extra "mine_at"); (simp only [List.map_cons, List.map_nil, Mine.AllNe, and_true]; omega))), N11.get (List.mem_cons_self ..), hif, hsub, hcan, hno, neN (by omega)⟩)
      exact hsi
  · rename Fr h₀ _ _ _ => F12
    rename Fr g1 _ _ _ => F11
    rename News g1 _ _ _ => N11
    rename _ = !D.can _ => hb9
    rename _ = false => ht9
    refine hret _ _ svs _ _ _ _ F12 (keepBut_drops (S := [aa]) (keepBut_of kG' F11) N N11 (by (intro p9 hp9; simp only [List.mem_cons, List.not_mem_nil, or_false] at hp9; (rcases hp9 with hp9 | hp9 | hp9 | hp9 | hp9 | hp9) <;> (subst hp9; first | exact .inr (List.mem_singleton.mpr rfl) | exact .inl (by k_mem))))) (N11.get (by k_mem)) (by (refine' Mine.fresh2 (by assumption) ?zfa ?zfb ?_; (case zfa => k_asm); (case zfb => k_extra "mine_at"); (simp only [List.map_cons, List.map_nil, Mine.AllNe, and_true]; omega))) (N11.get (by k_mem)) ?_ (by assumption) (.inl ⟨rfl, by rw [hb9] at ht9; simpa using ht9⟩)
    exact hsi
  · rename Flown _ _ _ _ _ _ _ _ _ _ => X9
    rename News g1 _ _ _ => N11
    refine m_leave_on B1 X9 rfl fun h9 t9 vs9 R9 U9 => ?_
    refine hraise _ _ svs _ _ _ _ ⟨_, t9, vs9, FG1, kG', RaisedS.sub R9 (by k_extra "mine_mem"), U9⟩ (by (refine' Mine.fresh2 (by assumption) ?zfa ?zfb ?_; (case zfa => k_asm); (case zfb => k_extra "mine_at"); (simp only [List.map_cons, List.map_nil, Mine.AllNe, and_true]; omega))) ?_ (by assumption)
    exact hsi
  · rename Fr _ _ _ _ => F9
    rename _ → _ ∧ _ => hc9
    rename IntsAre _ _ => hi9
    rename _ = true => ht9
    rename _ = !D.can _ => hb9
    obtain ⟨hsub, hcan⟩ := hc9 ht9
    have hno : D.can (rangeKs 0 rb.toNat) = false := by rw [hb9] at ht9; simpa using ht9
    obtain ⟨fvs9, fs9, rfl, rfl⟩ := named hi9
    refine m_listCompR (inP fs9) (fun v y => y = v) F9 rfl (by with_unfolding_all rfl) (by decide) rfl (by decide) rfl ?_ (fun _ => by with_unfolding_all rfl)
    k_extra "mine_stepsL"
    rename Fr _ _ _ _ => F10
    rename News _ _ _ _ => N10
    refine ⟨sa, rb.toNat, rb, rt, ru, rv, _, rfl, F10.keep _ _ hsr, (Int.toNat_of_nonneg hrb0).symm, by omega, F10, N10, ?_, ?_, ?_⟩
    · intro C i t s₃ m₃ E' hin hC hNs hmx hkeep F3 N3
      unfold testsOf
      k_extra "mine_stepsL"
      exact ⟨_, _, rfl, fun _ _ e => e⟩
    · intro C i t s₃ m₃ E' hin hp hC hNs hmx hkeep F3 N3
      k_extra "mine_stepsL"
      exact ⟨_, _, rfl, fun _ _ e => e⟩
    · intro D2 vs2 ys n2 h2 tk2 hiv F3 N3 hD2 hP2 hK2 hDn2
      cases paired_self hP2
      have hlv : (vs2.filter (inP fs9)).length ≤ 5 := Nat.le_trans (List.length_filter_le _ _) (by rw [hiv.length]; exact hsl)
      have hif := ints_filter (p := inP fs9) (q := fun k => decide (k ∈ fs9)) (fun _ _ => rfl) hiv
      rw [sub_filter hsub hasc] at hif
      simp only [AllNe, and_true] at hD2
      k_extra "mine_stepsL"
      rename Fr h₀ _ _ _ => F12
      rename Fr g1 _ _ _ => F11
      rename News g1 _ _ _ => N11
      refine hret _ _ _ _ _ _ _ F12 (keepBut_drops (S := [aa]) (keepBut_of kG' F11) N N11 (by (intro p9 hp9; simp only [List.mem_cons, List.not_mem_nil, or_false] at hp9; (rcases hp9 with hp9 | hp9 | hp9 | hp9 | hp9 | hp9) <;> (subst hp9; first | exact .inr (List.mem_singleton.mpr rfl) | exact .inl (by k_mem))))) (N11.get (by k_mem)) (by (refine' Mine.fresh2 (by assumption) ?zfa ?zfb ?_; (case zfa => k_asm); (case zfb => k_extra "mine_at"); (simp only [List.map_cons, List.map_nil, Mine.AllNe, and_true]; omega))) (N11.get (by k_mem)) ?_ (by assumption) (.inr ⟨_, _, fs9, _, rfl, (by (refine' Mine.fresh2 (by assumption) ?zfa ?zfb ?_; (case zfa => k_asm); (case zfb => k_extra "mine_at"); (simp only [List.map_cons, List.map_nil, Mine.AllNe, and_true]; omega))), N11.get (List.mem_cons_self ..), hif, hsub, hcan, hno, neN (by omega)⟩)
      exact (by assumption)
  · rename Fr h₀ _ _ _ => F12
    rename Fr g1 _ _ _ => F11
    rename News g1 _ _ _ => N11
    rename _ = !D.can _ => hb9
    rename _ = false => ht9
    refine hret _ _ _ _ _ _ _ F12 (keepBut_drops (S := [aa]) (keepBut_of kG' F11) N N11 (by (intro p9 hp9; simp only [List.mem_cons, List.not_mem_nil, or_false] at hp9; (rcases hp9 with hp9 | hp9 | hp9 | hp9 | hp9 | hp9) <;> (subst hp9; first | exact .inr (List.mem_singleton.mpr rfl) | exact .inl (by k_mem))))) (N11.get (by k_mem)) (by (refine' Mine.fresh2 (by assumption) ?zfa ?zfb ?_; (case zfa => k_asm); (case zfb => k_extra "mine_at"); (simp only [List.map_cons, List.map_nil, Mine.AllNe, and_true]; omega))) (N11.get (by k_mem)) ?_ (by assumption) (.inl ⟨rfl, by rw [hb9] at ht9; simpa using ht9⟩)
    exact (by assumption)
  · rename Flown _ _ _ _ _ _ _ _ _ _ => X9
    rename News g1 _ _ _ => N11
    refine m_leave_on B1 X9 rfl fun h9 t9 vs9 R9 U9 => ?_
    refine hraise _ _ _ _ _ _ _ ⟨_, t9, vs9, FG1, kG', RaisedS.sub R9 (by k_extra "mine_mem"), U9⟩ (by (refine' Mine.fresh2 (by assumption) ?zfa ?zfb ?_; (case zfa => k_asm); (case zfb => k_extra "mine_at"); (simp only [List.map_cons, List.map_nil, Mine.AllNe, and_true]; omega))) ?_ (by assumption)
    exact (by assumption)
end Mine

theorem Mine.fresh19 : True := by
  w_top off
  trivial
namespace Mine
theorem mem_frames {env : Env} {outer : List Env} {L b : Addr} (hf : env.frame = some L) (hm : b ∈ (env :: outer).filterMap (·.frame)) : b = L ∨ b ∈ outer.filterMap (·.frame) := by
  obtain ⟨env', he, hfr⟩ := List.mem_filterMap.mp hm
  rcases List.mem_cons.mp he with rfl | he
  · rw [hf] at hfr; exact .inl (Option.some.inj hfr).symm
  · exact .inr (List.mem_filterMap.mpr ⟨env', he, hfr⟩)
/-- a frame that may have caught an exception is left: the caller's ground is turned at the frames' slots -/
def LeaveT (fs : List Addr) (A₀ : Around) (base : Heap) (outer : List Env) (K : Frag) (p : Program) (loose : List Str) (mean : ExcName → Option Value) (mg mb : Str → Option Value) (h₀ : Heap) (L : Addr) (m : Str → Option Value) (g : Heap) (R : Result → Shared → Prop) (v : Value) (s' : Shared) : Prop :=
  ∃ g' L' m' news', KtsTurn fs g g' ∧ Fr g' L' s'.heap m' ∧ News g' L' s'.heap news' ∧ ∀ h₀', KtsTurn (outer.filterMap (·.frame)) h₀ h₀' → Fr h₀' L s'.heap m → News h₀' L s'.heap news' → Below A₀ base outer h₀' → K.In h₀' → Top p loose mean mg mb h₀' →
    KtsDicts (outer.filterMap (·.frame)) h₀' → R (.ok (.ret v)) s'
theorem leaveT_ {fs : List Addr} {A₀ : Around} {base : Heap} {outer : List Env} {K : Frag} {p : Program} {loose : List Str} {mean : ExcName → Option Value} {mg mb : Str → Option Value} {h₀ g g' : Heap} {L L' : Addr} {m m' : Str → Option Value} {news' : List (Addr × Obj)} {R : Result → Shared → Prop} {v : Value} {s' : Shared}
    (F' : Fr g' L' s'.heap m') (N' : News g' L' s'.heap news') (T : KtsTurn fs g g')
    (k : ∀ h₀', KtsTurn (outer.filterMap (·.frame)) h₀ h₀' → Fr h₀' L s'.heap m → News h₀' L s'.heap news' → Below A₀ base outer h₀' → K.In h₀' → Top p loose mean mg mb h₀' → KtsDicts (outer.filterMap (·.frame)) h₀' → R (.ok (.ret v)) s') :
    LeaveT fs A₀ base outer K p loose mean mg mb h₀ L m g R v s' := ⟨g', L', m', news', T, F', N', k⟩
section
variable {prog : Program} {w : World} {A₀ A : Around} {s : Shared} {base h₀ : Heap} {outer : List Env} {L : Addr} {m : Str → Option Value} {env : Env} {news : List (Addr × Obj)}
  {R : Result → Shared → Prop} {name qual : Str} {params : Arguments} {body : List Stmt} {scope : Scope} {dV kV doc pm cdv ct oc : Value} {an od : Option Addr} {osl : Array (Option Value)} {f : Addr} {args : Args} {binds : List (Str × Value)}
  {K : Frag} {p : Program} {loose : List Str} {mean : ExcName → Option Value} {mg mb : Str → Option Value}
theorem groundT (B : Below A₀ base outer h₀) (F : Fr h₀ L s.heap m) (N : News h₀ L s.heap news) (XB : K.In base) (TB : Top p loose mean mg mb base) (Dk : KtsDicts (outer.filterMap (·.frame)) h₀) (hA : A.frames = some (env :: outer)) (hf : env.frame = some L) (hke : env.scope.kind = .function) :
    Fr h₀ L (hideAll s.heap (news.map (·.1))) m ∧ Below A base (env :: outer) (hideAll s.heap (news.map (·.1))) ∧ h₀.StaysIn (hideAll s.heap (news.map (·.1))) ∧ KtsDicts ((env :: outer).filterMap (·.frame)) (hideAll s.heap (news.map (·.1))) ∧
      ∀ v s', LeaveT ((env :: outer).filterMap (·.frame)) A₀ base outer K p loose mean mg mb h₀ L m (hideAll s.heap (news.map (·.1))) R v s' → R (.ok (.ret v)) s' := by
  obtain ⟨FG, BG, st, _⟩ := groundX (R := R) B F N hA hf hke
  obtain ⟨oL, es, ep, hLg, hLd, hLk, hLf⟩ := FG.ns
  refine ⟨FG, BG, st, fun b hb => ?_, fun v s' hl => ?_⟩
  · rcases mem_frames hf hb with rfl | hb
    · exact ⟨oL, es, ep, hLg, hLd⟩
    · obtain ⟨o, es', n', ho', hd'⟩ := Dk b hb
      exact ⟨o, es', n', st b o ho', hd'⟩
  have nL₀ : h₀.get? L = none := kts_self F
  have hNs : ∀ (sl : Array (Option Value)) (h' : Heap), h'.get? L = some { oL with slots := sl } → Heap.Ns h' L m := fun sl h' e => ⟨_, es, ep, e, hLd, hLk, hLf⟩
  obtain ⟨g', L', m', news', T', F', N', k⟩ := hl
  obtain ⟨sl, hs⟩ := T'.up hLg
  obtain ⟨T₁, S₁⟩ := kts_turn_at (h := s'.heap) (fs := outer.filterMap (·.frame)) (g := h₀)
    (fun b hb => by
      obtain ⟨_, o, ho', _⟩ := B.frames.mem hb
      exact ⟨o, ho'⟩)
    (fun b o e nmem => F'.keep b o (T'.other b o (st b o e) (fun q => by
      rcases mem_frames hf q with z | z
      · rw [z, nL₀] at e
        cases e
      · exact nmem z)))
    (fun b o e hm => by
      obtain ⟨sl', hs'⟩ := T'.up (st b o e)
      exact ⟨sl', F'.keep _ _ hs'⟩)
  have B₃ : Below A₀ base outer (ktsHeap s'.heap (outer.filterMap (·.frame)) h₀) := ⟨B.stack, fun b o e => T₁.other b o (B.stays b o e) (fun hm => by
    rw [(B.frames.mem hm).1] at e
    cases e), B.frames.of_keeps fun b o e _ => by
    obtain ⟨sl', hs'⟩ := T₁.up e
    exact ⟨_, hs', rfl⟩⟩
  refine k _ T₁ ⟨hNs sl _ (F'.keep _ _ hs), S₁, by rw [T₁.size]; exact F.above⟩ (fun p hp => ⟨(N' p hp).1, fun q => ?_, ?_⟩) B₃ (XB.keeps B₃.stays) (TB.keeps B₃.stays) (Dk.turn T₁)
  · have := (N' p hp).2.2; rw [q, hs] at this; cases this
  · refine T₁.none_ _ ?_
    cases q : h₀.get? p.1 with
    | none => rfl
    | some o =>
      obtain ⟨sl', hs'⟩ := T'.up (st _ _ q)
      have := (N' p hp).2.2
      rw [hs'] at this
      cases this
theorem m_enterS (B : Below A₀ base outer h₀) (F : Fr h₀ L s.heap m) (X₀ : K.In h₀) (N : News h₀ L s.heap news) (T : Top p loose mean mg mb h₀) (XB : K.In base) (TB : Top p loose mean mg mb base) (Dk : KtsDicts (outer.filterMap (·.frame)) h₀)
    (hA : A.frames = some (env :: outer)) (hf : env.frame = some L) (hke : env.scope.kind = .function)
    (ho : K.lookup f = some ⟨oc, od, .func (fnOf name qual params body scope dV kV doc pm an cdv ct), osl⟩) (hcd : codeIn K cdv qual = true) (hroom : A.depth < recursionLimit)
    (hbind : BindsTo s (fnOf name qual params body scope dV kV doc pm an cdv ct) args binds) (hloc : ∀ y ∈ binds, scope.names.lookup y.1 = some .local)
    (h : ∀ g L' h₁, Fr h₀ L g m → Fr g L' h₁ (fun y => binds.reverse.lookup y) → News g L' h₁ news → Below A base (env :: outer) g → K.In g → Top p loose mean mg mb g → KtsDicts ((env :: outer).filterMap (·.frame)) g → (∀ p ∈ news, p.1 < L') → GSub s.heap g (news.map (·.1)) → s.heap.objs.size ≤ L' →
      wpAny (model prog w) (A.deeper (envOf qual scope L' f cdv)) (execs body (envOf qual scope L' f cdv))
        (fun fl s' => LeaveT ((env :: outer).filterMap (·.frame)) A₀ base outer K p loose mean mg mb h₀ L m g R (match fl with | .ret v => v | _ => .none) s')
        (fun e s' => wpAny (model prog w) (A.deeper (envOf qual scope L' f cdv)) (leaving (envOf qual scope L' f cdv) e) (fun _ s'' => R (.error e) s'') (fun e' s'' => R (.error e') s'') s')
        { s with heap := h₁, toks := s.toks + binds.length })
    (hco : scope.isCoroutine = false) (hgen : scope.isGenerator = false) (hk : scope.kind = .function)
    (hcell : ∀ x ∈ scope.names, x.2 ≠ .cell) : codeAny (model prog w) A (.call (.ref f) args) R s := by
  have X := X₀.keeps F.keep
  obtain ⟨FG, BG, st, DG, lv⟩ := groundT (R := R) (K := K) B F N XB TB Dk hA hf hke
  refine codeAny_call_def (fd := fnOf name qual params body scope dV kV doc pm an cdv ct) (body := body) (binds := binds) hroom (X _ _ ho) rfl (T.nolimit.keeps F.keep) (codeRec_of X hcd) rfl hbind hcell hloc (fun h₁ hns hk₁ => ?_) hco hgen hk
  exact wpAny_mono (h _ s.heap.objs.size h₁ FG ⟨hns, fun b o e => hk₁ b o (of_hideAll _ e), Nat.le_of_eq (hideAll_size _ _)⟩
    (fun p hp => ⟨hk₁ _ _ (N p hp).1, Nat.ne_of_lt (Heap.lt_size (N p hp).1), hideAll_none _ (List.mem_map_of_mem hp)⟩) BG (X₀.keeps st) (T.keeps st) DG (fun p hp => Heap.lt_size (N p hp).1) (fun b o e n => hideAll_get _ e n) (Nat.le_refl _)) (fun fl s' hl => lv _ _ hl) fun _ _ y => y
theorem m_enterSC (B : Below A₀ base outer h₀) (F : Fr h₀ L s.heap m) (X₀ : K.In h₀) (N : News h₀ L s.heap news) (T : Top p loose mean mg mb h₀) (XB : K.In base) (TB : Top p loose mean mg mb base) (Dk : KtsDicts (outer.filterMap (·.frame)) h₀)
    (hA : A.frames = some (env :: outer)) (hf : env.frame = some L) (hke : env.scope.kind = .function)
    (ho : K.lookup f = some ⟨oc, od, .func (fnOf name qual params body scope dV kV doc pm an cdv ct), osl⟩) (hcd : codeIn K cdv qual = true) (hroom : A.depth < recursionLimit)
    (hbind : BindsTo s (fnOf name qual params body scope dV kV doc pm an cdv ct) args binds) (hkind : (binds.all fun y => scope.names.lookup y.1 == some .local || scope.names.lookup y.1 == some .cell) = true)
    (hnd : ((cellsFrom 0 scope.names []).map (·.1)).Nodup)
    (h : ∀ g L' h₁ tk cells, Fr h₀ L g m → Fr g L' h₁ (bindL (envOfC qual scope L' f cdv).kindOf binds fun _ => none) → News g L' h₁ (cells ++ news) →
      CellsAre (bindC (envOfC qual scope L' f cdv).kindOf binds fun _ => none) (cellsFrom (L' + 1) scope.names []) cells → Below A base (env :: outer) g → K.In g → Top p loose mean mg mb g → KtsDicts ((env :: outer).filterMap (·.frame)) g → (∀ p ∈ news, p.1 < L') → GSub s.heap g (news.map (·.1)) → s.heap.objs.size ≤ L' →
      wpAny (model prog w) (A.deeper (envOfC qual scope L' f cdv)) (execs body (envOfC qual scope L' f cdv))
        (fun fl s' => LeaveT ((env :: outer).filterMap (·.frame)) A₀ base outer K p loose mean mg mb h₀ L m g R (match fl with | .ret v => v | _ => .none) s')
        (fun e s' => wpAny (model prog w) (A.deeper (envOfC qual scope L' f cdv)) (leaving (envOfC qual scope L' f cdv) e) (fun _ s'' => R (.error e) s'') (fun e' s'' => R (.error e') s'') s')
        { s with heap := h₁, toks := tk })
    (hco : scope.isCoroutine = false) (hgen : scope.isGenerator = false) (hk : scope.kind = .function) : codeAny (model prog w) A (.call (.ref f) args) R s := by
  obtain ⟨FG, BG, st, DG, lv⟩ := groundT (R := R) (K := K) B F N XB TB Dk hA hf hke
  refine codeAny_call_function hroom ((X₀.keeps F.keep) _ _ ho) rfl hco hgen rfl (codeRec_of (X₀.keeps F.keep) hcd) (hbind _ _ _ _ ?_)
  refine wpAny_newFunctionEnv_cells hk (kindsX hkind _) fun env' he s' x => ?_
  subst he
  refine ⟨(T.nolimit.keeps F.keep).keeps x.toInCall.keep, codeAny_func ?_⟩
  obtain ⟨h₁, tk, rfl, _⟩ := x.done
  have up := x.toInCall.keep
  obtain ⟨cells, NC, Y⟩ := Cl.news (h₀ := s.heap) (Nat.le_refl _) fun n c hm => ⟨x.cell n c (lookup_of_mem_nodup (cellsFrom_names scope.names 0 (s.heap.objs.size + 1) [] [] rfl ▸ hnd) hm), x.above n c hm⟩
  have N₁ : News (hideAll s.heap (news.map (·.1))) s.heap.objs.size h₁ (cells ++ news) := by
    intro q hq
    rcases List.mem_append.mp hq with hq | hq
    · refine ⟨(NC q hq).1, (NC q hq).2.1, ?_⟩
      cases z : (hideAll s.heap (news.map (·.1))).get? q.1 with
      | none => rfl
      | some o => have y := of_hideAll _ z; rw [(NC q hq).2.2] at y; cases y
    · exact ⟨up _ _ (N q hq).1, Nat.ne_of_lt (Heap.lt_size (N q hq).1), hideAll_none _ (List.mem_map_of_mem hq)⟩
  exact wpAny_mono (h _ s.heap.objs.size h₁ tk cells FG ⟨x.toInCall.ns, fun b o e => up b o (of_hideAll _ e), Nat.le_of_eq (hideAll_size _ _)⟩ N₁ Y BG (X₀.keeps st) (T.keeps st) DG (fun q hq => Heap.lt_size (N q hq).1) (fun b o e n => hideAll_get _ e n) (Nat.le_refl _)) (fun fl s' hl => lv _ _ hl) fun _ _ y => y
end
/-- all stands as it stood, off S and the frames -/
theorem keepBut_turn {H g g' h' : Heap} {L' : Addr} {m' : Str → Option Value} {S fs : List Addr} (G : GSub H g S) (T : KtsTurn fs g g') (F : Fr g' L' h' m') : KeepBut (S ++ fs) H h' := fun b o e n =>
  F.keep b o (T.other b o (G b o e fun q => n (List.mem_append_left _ q)) fun q => n (List.mem_append_right _ q))
end Mine
namespace Mine
theorem news_ne {g h : Heap} {L q : Addr} {news : List (Addr × Obj)} (N : News g L h news) (hn : h.get? q = none) : AllNe q news := allNe_of fun p hp z => by
  have e := (N p hp).1
  rw [z, hn] at e; cases e
theorem SrcAt.frame {g h : Heap} {a : Addr} {ns : List Int} (x : SrcAt g a ns) (k : ∀ b o, g.get? b = some o → h.get? b = some o) : SrcAt h a ns := by
  rcases x with ⟨vs, hl, hi⟩ | ⟨b, t, u, v, hr, r⟩
  · exact .inl ⟨vs, hl.at (k _), hi⟩
  · exact .inr ⟨b, t, u, v, k _ _ hr, r⟩
theorem fo_k {w : World} {p : Program} {loose : List Str} {mean : ExcName → Option Value} {mg mb : Str → Option Value}
    {dp un : Nat} {gd : Option (List Code)} {cn : Str} {cs : Scope} {a : Addr} {ccd : Value} {cl : List (Str × Addr)} {outer : List Env} {A₀ : Around} {base h₀ : Heap} {L : Addr} {m : Str → Option Value} {s : Shared}
    (D : Dat) {fd dd fk c' cca ca aa sa : Addr} {doc pm ctv : Value} {o cco : Obj} {k1 k2 k3 tn : Tok} {many : Int} {lea : Bool} {way limit : Int} {t1 t2 t3 : Tok} {avs : List Value} {an : Nat} {ns : List Int} {Q E : Value → Shared → Prop}
    (B : Below A₀ base outer h₀) (F : Fr h₀ L s.heap m) (X : (hd.heap_39 w.params).In h₀) (N : News h₀ L s.heap [(fk, askFn cca c' doc pm ctv), (fd, instObj 96 dd), (dd, dictOf (finEs w.params k1 k2 k3 fk many tn lea) 3), (cca, cco), (aa, listOf avs.toArray an), (ca, o)]) (T : Top p loose mean mg mb h₀) (hk : cs.kind = .function)
    (six : Six fk fd dd cca aa ca)
    (hrec : s.heap.CodeRec (.ref c') (Str.ofString "law.<locals>._law_ask")) (hcco : cco.data = .cell (some (.ref ca)))
    (hd : o.IsDictOf (PySem.strKind PG w) [("many", .int D.many t1), ("formulas", .ref D.fa), ("granted", .ref D.ga), ("asked", .ref aa), ("way", .int way t2), ("limit", .int limit t3)])
    (ok : D.Ok) (hI : InH D.I [fk, fd, dd, cca, aa, ca] s.heap) (hw0 : 0 ≤ way) (hw1 : way ≤ 2) (hav : avs.length ≤ 500) (hlm0 : 0 ≤ limit) (hlm1 : limit ≤ 10)
    (hs : SrcAt s.heap sa ns) (hsa : sa ∉ [fk, fd, dd, cca, aa, ca]) (hc' : c' ∉ [fk, fd, dd, cca, aa, ca]) (hsl : ns.length ≤ 5) (hsb : D.Nums ns)
    (hasc : Asc ns) (hdp : dp + 6 < recursionLimit) (hun : un + 600 < cLine)
    (hret : ∀ r qa qvs qn an' h' tk', Fr h₀ L h' m → News h₀ L h' [(qa, tupObj qvs qn), (fk, askFn cca c' doc pm ctv), (fd, instObj 96 dd), (dd, dictOf (finEs w.params k1 k2 k3 fk many tn lea) 3), (cca, cco), (aa, listOf (avs ++ [Value.ref qa]).toArray an'), (ca, o)] →
      KeepBut [aa] s.heap h' → s.heap.get? qa = none → IntsAre qvs ns → ((avs.length + 1 : Nat) : Int) ≠ limit → FoRes D s.heap h' ns r qa → Q r { s with heap := h', toks := tk' })
    (hraise : ∀ e qa qvs qn an' h' tk', Flown h₀ L m base (envX cn cs L a ccd cl :: outer) s.heap [fk, fd, dd, cca, aa, ca] [(qa, tupObj qvs qn), (fk, askFn cca c' doc pm ctv), (fd, instObj 96 dd), (dd, dictOf (finEs w.params k1 k2 k3 fk many tn lea) 3), (cca, cco), (aa, listOf (avs ++ [Value.ref qa]).toArray an'), (ca, o)] e h' →
      s.heap.get? qa = none → IntsAre qvs ns → ((avs.length + 1 : Nat) : Int) = limit → E (.ref e) { s with heap := h', toks := tk' }) :
    wpAny (model PG w) (ktrTop dp un gd cn cs L a ccd cl outer) (call (.ref 74) [.ref fd, .ref sa]) Q E s := by
  refine fo_c w dp un gd cn cs a ccd cl outer A₀ base h₀ L m s D fd dd fk c' cca ca aa sa doc pm ctv o cco k1 k2 k3 tn many lea way limit t1 t2 t3 avs an ns Q E B F X N T hk six hrec hcco hd ok hI hw0 hw1 hav hlm0 hlm1 hs hsa hc' hsl hsb hasc hdp hun ?_ hraise
  obtain ⟨f1, f2, f3, f4, f5, f6, f7, f8, f9, f10, f11, f12, f13, f14, f15⟩ := six
  intro r qa qvs qn an' h' tk' F' K ea hqa eq hi hl hres
  have U : UpdF aa (listOf avs.toArray an) [(fk, askFn cca c' doc pm ctv), (fd, instObj 96 dd), (dd, dictOf (finEs w.params k1 k2 k3 fk many tn lea) 3), (cca, cco), (aa, listOf avs.toArray an), (ca, o)] (fun x => [(fk, askFn cca c' doc pm ctv), (fd, instObj 96 dd), (dd, dictOf (finEs w.params k1 k2 k3 fk many tn lea) 3), (cca, cco), (aa, x), (ca, o)]) := by k_updF
  have N1 := news_call N U K ea
  have N2 := news_more (ra := qa) F N1 (updF_addrs U N) hqa eq
  exact hret r qa qvs qn an' h' tk' F' N2.1 K hqa hi hl hres
end Mine

local macro_rules | `(tactic| walk_at "mine_enterS") => `(tactic| (k_extra "mine_entS_a"; intro g' L' h' FG' F' N' B' X' T' D' l1 kG' kL'; (try k_lt l1); (try dsimp only); (try k_fold)))
theorem Mine.fresh20 : True := by
  w_top off
  k_with "my LeaveT" => ((k_dflt (refine' Mine.leaveT_ ?Fqh ?Nqh ?Tqh ?_; (case Fqh => k_asm); (case Nqh => k_asm); (case Tqh => first | assumption | exact KtsTurn.refl); k_whole); intro h0'qz kTqz kFqz kNqz kBqz kXqz kPqz kDqz; walk_say "LEAVE T"))
  k_with "mine_entS_a" => ((k_dflt (refine' Mine.m_enterS ?k1qh ?k2qh ?k3qh ?k4qh ?k5qh ?kXBqh ?kTBqh ?kDDqh ?kAqh ?kFqh ?kKqh ?k6qh ?k7qh ?k8qh ?k9qh ?kBqh ?_ ?c2qh ?c3qh ?c4qh ?c5qh; (case kAqh => exact rfl); (case kFqh => exact rfl); (case kKqh => assumption); (case k1qh => k_asm); (case k2qh => k_asm); (case k3qh => k_asm); (case k4qh => k_asm); (case k5qh => k_asm); (case kXBqh => assumption); (case kTBqh => assumption); (case kDDqh => assumption); (case k6qh => k_is); (case k7qh => k_is); (case k8qh => ktr_room); (case k9qh => exact BindsTo.of_eq rfl); (case c5qh => decide); (case kBqh => exact locs rfl); (case c2qh => exact rfl); (case c3qh => exact rfl); (case c4qh => exact rfl); k_whole)))
  k_with "my call ref" => ((k_here; (with_reducible show wpAny _ _ (call (Value.ref 74) [Value.ref _, Value.ref _]) _ _ _); (rename Mine.Dat.Ok _ => ok9qz); (rename Mine.Six _ _ _ _ _ _ => six9qz); k_dflt (refine' Mine.fo_k _ ?k1qh ?k2qh ?k3qh ?k4qh ?k5qh ?kKqh six9qz ?krqh ?kccqh ?kdqh ok9qz ?kIqh ?kwqh ?kvqh ?kaqh ?kl0qh ?kl1qh ?ksqh ?ksaqh ?kcqh ?klqh ?kbqh ?kasqh ?kpqh ?kuqh ?_ ?_; (case k1qh => k_asm); (case k2qh => k_asm); (case k3qh => k_asm); (case k4qh => k_asm); (case k5qh => k_asm); (case kKqh => first | exact rfl | assumption); (case krqh => exact PySem.Heap.CodeRec.keeps (by assumption) (Fr.keep (by k_asm))); (case kdqh => assumption); (case kccqh => assumption); (case kIqh => k_extra "mine_inh"); (case kwqh => omega); (case kvqh => omega); (case kaqh => assumption); (case kl0qh => omega); (case kl1qh => omega); (case ksqh => k_extra "mine_src"); (case ksaqh => assumption); (case kcqh => assumption); (case klqh => k_extra "mine_len"); (case kbqh => k_extra "mine_nums"); (case kasqh => assumption); (case kpqh => ktr_room); (case kuqh => ktr_units); k_whole); walk_say "FAILED OF"))
  k_with "mine_src" => (first | assumption | exact Mine.SrcAt.frame (by assumption) (Fr.keep (by k_asm)))
  trivial
namespace Mine
/-- what fewer_of gives back -/
def FwRes (D : Dat) (H h' : Heap) (ns : List Int) (r : Value) (qa : Addr) (hit : Prop) (lea lea' : Bool) : Prop :=
  (hit ∧ r = .none ∧ lea' = false) ∨ (¬hit ∧ lea' = lea ∧ FoRes D H h' ns r qa)
theorem none_up {H g h : Heap} {L x : Addr} {m : Str → Option Value} {news : List (Addr × Obj)} (G : GSub H g (news.map (·.1))) (F : Fr g L h m) (N : News g L h news) (hn : h.get? x = none) : H.get? x = none := by
  cases e : H.get? x with
  | none => rfl
  | some o =>
    by_cases q : x ∈ news.map (·.1)
    · obtain ⟨p, hp, rfl⟩ := List.mem_map.mp q
      rw [(N p hp).1] at hn; cases hn
    · rw [F.keep _ _ (G _ _ e q)] at hn; cases hn
theorem FoRes.up {D : Dat} {H g h h' : Heap} {L : Addr} {m : Str → Option Value} {news : List (Addr × Obj)} {ns : List Int} {r : Value} {qa : Addr} (x : FoRes D h h' ns r qa) (G : GSub H g (news.map (·.1))) (F : Fr g L h m) (N : News g L h news) : FoRes D H h' ns r qa := by
  rcases x with x | ⟨fa, fvs, fs, n, e, hn, r⟩
  · exact .inl x
  · exact .inr ⟨fa, fvs, fs, n, e, none_up G F N hn, r⟩
theorem fw_c (w : World) {p : Program} {loose : List Str} {mean : ExcName → Option Value} {mg mb : Str → Option Value}
    (dp un : Nat) (gd : Option (List Code)) (cn : Str) (cs : Scope) (a : Addr) (ccd : Value) (cl : List (Str × Addr)) (outer : List Env) (A₀ : Around) (base h₀ : Heap) (L : Addr) (m : Str → Option Value) (s : Shared)
    (D : Dat) (fd dd fk c' cca ca aa sa : Addr) (doc pm ctv : Value) (o cco : Obj) (k1 k2 k3 tn : Tok) (many : Int) (lea : Bool) (way limit : Int) (t1 t2 t3 : Tok) (avs : List Value) (an : Nat) (ns : List Int) (Q E : Value → Shared → Prop)
    (B : Below A₀ base outer h₀) (F : Fr h₀ L s.heap m) (X : (hd.heap_39 w.params).In h₀) (N : News h₀ L s.heap [(fk, askFn cca c' doc pm ctv), (fd, instObj 96 dd), (dd, dictOf (finEs w.params k1 k2 k3 fk many tn lea) 3), (cca, cco), (aa, listOf avs.toArray an), (ca, o)]) (T : Top p loose mean mg mb h₀) (hk : cs.kind = .function)
    (XB : (hd.heap_39 w.params).In base) (TB : Top p loose mean mg mb base) (Dk : KtsDicts (outer.filterMap (·.frame)) h₀)
    (six : Six fk fd dd cca aa ca)
    (hrec : s.heap.CodeRec (.ref c') (Str.ofString "law.<locals>._law_ask")) (hcco : cco.data = .cell (some (.ref ca)))
    (hd : o.IsDictOf (PySem.strKind PG w) [("many", .int D.many t1), ("formulas", .ref D.fa), ("granted", .ref D.ga), ("asked", .ref aa), ("way", .int way t2), ("limit", .int limit t3)])
    (ok : D.Ok) (hI : InH D.I [fk, fd, dd, cca, aa, ca] s.heap) (hw0 : 0 ≤ way) (hw1 : way ≤ 2) (hav : avs.length ≤ 500) (hlm0 : 0 ≤ limit) (hlm1 : limit ≤ 10)
    (hs : SrcAt s.heap sa ns) (hsa : sa ∉ [fk, fd, dd, cca, aa, ca]) (hc' : c' ∉ [fk, fd, dd, cca, aa, ca]) (hsl : ns.length ≤ 5) (hsb : D.Nums ns)
    (hasc : Asc ns) (hdp : dp + 7 < recursionLimit) (hun : un + 700 < cLine)
    (hret : ∀ h₀' r qa qvs qn an' lea' h' tk', KtsTurn (outer.filterMap (·.frame)) h₀ h₀' → Fr h₀' L h' m → Below A₀ base outer h₀' → (Mine.hd.heap_39 w.params).In h₀' → Top p loose mean mg mb h₀' → KtsDicts (outer.filterMap (·.frame)) h₀' →
      KeepBut ([fk, fd, dd, cca, aa, ca] ++ L :: outer.filterMap (·.frame)) s.heap h' →
      News h₀' L h' [(qa, tupObj qvs qn), (fk, askFn cca c' doc pm ctv), (fd, instObj 96 dd), (dd, dictOf (finEs w.params k1 k2 k3 fk many tn lea') 3), (cca, cco), (aa, listOf (avs ++ [Value.ref qa]).toArray an'), (ca, o)] →
      s.heap.get? qa = none → IntsAre qvs ns → FwRes D s.heap h' ns r qa (((avs.length + 1 : Nat) : Int) = limit) lea lea' → Q r { s with heap := h', toks := tk' }) :
    wpAny (model PG w) (ktrTop dp un gd cn cs L a ccd cl outer) (call (.ref 93) [.ref fd, .ref sa]) Q E s := by
  suffices h : Mine.hd.heap_39 = Mine.hd.heap_39 → PySem.Challenge.rw_nu0263_01 = PySem.Challenge.rw_nu0263_01 → wpAny (model PG w) (ktrTop dp un gd cn cs L a ccd cl outer) (call (.ref 93) [.ref fd, .ref sa]) Q E s from h rfl rfl
  k_fill
  intro _ _
  have six0 := six
  obtain ⟨f1, f2, f3, f4, f5, f6, f7, f8, f9, f10, f11, f12, f13, f14, f15⟩ := six0
  refine wpAny_call ?_
  walk_at "mine_enterS"
  rename_i g1 L1 hh1 FG1 F1 N1 B1 X1 T1 D1 kG' kL l1
  have hrg := codeRec_ground kG' hrec hc'
  have hsg := hs.ground kG' hsa
  have hIg := hI.ground kG'
  k_extra "mine_steps"
  rotate_left
  · rename Flown _ _ _ _ _ _ _ _ _ _ => X9
    obtain ⟨G9, t9, vs9, F9, K9, R9, U9⟩ := X9.out
    rename Heap.get? _ _ = none => hq9
    rename IntsAre _ _ => hi9
    rename _ = limit => hl9
    have ne9 := news_ne N1 hq9
    simp only [AllNe, and_true] at ne9
    k_extra "mine_steps"
    rename KtsTurn (List.filterMap _ outer) _ _ => kT9
    rename KtsTurn _ g1 _ => kT8
    rename Fr _ L _ _ => kF9
    rename Fr _ L1 _ _ => kF8
    rename News _ L _ _ => kN9
    exact hret _ _ _ _ _ _ _ _ _ kT9 kF9 (by assumption) (by assumption) (by assumption) (by assumption) (keepBut_turn kG' kT8 kF8) kN9 (none_up kG' F1 N1 hq9) hi9 (.inl ⟨hl9, rfl, rfl⟩)
  · rename KtsTurn (List.filterMap _ outer) _ _ => kT9
    rename Fr _ L _ _ => kF9
    rename Fr _ L1 _ _ => kF8
    rename News _ L _ _ => kN9
    rename Heap.get? _ _ = none => hq9
    rename IntsAre _ _ => hi9
    rename _ ≠ limit => hl9
    rename FoRes _ _ _ _ _ _ => hf9
    exact hret _ _ _ _ _ _ _ _ _ kT9 kF9 (by assumption) (by assumption) (by assumption) (by assumption) (keepBut_turn kG' KtsTurn.refl kF8) kN9 (none_up kG' F1 N1 hq9) hi9 (.inr ⟨hl9, rfl, hf9.up kG' F1 N1⟩)
end Mine

theorem Mine.fresh21 : True := by
  w_top off
  trivial
namespace Mine
theorem can_mono {D : Dat} {ms ns : List Int} (hs : ∀ k ∈ ms, k ∈ ns) (h : D.can ns = true) : D.can ms = true := by
  unfold Dat.can canB at h ⊢
  rw [List.any_eq_true] at h ⊢
  obtain ⟨wd, hw, ha⟩ := h
  refine ⟨wd, hw, ?_⟩
  rw [List.all_eq_true] at ha ⊢
  intro G hG
  rcases List.mem_append.mp hG with q | q
  · exact ha G (List.mem_append_left _ q)
  · obtain ⟨k, hk, rfl⟩ := List.mem_map.mp q
    exact ha _ (List.mem_append_right _ (List.mem_map.mpr ⟨k, hs k hk, rfl⟩))
/-- what the shrinking loop keeps -/
structure ShP (D : Dat) (ns : List Int) (n0 : Nat) (limit : Int) (lea : Bool) (ls xs ws : List Int) (q : Nat) (lea' : Bool) : Prop where
  sub : ls.Sublist ns
  no : D.can ls = false
  wait : ws = ls.filter (fun k => !decide (k ∈ xs))
  cnt : q + ws.length ≤ n0 + ns.length
  ge : n0 ≤ q
  xl : xs.length + n0 ≤ q
  least : lea' = if (n0 : Int) < limit ∧ limit ≤ (q : Int) then false else lea
  need : ¬((n0 : Int) < limit ∧ limit ≤ (q : Int)) → ∀ x ∈ xs, D.can (ls.filter (fun k => decide (k ≠ x))) = true
theorem ShP.start {D : Dat} {ns : List Int} {n0 : Nat} {limit : Int} {lea : Bool} (hno : D.can ns = false) : ShP D ns n0 limit lea ns [] ns n0 lea := by
  refine ⟨List.Sublist.refl _, hno, ?_, by omega, Nat.le_refl _, by simp, ?_, fun _ _ h => nomatch h⟩
  · rw [List.filter_eq_self.mpr]; intro a _; simp
  · rw [if_neg (by omega)]
theorem filter_lt {p q : Int → Bool} : ∀ {l : List Int} {w : Int}, w ∈ l → p w = true → q w = false → (∀ k, q k = true → p k = true) → (l.filter q).length < (l.filter p).length
  | [], _, h, _, _, _ => nomatch h
  | a :: l, w, h, hp, hq, hs => by
    rw [List.filter_cons, List.filter_cons]
    have le : (l.filter q).length ≤ (l.filter p).length := by
      clear h
      induction l with
      | nil => exact Nat.le_refl _
      | cons b l ih =>
        rw [List.filter_cons, List.filter_cons]
        cases hb : q b with
        | true => rw [hs b hb, if_pos rfl, if_pos rfl]; simpa using ih
        | false =>
          rw [if_neg (by simp)]
          split
          · exact Nat.le_succ_of_le ih
          · exact ih
    rcases List.mem_cons.mp h with rfl | h
    · rw [hp, hq, if_pos rfl, if_neg (by simp), List.length_cons]
      omega
    · have := filter_lt h hp hq hs
      cases ha : q a with
      | true => rw [hs a ha, if_pos rfl, if_pos rfl]; simpa using this
      | false =>
        rw [if_neg (by simp)]
        split
        · exact Nat.lt_succ_of_lt this
        · exact this
theorem ShP.none {D : Dat} {ns ls xs wt : List Int} {n0 q : Nat} {limit w0 : Int} {lea lea' lea'' : Bool} (x : ShP D ns n0 limit lea ls xs (w0 :: wt) q lea')
    (h : (((q + 1 : Nat) : Int) = limit ∧ lea'' = false) ∨ (((q + 1 : Nat) : Int) ≠ limit ∧ lea'' = lea' ∧ D.can (ls.filter (fun k => decide (k ≠ w0))) = true)) :
    ShP D ns n0 limit lea ls (xs ++ [w0]) (ls.filter (fun k => !decide (k ∈ xs ++ [w0]))) (q + 1) lea'' ∧ (ls.filter (fun k => !decide (k ∈ xs ++ [w0]))).length < (w0 :: wt).length := by
  have hw : w0 ∈ ls.filter (fun k => !decide (k ∈ xs)) := by rw [← x.wait]; exact .head _
  have hlt : (ls.filter (fun k => !decide (k ∈ xs ++ [w0]))).length < (w0 :: wt).length := by
    rw [x.wait]
    refine filter_lt (List.mem_filter.mp hw).1 (List.mem_filter.mp hw).2 (by simp) ?_
    intro k hk
    simp only [List.mem_append, List.mem_singleton, Bool.not_eq_true', decide_eq_false_iff_not, not_or] at hk ⊢
    exact hk.1
  have c := x.cnt
  have g := x.ge
  have xl := x.xl
  refine ⟨⟨x.sub, x.no, rfl, by omega, by omega, by simp only [List.length_append, List.length_cons, List.length_nil]; omega, ?_, ?_⟩, hlt⟩
  · have l := x.least
    rcases h with ⟨h1, h2⟩ | ⟨h1, h2, _⟩
    · rw [h2, if_pos (by omega)]
    · rw [h2, l]
      by_cases e : (n0 : Int) < limit ∧ limit ≤ (q : Int)
      · rw [if_pos e, if_pos (by omega)]
      · rw [if_neg e, if_neg (by omega)]
  · intro hn y hy
    rcases h with ⟨h1, _⟩ | ⟨h1, h2, h3⟩
    · exact absurd hn (by omega)
    · rcases List.mem_append.mp hy with hy | hy
      · exact x.need (by omega) y hy
      · rw [List.mem_singleton.mp hy]; exact h3
theorem ShP.some {D : Dat} {ns ls xs wt fs : List Int} {n0 q : Nat} {limit w0 : Int} {lea lea' : Bool} (x : ShP D ns n0 limit lea ls xs (w0 :: wt) q lea')
    (h : ((q + 1 : Nat) : Int) ≠ limit) (hs : fs.Sublist (ls.filter (fun k => decide (k ≠ w0)))) (hc : D.can fs = false) :
    ShP D ns n0 limit lea fs xs (fs.filter (fun k => !decide (k ∈ xs))) (q + 1) lea' ∧ (fs.filter (fun k => !decide (k ∈ xs))).length < (w0 :: wt).length := by
  have hw : w0 ∈ ls.filter (fun k => !decide (k ∈ xs)) := by rw [← x.wait]; exact .head _
  have hlt : (fs.filter (fun k => !decide (k ∈ xs))).length < (w0 :: wt).length := by
    rw [x.wait]
    refine Nat.lt_of_le_of_lt (hs.filter (fun k => !decide (k ∈ xs))).length_le ?_
    rw [List.filter_filter]
    refine filter_lt (List.mem_filter.mp hw).1 (List.mem_filter.mp hw).2 (by simp) ?_
    intro k hk
    rw [Bool.and_eq_true] at hk
    exact hk.1
  have c := x.cnt
  have g := x.ge
  have hls : ∀ k ∈ fs, k ∈ ls := fun k hk => (List.mem_filter.mp (hs.subset hk)).1
  have xl := x.xl
  refine ⟨⟨(hs.trans List.filter_sublist).trans x.sub, hc, rfl, by omega, by omega, by omega, ?_, ?_⟩, hlt⟩
  · rw [x.least]
    by_cases e : (n0 : Int) < limit ∧ limit ≤ (q : Int)
    · rw [if_pos e, if_pos (by omega)]
    · rw [if_neg e, if_neg (by omega)]
  · intro hn y hy
    refine can_mono (fun k hk => ?_) (x.need (by omega) y hy)
    rw [List.mem_filter] at hk ⊢
    exact ⟨hls k hk.1, hk.2⟩
theorem ShP.done {D : Dat} {ns ls xs : List Int} {n0 q : Nat} {limit : Int} {lea lea' : Bool} (x : ShP D ns n0 limit lea ls xs [] q lea') (h : ¬((n0 : Int) < limit ∧ limit ≤ (q : Int))) : ∀ k ∈ ls, D.can (ls.filter (fun j => decide (j ≠ k))) = true := by
  intro k hk
  refine x.need h k ?_
  have w := x.wait
  by_cases q : k ∈ xs
  · exact q
  · have : k ∈ ls.filter (fun k => !decide (k ∈ xs)) := List.mem_filter.mpr ⟨hk, by simp [q]⟩
    rw [← w] at this
    exact nomatch this
section
variable {M : Model} {A : Around} {E : Value → Shared → Prop} {Q : Flow → Shared → Prop} {s : Shared} {env : Env}
/-- what a turn of a while must leave -/
inductive WEnd (I : Nat → Heap → Prop) (n : Nat) (s s₃ : Shared) : Prop where
  | mk h' tk n'
    (c1 : s₃ = { s with heap := h', toks := tk })
    (c2 : n' < n)
    (c3 : I n' h')
def WPost (I : Nat → Heap → Prop) (n : Nat) (s : Shared) (Q : Flow → Shared → Prop) (f : Flow) (s₃ : Shared) : Prop :=
  match f with
  | .ret v => Q (.ret v) s₃
  | .brk => Q .next s₃
  | _ => WEnd I n s s₃
end
section
variable {prog : Program} {w : World} {A : Around} {E : Value → Shared → Prop} {Q : Flow → Shared → Prop} {s : Shared} {env : Env}
theorem m_While {test : Expr} {body : List Stmt} {pos : Pos} (I : Nat → Heap → Prop) {n₀ : Nat} (h0 : I n₀ s.heap)
    (turn : ∀ n h₁ tk₁, I n h₁ →
      wpAny (model prog w) A (isTrue test env (eval test env)) (fun b s₂ =>
        if b = true then wpAny (model prog w) A (execs body env) (WPost I n s Q) E s₂ else Q .next s₂) E { s with heap := h₁, toks := tk₁ })
    (hE : PassesOwn (model prog w) A env E := by passes_own) :
    wpAny (model prog w) A (exec (.While test body [] pos) env) Q E s := by
  refine wpAny_While (codeAny_whileLoop (fun n s' => ∃ h₁ tk₁, s' = { s with heap := h₁, toks := tk₁ } ∧ I n h₁) ?_ n₀ ⟨s.heap, s.toks, rfl, h0⟩)
  rintro n s' ⟨h₁, tk₁, rfl, J₁⟩
  refine wpAny_mono (turn n h₁ tk₁ J₁) (fun b s₂ h₂ => ?_) hE
  cases b with
  | false =>
    simp only [Bool.false_eq_true, if_false] at h₂ ⊢
    exact wpAny_execs_nil h₂
  | true =>
    simp only [if_true] at h₂ ⊢
    refine wpAny_mono h₂ (fun f s₃ h₃ => ?_) hE
    have fin : WEnd I n s s₃ → ∃ n', n' < n ∧ ∃ h₁ tk₁, s₃ = { s with heap := h₁, toks := tk₁ } ∧ I n' h₁ := by
      rintro ⟨h', tk, n', e, hn, J₂⟩
      exact ⟨n', hn, h', tk, e, J₂⟩
    cases f with
    | ret v => exact h₃
    | brk => exact h₃
    | next => exact fin h₃
    | cont => exact fin h₃
end
end Mine
namespace Mine
abbrev sixL (P : Params) (fk fd dd cca aa ca c' : Addr) (doc pm ctv : Value) (k1 k2 k3 tn : Tok) (many : Int) (lea : Bool) (cco o : Obj) (avs : List Value) (an : Nat) (post : List (Addr × Obj)) : List (Addr × Obj) :=
  (fk, askFn cca c' doc pm ctv) :: (fd, instObj 96 dd) :: (dd, dictOf (finEs P k1 k2 k3 fk many tn lea) 3) :: (cca, cco) :: (aa, listOf avs.toArray an) :: (ca, o) :: post
theorem frames_none {A₀ : Around} {base h₀ h : Heap} {outer : List Env} {L : Addr} {news : List (Addr × Obj)} (B : Below A₀ base outer h₀) (N : News h₀ L h news) : ∀ p ∈ news, p.1 ∉ L :: outer.filterMap (·.frame) := by
  intro p hp q
  rcases List.mem_cons.mp q with q | q
  · exact (N p hp).2.1 q
  · obtain ⟨o, ho, _⟩ := (B.frames.mem q).2
    rw [(N p hp).2.2] at ho; cases ho
theorem fw_k {w : World} {p : Program} {loose : List Str} {mean : ExcName → Option Value} {mg mb : Str → Option Value}
    {dp un : Nat} {gd : Option (List Code)} {cn : Str} {cs : Scope} {a : Addr} {ccd : Value} {cl : List (Str × Addr)} {outer : List Env} {A₀ : Around} {base h₀ : Heap} {L : Addr} {m : Str → Option Value} {s : Shared}
    (D : Dat) {fd dd fk c' cca ca aa sa : Addr} {doc pm ctv : Value} {o cco : Obj} {k1 k2 k3 tn : Tok} {many : Int} {lea : Bool} {way limit : Int} {t1 t2 t3 : Tok} {avs : List Value} {an : Nat} {ns : List Int} {Q E : Value → Shared → Prop} (pre : List (Addr × Obj)) {post : List (Addr × Obj)}
    (B : Below A₀ base outer h₀) (F : Fr h₀ L s.heap m) (X : (hd.heap_39 w.params).In h₀) (N : News h₀ L s.heap (pre ++ sixL w.params fk fd dd cca aa ca c' doc pm ctv k1 k2 k3 tn many lea cco o avs an post)) (T : Top p loose mean mg mb h₀) (hk : cs.kind = .function)
    (XB : (hd.heap_39 w.params).In base) (TB : Top p loose mean mg mb base) (Dk : KtsDicts (outer.filterMap (·.frame)) h₀)
    (six : Six fk fd dd cca aa ca) (hoff : ∀ p ∈ pre ++ post, p.1 ∉ [fk, fd, dd, cca, aa, ca])
    (hrec : s.heap.CodeRec (.ref c') (Str.ofString "law.<locals>._law_ask")) (hcco : cco.data = .cell (some (.ref ca)))
    (hd : o.IsDictOf (PySem.strKind PG w) [("many", .int D.many t1), ("formulas", .ref D.fa), ("granted", .ref D.ga), ("asked", .ref aa), ("way", .int way t2), ("limit", .int limit t3)])
    (ok : D.Ok) (hI : InH D.I [fk, fd, dd, cca, aa, ca] s.heap) (hw0 : 0 ≤ way) (hw1 : way ≤ 2) (hav : avs.length ≤ 500) (hlm0 : 0 ≤ limit) (hlm1 : limit ≤ 10)
    (hs : SrcAt s.heap sa ns) (hsa : sa ∉ [fk, fd, dd, cca, aa, ca]) (hc' : c' ∉ [fk, fd, dd, cca, aa, ca]) (hsl : ns.length ≤ 5) (hsb : D.Nums ns)
    (hasc : Asc ns) (hdp : dp + 7 < recursionLimit) (hun : un + 700 < cLine)
    (hret0 : ∀ h₀' qa qvs qn an' lea' h' tk', KtsTurn (outer.filterMap (·.frame)) h₀ h₀' → Fr h₀' L h' m → Below A₀ base outer h₀' → (Mine.hd.heap_39 w.params).In h₀' → Top p loose mean mg mb h₀' → KtsDicts (outer.filterMap (·.frame)) h₀' →
      News h₀' L h' ((qa, tupObj qvs qn) :: (pre ++ sixL w.params fk fd dd cca aa ca c' doc pm ctv k1 k2 k3 tn many lea' cco o (avs ++ [Value.ref qa]) an' post)) →
      s.heap.get? qa = none → AllNe qa (pre ++ sixL w.params fk fd dd cca aa ca c' doc pm ctv k1 k2 k3 tn many lea cco o avs an post) → IntsAre qvs ns →
      (((avs.length + 1 : Nat) : Int) = limit ∧ lea' = false) ∨ (((avs.length + 1 : Nat) : Int) ≠ limit ∧ lea' = lea ∧ D.can ns = true) → Q .none { s with heap := h', toks := tk' })
    (hret1 : ∀ h₀' fa fvs fs fn qa qvs qn an' h' tk', KtsTurn (outer.filterMap (·.frame)) h₀ h₀' → Fr h₀' L h' m → Below A₀ base outer h₀' → (Mine.hd.heap_39 w.params).In h₀' → Top p loose mean mg mb h₀' → KtsDicts (outer.filterMap (·.frame)) h₀' →
      News h₀' L h' ((fa, tupObj fvs fn) :: (qa, tupObj qvs qn) :: (pre ++ sixL w.params fk fd dd cca aa ca c' doc pm ctv k1 k2 k3 tn many lea cco o (avs ++ [Value.ref qa]) an' post)) →
      s.heap.get? qa = none → AllNe qa (pre ++ sixL w.params fk fd dd cca aa ca c' doc pm ctv k1 k2 k3 tn many lea cco o avs an post) → IntsAre qvs ns →
      s.heap.get? fa = none → AllNe fa (pre ++ sixL w.params fk fd dd cca aa ca c' doc pm ctv k1 k2 k3 tn many lea cco o avs an post) → @Ne Nat fa qa → IntsAre fvs fs → fs.Sublist ns → D.can fs = false → D.can ns = false →
      ((avs.length + 1 : Nat) : Int) ≠ limit → Q (.ref fa) { s with heap := h', toks := tk' }) :
    wpAny (model PG w) (ktrTop dp un gd cn cs L a ccd cl outer) (call (.ref 93) [.ref fd, .ref sa]) Q E s := by
  refine fw_c w dp un gd cn cs a ccd cl outer A₀ base h₀ L m s D fd dd fk c' cca ca aa sa doc pm ctv o cco k1 k2 k3 tn many lea way limit t1 t2 t3 avs an ns Q E B F X (fun p hp => N p ?_) T hk XB TB Dk six hrec hcco hd ok hI hw0 hw1 hav hlm0 hlm1 hs hsa hc' hsl hsb hasc hdp hun ?_
  · refine List.mem_append_right _ ?_
    simp only [List.mem_cons, List.not_mem_nil, or_false] at hp ⊢
    rcases hp with hp | hp | hp | hp | hp | hp <;> simp [hp]
  intro h₀' r qa qvs qn an' lea' h' tk' kT kF kB kX kP kD K N' hqa hi hres
  have far := frames_none B N
  have neq := news_ne N hqa
  -- the whole ledger
  have NW : News h₀' L h' ((qa, tupObj qvs qn) :: (pre ++ sixL w.params fk fd dd cca aa ca c' doc pm ctv k1 k2 k3 tn many lea' cco o (avs ++ [Value.ref qa]) an' post)) := by
    have old : ∀ p ∈ pre ++ post, h'.get? p.1 = some p.2 ∧ p.1 ≠ L ∧ h₀'.get? p.1 = none := by
      intro p hp
      have hp' : p ∈ pre ++ sixL w.params fk fd dd cca aa ca c' doc pm ctv k1 k2 k3 tn many lea cco o avs an post := by
        rcases List.mem_append.mp hp with q | q
        · exact List.mem_append_left _ q
        · exact List.mem_append_right _ (by simp [q])
      refine ⟨K _ _ (N p hp').1 fun q => ?_, (N p hp').2.1, kT.none_ _ (N p hp').2.2⟩
      rcases List.mem_append.mp q with q | q
      · exact hoff p hp q
      · exact far p hp' q
    intro p hp
    rcases List.mem_cons.mp hp with rfl | hp
    · exact N' _ (.head _)
    rcases List.mem_append.mp hp with q | q
    · exact old p (List.mem_append_left _ q)
    · by_cases hpost : p ∈ post
      · exact old p (List.mem_append_right _ hpost)
      · refine N' p (.tail _ ?_)
        simp only [List.mem_cons] at q
        rcases q with q | q | q | q | q | q | q
        · rw [q]; exact .head _
        · rw [q]; exact .tail _ (.head _)
        · rw [q]; exact .tail _ (.tail _ (.head _))
        · rw [q]; exact .tail _ (.tail _ (.tail _ (.head _)))
        · rw [q]; exact .tail _ (.tail _ (.tail _ (.tail _ (.head _))))
        · rw [q]; exact .tail _ (.tail _ (.tail _ (.tail _ (.tail _ (.head _)))))
        · exact absurd q hpost
  rcases hres with ⟨hl, rfl, rfl⟩ | ⟨hl, rfl, hf⟩
  · exact hret0 _ _ _ _ _ _ _ _ kT kF kB kX kP kD NW hqa neq hi (.inl ⟨hl, rfl⟩)
  rcases hf with ⟨rfl, hcan⟩ | ⟨fa, fvs, fs, fn, rfl, hfn, efa, hfi, hfs, hfc, hnc, hne⟩
  · exact hret0 _ _ _ _ _ _ _ _ kT kF kB kX kP kD NW hqa neq hi (.inr ⟨hl, rfl, hcan⟩)
  · refine hret1 h₀' fa fvs fs fn qa qvs qn an' h' tk' kT kF kB kX kP kD (fun p hp => ?_) hqa neq hi hfn (news_ne N hfn) hne hfi hfs hfc hnc hl
    rcases List.mem_cons.mp hp with rfl | hp
    · refine ⟨efa, fun (z : fa = L) => ?_, ?_⟩
      · obtain ⟨oL, _, _, eL, _⟩ := F.ns
        rw [z, eL] at hfn; cases hfn
      · refine kT.none_ _ ?_
        cases y : h₀.get? fa with
        | none => rfl
        | some x => rw [F.keep _ _ y] at hfn; cases hfn
    · exact NW p hp
end Mine
namespace Mine
/-- a question on the asked list -/
def AskIn (D : Dat) (add : List (Addr × Obj)) (v : Value) : Prop := ∃ a vs n qs, v = .ref a ∧ (a, tupObj vs n) ∈ add ∧ IntsAre vs qs ∧ Asc qs ∧ D.Nums qs ∧ qs.length ≤ 5
theorem AskIn.mono {D : Dat} {l l' : List (Addr × Obj)} {v : Value} (x : AskIn D l v) (h : ∀ q ∈ l, q ∈ l') : AskIn D l' v := by
  obtain ⟨a, vs, n, qs, e, hm, r⟩ := x
  exact ⟨a, vs, n, qs, e, h _ hm, r⟩
/-- what the while of shrunk keeps -/
inductive ShI (w : World) (p : Program) (loose : List Str) (mean : ExcName → Option Value) (mg mb : Str → Option Value) (A1 : Around) (base : Heap) (envs : List Env) (g1 H : Heap) (L1 : Addr) (m0 : Str → Option Value) (D : Dat)
    (fk fd dd cca aa ca c' sa : Addr) (doc pm ctv : Value) (k1 k2 k3 tn : Tok) (many : Int) (lea : Bool) (cco o : Obj) (avs svs : List Value) (ns : List Int) (limit : Int) (n : Nat) (h : Heap) : Prop where
  | mk (g' : Heap) (m' : Str → Option Value) (la wl nl : Addr) (lvs wvs nvs new : List Value) (ls ws xs : List Int) (wn nn an' : Nat) (lea' : Bool) (oW oN : Obj) (add : List (Addr × Obj))
    (c1 : KtsTurn (envs.filterMap (·.frame)) g1 g')
    (c2 : Fr g' L1 h m')
    (c3 : m' (Str.ofString "left") = some (.ref la))
    (c4 : (∀ z, z ≠ Str.ofString "left" → z ≠ Str.ofString "fewer" → m' z = m0 z))
    (c5 : News g' L1 h ((wl, listOf (List.toArray wvs) wn) :: (nl, listOf (List.toArray nvs) nn) :: (L1 + 1 + 1, oW) :: (L1 + 1, oN) :: sixL w.params fk fd dd cca aa ca c' doc pm ctv k1 k2 k3 tn many lea' cco o (avs ++ new) an' add))
    (c6 : Below A1 base envs g')
    (c7 : (Mine.hd.heap_39 w.params).In g')
    (c8 : Top p loose mean mg mb g')
    (c9 : KtsDicts (envs.filterMap (·.frame)) g')
    (c10 : oW.data = .cell (some (.ref wl)))
    (c11 : oN.data = .cell (some (.ref nl)))
    (c12 : ((la = sa ∧ lvs = svs) ∨ ∃ ln, (la, tupObj lvs ln) ∈ add))
    (c13 : IntsAre lvs ls)
    (c14 : IntsAre wvs ws)
    (c15 : IntsAre nvs xs)
    (c16 : ws.length = n)
    (c17 : ShP D ns avs.length limit lea ls xs ws (avs ++ new).length lea')
    (c18 : (∀ v ∈ new, AskIn D add v))
    (c19 : OwnOff add [nl, L1 + 1 + 1, L1 + 1, fk, fd, dd, cca, aa, ca])
    (c20 : (∀ q ∈ add, H.get? q.1 = none))
    (c21 : @LT.lt Nat _ (L1 + 1 + 1) nl)
    (c22 : wl ∉ [fk, fd, dd, cca, aa, ca])
    (c23 : @Ne Nat (L1 + 1 + 1) wl)
    (c24 : @Ne Nat wl nl)
theorem turn_tup {fs : List Addr} {g g' : Heap} {a : Addr} {its : Array Value} (T : KtsTurn fs g g') (h : IsTup g a its) : IsTup g' a its := by
  obtain ⟨o, e, hc, n, hd⟩ := h
  obtain ⟨sl, e'⟩ := T.up e
  exact ⟨_, e', hc, n, hd⟩
theorem turn_code {fs : List Addr} {g g' : Heap} {c : Addr} {q : Str} (T : KtsTurn fs g g') (x : g.CodeRec (.ref c) q) : g'.CodeRec (.ref c) q := by
  obtain ⟨a, o, vs, t, e, ho, r⟩ := x
  cases e
  obtain ⟨sl, e'⟩ := T.up ho
  exact ⟨_, _, vs, t, rfl, e', r⟩
theorem InH.turn {I g g' : Heap} {fs S : List Addr} (x : InH I (fs ++ S) g) (T : KtsTurn fs g g') : InH I S g' := fun b o e =>
  ⟨T.other b o (x b o e).1 fun q => (x b o e).2 (List.mem_append_left _ q), fun q => (x b o e).2 (List.mem_append_right _ q)⟩
abbrev mapOf {g h : Heap} {L : Addr} {m : Str → Option Value} (_ : Fr g L h m) : Str → Option Value := m
theorem name5 {h₀ h : Heap} {L a b c d e : Addr} {vs : List Value} {n n' : Nat} {o2 o4 o5 : Obj} {vs' : Array Value} {r : List (Addr × Obj)} (_ : News h₀ L h ((a, listOf (List.toArray vs) n) :: (b, o2) :: (c, listOf vs' n') :: (d, o4) :: (e, o5) :: r)) :
    ∃ a' n₁ c' n₂ o4' o5', a' = a ∧ n₁ = n ∧ c' = c ∧ n₂ = n' ∧ o4' = o4 ∧ o5' = o5 := ⟨_, _, _, _, _, _, rfl, rfl, rfl, rfl, rfl, rfl⟩
/-- is this value an int other than this -/
def neP (w : Int) : Value → Bool
  | .int k _ => decide (k ≠ w)
  | _ => false
/-- is this value an int and none of these -/
def outP (xs : List Int) : Value → Bool
  | .int k _ => !decide (k ∈ xs)
  | _ => false
theorem left_at {g h : Heap} {L la sa : Addr} {m : Str → Option Value} {lvs svs : List Value} {add led : List (Addr × Obj)} (hla : (la = sa ∧ lvs = svs) ∨ ∃ ln, (la, tupObj lvs ln) ∈ add) (hs : IsTup g sa svs.toArray)
    (F : Fr g L h m) (N : News g L h led) (hsub : ∀ q ∈ add, q ∈ led) : IsTup h la lvs.toArray := by
  rcases hla with ⟨rfl, rfl⟩ | ⟨ln, hm⟩
  · exact tbase_now hs F
  · exact News.isTup N (hsub _ hm)
theorem natEq {a b : Addr} (h : a = b) : @Eq Nat a b := h
theorem none_H {H g1 g' h : Heap} {fs S : List Addr} {L x : Addr} {m : Str → Option Value} {led : List (Addr × Obj)} (G : GSub H g1 S) (T : KtsTurn fs g1 g') (F : Fr g' L h m) (N : News g' L h led) (hS : ∀ a ∈ S, ∃ o, (a, o) ∈ led) (hn : h.get? x = none) : H.get? x = none := by
  cases e : H.get? x with
  | none => rfl
  | some o =>
    by_cases q : x ∈ S
    · obtain ⟨o', ho⟩ := hS x q
      have y := (N _ ho).1
      dsimp only at y
      rw [y] at hn; cases hn
    · obtain ⟨sl, hs⟩ := T.up (G _ _ e q)
      rw [F.keep _ _ hs] at hn; cases hn
theorem name_push {h₀ h : Heap} {L nl : Addr} {x : Int} {t : Tok} {k : Nat} {a1 a2 : Addr × Obj} {nvs : List Value} {r : List (Addr × Obj)} (_ : News h₀ L h (a1 :: a2 :: (nl, listOf (List.toArray (nvs ++ [Value.int x t])) k) :: r)) : ∃ t' k', t' = t ∧ k' = k := ⟨_, _, rfl, rfl⟩
theorem push_app (nvs : List Value) (v : Value) : nvs.toArray.push v = (nvs ++ [v]).toArray := by simp
theorem six_mem {P : Params} {fk fd dd cca aa ca c' : Addr} {doc pm ctv : Value} {k1 k2 k3 tn : Tok} {many : Int} {lea : Bool} {cco o : Obj} {avs : List Value} {an : Nat} {post led : List (Addr × Obj)} (h : ∀ q ∈ sixL P fk fd dd cca aa ca c' doc pm ctv k1 k2 k3 tn many lea cco o avs an post, q ∈ led) :
    ∀ a ∈ [fk, fd, dd, cca, aa, ca], ∃ o, (a, o) ∈ led := by
  intro a ha
  simp only [List.mem_cons, List.not_mem_nil, or_false] at ha
  rcases ha with rfl | rfl | rfl | rfl | rfl | rfl
  · exact ⟨_, h _ (.head _)⟩
  · exact ⟨_, h _ (.tail _ (.head _))⟩
  · exact ⟨_, h _ (.tail _ (.tail _ (.head _)))⟩
  · exact ⟨_, h _ (.tail _ (.tail _ (.tail _ (.head _))))⟩
  · exact ⟨_, h _ (.tail _ (.tail _ (.tail _ (.tail _ (.head _)))))⟩
  · exact ⟨_, h _ (.tail _ (.tail _ (.tail _ (.tail _ (.tail _ (.head _))))))⟩
/-- the end of a turn: what is kept -/
theorem ShI.turn {w : World} {p : Program} {loose : List Str} {mean : ExcName → Option Value} {mg mb : Str → Option Value} {A1 : Around} {base : Heap} {envs : List Env} {g1 H : Heap} {L1 : Addr} {m0 : Str → Option Value} {D : Dat}
    {fk fd dd cca aa ca c' sa : Addr} {doc pm ctv : Value} {k1 k2 k3 tn : Tok} {many : Int} {lea : Bool} {cco o : Obj} {avs svs : List Value} {ns : List Int} {limit : Int} {n : Nat} {s : Shared} {h : Heap} {tk : Nat}
    {g' : Heap} {m' : Str → Option Value} {la wl nl qa : Addr} {lvs wvs nvs new qvs : List Value} {ls ws xs qs : List Int} {wn nn an' qn : Nat} {lea' : Bool} {oW oN : Obj} {add add₂ : List (Addr × Obj)}
    (kT : KtsTurn (envs.filterMap (·.frame)) g1 g') (F : Fr g' L1 h m') (hleft : m' (Str.ofString "left") = some (.ref la)) (hsame : ∀ z, z ≠ Str.ofString "left" → z ≠ Str.ofString "fewer" → m' z = m0 z)
    (N : News g' L1 h ((wl, listOf (List.toArray wvs) wn) :: (nl, listOf (List.toArray nvs) nn) :: (L1 + 1 + 1, oW) :: (L1 + 1, oN) :: sixL w.params fk fd dd cca aa ca c' doc pm ctv k1 k2 k3 tn many lea' cco o (avs ++ new ++ [.ref qa]) an' add₂))
    (B : Below A1 base envs g') (X : (Mine.hd.heap_39 w.params).In g') (T : Top p loose mean mg mb g') (Dk : KtsDicts (envs.filterMap (·.frame)) g')
    (dW : oW.data = .cell (some (.ref wl))) (dN : oN.data = .cell (some (.ref nl))) (hla : (la = sa ∧ lvs = svs) ∨ ∃ ln, (la, tupObj lvs ln) ∈ add₂) (hli : IntsAre lvs ls) (hwi : IntsAre wvs ws) (hni : IntsAre nvs xs)
    (hP : ShP D ns avs.length limit lea ls xs ws ((avs ++ new).length + 1) lea' ∧ ws.length < n) (hask : ∀ v ∈ new, AskIn D add v) (hadd : ∀ q ∈ add, q ∈ add₂) (hqm : (qa, tupObj qvs qn) ∈ add₂) (hqi : IntsAre qvs qs) (hqa : Asc qs) (hqn : D.Nums qs) (hql : qs.length ≤ 5)
    (hoff : OwnOff add₂ [nl, L1 + 1 + 1, L1 + 1, fk, fd, dd, cca, aa, ca]) (hfresh : ∀ q ∈ add₂, H.get? q.1 = none) (hl1 : @LT.lt Nat _ (L1 + 1 + 1) nl) (hl2 : wl ∉ [fk, fd, dd, cca, aa, ca]) (hl4 : @Ne Nat (L1 + 1 + 1) wl) (hl3 : @Ne Nat wl nl) :
    WEnd (ShI w p loose mean mg mb A1 base envs g1 H L1 m0 D fk fd dd cca aa ca c' sa doc pm ctv k1 k2 k3 tn many lea cco o avs svs ns limit) n s { s with heap := h, toks := tk } := by
  refine ⟨h, tk, ws.length, rfl, hP.2, g', m', la, wl, nl, lvs, wvs, nvs, new ++ [.ref qa], ls, ws, xs, wn, nn, an', lea', oW, oN, add₂, kT, F, hleft, hsame, ?_, B, X, T, Dk, dW, dN, hla, hli, hwi, hni, rfl, ?_, ?_, hoff, hfresh, hl1, hl2, hl4, hl3⟩
  · rw [← List.append_assoc]; exact N
  · rw [← List.append_assoc, List.length_append (as := avs ++ new)]; exact hP.1
  · intro v hv
    rcases List.mem_append.mp hv with hv | hv
    · exact (hask v hv).mono hadd
    · rw [List.mem_singleton.mp hv]
      exact ⟨qa, qvs, qn, qs, rfl, hqm, hqi, hqa, hqn, hql⟩
theorem not_six {fk fd dd cca aa ca x : Addr} {led : List (Addr × Obj)} (h : AllNe x led) (hs : ∀ a ∈ [fk, fd, dd, cca, aa, ca], ∃ o, (a, o) ∈ led) : x ∉ [fk, fd, dd, cca, aa, ca] := fun q =>
  let ⟨_, ho⟩ := hs x q
  h.out _ ho rfl
theorem six_lt {fk fd dd cca aa ca B x : Nat} (h : fk < B ∧ fd < B ∧ dd < B ∧ cca < B ∧ aa < B ∧ ca < B) (hx : B ≤ x) : x ∉ [fk, fd, dd, cca, aa, ca] := by
  intro q
  simp only [List.mem_cons, List.not_mem_nil, or_false] at q
  omega
theorem mem_re {α : Type} {x q w n W N a b c d e f : α} {l : List α} : ∀ z ∈ x :: n :: W :: N :: a :: b :: c :: d :: e :: f :: q :: l, z ∈ x :: q :: w :: n :: W :: N :: a :: b :: c :: d :: e :: f :: l := by
  intro z hz
  simp only [List.mem_cons] at hz ⊢
  rcases hz with h | h | h | h | h | h | h | h | h | h | h | h <;> simp [h]
theorem mem_re2 {α : Type} {x y q w n W N a b c d e f : α} {l : List α} : ∀ z ∈ x :: n :: W :: N :: a :: b :: c :: d :: e :: f :: y :: q :: l, z ∈ x :: y :: q :: w :: n :: W :: N :: a :: b :: c :: d :: e :: f :: l := by
  intro z hz
  simp only [List.mem_cons] at hz ⊢
  rcases hz with h | h | h | h | h | h | h | h | h | h | h | h | h <;> simp [h]
theorem off_cons {x : Addr} {o : Obj} {add led : List (Addr × Obj)} {l : List Addr} (h : AllNe x led) (hs : ∀ c ∈ l, ∃ o, (c, o) ∈ led) (hoff : OwnOff add l) : OwnOff ((x, o) :: add) l := fun p hp c hc => by
  rcases List.mem_cons.mp hp with rfl | hp
  · obtain ⟨oc, ho⟩ := hs c hc
    exact fun z => h.out _ ho z.symm
  · exact hoff p hp c hc
theorem nine_mem {P : Params} {fk fd dd cca aa ca c' nl LW LN : Addr} {doc pm ctv : Value} {k1 k2 k3 tn : Tok} {many : Int} {lea : Bool} {cco o : Obj} {avs : List Value} {an : Nat} {post pre : List (Addr × Obj)} {on oW oN : Obj} :
    ∀ a ∈ [nl, LW, LN, fk, fd, dd, cca, aa, ca], ∃ x, (a, x) ∈ pre ++ (nl, on) :: (LW, oW) :: (LN, oN) :: sixL P fk fd dd cca aa ca c' doc pm ctv k1 k2 k3 tn many lea cco o avs an post := by
  intro a ha
  rcases List.mem_cons.mp ha with rfl | ha
  · exact ⟨_, List.mem_append_right _ (.head _)⟩
  rcases List.mem_cons.mp ha with rfl | ha
  · exact ⟨_, List.mem_append_right _ (.tail _ (.head _))⟩
  rcases List.mem_cons.mp ha with rfl | ha
  · exact ⟨_, List.mem_append_right _ (.tail _ (.tail _ (.head _)))⟩
  obtain ⟨x, hx⟩ := six_mem (led := sixL P fk fd dd cca aa ca c' doc pm ctv k1 k2 k3 tn many lea cco o avs an post) (fun q hq => hq) a ha
  exact ⟨x, List.mem_append_right _ (.tail _ (.tail _ (.tail _ hx)))⟩
theorem mem_last {α : Type} {q a b c d e f z : α} (h : z ∈ a :: b :: c :: d :: e :: f :: q :: []) : z ∈ q :: a :: b :: c :: d :: e :: f :: [] := by
  simp only [List.mem_cons, List.not_mem_nil, or_false] at h ⊢
  rcases h with h | h | h | h | h | h | h <;> simp [h]
theorem mem_two {α : Type} {x y a b c d e f z : α} {l : List α} (h : z ∈ a :: b :: c :: d :: e :: f :: x :: y :: l) : z ∈ x :: y :: a :: b :: c :: d :: e :: f :: l := by
  simp only [List.mem_cons] at h ⊢
  rcases h with h | h | h | h | h | h | h | h | h <;> simp [h]
end Mine

local macro_rules | `(tactic| walk_at "mine_enterSC") => `(tactic| (k_extra "mine_entSC_a"; intro g' L' h' tk' cells' FG' F' N' Y' B' X' T' D' l1 kG' kL'; (try k_lt l1); k_cells Y'; (try simp only [List.cons_append, List.nil_append] at N'); (try dsimp only); (first | k_extra "mine_abs" | (try k_fold))))
theorem Mine.fresh22 : True := by
  w_top off
  k_with "mine_entSC_a" => ((k_dflt (refine' Mine.m_enterSC ?k1qh ?k2qh ?k3qh ?k4qh ?k5qh ?kXBqh ?kTBqh ?kDDqh ?kAqh ?kFqh ?kKqh ?k6qh ?k7qh ?k8qh ?k9qh ?kBqh ?kDqh ?_ ?c2qh ?c3qh ?c4qh; (case kAqh => exact rfl); (case kFqh => exact rfl); (case kKqh => assumption); (case k1qh => k_asm); (case k2qh => k_asm); (case k3qh => k_asm); (case k4qh => k_asm); (case k5qh => k_asm); (case kXBqh => assumption); (case kTBqh => assumption); (case kDDqh => assumption); (case k6qh => k_is); (case k7qh => k_is); (case k8qh => ktr_room); (case k9qh => exact BindsTo.of_eq rfl); (case kBqh => exact rfl); (case kDqh => decide +kernel); (case c2qh => exact rfl); (case c3qh => exact rfl); (case c4qh => exact rfl); k_whole)))
  k_with "mine_stepsW" => (repeat' ((fail_if_success (with_reducible show Mine.WPost _ _ _ _ _ _)); (fail_if_success (with_reducible show wpAny _ _ (exec (Stmt.While _ _ _ _) _) _ _ _)); (fail_if_success (with_reducible show wpAny _ _ (eval (Expr.ListComp _ _ _ _) _) _ _ _)); (first | k_extra "mine_post" | (k_unfold; (try dsimp only)) | (k_end; wrow_close) | walk1 | (dsimp only; walk1) | (leave1; walk_say "STEP leave1"; try dsimp only) | fail "no step")))
  k_with "my compareOp NotIn int ref" => ((k_here; (with_reducible show wpAny _ _ (compareOp CmpOp.NotIn (Value.int _ _) (Value.ref _)) _ _ _); (refine' Mine.m_notin ?k1qh ?k2qh ?_; (case k1qh => exact Or.inl (by is_list)); (case k2qh => assumption)); walk_say "NOT IN"))
  k_with "mine_stepsN" => (repeat' ((fail_if_success (with_reducible show wpAny _ _ (compareOp CmpOp.NotIn _ _) _ _ _)); (first | k_extra "mine_post" | (k_unfold; (try dsimp only)) | (k_end; wrow_close) | walk1 | (dsimp only; walk1) | fail "no step")))
  trivial
namespace Mine
theorem sh_c (w : World) {p : Program} {loose : List Str} {mean : ExcName → Option Value} {mg mb : Str → Option Value}
    (dp un : Nat) (gd : Option (List Code)) (cn : Str) (cs : Scope) (a : Addr) (ccd : Value) (cl : List (Str × Addr)) (outer : List Env) (A₀ : Around) (base h₀ : Heap) (L : Addr) (m : Str → Option Value) (s : Shared)
    (D : Dat) (fd dd fk c' cca ca aa sa : Addr) (doc pm ctv : Value) (o cco : Obj) (k1 k2 k3 tn : Tok) (many : Int) (lea : Bool) (way limit : Int) (t1 t2 t3 : Tok) (avs svs : List Value) (an : Nat) (ns : List Int) (Q E : Value → Shared → Prop)
    (B : Below A₀ base outer h₀) (F : Fr h₀ L s.heap m) (X : (hd.heap_39 w.params).In h₀) (N : News h₀ L s.heap [(fk, askFn cca c' doc pm ctv), (fd, instObj 96 dd), (dd, dictOf (finEs w.params k1 k2 k3 fk many tn lea) 3), (cca, cco), (aa, listOf avs.toArray an), (ca, o)]) (T : Top p loose mean mg mb h₀) (hk : cs.kind = .function)
    (XB : (hd.heap_39 w.params).In base) (TB : Top p loose mean mg mb base) (Dk : KtsDicts (outer.filterMap (·.frame)) h₀)
    (six : Six fk fd dd cca aa ca)
    (hrec : s.heap.CodeRec (.ref c') (Str.ofString "law.<locals>._law_ask")) (hcco : cco.data = .cell (some (.ref ca)))
    (hd : o.IsDictOf (PySem.strKind PG w) [("many", .int D.many t1), ("formulas", .ref D.fa), ("granted", .ref D.ga), ("asked", .ref aa), ("way", .int way t2), ("limit", .int limit t3)])
    (ok : D.Ok) (hI : InH D.I ((L :: outer.filterMap (·.frame)) ++ [fk, fd, dd, cca, aa, ca]) s.heap) (hw0 : 0 ≤ way) (hw1 : way ≤ 2) (hav : avs.length ≤ 400) (hlm0 : 0 ≤ limit) (hlm1 : limit ≤ 10)
    (hs : s.heap.IsTuple sa svs.toArray) (hsi : IntsAre svs ns) (hsa : sa ∉ [fk, fd, dd, cca, aa, ca]) (hc' : c' ∉ [fk, fd, dd, cca, aa, ca]) (hsl : ns.length ≤ 5) (hsb : D.Nums ns)
    (hasc : Asc ns) (hno : D.can ns = false) (hdp : dp + 8 < recursionLimit) (hun : un + 800 < cLine)
    (hret : ∀ h₀' ra rvs rs new add an' lea' h' tk', KtsTurn (outer.filterMap (·.frame)) h₀ h₀' → Fr h₀' L h' m → Below A₀ base outer h₀' → (Mine.hd.heap_39 w.params).In h₀' → Top p loose mean mg mb h₀' → KtsDicts (outer.filterMap (·.frame)) h₀' →
      KeepBut ([fk, fd, dd, cca, aa, ca] ++ L :: outer.filterMap (·.frame)) s.heap h' →
      News h₀' L h' (sixL w.params fk fd dd cca aa ca c' doc pm ctv k1 k2 k3 tn many lea' cco o (avs ++ new) an' add) → (∀ v ∈ new, AskIn D add v) → (∀ q ∈ add, s.heap.get? q.1 = none) → IsTup h' ra (List.toArray rvs) → (ra = sa ∨ ∃ n, (ra, tupObj rvs n) ∈ add) →
      IntsAre rvs rs → rs.Sublist ns → D.can rs = false → (lea' = if (avs.length : Int) < limit ∧ limit ≤ ((avs ++ new).length : Int) then false else lea) →
      (¬((avs.length : Int) < limit ∧ limit ≤ ((avs ++ new).length : Int)) → ∀ k ∈ rs, D.can (rs.filter (fun j => decide (j ≠ k))) = true) → new.length ≤ ns.length → Q (.ref ra) { s with heap := h', toks := tk' }) :
    wpAny (model PG w) (ktrTop dp un gd cn cs L a ccd cl outer) (call (.ref 86) [.ref fd, .ref sa]) Q E s := by
  suffices h : Mine.hd.heap_39 = Mine.hd.heap_39 → PySem.Challenge.rw_nu0263_01 = PySem.Challenge.rw_nu0263_01 → wpAny (model PG w) (ktrTop dp un gd cn cs L a ccd cl outer) (call (.ref 86) [.ref fd, .ref sa]) Q E s from h rfl rfl
  k_fill
  intro _ _
  refine wpAny_call ?_
  walk_at "mine_enterSC"
  rename_i g1 L1 hh1 tk1 FG1 F1 B1 X1 T1 D1 kG' kL l1 oW oN dW dN N0
  have hrg := codeRec_ground kG' hrec hc'
  have hsg : IsTup g1 sa svs.toArray := isTup_keep (S := [fk, fd, dd, cca, aa, ca]) kG' hs hsa
  have hsq : SeqAt g1 sa svs := .inr hsg
  have hIg : InH D.I ((envX cn cs L a ccd cl :: outer).filterMap (·.frame) ++ [fk, fd, dd, cca, aa, ca]) g1 := fun b ob e => ⟨kG' _ _ (hI b ob e).1 fun q => (hI b ob e).2 (List.mem_append_right _ (by simpa using q)), (hI b ob e).2⟩
  have hsv : svs.length ≤ 5 := by rw [hsi.length]; exact hsl
  k_extra "mine_stepsW"
  rename Fr _ _ _ _ => F2
  rename News _ _ _ _ => N2
  obtain ⟨wl0, wn0, nl0, nn0, oW0, oN0, rfl, rfl, rfl, rfl, rfl, rfl⟩ := name5 N2
  with_unfolding_all refine' m_While (ShI w p loose mean mg mb (ktrTop dp un gd cn cs L a ccd cl outer) base (envX cn cs L a ccd cl :: outer) g1 s.heap L1 (mapOf F2) D fk fd dd cca aa ca c' sa doc pm ctv k1 k2 k3 tn many lea cco o avs svs ns limit) ?w0 ?turn ?hE
  case w0 => 
    refine ⟨g1, _, sa, wl0, nl0, svs, svs, [], [], ns, ns, [], wn0, 0, an, lea, oW0, oN0, [], KtsTurn.refl, F2, rfl, fun z _ _ => rfl, ?n1, B1, X1, T1, D1, ?n2, ?n3, .inl ⟨rfl, rfl⟩, hsi, hsi, .nil, rfl, ?n4, ?n5, ?n6, ?n7, ?n8, ?n9, ?n10, ?n11⟩
    case n2 => assumption
    case n3 => assumption
    case n1 =>
      rw [List.append_nil]
      exact fun q hq => N2 q ((by k_extra "mine_mem" : ∀ p ∈ _, p ∈ _) q hq)
    case n4 => rw [List.append_nil]; exact ShP.start hno
    case n5 => intro v hv; cases hv
    case n6 => intro v hv; cases hv
    case n7 => intro v hv; cases hv
    case n8 => omega
    case n9 => exact six_lt l1 (by omega)
    case n10 => omega
    case n11 => omega
  case turn =>
    rintro n h₁ tk₁ ⟨g', m', la, wl, nl, lvs, wvs, nvs, new, ls, ws, xs, wn, nn, an', lea', oW', oN', add, kT, F3, hleft, hsame, N3, B3, X3, T3, D3, dW3, dN3, hla, hli, hwi, hni, hn, hP, hask, hoff, hfresh, hl1, hl2, hl4, hl3⟩
    have hmm := g_self hsame
    rw [hmm, hleft] at F3
    generalize m' (Str.ofString "fewer") = fv at F3
    clear hmm hsame hleft
    dsimp only [mapOf] at F3
    have hIg' : InH D.I [fk, fd, dd, cca, aa, ca] g' := hIg.turn kT
    have hrg' := turn_code kT hrg
    have hsg' := turn_tup kT hsg
    clear B1 X1 T1 D1
    cases hwi with
    | nil =>
      have htup := left_at hla hsg' F3 N3 (fun q hq => by simp only [sixL, List.mem_cons]; simp [hq])
      have hla2 : la = sa ∨ ∃ n, (la, tupObj lvs n) ∈ add := hla.imp (fun e => e.1) id
      have hcnt := hP.cnt
      k_extra "mine_stepsW"
      rename KtsTurn (List.filterMap _ outer) _ _ => kT9
      rename Fr _ L _ _ => kF9
      rename Fr _ L1 _ _ => kF8
      rename News _ L _ _ => kN9
      refine hret _ la lvs ls new add an' lea' _ _ kT9 kF9 (by assumption) (by assumption) (by assumption) (by assumption) (keepBut_turn kG' kT kF8) (fun q hq => kN9 q (.tail _ (.tail _ (.tail _ (.tail _ hq))))) hask hfresh htup hla2 hli hP.sub hP.no hP.least hP.done ?_
      rw [List.length_append, List.length_nil] at hcnt
      omega
    | @cons w0 wt wvr wsr hwr =>
      have hlv : lvs.length ≤ 5 := by rw [hli.length]; exact Nat.le_trans hP.sub.length_le hsl
      have hwvr : wvr.length ≤ 5 := by
        have c := hP.cnt
        have g := hP.ge
        rw [List.length_cons] at c
        rw [hwr.length]; omega
      have hnvl : nvs.length ≤ 5 := by
        have c := hP.cnt
        have g := hP.xl
        rw [List.length_cons] at c
        rw [hni.length]; omega
      k_extra "mine_stepsW"
      rename Fr _ _ _ _ => F4
      refine m_listComp (neP w0) (fun v y => y = v) F4 rfl (by with_unfolding_all rfl) (by decide) rfl (by decide) rfl ?_ (fun _ => by with_unfolding_all rfl)
      k_extra "mine_stepsL"
      rename Fr _ _ _ _ => F5
      rename News _ _ _ _ => N5
      refine ⟨la, lvs, _, rfl, .inr (left_at hla hsg' F5 N5 (fun q hq => by simp only [sixL, List.mem_cons]; simp [hq])), by rw [sizeLine_eq]; omega, F5, N5, ?_, ?_, ?_⟩
      · intro C v s₃ m₃ E' hv hC hNs hmx hkeep F6 N6
        obtain ⟨k, hkm, t, rfl⟩ := ints_mem hli hv
        unfold testsOf
        k_extra "mine_stepsL"
        · show (k != w0) = decide (k ≠ w0)
          by_cases e : k = w0 <;> simp [e, bne]
        · exact ⟨_, _, rfl, fun _ _ e => e⟩
      · intro C v s₃ m₃ E' hv hp hC hNs hmx hkeep F6 N6
        obtain ⟨k, hkm, t, rfl⟩ := ints_mem hli hv
        k_extra "mine_stepsL"
        exact ⟨_, _, rfl, fun _ _ e => e⟩
      · intro D1 ys n1 h1 tk1 F6 N6 hD1 hP1 hK1 hDn1
        cases paired_self hP1
        have hD1s := not_six hD1 (six_mem fun q hq => List.mem_append_right [(wl, _), (nl, _), (L1 + 1 + 1, _), (L1 + 1, _)] hq)
        k_extra "mine_stepsW"
        have hfs := ints_filter (p := neP w0) (q := fun k => decide (k ≠ w0)) (fun _ _ => rfl) hli
        have hsub2 : (ls.filter (fun k => decide (k ≠ w0))).Sublist ns := List.filter_sublist.trans hP.sub
        refine' fw_k D [(D1, listOf (List.filter (neP w0) lvs).toArray n1), (wl, listOf (Value.int w0 wt :: wvr).toArray wn), (nl, listOf nvs.toArray nn), (L1 + 1 + 1, oW'), (L1 + 1, oN')] B3 F6 X3 N6 T3 rfl XB TB D3 six ?hoff (PySem.Heap.CodeRec.keeps hrg' F6.keep) hcco hd ok (InH.fr hIg' F6) hw0 hw1 ?hav hlm0 hlm1 (.inl ⟨_, News.isList N6 (.head _), hfs⟩) ?hsa hc' (Nat.le_trans hsub2.length_le hsl) (hsb.sub fun k hk => hsub2.subset hk) (hasc.sublist hsub2) ?hdp ?hun ?ret0 ?ret1
        case hoff =>
          intro p9 hp9
          rcases List.mem_append.mp hp9 with hp9 | hp9
          · rcases List.mem_cons.mp hp9 with rfl | hp9
            · exact hD1s
            rcases List.mem_cons.mp hp9 with rfl | hp9
            · exact hl2
            rcases List.mem_cons.mp hp9 with rfl | hp9
            · exact six_lt l1 (by omega)
            rcases List.mem_cons.mp hp9 with rfl | hp9
            · exact six_lt l1 (by omega)
            · rw [List.mem_singleton.mp hp9]
              exact six_lt l1 (by omega)
          · exact fun q9 => hoff p9 hp9 p9.1 (List.mem_append_right [nl, L1 + 1 + 1, L1 + 1] q9) rfl
        case hav =>
          have c := hP.cnt
          rw [List.length_cons] at c
          omega
        case hsa => exact hD1s
        case hdp => ktr_room
        case hun => ktr_units
        case ret0 =>
          intro h₀' qa qvs qn an2 lea2 h2 tk2 kT2 F7 B7 X7 T7 D7 N7 hqa hqn hqi hres
          simp only [List.cons_append, List.nil_append, sixL] at N7 hqn
          have hqH := none_H kG' kT F6 N6 (six_mem fun q hq => List.mem_append_right [(D1, _), (wl, _), (nl, _), (L1 + 1 + 1, _), (L1 + 1, _)] hq) hqa
          have q3 : @Ne Nat nl qa := hqn.out (nl, _) (by k_extra "mine_at")
          have q4 : @Ne Nat (L1 + 1 + 1) qa := hqn.out (L1 + 1 + 1, _) (by k_extra "mine_at")
          have N7' : News h₀' L1 h2 ((qa, _) :: (wl, _) :: _) := fun q hq => N7 q (by
            rcases List.mem_cons.mp hq with hq | hq
            · exact hq ▸ List.Mem.head _
            · exact .tail _ (.tail _ hq))
          clear N7
          clear F6 B3 X3 T3 D3 N6 F5 N5
          k_extra "mine_stepsW"
          rename News _ _ _ _ => N8
          rename Fr _ _ _ _ => F8
          rw [push_app] at N8
          obtain ⟨t9, k9, rfl, rfl⟩ := name_push (a1 := _) (a2 := _) N8
          have hni2 : IntsAre (nvs ++ [Value.int ((w0 :: wsr).getD (Int.toNat 0) 0) t9]) (xs ++ [w0]) := intsAre_snoc hni
          have hsg2 := turn_tup kT2 hsg'
          refine m_listComp (outP (xs ++ [w0])) (fun v y => y = v) F8 rfl (by with_unfolding_all rfl) (by decide) rfl (by decide) rfl ?_ (fun _ => by with_unfolding_all rfl)
          k_extra "mine_stepsL"
          rename Fr _ _ _ _ => F9
          rename News _ _ _ _ => N9
          refine ⟨la, lvs, _, rfl, .inr (left_at hla hsg2 F9 N9 (fun q hq => by simp only [List.mem_cons]; simp [hq])), by rw [sizeLine_eq]; omega, F9, N9, ?_, ?_, ?_⟩
          · intro C v s₃ m₃ E' hv hC hNs hmx hkeep F6 N6
            obtain ⟨k, hkm, t, rfl⟩ := ints_mem hli hv
            unfold testsOf
            k_extra "mine_stepsN"
            k_here
            (with_reducible show wpAny _ _ (compareOp CmpOp.NotIn (Value.int _ _) (Value.ref _)) _ _ _)
            refine' Mine.m_notin ?k1 ?k2 ?_
            case k1 => exact Or.inl (by is_list)
            case k2 => assumption
            k_extra "mine_stepsN"
            exact ⟨_, _, rfl, fun _ _ e => e⟩
          · intro C v s₃ m₃ E' hv hp hC hNs hmx hkeep F6 N6
            obtain ⟨k, hkm, t, rfl⟩ := ints_mem hli hv
            k_extra "mine_stepsL"
            exact ⟨_, _, rfl, fun _ _ e => e⟩
          · intro D2 ys n2 h3 tk3 F10 N10 hD2 hP2 hK2 hDn2
            cases paired_self hP2
            have r4 : @Ne Nat (L1 + 1 + 1) D2 := hD2.out (L1 + 1 + 1, _) (by k_extra "mine_at")
            k_extra "mine_stepsW"
            rename News _ _ _ _ => N11
            rename Fr _ _ _ _ => F11
            show WEnd _ _ _ _
            refine' ShI.turn (qa := qa) (qvs := qvs) (qn := qn) (add := add) (add₂ := (qa, tupObj qvs qn) :: add) (kT.trans kT2) F11 ?n0 ?n1 (fun z hz => N11 z (mem_re z hz)) B7 X7 T7 D7 ?n2 dN3 (hla.imp id fun ⟨ln, h⟩ => ⟨ln, .tail _ h⟩) hli (ints_filter (fun _ _ => rfl) hli) hni2 ?n3 hask (fun q hq => .tail _ hq) (.head _) hqi (hasc.sublist hsub2) (hsb.sub fun k hk => hsub2.subset hk) (Nat.le_trans hsub2.length_le hsl) ?n4 ?n5 hl1 ?n6 r4 ?n7
            case n0 => with_unfolding_all rfl
            case n1 =>
              intro z z1 z2
              simp only [mapOf]
              rw [if_neg z2, if_neg z1, if_neg z2]
            case n2 => assumption
            case n3 =>
              have y := hP.none hres
              rw [← hn]
              exact y
            case n4 => exact off_cons hqn (nine_mem (pre := [(D1, _), (wl, _)])) hoff
            case n5 =>
              intro q hq
              rcases List.mem_cons.mp hq with rfl | hq
              · exact hqH
              · exact hfresh q hq
            case n6 => exact not_six hD2 (six_mem fun q hq => List.mem_append_right [(qa, _), (wl, _), (nl, _), (L1 + 1 + 1, _), (L1 + 1, _)] hq)
            case n7 => exact fun z => (hD2.out (nl, _) (by k_extra "mine_at") : nl ≠ D2) z.symm
        case ret1 =>
          intro h₀' fa fvs fs fn qa qvs qn an2 h2 tk2 kT2 F7 B7 X7 T7 D7 N7 hqa hqn hqi hfn hfa hfq hfi hfs hfc hnc hl
          simp only [List.cons_append, List.nil_append, sixL] at N7 hqn hfa
          have hqH := none_H kG' kT F6 N6 (six_mem fun q hq => List.mem_append_right [(D1, _), (wl, _), (nl, _), (L1 + 1 + 1, _), (L1 + 1, _)] hq) hqa
          have hfH := none_H kG' kT F6 N6 (six_mem fun q hq => List.mem_append_right [(D1, _), (wl, _), (nl, _), (L1 + 1 + 1, _), (L1 + 1, _)] hq) hfn
          have q4 : @Ne Nat (L1 + 1 + 1) qa := hqn.out (L1 + 1 + 1, _) (by k_extra "mine_at")
          have q6 : @Ne Nat (L1 + 1 + 1) fa := hfa.out (L1 + 1 + 1, _) (by k_extra "mine_at")
          have N7' : News h₀' L1 h2 ((fa, _) :: (qa, _) :: (wl, _) :: _) := fun q hq => N7 q (by
            rcases List.mem_cons.mp hq with hq | hq
            · exact hq ▸ List.Mem.head _
            rcases List.mem_cons.mp hq with hq | hq
            · exact hq ▸ List.Mem.tail _ (List.Mem.head _)
            · exact .tail _ (.tail _ (.tail _ hq)))
          clear N7
          clear F6 B3 X3 T3 D3 N6 F5 N5
          have hfl : fvs.length ≤ 5 := by rw [hfi.length]; exact Nat.le_trans hfs.length_le (Nat.le_trans hsub2.length_le hsl)
          k_extra "mine_stepsW"
          rename News _ _ _ _ => N8
          rename Fr _ _ _ _ => F8
          refine m_listComp (outP xs) (fun v y => y = v) F8 rfl (by with_unfolding_all rfl) (by decide) rfl (by decide) rfl ?_ (fun _ => by with_unfolding_all rfl)
          k_extra "mine_stepsL"
          rename Fr _ _ _ _ => F9
          rename News _ _ _ _ => N9
          refine ⟨fa, fvs, _, rfl, .inr (News.isTup N9 (.head _)), by rw [sizeLine_eq]; omega, F9, N9, ?_, ?_, ?_⟩
          · intro C v s₃ m₃ E' hv hC hNs hmx hkeep F6 N6
            obtain ⟨k, hkm, t, rfl⟩ := ints_mem hfi hv
            unfold testsOf
            k_extra "mine_stepsN"
            (with_reducible show wpAny _ _ (compareOp CmpOp.NotIn (Value.int _ _) (Value.ref _)) _ _ _)
            refine' Mine.m_notin (Or.inl ?k1) hni ?_
            case k1 => is_list
            k_extra "mine_stepsN"
            exact ⟨_, _, rfl, fun _ _ e => e⟩
          · intro C v s₃ m₃ E' hv hp hC hNs hmx hkeep F6 N6
            obtain ⟨k, hkm, t, rfl⟩ := ints_mem hfi hv
            k_extra "mine_stepsL"
            exact ⟨_, _, rfl, fun _ _ e => e⟩
          · intro D2 ys n2 h3 tk3 F10 N10 hD2 hP2 hK2 hDn2
            cases paired_self hP2
            have r4 : @Ne Nat (L1 + 1 + 1) D2 := hD2.out (L1 + 1 + 1, _) (by k_extra "mine_at")
            k_extra "mine_stepsW"
            rename News _ _ _ _ => N11
            rename Fr _ _ _ _ => F11
            show WEnd _ _ _ _
            refine' ShI.turn (qa := qa) (qvs := qvs) (qn := qn) (add := add) (add₂ := (fa, tupObj fvs fn) :: (qa, tupObj qvs qn) :: add) (kT.trans kT2) F11 ?n0 ?n1 (fun z hz => N11 z (mem_re2 z hz)) B7 X7 T7 D7 ?n2 dN3 (.inr ⟨fn, .head _⟩) hfi (ints_filter (fun _ _ => rfl) hfi) hni ?n3 hask (fun q hq => .tail _ (.tail _ hq)) (.tail _ (.head _)) hqi (hasc.sublist hsub2) (hsb.sub fun k hk => hsub2.subset hk) (Nat.le_trans hsub2.length_le hsl) ?n4 ?n5 hl1 ?n6 r4 ?n7
            case n0 => with_unfolding_all rfl
            case n1 =>
              intro z z1 z2
              simp only [mapOf]
              rw [if_neg z1, if_neg z2, if_neg z1, if_neg z2]
            case n2 => assumption
            case n3 =>
              have y := hP.some hl hfs hfc
              rw [← hn]
              exact y
            case n4 => exact off_cons hfa (nine_mem (pre := [(D1, _), (wl, _)])) (off_cons hqn (nine_mem (pre := [(D1, _), (wl, _)])) hoff)
            case n5 =>
              intro q hq
              rcases List.mem_cons.mp hq with rfl | hq
              · exact hfH
              rcases List.mem_cons.mp hq with rfl | hq
              · exact hqH
              · exact hfresh q hq
            case n6 => exact not_six hD2 (six_mem fun q hq => List.mem_append_right [(fa, _), (qa, _), (wl, _), (nl, _), (L1 + 1 + 1, _), (L1 + 1, _)] hq)
            case n7 => exact fun z => (hD2.out (nl, _) (by k_extra "mine_at") : nl ≠ D2) z.symm
  case hE => passes_own
end Mine

theorem Mine.fresh23 : True := by
  w_top off
  trivial
namespace Mine
theorem range_off {P : Params} {prog : Program} {w : World} {g h : Heap} {L r fk fd dd cca aa ca c' : Addr} {doc pm ctv : Value} {k1 k2 k3 tn : Tok} {many a b c : Int} {t u v : Tok} {lea : Bool} {cco o : Obj} {avs : List Value} {an : Nat} {post : List (Addr × Obj)} {vc : Option Value} {kvs : List (Str × Value)}
    (R : IsRange h r a b c t u v) (N : News g L h (sixL P fk fd dd cca aa ca c' doc pm ctv k1 k2 k3 tn many lea cco o avs an post)) (hcco : cco.data = .cell vc) (hd : o.IsDictOf (PySem.strKind prog w) kvs) : r ∉ [fk, fd, dd, cca, aa, ca] := by
  intro q
  simp only [List.mem_cons, List.not_mem_nil, or_false] at q
  have R' : h.get? r = some _ := R
  rcases q with rfl | rfl | rfl | rfl | rfl | rfl
  · have e := N.get (.head _); rw [R'] at e; simp at e
  · have e := N.get (.tail _ (.head _)); rw [R'] at e; simp at e
  · have e := N.get (.tail _ (.tail _ (.head _))); rw [R'] at e; simp at e
  · have e := N.get (.tail _ (.tail _ (.tail _ (.head _)))); rw [R'] at e; cases e; simp at hcco
  · have e := N.get (.tail _ (.tail _ (.tail _ (.tail _ (.head _))))); rw [R'] at e; simp at e
  · have e := N.get (.tail _ (.tail _ (.tail _ (.tail _ (.tail _ (.head _)))))); rw [R'] at e; cases e
    obtain ⟨es, ep, hx, _⟩ := hd
    have := hx.1
    simp at this
theorem none_off {g h : Heap} {L x : Addr} {led : List (Addr × Obj)} {S : List Addr} (N : News g L h led) (hs : ∀ a ∈ S, ∃ o, (a, o) ∈ led) (hn : h.get? x = none) : x ∉ S := fun q => by
  obtain ⟨o, ho⟩ := hs _ q
  have e := (N _ ho).1
  dsimp only at e
  rw [e] at hn; cases hn
theorem asc_range (n : Nat) : Asc (rangeKs 0 n) := by
  show ((List.range n).map fun (i : Nat) => (0 : Int) + (i : Int)).Pairwise (· < ·)
  rw [List.pairwise_map]
  refine List.pairwise_lt_range.imp ?_
  intro a b h
  omega
/-- further objects of the ledger, behind a call that keeps them -/
theorem news_extra {A₀ : Around} {base h₀ h₀' h h₂ : Heap} {outer : List Env} {L : Addr} {ex led : List (Addr × Obj)} {S : List Addr} (B : Below A₀ base outer h₀) (N : News h₀ L h ex) (hoff : ∀ p ∈ ex, p.1 ∉ S) (K : KeepBut (S ++ L :: outer.filterMap (·.frame)) h h₂)
    (kT : KtsTurn (outer.filterMap (·.frame)) h₀ h₀') (N' : News h₀' L h₂ led) : News h₀' L h₂ (ex ++ led) := fun p hp => by
  rcases List.mem_append.mp hp with q | q
  · refine ⟨K _ _ (N p q).1 fun z => ?_, (N p q).2.1, kT.none_ _ (N p q).2.2⟩
    rcases List.mem_append.mp z with z | z
    · exact hoff p q z
    · exact frames_none B N p q z
  · exact N' p q
abbrev metP (avs new : List Value) (limit : Int) : Prop := ((avs.length + 1 : Nat) : Int) < limit ∧ limit ≤ ((avs ++ new).length : Int)
/-- what core gives back -/
def CoRes (D : Dat) (add : List (Addr × Obj)) (met : Prop) (r : Value) : Prop :=
  (r = .none ∧ D.can (rangeKs 0 D.fvs.length) = true) ∨ (∃ ra rvs rs n, r = .ref ra ∧ (ra, tupObj rvs n) ∈ add ∧ IntsAre rvs rs ∧ rs.Sublist (rangeKs 0 D.fvs.length) ∧ D.can rs = false ∧ D.can (rangeKs 0 D.fvs.length) = false ∧ (¬met → ∀ k ∈ rs, D.can (rs.filter (fun j => decide (j ≠ k))) = true))
theorem co_c (w : World) {p : Program} {loose : List Str} {mean : ExcName → Option Value} {mg mb : Str → Option Value}
    (dp un : Nat) (gd : Option (List Code)) (cn : Str) (cs : Scope) (a : Addr) (ccd : Value) (cl : List (Str × Addr)) (outer : List Env) (A₀ : Around) (base h₀ : Heap) (L : Addr) (m : Str → Option Value) (s : Shared)
    (D : Dat) (fd dd fk c' cca ca aa : Addr) (doc pm ctv : Value) (o cco : Obj) (k1 k2 k3 tn : Tok) (many : Int) (lea : Bool) (way limit : Int) (t1 t2 t3 : Tok) (avs : List Value) (an : Nat) (Q E : Value → Shared → Prop)
    (B : Below A₀ base outer h₀) (F : Fr h₀ L s.heap m) (X : (hd.heap_39 w.params).In h₀) (N : News h₀ L s.heap [(fk, askFn cca c' doc pm ctv), (fd, instObj 96 dd), (dd, dictOf (finEs w.params k1 k2 k3 fk many tn lea) 3), (cca, cco), (aa, listOf avs.toArray an), (ca, o)]) (T : Top p loose mean mg mb h₀) (hk : cs.kind = .function)
    (XB : (hd.heap_39 w.params).In base) (TB : Top p loose mean mg mb base) (Dk : KtsDicts (outer.filterMap (·.frame)) h₀)
    (six : Six fk fd dd cca aa ca)
    (hrec : s.heap.CodeRec (.ref c') (Str.ofString "law.<locals>._law_ask")) (hcco : cco.data = .cell (some (.ref ca)))
    (hd : o.IsDictOf (PySem.strKind PG w) [("many", .int D.many t1), ("formulas", .ref D.fa), ("granted", .ref D.ga), ("asked", .ref aa), ("way", .int way t2), ("limit", .int limit t3)])
    (ok : D.Ok) (hI : InH D.I ((L :: outer.filterMap (·.frame)) ++ [fk, fd, dd, cca, aa, ca]) s.heap) (hw0 : 0 ≤ way) (hw1 : way ≤ 2) (hav : avs.length ≤ 300) (hlm0 : 0 ≤ limit) (hlm1 : limit ≤ 10) (hlim : ((avs.length + 1 : Nat) : Int) ≠ limit)
    (hc' : c' ∉ [fk, fd, dd, cca, aa, ca]) (hmany : many = (D.fvs.length : Int)) (hdp : dp + 9 < recursionLimit) (hun : un + 900 < cLine)
    (hret : ∀ h₀' r new add an' lea' h' tk', KtsTurn (outer.filterMap (·.frame)) h₀ h₀' → Fr h₀' L h' m → Below A₀ base outer h₀' → (Mine.hd.heap_39 w.params).In h₀' → Top p loose mean mg mb h₀' → KtsDicts (outer.filterMap (·.frame)) h₀' →
      KeepBut ([fk, fd, dd, cca, aa, ca] ++ L :: outer.filterMap (·.frame)) s.heap h' →
      News h₀' L h' (sixL w.params fk fd dd cca aa ca c' doc pm ctv k1 k2 k3 tn many lea' cco o (avs ++ new) an' add) → (∀ v ∈ new, AskIn D add v) → (∀ q ∈ add, s.heap.get? q.1 = none) →
      (lea' = if metP avs new limit then false else true) → new.length ≤ 6 → CoRes D add (metP avs new limit) r → Q r { s with heap := h', toks := tk' }) :
    wpAny (model PG w) (ktrTop dp un gd cn cs L a ccd cl outer) (call (.ref 81) [.ref fd]) Q E s := by
  suffices h : Mine.hd.heap_39 = Mine.hd.heap_39 → PySem.Challenge.rw_nu0263_01 = PySem.Challenge.rw_nu0263_01 → wpAny (model PG w) (ktrTop dp un gd cn cs L a ccd cl outer) (call (.ref 81) [.ref fd]) Q E s from h rfl rfl
  k_fill
  intro _ _
  have six0 := six
  obtain ⟨f1, f2, f3, f4, f5, f6, f7, f8, f9, f10, f11, f12, f13, f14, f15⟩ := six0
  have hfv := ok.hfl
  refine wpAny_call ?_
  walk_at "mine_enterS"
  rename_i g1 L1 hh1 FG1 F1 N1 B1 X1 T1 D1 kG' kL l1
  have hrg := codeRec_ground kG' hrec hc'
  have hIg : InH D.I ((envX cn cs L a ccd cl :: outer).filterMap (·.frame) ++ [fk, fd, dd, cca, aa, ca]) g1 := fun b ob e => ⟨kG' _ _ (hI b ob e).1 fun q => (hI b ob e).2 (List.mem_append_right _ (by simpa using q)), (hI b ob e).2⟩
  have hev : rangeKs 0 many.toNat = rangeKs 0 D.fvs.length := by rw [hmany]; rfl
  have hnums : D.Nums (rangeKs 0 many.toNat) := fun k hk => by have := mem_rangeKs hk; omega
  have hlen : (rangeKs 0 many.toNat).length ≤ 5 := by rw [rangeKs_length]; omega
  k_extra "mine_steps"
  rename IsRange _ _ _ _ _ _ _ _ => R5
  rename Fr _ _ _ _ => F5
  rename News _ _ _ _ => N5
  refine' fo_k D B1 F5 X1 N5 T1 rfl six (PySem.Heap.CodeRec.keeps hrg F5.keep) hcco hd ok (InH.sub (InH.fr hIg F5) ?nI) hw0 hw1 ?nav hlm0 hlm1 (.inr ⟨many, _, _, _, R5, ?nb0, ?nb1, rfl⟩) (range_off R5 N5 hcco hd) hc' hlen hnums (asc_range _) ?ndp ?nun ?ret ?raise
  case nI => exact fun a ha => List.mem_append_right _ ha
  case nav => omega
  case nb0 => omega
  case nb1 => omega
  case ndp => ktr_room
  case nun => ktr_units
  case raise =>
    intro e qa qvs qn an' h' tk' _ _ _ hl
    exact absurd hl hlim
  case ret =>
    clear R5
    intro r qa qvs qn an' h' tk' F6 N6 K6 hqa hqi hl hres
    rcases hres with ⟨rfl, hcan⟩ | ⟨fa, fvs, fs, fn, rfl, hfn, efa, hfi, hfs, hfc, hnc, hne⟩
    · have hqH := none_H kG' (KtsTurn.refl (fs := [])) F5 N5 (six_mem fun q hq => hq) hqa
      k_extra "mine_steps"
      rename KtsTurn (List.filterMap _ outer) _ _ => kT9
      rename Fr _ L _ _ => kF9
      rename Fr _ L1 _ _ => kF8
      rename News _ L _ _ => kN9
      refine hret _ _ [.ref qa] [(qa, tupObj qvs qn)] _ _ _ _ kT9 kF9 (by assumption) (by assumption) (by assumption) (by assumption) (keepBut_turn kG' KtsTurn.refl kF8) (fun q hq => kN9 q (mem_last hq)) ?_ ?_ ?_ (by simp) (.inl ⟨rfl, by rw [← hev]; exact hcan⟩)
      · intro v hv
        rw [List.mem_singleton.mp hv]
        exact ⟨qa, qvs, qn, _, rfl, .head _, hqi, asc_range _, hnums, hlen⟩
      · intro q hq
        rw [List.mem_singleton.mp hq]; exact hqH
      · rw [if_neg]
        rintro ⟨z1, z2⟩
        simp only [List.length_append, List.length_cons, List.length_nil] at z2
        omega
    · have hqH := none_H kG' (KtsTurn.refl (fs := [])) F5 N5 (six_mem fun q hq => hq) hqa
      have hfH := none_H kG' (KtsTurn.refl (fs := [])) F5 N5 (six_mem fun q hq => hq) hfn
      have hf6 := none_off N5 (six_mem fun q hq => hq) hfn
      have hq6 := none_off N5 (six_mem fun q hq => hq) hqa
      have N8 : News g1 L1 h' ((fa, tupObj fvs fn) :: (qa, tupObj qvs qn) :: _) := fun p hp => by
        rcases List.mem_cons.mp hp with rfl | hp
        · refine ⟨efa, fun (z : fa = L1) => ?_, ?_⟩
          · obtain ⟨oL, _, _, eL, _⟩ := F5.ns
            rw [z, eL] at hfn; cases hfn
          · show g1.get? fa = none
            cases y : g1.get? fa with
            | none => rfl
            | some x => rw [F5.keep _ _ y] at hfn; cases hfn
        · exact N6 p hp
      clear N6 N5 K6
      k_extra "mine_steps"
      rename Fr _ _ _ _ => F9
      rename News _ _ _ _ => N9
      have hfi' : fs.length ≤ 5 := Nat.le_trans hfs.length_le hlen
      refine' sh_c w _ _ _ _ _ _ _ _ _ _ base _ _ _ _ D fd dd fk c' cca ca aa fa doc pm ctv o cco k1 k2 k3 tn many true way limit t1 t2 t3 (avs ++ [.ref qa]) fvs an' fs _ _ B1 F9 X1 (fun q hq => N9 q (.tail _ (.tail _ hq))) T1 rfl XB TB D1 six (PySem.Heap.CodeRec.keeps hrg F9.keep) hcco hd ok ?nI2 hw0 hw1 ?nav2 hlm0 hlm1 (News.isTup N9 (.head _)) hfi hf6 hc' hfi' (hnums.sub fun k hk => hfs.subset hk) ((asc_range _).sublist hfs) hfc ?ndp2 ?nun2 ?ret2
      case nI2 =>
        intro b ob e
        refine ⟨F9.keep _ _ (hIg b ob e).1, fun q => ?_⟩
        rcases List.mem_cons.mp q with q | q
        · have y := (hIg b ob e).1
          rw [q, kts_self F9] at y; cases y
        · exact (hIg b ob e).2 q
      case nav2 => rw [List.length_append]; simp only [List.length_cons, List.length_nil]; omega
      case ndp2 => ktr_room
      case nun2 => ktr_units
      case ret2 =>
        intro h₀' ra rvs rs new add an2 lea2 h2 tk2 kT F7 B7 X7 T7 D7 K7 N7 hask hfresh htup hra hri hrs hrc hleast hneed hnl
        have NX := news_extra (ex := [(fa, tupObj fvs fn), (qa, tupObj qvs qn)]) B1 (fun q hq => N9 q (by
          rcases List.mem_cons.mp hq with hq | hq
          · exact hq ▸ List.Mem.head _
          · exact List.mem_singleton.mp hq ▸ List.Mem.tail _ (List.Mem.head _))) (fun q hq => by
          rcases List.mem_cons.mp hq with hq | hq
          · rw [hq]; exact hf6
          · rw [List.mem_singleton.mp hq]; exact hq6) K7 kT N7
        have hsub9 : KeepBut ([fk, fd, dd, cca, aa, ca] ++ (envX cn cs L a ccd cl :: outer).filterMap (·.frame)) s.heap h2 := keepBut_turn kG' kT F7
        have hfreshH : ∀ q ∈ add, s.heap.get? q.1 = none := fun q hq => none_H kG' (KtsTurn.refl (fs := [])) F9 N9 (six_mem fun z hz => .tail _ (.tail _ hz)) (hfresh q hq)
        have e1 : (avs ++ [Value.ref qa]).length = avs.length + 1 := by simp
        have e2 : avs ++ [Value.ref qa] ++ new = avs ++ ([Value.ref qa] ++ new) := List.append_assoc ..
        rw [e1, e2] at hleast hneed
        rw [e2] at NX
        have hmem : ∃ n, (ra, tupObj rvs n) ∈ (fa, tupObj fvs fn) :: (qa, tupObj qvs qn) :: add := by
          rcases hra with rfl | ⟨n, hn⟩
          · obtain ⟨x, ex, _, n, hx⟩ := htup
            have y := (NX _ (.head _)).1
            dsimp only at y ex
            rw [y] at ex; cases ex
            injection hx with hx _
            have : rvs = fvs := by simpa using hx.symm
            exact ⟨fn, by rw [this]; exact .head _⟩
          · exact ⟨n, .tail _ (.tail _ hn)⟩
        obtain ⟨n9, hm9⟩ := hmem
        clear N9 F9 B1 X1 T1 D1 N7 K7
        k_extra "mine_steps"
        rename KtsTurn (List.filterMap _ outer) _ _ => kT9
        rename Fr _ L _ _ => kF9
        rename News _ L _ _ => kN9
        refine hret _ _ ([.ref qa] ++ new) ((fa, tupObj fvs fn) :: (qa, tupObj qvs qn) :: add) an2 lea2 _ _ kT9 kF9 (by assumption) (by assumption) (by assumption) (by assumption) hsub9 (fun q hq => kN9 q (mem_two hq)) ?_ ?_ hleast ?_ (.inr ⟨ra, rvs, rs, n9, rfl, hm9, hri, hev ▸ hrs.trans hfs, hrc, hev ▸ hnc, hneed⟩)
        · intro v hv
          rcases List.mem_append.mp hv with hv | hv
          · rw [List.mem_singleton.mp hv]
            exact ⟨qa, qvs, qn, _, rfl, .tail _ (.head _), hqi, asc_range _, hnums, hlen⟩
          · exact (hask v hv).mono fun q hq => .tail _ (.tail _ hq)
        · intro q hq
          rcases List.mem_cons.mp hq with rfl | hq
          · exact hfH
          rcases List.mem_cons.mp hq with rfl | hq
          · exact hqH
          · exact hfreshH q hq
        · rw [List.length_append]
          simp only [List.length_cons, List.length_nil]
          omega
end Mine

theorem Mine.fresh24 : True := by
  w_top off
  trivial
namespace Mine
/-- the table of a set of small ints, behind one more int -/
def nxtT (t : SetTable) (hs : Array Int) (k : Int) : Option SetTable :=
  match t.freeSlot k with
  | some (slot, false) =>
    if (t.put slot).2 == hs.size && (t.put slot).1.fits (hs.size + 1) && (t.put slot).1.plain && (t.put slot).1.led == t.led then
      if (t.put slot).1.tooFull then
        match (t.put slot).1.relaid (hs.push k) (SetTable.grown (hs.size + 1)) with
        | some (t', order) => if order == Array.range (hs.size + 1) && t'.fits (hs.size + 1) && t'.plain && t'.led == t.led then some t' else none
        | none => none
      else some (t.put slot).1
    else none
  | _ => none
def slotT (t : SetTable) : Nat → Nat
  | 0 => 0
  | i + 1 => t.place.getD i 0 + 1
def iterT (t : SetTable) (n : Nat) : Bool := (List.range (n + 1)).all fun i => SetTable.below t.place (slotT t i) == i
def chkT : Nat → SetTable → Array Int → Nat → Bool
  | 0, _, _, _ => true
  | f + 1, t, hs, k => t.plain && t.fits hs.size && iterT t hs.size && (List.range 5).all fun j => decide (j < k) || (match nxtT t hs (j : Int) with
      | some t' => chkT f t' (hs.push (j : Int)) (j + 1)
      | none => false)
theorem chkT_all (led : Bool) : ∀ f : Fin 7, chkT f.val (.fresh 0 0 led) #[] 0 = true := by cases led <;> decide +kernel
theorem insertAt_last {α : Type} (xs : Array α) (x : α) : SetTable.insertAt xs xs.size x = xs.push x := by
  unfold SetTable.insertAt
  simp
theorem range_places {α : Type} (es : Array α) : (Array.range es.size).filterMap (es[·]?) = es := by
  apply Array.ext'
  rw [Array.toList_filterMap, Array.toList_range]
  exact filterMap_getElem?_range es
end Mine

theorem Mine.fresh25 : True := by
  w_top off
  trivial
namespace Mine
abbrev setObj (es : Array (Int × Value)) (ep : Nat) (t : SetTable) : Obj := { cls := .type "set", dict := none, data := .set es ep t, slots := #[] }
theorem hash_small {k : Int} (h0 : 0 ≤ k) (h1 : k < 5) : hashInt k = k := by
  have : k = 0 ∨ k = 1 ∨ k = 2 ∨ k = 3 ∨ k = 4 := by omega
  rcases this with rfl | rfl | rfl | rfl | rfl <;> decide +kernel
theorem nxt_lay {t t' : SetTable} {es : Array (Int × Value)} {k : Int} (x : Value) (h : nxtT t (es.map (·.1)) k = some t') :
    ∃ t1, layNew t es k x = (es.push (k, x), t1, false, false) ∧ t1.fits (es.size + 1) = true ∧ t1.plain = true ∧ t1.led = t.led ∧
      ((t1.tooFull = false ∧ t' = t1) ∨ (t1.tooFull = true ∧ relayAll t1 (es.push (k, x)) (SetTable.grown (es.push (k, x)).size) = (es.push (k, x), t', false) ∧ t'.fits (es.size + 1) = true ∧ t'.plain = true ∧ t'.led = t.led)) := by
  unfold nxtT at h
  split at h
  · rename_i slot hslot
    split at h
    · rename_i hc
      simp only [Bool.and_eq_true, beq_iff_eq, Array.size_map] at hc
      obtain ⟨⟨⟨hp, hf⟩, hpl⟩, hl⟩ := hc
      refine ⟨(t.put slot).1, ?_, hf, hpl, hl, ?_⟩
      · unfold layNew
        rw [hslot]
        dsimp only
        rw [hp, insertAt_last, Array.size_push, hf]
        simp [SetTable.orStandIn, hf]
      · split at h
        · rename_i hfull
          split at h
          · rename_i t'' order hr
            split at h
            · rename_i hc2
              cases h
              simp only [Bool.and_eq_true, beq_iff_eq, Array.size_map] at hc2
              obtain ⟨⟨⟨ho, hf2⟩, hpl2⟩, hl2⟩ := hc2
              refine .inr ⟨hfull, ?_, hf2, hpl2, hl2⟩
              unfold relayAll
              have e : (es.push (k, x)).map (·.1) = (es.map (·.1)).push k := by simp
              rw [Array.size_push, e]
              rw [Array.size_map] at hr
              rw [hr]
              dsimp only
              have e2 : order.filterMap ((es.push (k, x))[·]?) = es.push (k, x) := by
                rw [ho, ← Array.size_push (xs := es) (v := (k, x))]
                exact range_places _
              have e3 : coversAll order (es.size + 1) = true := by
                rw [ho]; unfold coversAll
                rw [Array.toList_range]
                exact List.isPerm_iff.mpr (List.Perm.refl _)
              rw [e2, Array.size_push, e3, hf2]
              rfl
            · cases h
          · cases h
        · rename_i hfull
          cases h
          exact .inl ⟨by simpa using hfull, rfl⟩
    · cases h
  · cases h
section
variable {prog : Program} {w : World} {A : Around} {E : Value → Shared → Prop} {s : Shared}
theorem m_setAdd {S : Addr} {es : Array (Int × Value)} {ep : Nat} {t t' : SetTable} {k : Int} {u : Tok} {Q : Bool → Shared → Prop} (ho : s.heap.get? S = some (setObj es ep t)) (hf : t.fits es.size = true) (hpl : t.plain = true)
    (hel : ElemsOf (intKind prog w) es.toList) (hb : es.size < 100) (h0 : 0 ≤ k) (h5 : k < 5) (hnew : ∀ e ∈ es.toList, Value.isInt k e.2 = false) (hn : nxtT t (es.map (·.1)) k = some t')
    (h : ∀ h' ep', h'.get? S = some (setObj (es.push (k, .int k u)) ep' t') → Heap.SameBut S s.heap h' → t'.fits (es.size + 1) = true → t'.plain = true → t'.led = t.led → Q true { s with heap := h' }) :
    wpAny (model prog w) A (setAddHashed S (.int k u) (hashInt k)) Q E s := by
  unfold setAddHashed setAddHashedIn
  refine wpAny_holding (wpAny_bind (wpAny_setState_of ho rfl hf ?_))
  dsimp only
  rw [byScan_of (knd := intKind prog w) rfl (by unfold scanBound; omega) hel]
  simp only [↓reduceIte]
  unfold setAddByScan
  refine wpAny_bind ?_
  refine wpAny_bind (wpAny_rule ?_)
  refine wpAny_bind (wpAny_setScan_of (knd := intKind prog w) (k := k) (by exact intKind_is _ _ _ _) ho rfl hf hel ?_)
  have hr : List.findIdx? (fun e => (intKind prog w).is k e.2) es.toList = none := by
    rw [List.findIdx?_eq_none_iff]
    exact hnew
  rw [hr]
  dsimp only
  obtain ⟨t1, hL, hf1, hp1, hl1, hfull⟩ := nxt_lay (.int k u) hn
  have hh : hashInt k = k := hash_small h0 h5
  rw [hh, hL]
  dsimp only
  refine wpAny_bind (wpAny_pure ?_)
  rw [if_pos hp1]
  refine wpAny_bind ?_
  rw [hashByValue_scannable 8 rfl]
  refine wpAny_pure ?_
  show wpAny _ _ (storeSet S (es.push (k, .int k u)) t1 >>= _) _ _ _
  have hz : (es.push (k, Value.int k u)).size ≤ sizeLine := by rw [Array.size_push, sizeLine_eq]; omega
  refine wpAny_bind (wpAny_storeSet_of (hz := hz) ho rfl ?_)
  have g1 : (s.heap.update S (Obj.putSet (es.push (k, .int k u)) t1)).get? S = some (setObj (es.push (k, .int k u)) (ep + 1) t1) := Heap.get?_update_self _ ho rfl
  have sb := Heap.SameBut.update s.heap S (Obj.putSet (es.push (k, .int k u)) t1)
  have hpk : plainKind (Value.int k u) = true := rfl
  simp only [hpk, ↓reduceIte]
  rcases hfull with ⟨hnf, rfl⟩ | ⟨hfl, hR, hf2, hp2, hl2⟩
  · rw [hnf]
    simp only [Bool.and_false, Bool.false_eq_true, ↓reduceIte]
    exact wpAny_pure (wpAny_pure (h _ _ g1 sb hf1 hp1 hl1))
  · rw [hfl]
    simp only [Bool.not_false, Bool.and_self, ↓reduceIte]
    rw [hR]
    dsimp only
    refine wpAny_bind (wpAny_pure ?_)
    refine wpAny_bind (wpAny_storeSet_of (hz := hz) g1 rfl ?_)
    have g2 := Heap.get?_update_self (Obj.putSet (es.push (k, .int k u)) t') g1 rfl
    exact wpAny_pure (wpAny_pure (h _ _ g2 (sb.trans (Heap.SameBut.update _ S _)) hf2 hp2 hl2))
end
end Mine

theorem Mine.fresh26 : True := by
  w_top off
  trivial
namespace Mine
def prV (v : Value) : Int × Value := (match v with | .int k _ => k | _ => 0, v)
/-- a set that holds these small ints, its table known -/
structure SetHas (h : Heap) (S : Addr) (vs : List Value) (led : Bool) (t : SetTable) : Prop where
  at_ : ∃ ep, h.get? S = some (setObj (vs.map prV).toArray ep t)
  fits : t.fits vs.length = true
  plain : t.plain = true
  ledIs : t.led = led
theorem chkT_step {f k : Nat} {t : SetTable} {hs : Array Int} {j : Int} (h : chkT (f + 1) t hs k = true) (h0 : (k : Int) ≤ j) (h1 : j < 5) : ∃ t', nxtT t hs j = some t' ∧ chkT f t' (hs.push j) (j.toNat + 1) = true := by
  unfold chkT at h
  rw [Bool.and_eq_true, List.all_eq_true] at h
  have := h.2 j.toNat (List.mem_range.mpr (by omega))
  rw [Bool.or_eq_true] at this
  rcases this with q | q
  · have := of_decide_eq_true q
    omega
  · have e : ((j.toNat : Nat) : Int) = j := Int.toNat_of_nonneg (by omega)
    rw [e] at q
    split at q
    · rename_i t' ht
      exact ⟨t', ht, q⟩
    · cases q
theorem chkT_iter {f k : Nat} {t : SetTable} {hs : Array Int} (h : chkT (f + 1) t hs k = true) : iterT t hs.size = true := by
  unfold chkT at h
  simp only [Bool.and_eq_true] at h
  exact h.1.2
theorem ints_take {vs : List Value} {ns : List Int} (hi : IntsAre vs ns) : ∀ (i : Nat), IntsAre (vs.take i) (ns.take i) := by
  induction hi with
  | nil => intro i; cases i <;> exact .nil
  | cons k t r ih =>
    intro i
    cases i with
    | zero => exact .nil
    | succ i => exact .cons k t (ih i)
theorem ints_at {vs : List Value} {ns : List Int} (hi : IntsAre vs ns) : ∀ {i : Nat} {v : Value}, vs[i]? = some v → ∃ k t, v = .int k t ∧ ns[i]? = some k := by
  induction hi with
  | nil => intro i v h; simp at h
  | cons k t r ih =>
    intro i v h
    cases i with
    | zero => simp at h; subst h; exact ⟨k, t, rfl, rfl⟩
    | succ i => simpa using ih (by simpa using h)
theorem elems_of {prog : Program} {w : World} {vs : List Value} {ns : List Int} (hi : IntsAre vs ns) (hb : ∀ k ∈ ns, 0 ≤ k ∧ k < 5) : ElemsOf (intKind prog w) (vs.map prV) := by
  intro e he
  obtain ⟨v, hv, rfl⟩ := List.mem_map.mp he
  obtain ⟨k, hk, t, rfl⟩ := ints_mem hi hv
  obtain ⟨h0, h5⟩ := hb k hk
  exact ⟨⟨k, intKind_is _ _ _ _, (hash_small h0 h5).symm⟩, rfl⟩
theorem map_fst {vs : List Value} {ns : List Int} (hi : IntsAre vs ns) : (vs.map prV).map (·.1) = ns := by
  induction hi with
  | nil => rfl
  | cons k t r ih => simp only [List.map_cons, ih]; rfl
theorem asc_take {ns : List Int} (ha : Asc ns) {i : Nat} {k : Int} (hk : ns[i]? = some k) : ∀ j ∈ ns.take i, j < k := by
  intro j hj
  obtain ⟨a, ha', rfl⟩ := List.mem_iff_getElem.mp hj
  rw [List.length_take] at ha'
  obtain ⟨hi, rfl⟩ := List.getElem?_eq_some_iff.mp hk
  rw [List.getElem_take]
  exact List.pairwise_iff_getElem.mp ha a i _ _ (by omega)
section
variable {prog : Program} {w : World} {A : Around} {R : Result → Shared → Prop} {I : Addr} {fp wr : List Addr} {G : Array GenState → Array GenState → Prop} {n : Nat} {P : Nat → Value → Prop} {St : Nat → Shared → Prop}
theorem m_update_loop {led : Bool} {vs : List Value} {ns : List Int} (W : WalksS prog w A.in1 I fp wr G n P St) (S : Addr) (hSf : S ∉ fp) (hi : IntsAre vs ns) (hn : vs.length = n) (h5 : n ≤ 5) (hv : ∀ i v, P i v → vs[i]? = some v)
    (ha : Asc ns) (hb : ∀ k ∈ ns, 0 ≤ k ∧ k < 5) :
    ∀ (r i kb : Nat) (t : SetTable) (s : Shared), n - i = r → i ≤ n → St i s → SetHas s.heap S (vs.take i) led t → chkT (r + 1) t (ns.take i).toArray kb = true → (∀ j, i ≤ j → ∀ k, ns[j]? = some k → (kb : Int) ≤ k) →
      (∀ s' t', Moved (S :: wr) G s s' → SetHas s'.heap S vs led t' → iterT t' vs.length = true → R (.ok (.ret .none)) s') →
      codeAny (model prog w) A (.builtin "set.update.loop" ⟨[.ref S, .ref I], []⟩) R s := by
  have hSw : S ∉ wr := fun h => hSf (W.sub _ h)
  have hsub : ∀ b ∈ wr, b ∈ S :: wr := fun b hb => List.mem_cons_of_mem _ hb
  have hns : ns.length = n := by rw [← hi.length]; exact hn
  intro r
  induction r with
  | zero =>
    intro i kb t s hk hin hst hS hc _ hR
    have e : i = n := by omega
    subst e
    refine codeAny_builtin F.entry_set_update_loop ?_
    rw [Around.under_plainId F.plain_set_update_loop _]
    show wpAny _ A.in1 (pyNext (.ref I) >>= _) _ _ s
    refine wpAny_bind (W.done s _ _ hst fun s' hm => ?_)
    show wpAny _ A.in1 (ret Value.none) _ _ s'
    have hS' : SetHas s'.heap S vs led t := by
      obtain ⟨⟨ep, e⟩, a, b, c⟩ := hS
      rw [← hn, List.take_length] at e a
      exact ⟨⟨ep, hm.heap S _ hSw e⟩, a, b, c⟩
    refine wpAny_pure (hR s' t (hm.mono hsub) hS' ?_)
    have := chkT_iter hc
    rw [List.size_toArray, List.length_take, hns, Nat.min_self] at this
    rw [hn]; exact this
  | succ r ih =>
    intro i kb t s hk hin hst hS hc hkb hR
    have hlt : i < n := by omega
    refine codeAny_builtin F.entry_set_update_loop ?_
    rw [Around.under_plainId F.plain_set_update_loop _]
    show wpAny _ A.in1 (pyNext (.ref I) >>= _) _ _ s
    refine wpAny_bind (W.item i s _ _ hlt hst fun v s' hP hst' hm => ?_)
    have hvi := hv i v hP
    obtain ⟨k, u, rfl, hki⟩ := ints_at hi hvi
    have hkm : k ∈ ns := List.mem_of_getElem? hki
    obtain ⟨h0, h5'⟩ := hb k hkm
    obtain ⟨⟨ep, e⟩, hf, hpl, hld⟩ := hS
    have e' := hm.heap S _ hSw e
    have hil : (vs.take i).length = i := by rw [List.length_take, hn]; omega
    obtain ⟨t', hnx, hc'⟩ := chkT_step hc (hkb i (Nat.le_refl _) k hki) h5'
    show wpAny _ A.in1 (holding [Value.int k u] (setAdd S (.int k u)) >>= _) _ _ s'
    refine wpAny_bind (wpAny_holding ?_)
    unfold setAdd
    refine wpAny_holding ?_
    refine wpAny_bind ((intKind prog w).pyHash (k := k) (intKind_is _ _ _ _) ?_)
    have hfst : ((vs.take i).map prV).toArray.map (·.1) = (ns.take i).toArray := by
      rw [List.map_toArray, map_fst (ints_take hi i)]
    have htk : (vs.take (i + 1)).map prV = (vs.take i).map prV ++ [(k, .int k u)] := by
      rw [List.take_add_one, hvi, List.map_append]; rfl
    have hnk : ns.take (i + 1) = ns.take i ++ [k] := by rw [List.take_add_one, hki]; rfl
    refine m_setAdd (s := { s' with toks := s'.toks + 1 }) e' (by simpa using hf) hpl ?_ ?_ h0 h5' ?_ (by rw [hfst]; exact hnx) fun h' ep' g' hsb hf' hp' hl' => ?_
    · exact elems_of (ints_take hi i) (fun k hk => hb k (List.mem_of_mem_take hk))
    · simp only [List.size_toArray, List.length_map, hil]; omega
    · intro x hx
      simp only at hx
      obtain ⟨y, hy, rfl⟩ := List.mem_map.mp hx
      obtain ⟨k2, hk2, t2, rfl⟩ := ints_mem (ints_take hi i) hy
      have := asc_take ha hki k2 hk2
      show Value.isInt k (.int k2 t2) = false
      simp only [Value.isInt]
      have hne : k2 ≠ k := by omega
      simp [hne]
    · have hS2 : SetHas h' S (vs.take (i + 1)) led t' := by
        refine ⟨⟨ep', ?_⟩, ?_, hp', by rw [hl']; exact hld⟩
        · rw [g', htk]; simp
        · simp only [List.size_toArray, List.length_map, hil] at hf'
          rw [List.length_take, hn, Nat.min_eq_left (by omega)]; exact hf'
      refine wpAny_pure ⟨plainId_quiet F.plain_set_update_loop _, ih (i + 1) (k.toNat + 1) t' _ (by omega) hlt (W.frame _ s' _ _ hst' (Nat.le_succ _) fun b hb o e => ?_) hS2 ?_ ?_ fun s'' t'' hm'' hS'' => ?_⟩
      · rw [hsb.2 b (fun h : b = S => hSf (by rw [← h]; exact hb))]; exact e
      · rw [hnk]
        have : (ns.take i ++ [k]).toArray = (ns.take i).toArray.push k := by simp
        rw [this]; exact hc'
      · intro j hj k2 hk2
        obtain ⟨hil2, rfl⟩ := List.getElem?_eq_some_iff.mp hki
        obtain ⟨hjl, rfl⟩ := List.getElem?_eq_some_iff.mp hk2
        have := List.pairwise_iff_getElem.mp ha i j hil2 hjl (by omega)
        omega
      · refine hR s'' t'' (Moved.trans W.gtrans ((hm.mono hsub).then_heap (Nat.le_succ _) fun b o hb e => ?_) hm'') hS''
        rw [hsb.2 b (fun h : b = S => hb (by rw [h]; exact List.mem_cons_self))]; exact e
end
end Mine

theorem Mine.fresh27 : True := by
  w_top off
  trivial
namespace Mine
theorem sub_tup_set : isSubtype (.type "tuple") (.type "set") = pure false := by rw [isSubtype_type]; kernel_rfl
theorem sub_tup_frozenset : isSubtype (.type "tuple") (.type "frozenset") = pure false := by rw [isSubtype_type]; kernel_rfl
def byText (w : World) : Bool := w.params.followText "set-order"
section
open PySem.Sem (wp)
variable {prog : Program} {w : World} {A : Around} {E : Value → Shared → Prop} {s : Shared}
theorem m_set_new (a : Value) {Q₁ : Value → Shared → Prop} (h : Q₁ (.ref s.heap.objs.size) { s with heap := s.heap.push (setObj #[] 0 (.fresh 0 0 (!byText w))) }) :
    codeAny (model prog w) A (.call (.builtin "set.__new__") ⟨[.type "set", a], []⟩) (wants Q₁ E) s := by
  refine codeAny_of_tree ?_
  show wpAny _ A.in1 (do checkBuiltinCall "set.__new__" ⟨[.type "set", a], []⟩; again (.builtin "set.__new__" ⟨[.type "set", a], []⟩)) _ _ s
  refine wpAny_bind (wpAny_of_eq (F.newCall_set_1 a) (wpAny_pure ⟨plainId_quiet F.plain_set_new _, codeAny_builtin F.entry_set_new ?_⟩))
  rw [Around.under_plainId F.plain_set_new _]
  unfold Builtin.«set.__new__» Builtin.Frozenset.newClass
  have hsub := sub_set_self
  obtain ⟨hp, g, d, tk, os⟩ := s
  dsimp only at h
  wp_walk
  refine wpAny_askSetting (wpAny_pure ?_)
  dsimp only
  simp only [newObj]
  refine wpAny_bind (wpAny_alloc (wpAny_pure ?_))
  exact wpAny_pure h
theorem m_call_set {t : Addr} {vs : List Value} {ns : List Int} {Q : Value → Shared → Prop} (hh : A.handled = none) (ht : s.heap.IsTuple t vs.toArray) (hi : IntsAre vs ns) (ha : Asc ns) (hb : ∀ k ∈ ns, 0 ≤ k ∧ k < 5) (h5 : ns.length ≤ 5)
    (h : ∀ (h' : Heap) (tk : Nat) (tb : SetTable), SetHas h' s.heap.objs.size vs (!byText w) tb → iterT tb vs.length = true → (∀ b o, b < s.heap.objs.size → s.heap.get? b = some o → h'.get? b = some o) → Q (.ref s.heap.objs.size) { s with heap := h', toks := tk }) :
    wpAny (model prog w) A (call (.type "set") [.ref t]) Q E s := by
  obtain ⟨c, tl, hmro⟩ := F.called_set.mro
  have hmade := F.called_set.made
  have hsub := F.called_set.sub
  have h1 := F.called_set.notType
  have h2 := F.called_set.canCreate
  have hct := F.typeCall_set_1 (.ref t)
  refine wpAny_call (codeAny_of_tree ?_)
  show wpAny _ _ (callAny (.type "set") _) _ _ _
  refine wpAny_pure ⟨Code.quiet_builtin _ (by decide +kernel), codeAny_builtin F.entry_type_call ?_⟩
  rw [Around.under_plain (weight_type_call_type "set" [.ref t] []) rfl]
  repeat (any_goals (first | assumption | wp_step))
  refine codeAny_mono (m_set_new (.ref t) (E := E) (Q₁ := fun obj s₁ => obj = .ref s.heap.objs.size ∧ s₁ = { s with heap := s.heap.push (setObj #[] 0 (.fresh 0 0 (!byText w))) }) ⟨rfl, rfl⟩) fun r s₁ hr => ?_
  rcases r with e | (obj | _ | _ | _) <;> first | exact hr | exact hr.elim | skip
  obtain ⟨rfl, rfl⟩ := hr
  have hS : (s.heap.push (setObj #[] 0 (.fresh 0 0 (!byText w)))).get? s.heap.objs.size = some (setObj #[] 0 (.fresh 0 0 (!byText w))) := Heap.get?_push_size _ rfl
  have hT : Shared.TypeIs { s with heap := s.heap.push (setObj #[] 0 (.fresh 0 0 (!byText w))) } (.ref s.heap.objs.size) "set" := ⟨_, hS, rfl⟩
  have hli := F.called_set.init.lookup
  have hbi := F.called_set.init.bind (.ref s.heap.objs.size)
  repeat (any_goals (first | assumption | wp_step))
  refine codeAny_mono (codeAny_call_builtin (R := wants (fun r s₂ => r = .none ∧ Q (.ref s.heap.objs.size) s₂) E) F.called_set.init.plain F.entry_set_init (check_set_init_1 hT ?body)) fun r₂ s₂ hr₂ => ?back
  case back =>
    rcases r₂ with e | (r | _ | _ | _) <;> first | exact hr₂ | exact hr₂.elim | skip
    obtain ⟨rfl, hq⟩ := hr₂
    repeat (any_goals (first | assumption | wp_step))
  obtain ⟨⟨ocls, odict, odata, oslots⟩, hol, hcl, nl, hdl⟩ := id ht
  simp only at hcl hdl
  subst hcl; subst hdl
  have hol' := Heap.get?_push_of_some (setObj #[] 0 (.fresh 0 0 (!byText w))) hol
  have hsls := sub_tup_set
  have hslf := sub_tup_frozenset
  have hne : (Value.type "tuple" == Value.type "dict") = false := by decide
  have ht1 : (s.heap.push (setObj #[] 0 (.fresh 0 0 (!byText w)))).IsTuple t vs.toArray := ⟨_, hol', rfl, nl, rfl⟩
  unfold Builtin.«set.__init__» noKeywords Builtin.Frozenset.updateFrom
  generalize hPI : pyIter = PI
  clear hmade hsub h1 h2 hct hli hbi hmro
  wp_walk
  subst hPI
  refine wpAny_pyIter_tuple ht1 ?_
  refine wpAny_bind (wpAny_runValue ?_)
  have htS : t < s.heap.objs.size := Heap.lt_size hol
  have hh3 : A.in1.in1.in1.handled = none := by simp [hh]
  have hneI : t ≠ (s.heap.push (setObj #[] 0 (.fresh 0 0 (!byText w)))).objs.size := by
    rw [Heap.size_push]; exact Nat.ne_of_lt (Nat.lt_succ_of_lt htS)
  have hSf : s.heap.objs.size ∉ [(s.heap.push (setObj #[] 0 (.fresh 0 0 (!byText w)))).objs.size, t] := by
    rw [Heap.size_push]; simp only [List.mem_cons, List.not_mem_nil, or_false, not_or]
    exact ⟨Nat.ne_of_lt (Nat.lt_succ_self _), Nat.ne_of_gt htS⟩
  have hlen : vs.length ≤ 5 := by rw [hi.length]; exact h5
  refine m_update_loop (led := !byText w) (vs := vs) (ns := ns) ((Walks.tuple hh3 _ t hneI vs.toArray).toS) s.heap.objs.size hSf hi (by simp) (by simpa using hlen) (fun i v h => by simpa using h) ha hb (vs.toArray.size - 0) 0 0 (.fresh 0 0 (!byText w)) _ rfl (Nat.zero_le _) ⟨⟨_, Heap.get?_push_size _ rfl, rfl, rfl⟩, ht1.at fun o e => Heap.get?_push_of_some _ e⟩ ?hS0 ?hC ?hK ?hR
  case hS0 => exact ⟨⟨0, by simpa using Heap.get?_push_of_some _ hS⟩, by simp [SetTable.fits, SetTable.fresh, SetTable.fill], rfl, rfl⟩
  case hC =>
    have := chkT_all (!byText w) ⟨vs.toArray.size - 0 + 1, by simp only [List.size_toArray]; omega⟩
    simpa using this
  case hK =>
    intro j _ k hk
    exact (hb k (List.mem_of_getElem? hk)).1
  case hR =>
    intro s' t' hm hS' hit
    obtain ⟨h', g', d', tk', os'⟩ := s'
    have eg : g' = s.gens := hm.gens
    have ed : d' = s.drawn := hm.drawn
    have eo : os' = s.os := hm.os
    subst eg; subst ed; subst eo
    show wpAny _ _ _ _ _ _
    refine wpAny_pure ?_
    show wpAny _ _ (ret Value.none) _ _ _
    refine wpAny_pure ⟨rfl, h h' tk' t' hS' hit fun b o hb e => ?_⟩
    have hb1 : b ≠ s.heap.objs.size := Nat.ne_of_lt hb
    have hb2 : b ≠ (s.heap.push (setObj #[] 0 (.fresh 0 0 (!byText w)))).objs.size := by
      rw [Heap.size_push]; exact Nat.ne_of_lt (Nat.lt_succ_of_lt hb)
    exact hm.heap b o (by simp only [List.mem_cons, List.not_mem_nil, or_false, not_or]; exact ⟨hb1, hb2⟩) (Heap.get?_push_of_some _ (Heap.get?_push_of_some _ e))
end
end Mine

theorem Mine.fresh28 : True := by
  w_top off
  trivial
namespace Mine
theorem slot_sit_next : Slot "set_iterator" "__next__" "set_iterator.__next__" :=
  .of (owner := "set_iterator") (n := "__next__") (by rw [typeLookup_type, builtinLookup_eq_fast]; kernel_rfl) (by decide +kernel) (by decide +kernel) (by decide +kernel)
    (by first | exact .inl (by decide +kernel) | exact .inr (by decide +kernel)) (by rw [isSubtype_type]; kernel_rfl)
theorem entry_sit_next : entryFor table "set_iterator.__next__" = some Builtin.«set_iterator.__next__» := entryFor_of_tree (by kernel_rfl)
theorem args_sit_next (a : Value) : argsOk "set_iterator.__next__" ⟨[a], []⟩ := by unfold argsOk; kernel_rfl
theorem entry_s_iter : entryFor table "set.__iter__" = some Builtin.«frozenset.__iter__» :=
  entryFor_alias (id' := "frozenset.__iter__") (by kernel_rfl) rfl (by decide +kernel) (by kernel_rfl)
theorem sit_no_len : typeLookup (.type "set_iterator") "__len__" = pure none := by rw [typeLookup_type, builtinLookup_eq_fast]; kernel_rfl
abbrev sitObj (S : Addr) (sl i n ep : Nat) : Obj := { cls := .type "set_iterator", data := .fields #[rawInt (sl : Int), rawInt (i : Int), .ref S, rawInt (n : Int), rawInt (ep : Int)] }
section
variable {prog : Program} {w : World} {A : Around} {E : Value → Shared → Prop} {s : Shared}
theorem m_setsByText {Q : Bool → Shared → Prop} (h : Q (byText w) s) : wpAny (model prog w) A setsByText Q E s := by
  unfold setsByText
  exact wpAny_bind (wpAny_askSetting (wpAny_pure h))
theorem m_setDrawn {S : Addr} {es : Array (Int × Value)} {ep : Nat} {t : SetTable} {Q : Bool → Shared → Prop} (ho : s.heap.get? S = some (setObj es ep t)) (hf : t.fits es.size = true) (hp : t.plain = true) (h : Q false s) : wpAny (model prog w) A (setDrawn S) Q E s := by
  unfold setDrawn
  refine wpAny_bind (wpAny_setState_of ho rfl hf ?_)
  dsimp only
  refine wpAny_bind (m_setsByText (wpAny_pure ?_))
  show Q (!byText w && (!t.plain && decide (es.size > 1))) s
  rw [hp, Bool.not_true, Bool.false_and, Bool.and_false]
  exact h
theorem m_iter_set {S : Addr} {es : Array (Int × Value)} {ep : Nat} {t : SetTable} {Q : Value → Shared → Prop} (ho : s.heap.get? S = some (setObj es ep t)) (hf : t.fits es.size = true) (hp : t.plain = true)
    (hQ : Q (.ref s.heap.objs.size) { s with heap := s.heap.push (sitObj S 0 0 es.size ep) }) : wpAny (model prog w) A (pyIter (.ref S)) Q E s := by
  have hT : s.TypeIs (.ref S) "set" := ⟨_, ho, rfl⟩
  refine wpAny_pyIter_slot hT F.slot_set_iter (wpAny_call_entry F.slot_set_iter hT entry_s_iter ?_ (F.args_set_iter_1 _))
  unfold Builtin.«frozenset.__iter__» Builtin.Frozenset.slot0 Builtin.Frozenset.sizeOf setEntries
  refine wpAny_bind (wpAny_bind (wpAny_pure (wpAny_pure ?_)))
  refine wpAny_bind (wpAny_bind (wpAny_bind (wpAny_setState_of ho rfl hf (wpAny_pure (wpAny_pure ?_)))))
  dsimp only
  refine wpAny_bind (m_setDrawn ho hf hp ?_)
  refine wpAny_bind (wpAny_pure ?_)
  refine wpAny_bind (wpAny_bind (wpAny_setState_of ho rfl hf (wpAny_pure ?_)))
  exact wpAny_bind (wpAny_newObj_type (wpAny_pure ⟨_, rfl, "set_iterator", _, ⟨_, Heap.get?_push_size _ rfl, rfl⟩, slot_sit_next.lookup, hQ⟩))
/-- the order in which the set's items come -/
def ordS (w : World) (S : Addr) (ep : Nat) (es : Array (Int × Value)) : Array (Int × Value) := if byText w then pickOrder (w.params.setOrder S ep) es else es
def slS (w : World) (t : SetTable) (i : Nat) : Nat := if byText w then 0 else slotT t i
theorem iterT_at {t : SetTable} {n i : Nat} (h : iterT t n = true) (hi : i ≤ n) : SetTable.below t.place (slotT t i) = i := by
  unfold iterT at h
  rw [List.all_eq_true] at h
  exact beq_iff_eq.mp (h i (List.mem_range.mpr (by omega)))
theorem m_setNext {S : Addr} {es : Array (Int × Value)} {ep i : Nat} {t : SetTable} {Q : Option (Value × Nat) → Shared → Prop} (ho : s.heap.get? S = some (setObj es ep t)) (hf : t.fits es.size = true) (hp : t.plain = true) (hl : t.led = !byText w)
    (hit : iterT t es.size = true) (hi : i ≤ es.size) (h : Q ((ordS w S ep es)[i]?.map fun e => (e.2, slS w t (i + 1))) s) : wpAny (model prog w) A (setNext S (slS w t i) i ep) Q E s := by
  unfold setNext
  refine wpAny_bind (wpAny_setState_of ho rfl hf ?_)
  dsimp only
  refine wpAny_bind (m_setsByText ?_)
  unfold ordS slS at h
  cases hb : byText w with
  | true =>
    rw [hb] at h
    simp only [↓reduceIte] at h ⊢
    rw [if_neg (by simp)]
    unfold setWalk
    refine wpAny_bind (wpAny_bind (wpAny_setState_of ho rfl hf ?_))
    dsimp only
    refine wpAny_bind (m_setsByText ?_)
    rw [hb]
    simp only [↓reduceIte]
    refine wpAny_bind (wpAny_askSetting (wpAny_pure ?_))
    refine wpAny_pure ?_
    have e : slS w t i = 0 := by unfold slS; rw [hb]; rfl
    rw [e]
    exact h
  | false =>
    rw [hb] at h hl
    simp only [Bool.false_eq_true, ↓reduceIte] at h ⊢
    have e : slS w t i = slotT t i := by unfold slS; rw [hb]; rfl
    rw [e]
    have hd : (!t.plain && decide (es.size > 1)) = false := by rw [hp]; rfl
    show wpAny _ _ (if (!t.plain && decide (es.size > 1)) = true then _ else _) _ _ _
    rw [hd]
    simp only [Bool.false_eq_true, ↓reduceIte]
    refine wpAny_bind ?_
    show wpAny _ _ (if (!t.led && !es.isEmpty) = true then _ else pure ()) _ _ _
    rw [hl]
    simp only [Bool.not_true, Bool.not_false, Bool.false_and, Bool.false_eq_true, ↓reduceIte]
    refine wpAny_pure (wpAny_pure ?_)
    rw [iterT_at hit hi]
    have hps : t.place.size = es.size := by
      simp only [SetTable.fits, Bool.and_eq_true, beq_iff_eq] at hf
      exact hf.1
    by_cases hlt : i < es.size
    · have h1 : es[i]? = some es[i] := Array.getElem?_eq_getElem hlt
      have h2 : t.place[i]? = some (t.place[i]'(by omega)) := Array.getElem?_eq_getElem (by omega)
      rw [h1] at h ⊢
      rw [h2]
      have h3 : slotT t (i + 1) = t.place[i]'(by omega) + 1 := by
        show t.place.getD i 0 + 1 = _
        rw [Array.getD_eq_getD_getElem?, h2]; rfl
      simp only [Option.map_some, h3] at h
      exact h
    · have h1 : es[i]? = none := Array.getElem?_eq_none (by omega)
      rw [h1] at h ⊢
      exact h
theorem m_next_item {it S : Addr} {es : Array (Int × Value)} {ep i : Nat} {t : SetTable} {e : Int × Value} {Q : Option Value → Shared → Prop} (hI : s.heap.get? it = some (sitObj S (slS w t i) i es.size ep)) (ho : s.heap.get? S = some (setObj es ep t)) (hf : t.fits es.size = true) (hp : t.plain = true) (hl : t.led = !byText w)
    (hit : iterT t es.size = true) (hi : i < es.size) (he : (ordS w S ep es)[i]? = some e) (hne : it ≠ S)
    (h : ∀ h', h'.get? it = some (sitObj S (slS w t (i + 1)) (i + 1) es.size ep) → Heap.SameBut it s.heap h' → Q (some e.2) { s with heap := h' }) : wpAny (model prog w) A (pyNext (.ref it)) Q E s := by
  have hT : s.TypeIs (.ref it) "set_iterator" := ⟨_, hI, rfl⟩
  unfold pyNext
  refine wpAny_bind (wpAny_attempt (wpAny_callSpecial?_slot (name := Str.ofString "__next__") hT slot_sit_next (wpAny_call_entry slot_sit_next hT entry_sit_next ?_ (args_sit_next _))))
  unfold Builtin.«set_iterator.__next__» setEntries
  refine wpAny_bind (wpAny_pure ?_)
  dsimp only
  refine wpAny_bind (wpAny_fieldsOf hI rfl ?_)
  dsimp only [rawInt]
  refine wpAny_bind (wpAny_bind (wpAny_setState_of ho rfl hf (wpAny_pure ?_)))
  dsimp only
  rw [if_neg (by simp)]
  simp only [Int.toNat_natCast]
  refine wpAny_bind (m_setNext ho hf hp hl hit (Nat.le_of_lt hi) ?_)
  rw [he]
  simp only [Option.map_some]
  refine wpAny_bind (wpAny_setField_rec hI (by simp) fun h1 g1 s1 => ?_)
  refine wpAny_bind (wpAny_setField_rec (s := { s with heap := h1 }) g1 (by simp) fun h2 g2 s2 => ?_)
  refine wpAny_pure ⟨_, rfl, wpAny_pure (h h2 ?_ (s1.trans s2))⟩
  rw [g2]
  rfl
theorem m_next_end {it S : Addr} {es : Array (Int × Value)} {ep : Nat} {t : SetTable} {Q : Option Value → Shared → Prop} (hh : A.handled = none) (hI : s.heap.get? it = some (sitObj S (slS w t es.size) es.size es.size ep)) (ho : s.heap.get? S = some (setObj es ep t)) (hf : t.fits es.size = true) (hp : t.plain = true) (hl : t.led = !byText w)
    (hit : iterT t es.size = true) (he : (ordS w S ep es)[es.size]? = none)
    (h : ∀ h', Heap.ExtBut it s.heap h' → Q none { s with heap := h' }) : wpAny (model prog w) A (pyNext (.ref it)) Q E s := by
  have hT : s.TypeIs (.ref it) "set_iterator" := ⟨_, hI, rfl⟩
  unfold pyNext
  refine wpAny_bind (wpAny_attempt (wpAny_callSpecial?_slot (name := Str.ofString "__next__") hT slot_sit_next (wpAny_call_entry slot_sit_next hT entry_sit_next ?_ (args_sit_next _))))
  unfold Builtin.«set_iterator.__next__» setEntries
  refine wpAny_bind (wpAny_pure ?_)
  dsimp only
  refine wpAny_bind (wpAny_fieldsOf hI rfl ?_)
  dsimp only [rawInt]
  refine wpAny_bind (wpAny_bind (wpAny_setState_of ho rfl hf (wpAny_pure ?_)))
  dsimp only
  rw [if_neg (by simp)]
  simp only [Int.toNat_natCast]
  refine wpAny_bind (m_setNext ho hf hp hl hit (Nat.le_refl _) ?_)
  rw [he]
  simp only [Option.map_none]
  refine wpAny_bind (wpAny_setField hI rfl (by simp) ?_)
  show wpAny _ _ (newExc (.type "StopIteration") [] >>= _) _ _ _
  refine wpAny_bind ?_
  simp only [newExc, newTuple]
  refine wpAny_bind (wpAny_newObj_type ?_ (by size_fits))
  refine wpAny_bind (m := firstArgMember _ _) (wpAny_of_eq (a := Value.none) (by first | rfl | (simp only [firstArgMember]; rfl)) ?_)
  refine wpAny_newObj_type ?_ (by size_fits)
  simp only [raiseNew]
  refine wpAny_bind (wpAny_handled ?_)
  first | rw [show A.in1.handled = none from hh] | rw [hh]
  refine wpAny_bind (wpAny_pure (wpAny_throw ?_))
  refine wpAny_bind (wpAny_isInstance (T := "StopIteration") (b := true) ⟨_, Heap.get?_push_size _ rfl, rfl⟩ isSubtype_stop ?_)
  exact wpAny_pure (h _ (((Heap.SameBut.update ..).extBut.push _).push _))
end
end Mine

theorem Mine.fresh29 : True := by
  w_top off
  trivial
namespace Mine
theorem slot_sit_iter : Slot "set_iterator" "__iter__" "set_iterator.__iter__" :=
  .of (owner := "set_iterator") (n := "__iter__") (by rw [typeLookup_type, builtinLookup_eq_fast]; kernel_rfl) (by decide +kernel) (by decide +kernel) (by decide +kernel)
    (by first | exact .inl (by decide +kernel) | exact .inr (by decide +kernel)) (by rw [isSubtype_type]; kernel_rfl)
theorem entry_sit_iter : entryFor table "set_iterator.__iter__" = some Builtin.«dict_keyiterator.__iter__» :=
  entryFor_alias (id' := "dict_keyiterator.__iter__") (by kernel_rfl) (by first | rfl | decide +kernel | (unfold String.splitOn; simp +decide [String.splitOnAux])) (by decide +kernel) (by kernel_rfl)
theorem args_sit_iter (a : Value) : argsOk "set_iterator.__iter__" ⟨[a], []⟩ := by unfold argsOk; kernel_rfl
theorem hint_sit : typeLookup (.type "set_iterator") "__length_hint__" = pure (some (.builtin "set_iterator.__length_hint__")) := by rw [typeLookup_type, builtinLookup_eq_fast]; kernel_rfl
theorem cons_erase_perm {α : Type} : ∀ (l : List α) (i : Nat) (h : i < l.length), (l[i] :: l.eraseIdx i).Perm l
  | [], i, h => absurd h (Nat.not_lt_zero _)
  | x :: l, 0, h => .refl _
  | x :: l, i + 1, h => by
    have := cons_erase_perm l i (by simpa using h)
    simp only [List.getElem_cons_succ, List.eraseIdx_cons_succ]
    exact (List.Perm.swap x _ _).trans (this.cons x)
theorem pickGo_perm {α : Type} (next : Nat → Nat) : ∀ (f k : Nat) (left : List α) (out : Array α), left.length = f → (pickOrder.go next f k left out).toList.Perm (out.toList ++ left)
  | 0, k, left, out, h => by
    have : left = [] := List.eq_nil_of_length_eq_zero h
    subst this
    simp [pickOrder.go]
  | f + 1, k, left, out, h => by
    unfold pickOrder.go
    have hl : next k % left.length < left.length := Nat.mod_lt _ (by omega)
    rw [List.getElem?_eq_getElem hl]
    refine (pickGo_perm next f (k + 1) _ _ (by rw [List.length_eraseIdx_of_lt hl]; omega)).trans ?_
    simp only [Array.toList_push, List.append_assoc]
    exact List.Perm.append_left _ (cons_erase_perm left _ hl)
theorem ordS_perm {w : World} {S : Addr} {ep : Nat} {es : Array (Int × Value)} : (ordS w S ep es).toList.Perm es.toList := by
  unfold ordS
  split
  · unfold pickOrder
    have := pickGo_perm (w.params.setOrder S ep) es.size 0 es.toList #[] (by simp)
    simpa using this
  · exact .refl _
theorem ordS_size {w : World} {S : Addr} {ep : Nat} {es : Array (Int × Value)} : (ordS w S ep es).size = es.size := by
  have := ordS_perm (w := w) (S := S) (ep := ep) (es := es) |>.length_eq
  simpa using this
theorem ints_perm {vs vs' : List Value} (hp : vs'.Perm vs) : ∀ ns, IntsAre vs ns → ∃ ns', IntsAre vs' ns' ∧ ns'.Perm ns := by
  induction hp with
  | nil => exact fun ns h => ⟨ns, h, .refl _⟩
  | cons x _ ih =>
    intro ns h
    cases h with
    | cons k t r =>
      obtain ⟨ns', h1, h2⟩ := ih _ r
      exact ⟨_, .cons k t h1, h2.cons _⟩
  | swap x y l =>
    intro ns h
    cases h with
    | cons k t r =>
      cases r with
      | cons k' t' r => exact ⟨_, .cons k' t' (.cons k t r), .swap ..⟩
  | trans _ _ ih1 ih2 =>
    intro ns h
    obtain ⟨n1, a1, a2⟩ := ih2 _ h
    obtain ⟨n2, b1, b2⟩ := ih1 _ a1
    exact ⟨n2, b1, b2.trans a2⟩
section
variable {prog : Program} {w : World} {A : Around} {E : Value → Shared → Prop} {s : Shared}
theorem walks_sit (hh : A.handled = none) {I S : Addr} (hne : S ≠ I) {es : Array (Int × Value)} {ep : Nat} {t : SetTable} (hf : t.fits es.size = true) (hp : t.plain = true) (hl : t.led = !byText w) (hit : iterT t es.size = true) :
    Walks prog w A I [I, S] [I] es.size (fun i v => ∃ e, (ordS w S ep es)[i]? = some e ∧ v = e.2) (fun i h => h.get? I = some (sitObj S (slS w t i) i es.size ep) ∧ h.get? S = some (setObj es ep t)) where
  sub := fun b hb => by simp at hb; simp [hb]
  frame := fun _ _ _ st hk => ⟨hk I (by simp) _ st.1, hk S (by simp) _ st.2⟩
  item := fun i s Q E hi st hQ => by
    have hi' : i < (ordS w S ep es).size := by rw [ordS_size]; exact hi
    refine m_next_item st.1 st.2 hf hp hl hit hi (Array.getElem?_eq_getElem hi') (Ne.symm hne) fun h' g1 g2 => ?_
    refine hQ _ h' s.toks ⟨_, Array.getElem?_eq_getElem hi', rfl⟩ ⟨g1, g2.extBut _ _ hne st.2⟩ fun b o hb e => g2.extBut b o (fun h => hb (by simp [h])) e
  done := fun s Q E st hQ => m_next_end hh st.1 st.2 hf hp hl hit (Array.getElem?_eq_none (by rw [ordS_size]; exact Nat.le_refl _)) fun h' he' => hQ h' s.toks fun b o hb e => he' b o (fun h => hb (by simp [h])) e
  self := fun _ s _ _ st hQ => by
    have hT : s.TypeIs (.ref I) "set_iterator" := ⟨_, st.1, rfl⟩
    refine wpAny_pyIter_slot hT slot_sit_iter (wpAny_call_entry slot_sit_iter hT entry_sit_iter ?_ (args_sit_iter _))
    show wpAny _ _ (ret (.ref I)) _ _ s
    exact wpAny_pure ⟨_, rfl, "set_iterator", _, hT, slot_sit_next.lookup, hQ⟩
theorem m_collect_set {Q : List Value → Shared → Prop} {S : Addr} {vs : List Value} {t : SetTable} (hh : A.handled = none) (hS : SetHas s.heap S vs (!byText w) t) (hit : iterT t vs.length = true) (h5 : vs.length ≤ 5)
    (hQ : ∀ h' tk acc, (∀ b o', s.heap.get? b = some o' → h'.get? b = some o') → acc.Perm vs → Q acc { s with heap := h', toks := tk }) :
    wpAny (model prog w) A (collect (.ref S)) Q E s := by
  obtain ⟨⟨ep, hS⟩, hf, hp, hl⟩ := hS
  have hes : (vs.map prV).toArray.size = vs.length := by simp
  rw [← hes] at hf hit
  generalize hE : (vs.map prV).toArray = es at *
  have hlS : S < s.heap.objs.size := Heap.lt_size hS
  unfold collect
  refine wpAny_bind (wpAny_runValue (codeAny_builtin F.entry_proto_collect ?_))
  rw [Around.under_plainId F.plain_proto_collect _]
  show wpAny _ A.in1 (newList [] >>= fun l => again (.builtin "list.__iadd__" ⟨[l, .ref S], []⟩)) _ _ s
  refine wpAny_bind (wpAny_newObj_type ?_)
  refine wpAny_pure ⟨plainId_quiet F.plain_list_iadd _, codeAny_builtin F.entry_list_iadd ?_⟩
  rw [Around.under_plainId F.plain_list_iadd _]
  generalize hS1 : s.heap.push { cls := .type "list", data := .seq ([] : List Value).toArray } = H1
  have hS₁ : H1.get? s.heap.objs.size = some { cls := .type "list", data := .seq ([] : List Value).toArray } := by rw [← hS1]; exact Heap.get?_push_size _ rfl
  have hSo : H1.get? S = some (setObj es ep t) := by rw [← hS1]; exact Heap.get?_push_of_some _ hS
  have hsz : H1.objs.size = s.heap.objs.size + 1 := by rw [← hS1]; exact Heap.size_push ..
  show wpAny _ A.in1 (Builtin.List.listExtendWith (.ref s.heap.objs.size) (.ref S) (.ref s.heap.objs.size)) _ _ { s with heap := H1 }
  unfold Builtin.List.listExtendWith
  refine wpAny_bind (wpAny_typeOf (T := "set") ⟨_, hSo, rfl⟩ ?_)
  have hne1 : s.heap.objs.size ≠ S := Nat.ne_of_gt hlS
  have h1 : Builtin.List.listSameRef (.ref s.heap.objs.size) (.ref S) = false := by simp [Builtin.List.listSameRef, hne1]
  have h2 : (Value.type "set" == Value.type "list") = false := by decide
  have h3 : (Value.type "set" == Value.type "tuple") = false := by decide
  simp only [h1, h2, h3, Bool.or_false, Bool.false_eq_true, if_false]
  refine wpAny_bind (m_iter_set hSo hf hp ?_)
  refine wpAny_bind (wpAny_holding ?_)
  have hiO : (H1.push (sitObj S 0 0 es.size ep)).get? H1.objs.size = some (sitObj S 0 0 es.size ep) := Heap.get?_push_size _ rfl
  have hSo' : (H1.push (sitObj S 0 0 es.size ep)).get? S = some (setObj es ep t) := Heap.get?_push_of_some _ hSo
  have hT : Shared.TypeIs { s with heap := H1.push (sitObj S 0 0 es.size ep) } (.ref S) "set" := ⟨_, hSo', rfl⟩
  unfold Builtin.List.listLengthHint
  refine wpAny_bind (wpAny_specialOf hT F.slot_set_len.lookup ?_)
  (generalize hid : ("set.__len__" : String) = id0; (fail_if_success (clear hid id0)); wp_delta; rw [show splitId id0 = some ("set", "__len__") from by subst hid; decide +kernel]; subst hid)
  refine wpAny_bind (wpAny_isInstance (b := true) hT (by rw [isSubtype_type]; kernel_rfl) ?_)
  first | (dsimp only; rw [if_neg (by decide)]) | skip
  first | (dsimp only; rw [if_pos (by decide)]) | skip
  refine wpAny_bind (wpAny_typeOf hT ?_)
  refine wpAny_pure ?_
  rw [if_pos (by decide)]
  show wpAny _ A.in1 (rule "list.extend.makes-room" >>= fun _ => Builtin.List.listTouch (.ref s.heap.objs.size) >>= fun _ =>
    again (.builtin "list.extend.loop" ⟨[.ref s.heap.objs.size, .ref H1.objs.size, .ref s.heap.objs.size], []⟩)) _ _ _
  refine wpAny_bind (wpAny_rule ?_)
  have hS₁' : (H1.push (sitObj S 0 0 es.size ep)).get? s.heap.objs.size = some { cls := .type "list", data := .seq ([] : List Value).toArray } := Heap.get?_push_of_some _ hS₁
  generalize hH2 : H1.push (sitObj S 0 0 es.size ep) = H2 at *
  refine wpAny_bind ?_
  show wpAny _ A.in1 (updateSeq s.heap.objs.size (·.push .none) >>= fun _ => updateSeq s.heap.objs.size (·.pop)) _ _ { s with heap := H2 }
  refine wpAny_bind (wpAny_updateSeq hS₁' rfl ?_)
  have hS₂ := Heap.get?_update_self (Obj.mapSeq (·.push Value.none)) hS₁' rfl
  refine wpAny_updateSeq hS₂ rfl ?_
  have hS₃ := Heap.get?_update_self (Obj.mapSeq (·.pop)) hS₂ rfl
  have oth : ∀ b o, b ≠ s.heap.objs.size → H2.get? b = some o →
      ((H2.update s.heap.objs.size (Obj.mapSeq (·.push Value.none))).update s.heap.objs.size (Obj.mapSeq (·.pop))).get? b = some o :=
    fun b o hb e => (Heap.get?_update_other _ _ (Ne.symm hb)).trans ((Heap.get?_update_other _ _ (Ne.symm hb)).trans e)
  have hIS : H1.objs.size ≠ s.heap.objs.size := by omega
  have hSI : S ≠ H1.objs.size := Nat.ne_of_lt (Nat.lt_of_lt_of_le hlS (by rw [hsz]; exact Nat.le_succ _))
  refine wpAny_pure ⟨plainId_quiet F.plain_extend_loop _, codeAny_extend_loopS (walks_sit (A := A.in1) hh hSI hf hp hl hit).toS (by rw [hes, sizeLine_eq]; omega) _
    (by simp only [List.mem_cons, List.not_mem_nil, or_false, not_or]; exact ⟨Ne.symm hIS, hne1⟩) _ _ 0 _ _ _ rfl (Nat.zero_le _) ⟨?_, oth _ _ (Ne.symm hne1) hSo'⟩ hS₃ (ItemsOf.nil _) fun s' acc' c' hm hS' hacc => ?_⟩
  · refine (oth _ _ hIS hiO).trans ?_
    have e : slS w t 0 = 0 := by unfold slS; split <;> rfl
    rw [e]
  show wpAny _ A (load s.heap.objs.size >>= _) _ _ s'
  refine wpAny_bind (wpAny_load hS' ?_)
  refine wpAny_pure ?_
  rw [Moved.eq_with hm]
  refine hQ _ _ _ (fun b o hb => ?_) ?_
  · have hb' := Heap.lt_size hb
    refine hm.heap b o (by simp only [List.mem_cons, List.not_mem_nil, or_false, not_or]; exact ⟨Nat.ne_of_lt hb', Nat.ne_of_lt (Nat.lt_of_lt_of_le hb' (by rw [hsz]; exact Nat.le_succ _))⟩) (oth b o (Nat.ne_of_lt hb') ?_)
    rw [← hH2, ← hS1]
    exact Heap.get?_push_of_some _ (Heap.get?_push_of_some _ hb)
  · have e1 : acc'.toList = (ordS w S ep es).toList.map (·.2) := by
      refine List.ext_getElem? fun i => ?_
      by_cases hi : i < es.size
      · have hi' : i < acc'.size := by rw [hacc.1]; exact hi
        obtain ⟨e, a, b⟩ := hacc.2 i _ (Array.getElem?_eq_getElem hi')
        rw [List.getElem?_map, Array.getElem?_toList, Array.getElem?_toList, a, Array.getElem?_eq_getElem hi', b]
        rfl
      · rw [List.getElem?_eq_none (by rw [Array.length_toList, hacc.1]; omega), List.getElem?_eq_none (by rw [List.length_map, Array.length_toList, ordS_size]; omega)]
    rw [e1]
    refine (ordS_perm.map _).trans ?_
    rw [← hE]
    simp only [List.map_map]
    have : ((fun x : Int × Value => x.2) ∘ prV) = id := by funext v; rfl
    rw [this, List.map_id]
theorem asc_unique : ∀ {as bs : List Int}, as.Perm bs → as.Pairwise (· ≤ ·) → bs.Pairwise (· ≤ ·) → as = bs := by
  intro as bs hp ha hb
  exact hp.eq_of_pairwise (fun a b _ _ h1 h2 => Int.le_antisymm h1 h2) ha hb
theorem m_sortedSet {Q : Value → Shared → Prop} {h₀ : Heap} {L : Addr} {m : Str → Option Value} {news : List (Addr × Obj)} {S : Addr} {vs : List Value} {ns : List Int} {t : SetTable} (hh : A.handled = none) (F : Fr h₀ L s.heap m) (N : News h₀ L s.heap news) (hS : SetHas s.heap S vs (!byText w) t) (hit : iterT t vs.length = true) (h5 : vs.length ≤ 5) (hI : IntsAre vs ns) (ha : ns.Pairwise (· ≤ ·))
    (h : ∀ D us e h' tk, Fr h₀ L h' m → News h₀ L h' ((D, seqObj "list" us.toArray e) :: news) → IntsAre us ns → (∀ p ∈ news, p.1 < D) → (∀ b o, s.heap.get? b = some o → h'.get? b = some o) → Q (.ref D) { s with heap := h', toks := tk }) :
    wpAny (model prog w) A (call (.builtin "sorted") [.ref S]) Q E s := by
  refine Calls.call_function_entry kind_sorted plain_sorted entry_sorted (args_sorted1 _) ?_
  unfold Builtin.«sorted»
  refine wpAny_bind (m := checkCount "sorted" 1 1 _) (wpAny_pure ?_)
  refine wpAny_bind (m_collect_set (A := A.in1) hh hS hit h5 fun h1 tk acc hk hp => ?_)
  refine wpAny_bind (wpAny_newList ?_ (by rw [hp.length_eq, sizeLine_eq]; omega))
  obtain ⟨ms, hms, hmp⟩ := ints_perm hp _ hI
  have hoL : (h1.push (seqObj "list" acc.toArray 0)).get? h1.objs.size = some (seqObj "list" acc.toArray 0) := Heap.get?_push_size _ rfl
  refine wpAny_bind (wpAny_holding (wpAny_call_entry slot_list_sort ⟨_, hoL, rfl⟩ entry_list_sort (list_sort_tree hoL hms (by rw [hp.length_eq]; omega) fun out ns' a1 a2 a3 => ⟨_, rfl, ?_⟩) (args_list_sort _)))
  have e : ns' = ns := asc_unique (a2.trans hmp) a3 ha
  obtain ⟨e0, he0⟩ := sortedHeap_at (out := out) hoL
  have hold : ∀ b o, h1.get? b = some o → (sortedHeap (h1.push (seqObj "list" acc.toArray 0)) h1.objs.size acc out).get? b = some o := fun b o hb => by
    have hb' := Heap.lt_size hb
    rw [sortedHeap_old (Nat.ne_of_lt hb') (by rw [size_push']; exact Nat.lt_succ_of_lt hb')]
    exact Heap.get?_push_of_some _ hb
  refine wpAny_pure ⟨_, rfl, ?_⟩
  have F1 := F.keeps hk
  have N1 := N.grown hk
  refine h _ out.toList e0 _ tk (F1.keeps hold) (N1.kept_cons F1 hold (Nat.le_refl _) he0) (e ▸ a1) (fun p hp => Heap.lt_size (N1 p hp).1) (fun b o hb => hold _ _ (hk _ _ hb))
structure SetT (w : World) (n : Nat) (t : SetTable) : Prop where
  fits : t.fits n = true
  plain : t.plain = true
  led : t.led = !byText w
  it : iterT t n = true
theorem m_setOf {Q : Value → Shared → Prop} {h₀ : Heap} {L : Addr} {m : Str → Option Value} {news : List (Addr × Obj)} {t : Addr} {vs : List Value} {ns : List Int} (hh : A.handled = none) (F : Fr h₀ L s.heap m) (N : News h₀ L s.heap news) (ht : s.heap.IsTuple t vs.toArray) (hi : IntsAre vs ns) (ha : Asc ns) (hb : ∀ k ∈ ns, 0 ≤ k ∧ k < 5) (h5 : ns.length ≤ 5)
    (h : ∀ S ep tb h' tk, Fr h₀ L h' m → News h₀ L h' ((S, setObj (vs.map prV).toArray ep tb) :: news) → (∀ p ∈ news, p.1 < S) → SetT w vs.length tb → Q (.ref S) { s with heap := h', toks := tk }) :
    wpAny (model prog w) A (call (.type "set") [.ref t]) Q E s := by
  refine m_call_set hh ht hi ha hb h5 fun h' tk tb hS hit hk => ?_
  obtain ⟨⟨ep, e⟩, hf, hp, hl⟩ := hS
  have hk' : ∀ b o, s.heap.get? b = some o → h'.get? b = some o := fun b o hb => hk b o (Heap.lt_size hb) hb
  refine h _ ep tb h' tk (F.keeps hk') (N.kept_cons F hk' (Nat.le_refl _) e) (fun p hp => Heap.lt_size (N p hp).1) ⟨hf, hp, hl, hit⟩
theorem m_sortedOf {Q : Value → Shared → Prop} {h₀ : Heap} {L : Addr} {m : Str → Option Value} {news : List (Addr × Obj)} {S : Addr} {ep : Nat} {vs : List Value} {ns : List Int} {t : SetTable} (hh : A.handled = none) (F : Fr h₀ L s.heap m) (N : News h₀ L s.heap news) (hm : (S, setObj (vs.map prV).toArray ep t) ∈ news) (hS : SetT w vs.length t) (hI : IntsAre vs ns) (ha : Asc ns) (h5 : ns.length ≤ 5)
    (h : ∀ D us e h' tk, Fr h₀ L h' m → News h₀ L h' ((D, listOf (List.toArray us) e) :: news) → IntsAre us ns → (∀ p ∈ news, p.1 < D) → Q (.ref D) { s with heap := h', toks := tk }) :
    wpAny (model prog w) A (call (.builtin "sorted") [.ref S]) Q E s :=
  m_sortedSet hh F N ⟨⟨ep, N.get hm⟩, hS.fits, hS.plain, hS.led⟩ hS.it (by rw [hI.length]; exact h5) hI (ha.imp fun h => Int.le_of_lt h) fun D us e h' tk F' N' i l _ => h D us e h' tk F' N' i l
theorem m_isTuple {a : Addr} {items : Array Value} {Q : Value → Shared → Prop} (ht : s.heap.IsTuple a items) (h : Q (.bool true) s) : wpAny (model prog w) A (call (.builtin "isinstance") [.ref a, .type "tuple"]) Q E s :=
  call_isinstance_yes (Tx := "tuple") ht.typeIs (by kernel_rfl) (by rw [isSubtype_type]; kernel_rfl) h
theorem nums5 {D : Dat} {ns : List Int} (ok : D.Ok) (h : D.Nums ns) : ∀ k ∈ ns, 0 ≤ k ∧ k < 5 := fun k hk => by
  have := h k hk
  have := ok.hfl
  omega
theorem m_listRange {Q : Value → Shared → Prop} {h₀ : Heap} {L : Addr} {m : Str → Option Value} {news : List (Addr × Obj)} {r : Addr} {b : Int} {t u v : Tok} (hh : A.handled = none) (F : Fr h₀ L s.heap m) (N : News h₀ L s.heap news) (hr : IsRange s.heap r 0 b 1 t u v) (hb : 0 ≤ b) (hz : b ≤ 1000)
    (h : ∀ D us n h' tk, Fr h₀ L h' m → News h₀ L h' ((D, listOf (List.toArray us) n) :: news) → (∀ p ∈ news, p.1 < D) → IntsAre us (rangeKs 0 b.toNat) → Q (.ref D) { s with heap := h', toks := tk }) :
    wpAny (model prog w) A (call (.type "list") [.ref r]) Q E s := by
  have e : b = (b.toNat : Int) := (Int.toNat_of_nonneg hb).symm
  rw [e] at hr
  refine call_list_range hh hr (small_one (by decide) (by decide) (by omega) (by omega)) (m_rsize _) (by omega) fun h' tk acc c hk e hI => ?_
  refine h _ acc.toList c h' tk (F.keeps hk) (N.kept_cons F hk (Nat.le_refl _) e) (fun p hp => Heap.lt_size (N p hp).1) (kll_ints _ _ _ (by rw [Array.length_toList]; exact hI.1) fun j v hj => hI.2 j v (by rw [← hj, Array.getElem?_toList]))
end
end Mine

theorem Mine.fresh30 : True := by
  w_top off
  k_with "my exec For Name Subscript cons nil" => ((k_here; (rename Fr _ _ _ _ => lF'qz); (with_unfolding_all refine' For_invVF lF'qz ?k1qh ?k2qh ?_; (case k1qh => exact rfl); (case k2qh => exact rfl); k_whole); walk_say "FOR SUB"))
  k_with "my call builtin:isinstance" => ((k_here; (with_reducible show wpAny _ _ (call (Value.builtin _) [Value.ref _, Value.type _]) _ _ _); (refine' Mine.m_isTuple ?k1qh ?_; (case k1qh => k_extra "mine_tup")); walk_say "IS TUPLE"))
  k_with "my call type:set" => ((k_here; (with_reducible show wpAny _ _ (call (Value.type _) [Value.ref _]) _ _ _); (rename Mine.Dat.Ok _ => ok9qz); k_dflt (refine' Mine.m_setOf ?k0qh ?k1qh ?k2qh ?k3qh ?k4qh ?k5qh ?k6qh ?k7qh ?_; (case k0qh => rfl); (case k1qh => k_asm); (case k2qh => k_asm); (case k3qh => k_extra "mine_tup"); (case k4qh => assumption); (case k5qh => assumption); (case k6qh => exact Mine.nums5 ok9qz (by assumption)); (case k7qh => assumption); k_whole); (intro S'qz ep'qz tb'qz h'qz tk'qz F'qz N'qz l1qz hT9qz); (try k_lt l1qz); walk_say "SET"))
  k_with "my call builtin:sorted" => ((k_here; (with_reducible show wpAny _ _ (call (Value.builtin _) [Value.ref _]) _ _ _); k_dflt (refine' Mine.m_sortedOf ?k0qh ?k1qh ?k2qh ?k3qh ?k4qh ?k5qh ?k6qh ?k7qh ?_; (case k0qh => rfl); (case k1qh => k_asm); (case k2qh => k_asm); (case k3qh => k_mem); (case k4qh => assumption); (case k5qh => assumption); (case k6qh => assumption); (case k7qh => assumption); k_whole); (intro D'qz us'qz e'qz h'qz tk'qz F'qz N'qz hi'qz l1qz); (try k_lt l1qz); walk_say "SORTED"))
  k_with "my call type:list" => ((k_here; (with_reducible show wpAny _ _ (call (Value.type _) [Value.ref _]) _ _ _); k_dflt (refine' Mine.m_listRange ?k0qh ?k1qh ?k2qh ?k3qh ?k4qh ?k5qh ?_; (case k0qh => rfl); (case k1qh => k_asm); (case k2qh => k_asm); (case k3qh => (rename IsRange _ _ _ _ _ _ _ _ => R9qz; with_reducible exact R9qz)); (case k4qh => omega); (case k5qh => omega); k_whole); (rename IsRange _ _ _ _ _ _ _ _ => R9qz; clear R9qz); (intro D'qz us'qz n'qz h'qz tk'qz F'qz N'qz l1qz hi'qz); (try k_lt l1qz); walk_say "LIST RANGE"))
  trivial
namespace Mine
theorem isCell_keep {h h' : Heap} {K : Addr} {v : Option Value} (x : h.IsCell K v) (k : ∀ o, h.get? K = some o → h'.get? K = some o) : h'.IsCell K v := by
  obtain ⟨o, e, d⟩ := x
  exact ⟨o, k o e, d⟩
section
variable {prog : Program} {w : World} {A : Around} {R : Result → Shared → Prop} {s : Shared}
/-- the turns of a comprehension whose target is a cell -/
theorem m_compLoop_cell {elt iter : Expr} {x : Str} {px : Pos} {ifs : List Expr} {scope : Scope} {pos : Pos} {I D K : Addr} {fp wr : List Addr} {n : Nat} {P : Nat → Value → Prop} {St : Nat → Heap → Prop}
    {cenv : Env} {m : Str → Option Value} {v₀ : Option Value} (W : Walks prog w A I fp wr n P St) (p : Value → Bool) (F : Value → Value → Prop)
    (hkf : cenv.scope.kind = .function) (hx : cenv.kindOf x = some .cell) (hc : cenv.cells.lookup x = some K)
    (hDC : D ≠ cenv.locals) (hDK : D ≠ K) (hCK : cenv.locals ≠ K) (hDf : D ∉ fp) (hCf : cenv.locals ∉ fp) (hKf : K ∉ fp)
    (hst : St 0 s.heap) (hacc : s.heap.PlainList D #[]) (hn : s.heap.Ns cenv.locals m) (hK : s.heap.IsCell K v₀)
    (htests : ∀ i v s₂, P i v → s₂.heap.IsCell K (some v) → (∀ b o, b ≠ K → b ∉ wr → b ≠ D → s.heap.get? b = some o → s₂.heap.get? b = some o) →
      wpAny (model prog w) A (forIn ifs true fun c r => if r = true then do let ok ← isTrue c cenv (eval c cenv); pure (ForInStep.yield ok) else pure (ForInStep.yield r))
        (fun ok s₃ => ok = p v ∧ Keeps s₂ s₃) (notedBy (model prog w) A cenv fun e s' => R (.error e) s') s₂)
    (helt : ∀ i v s₂, P i v → p v = true → s₂.heap.IsCell K (some v) → (∀ b o, b ≠ K → b ∉ wr → b ≠ D → s.heap.get? b = some o → s₂.heap.get? b = some o) →
      wpAny (model prog w) A (eval elt cenv) (fun y s₃ => F v y ∧ Keeps s₂ s₃) (notedBy (model prog w) A cenv fun e s' => R (.error e) s') s₂)
    (hR : ∀ h' tk ys (vs : List Value), h'.Ns cenv.locals m → h'.IsList D ys → h'.PlainList D ys → vs.length = n → (∀ j v, vs[j]? = some v → P j v) → Paired F (vs.filter p) ys.toList →
      (∀ b o, b ≠ K → b ∉ wr → b ≠ D → s.heap.get? b = some o → h'.get? b = some o) → R (.ok .next) { s with heap := h', toks := tk })
    (hsz : n ≤ sizeLine) :
    codeAny (model prog w) A (.compLoop (.ListComp elt [⟨.Name x px, iter, ifs, 0⟩] scope pos) 0 (.ref I) (.ref D) cenv) R s := by
  refine codeAny_compLoop_tests
    (fun k s' => ∃ h' tk v' ys, ∃ vs : List Value, s' = { s with heap := h', toks := tk } ∧ St vs.length h' ∧ h'.PlainList D ys ∧ h'.IsCell K v' ∧ (∀ j v, vs[j]? = some v → P j v) ∧
      Paired F (vs.filter p) ys.toList ∧ vs.length ≤ n ∧ k = n + 1 - vs.length ∧
      (∀ b o, b ≠ K → b ∉ wr → b ≠ D → s.heap.get? b = some o → h'.get? b = some o)) ?_ (n + 1)
    ⟨s.heap, s.toks, v₀, #[], [], rfl, hst, hacc, hK, by simp, by simpa using Paired.nil, Nat.zero_le _, rfl, fun _ _ _ _ _ e => e⟩
  rintro k s' ⟨H, tk, v', ys, vs, rfl, hst', hacc', hK', hP, hF, hi, rfl, hk⟩
  have hCw : cenv.locals ∉ wr := fun h => hCf (W.sub _ h)
  have hDw : D ∉ wr := fun h => hDf (W.sub _ h)
  have hKw : K ∉ wr := fun h => hKf (W.sub _ h)
  by_cases hlt : vs.length < n
  · refine W.item vs.length _ _ _ hlt hst' fun v h₁ tk₁ hPv hst₁ hk₁ => ?_
    refine wpAny_assign_Name (wpAny_storeName_cell hkf hx hc (isCell_keep hK' fun o e => hk₁ K o hKw e) fun h₂ hc₂ hs₂ => ?_)
    have up₂ : ∀ b o, b ≠ K → b ∉ wr → H.get? b = some o → h₂.get? b = some o := fun b o hbK hbf e => hs₂.extBut b o hbK (hk₁ b o hbf e)
    have hst₂ : St (vs.length + 1) h₂ := W.frame _ _ _ hst₁ fun b hb o e => hs₂.extBut b o (fun h => hKf (h ▸ hb)) e
    refine wpAny_mono (htests vs.length v _ hPv hc₂ (fun b o hbK hbf hbD e => up₂ b o hbK hbf (hk b o hbK hbf hbD e))) (fun ok s₃ h₃ => ?_) fun _ _ e => e
    obtain ⟨rfl, h₃, tk₃, rfl, hk₃⟩ := h₃
    have hst₃ : St (vs.length + 1) h₃ := W.frame _ _ _ hst₂ fun b _ o e => hk₃ b o e
    have hacc₃ : h₃.PlainList D ys := hacc'.at fun o e => hk₃ _ o (up₂ D o hDK hDw e)
    have hK₃ : h₃.IsCell K (some v) := isCell_keep hc₂ fun o e => hk₃ K o e
    have hP' : ∀ j u, (vs ++ [v])[j]? = some u → P j u := fun j u hj => by
      rcases Nat.lt_trichotomy j vs.length with h | h | h
      · exact hP j u (by rwa [List.getElem?_append_left h] at hj)
      · subst h; simp at hj; subst hj; exact hPv
      · have hnone : (vs ++ [v])[j]? = none := List.getElem?_eq_none (by rw [List.length_append, List.length_singleton]; omega)
        rw [hnone] at hj; cases hj
    cases hpv : p v with
    | false =>
      simp only [Bool.false_eq_true, if_false]
      refine ⟨n + 1 - (vs.length + 1), by omega, h₃, tk₃, _, ys, vs ++ [v], rfl, by simpa using hst₃, hacc₃, hK₃, hP', ?_, (by rw [List.length_append, List.length_singleton]; exact hlt), (by rw [List.length_append, List.length_singleton]), fun b o hbK hbf hbD e => hk₃ b o (up₂ b o hbK hbf (hk b o hbK hbf hbD e))⟩
      rw [List.filter_append]; simpa [hpv] using hF
    | true =>
      simp only [if_true]
      refine wpAny_mono (helt vs.length v _ hPv hpv hK₃ (fun b o hbK hbf hbD e => hk₃ b o (up₂ b o hbK hbf (hk b o hbK hbf hbD e)))) (fun y s₄ h₄ => ?_) fun _ _ e => e
      obtain ⟨hFy, h₄, tk₄, rfl, hk₄⟩ := h₄
      have hys : ys.size ≤ sizeLine := by
        have e1 := hF.length
        have e2 : (vs.filter p).length ≤ vs.length := List.length_filter_le _ _
        have e4 : ys.toList.length = ys.size := by simp
        omega
      refine wpAny_list_append_plain (hsz := hys) (hacc₃.at fun o e => hk₄ _ o e) fun h₅ hl₅ hs₅ => ?_
      refine ⟨n + 1 - (vs.length + 1), by omega, h₅, tk₄, _, ys.push y, vs ++ [v], rfl, ?_, hl₅, isCell_keep hK₃ (fun o e => hs₅.extBut K o (Ne.symm hDK) (hk₄ K o e)), hP', ?_, (by rw [List.length_append, List.length_singleton]; exact hlt), (by rw [List.length_append, List.length_singleton]),
        fun b o hbK hbf hbD e => hs₅.extBut b o hbD (hk₄ b o (hk₃ b o (up₂ b o hbK hbf (hk b o hbK hbf hbD e))))⟩
      · have := W.frame _ _ h₅ hst₃ fun b hb o e => hs₅.extBut b o (fun h => hDf (h ▸ hb)) (hk₄ b o e)
        simpa using this
      · rw [List.filter_append]; simpa [hpv] using Paired.snoc hF hFy
  · have hin : vs.length = n := by omega
    refine W.done _ _ _ (hin ▸ hst') fun h₁ tk₁ hk₁ => ?_
    exact hR h₁ tk₁ ys vs ((hn.at' fun o e => hk _ o hCK hCw (Ne.symm hDC) e).at' fun o e => hk₁ _ o hCw e) (hacc'.at fun o e => hk₁ _ o hDw e).isList (hacc'.at fun o e => hk₁ _ o hDw e) hin hP hF fun b o hbK hbf hbD e => hk₁ b o hbf (hk b o hbK hbf hbD e)
end
section
variable {M : Model} {A : Around} {E : Value → Shared → Prop} {s : Shared}
theorem m_newCompEnv {scope : Scope} {globals : Addr} {cl : List (Str × Addr)} {qual : Str} {env : Env} {x : Str} {Q : Env → Shared → Prop}
    (hcells : ∀ n, cellsFrom n scope.names cl = (x, n) :: cl) (hpush : ∀ h, pushCells h scope.names = h.push { cls := .type "cell", data := .cell none })
    (hQ : Q { scope, locals := s.heap.objs.size, globals, cells := (x, s.heap.objs.size + 1) :: cl, qual, func := none, code := env.code, frame := env.frame, builtins := env.builtins }
      { s with heap := (s.heap.push { cls := .type "dict", data := .dict #[] }).push { cls := .type "cell", data := .cell none } }) :
    wpAny M A (newFunctionEnv scope globals cl [] qual none .none (some env)) Q E s := by
  simp only [newFunctionEnv, Option.isSome_some, if_true]
  refine wpAny_bind (wpAny_alloc ?_)
  refine wpAny_bind (wpAny_layCells _ (fun name kind cells => by cases hkc : kind == NameKind.cell <;> simp [hkc]) _ _ _ _ ?_)
  rw [hcells, hpush]
  rw [show ({ s with heap := s.heap.push { cls := .type "dict", data := .dict #[] } } : Shared).heap.objs.size = s.heap.objs.size + 1 from Heap.size_push ..]
  refine wpAny_bind (wpAny_pure ?_)
  exact wpAny_pure hQ
end
section
variable {prog : Program} {w : World} {A : Around} {E : Value → Shared → Prop} {s : Shared} {env : Env} {h₀ : Heap} {L : Addr} {m : Str → Option Value}
/-- as CompFrom, where the target is a cell of the comprehension's own -/
inductive CompFromC (prog : Program) (w : World) (A : Around) (env : Env) (scope : Scope) (cl : List (Str × Addr)) (x : Str) (ifs : List Expr) (elt : Expr) (h₀ : Heap) (L : Addr) (m : Str → Option Value) (p : Value → Bool) (R : Value → Value → Prop) (Q : Value → Shared → Prop) (xv : Value) (s₁ : Shared) : Prop where
  | mk (ax : Addr) (vs : List Value) (news : List (Addr × Obj))
    (c1 : xv = .ref ax)
    (c2 : s₁.heap.IsTuple ax (List.toArray vs))
    (c3 : vs.length ≤ sizeLine)
    (c4 : Fr h₀ L s₁.heap m)
    (c5 : News h₀ L s₁.heap news)
    (c6 : (∀ C K oc v s₃ E', v ∈ vs → (∀ p ∈ news, p.1 < K) → oc.data = .cell (some v) → (∀ b o, s₁.heap.get? b = some o → s₃.heap.get? b = some o) → Fr h₀ L s₃.heap m → News h₀ L s₃.heap ((K, oc) :: news) →
      wpAny (model prog w) A (testsOf ifs (compEnvC scope ((x, K) :: cl) C env)) (fun ok s₄ => ok = p v ∧ Keeps s₃ s₄) E' s₃))
    (c7 : (∀ C K oc v s₃ E', v ∈ vs → p v = true → (∀ p ∈ news, p.1 < K) → oc.data = .cell (some v) → (∀ b o, s₁.heap.get? b = some o → s₃.heap.get? b = some o) → Fr h₀ L s₃.heap m → News h₀ L s₃.heap ((K, oc) :: news) →
      wpAny (model prog w) A (eval elt (compEnvC scope ((x, K) :: cl) C env)) (fun y s₄ => R v y ∧ Keeps s₃ s₄) E' s₃))
    (c8 : (∀ D ys n h' tk, Fr h₀ L h' m → News h₀ L h' ((D, listOf ys.toArray n) :: news) → (∀ p ∈ news, p.1 < D) → Paired R (vs.filter p) ys → Q (.ref D) { s₁ with heap := h', toks := tk }))
theorem m_listCompC {elt iter : Expr} {x : Str} {px : Pos} {ifs : List Expr} {scope : Scope} {cl : List (Str × Addr)} {pos : Pos} {Q : Value → Shared → Prop} (p : Value → Bool) (R : Value → Value → Prop)
    (_F : Fr h₀ L s.heap m) (hh : A.handled = none) (hclos : closureFor scope env = pure cl) (hkind : scope.kind = .function)
    (hcells : ∀ n, cellsFrom n scope.names cl = (x, n) :: cl) (hpush : ∀ h, pushCells h scope.names = h.push { cls := .type "cell", data := .cell none })
    (hnames : ∀ y ∈ scope.names, y.2 = .local → scope.names.lookup y.1 = some .local) (hx : (relabel scope env).names.lookup x = some .cell)
    (h : wpAny (model prog w) A (eval iter env) (fun xv s₁ => CompFromC prog w A env scope cl x ifs elt h₀ L m p R Q xv s₁) E s)
    (hs : ∀ x, foldedSetIterable iter env x = pure x) :
    wpAny (model prog w) A (eval (.ListComp elt [⟨.Name x px, iter, ifs, 0⟩] scope pos) env) Q E s := by
  rw [eval_ListComp]
  refine wpAny_comprehension_free (use := none) rfl hs hclos hkind hnames (wpAny_mono h (fun xv s₁ h₁ => ?_) fun _ _ e => e)
  obtain ⟨ax, vs, news, rfl, hl, hsz, F, N, ht, he, hd⟩ := h₁
  obtain ⟨oA, eA, _⟩ := id hl
  have hlt : ax < s₁.heap.objs.size := Heap.lt_size eA
  refine wpAny_pyIter_tuple hl ?_
  generalize hit : ({ cls := .type "tuple_iterator", data := _ } : Obj) = it
  generalize hH1 : s₁.heap.push it = H1
  have h1s : H1.objs.size = s₁.heap.objs.size + 1 := by rw [← hH1]; exact Heap.size_push ..
  have W := Walks.tuple (prog := prog) (w := w) hh s₁.heap.objs.size ax (Nat.ne_of_lt hlt) vs.toArray
  refine wpAny_newObj_type ?_
  refine m_newCompEnv hcells hpush ?_
  generalize hH2 : H1.push { cls := .type "list", data := .seq ([] : List Value).toArray } = H2
  have h2s : H2.objs.size = H1.objs.size + 1 := by rw [← hH2]; exact Heap.size_push ..
  generalize hH3 : (H2.push { cls := .type "dict", data := .dict #[] }) = H3
  have h3s : H3.objs.size = H2.objs.size + 1 := by rw [← hH3]; exact Heap.size_push ..
  generalize hH4 : (H3.push { cls := .type "cell", data := .cell none }) = H4
  have up1 : ∀ b o, s₁.heap.get? b = some o → H1.get? b = some o := fun b o e => hH1 ▸ Heap.get?_push_of_some _ e
  have up2 : ∀ b o, H1.get? b = some o → H4.get? b = some o := fun b o e => hH4 ▸ Heap.get?_push_of_some _ (hH3 ▸ Heap.get?_push_of_some _ (hH2 ▸ Heap.get?_push_of_some _ e))
  have hacc : H4.PlainList H1.objs.size #[] := ⟨0, hH4 ▸ Heap.get?_push_of_some _ (hH3 ▸ Heap.get?_push_of_some _ (hH2 ▸ Heap.get?_push_size _ rfl))⟩
  have hn3 : H3.Ns H2.objs.size (fun _ => none) := hH3 ▸ Heap.Ns.new ..
  have hn4 : H4.Ns H2.objs.size (fun _ => none) := hn3.keeps fun b o e => hH4 ▸ Heap.get?_push_of_some _ e
  have hK4 : H4.IsCell (H2.objs.size + 1) none := by
    rw [← h3s, ← hH4]
    exact ⟨_, Heap.get?_push_size _ rfl, rfl⟩
  have hst : H4.IsTupleIter s₁.heap.objs.size ax 0 ∧ H4.IsTuple ax vs.toArray := by
    refine ⟨?_, hl.at fun o e => up2 _ _ (up1 _ _ e)⟩
    refine ⟨it, up2 _ _ (hH1 ▸ Heap.get?_push_size _ (by rw [← hit]; rfl)), ?_⟩
    rw [← hit]; exact ⟨rfl, rfl⟩
  obtain ⟨oL, _, _, eL, _⟩ := id F.ns
  have hLs : L < s₁.heap.objs.size := Heap.lt_size eL
  have fresh : ∀ a, s₁.heap.objs.size ≤ a → h₀.get? a = none := fun a ha => by
    cases e : h₀.get? a with
    | none => rfl
    | some o => exact absurd (Heap.lt_size (F.keep _ _ e)) (Nat.not_lt.mpr ha)
  have below : ∀ b, b < s₁.heap.objs.size → b ≠ H2.objs.size + 1 ∧ b ∉ [s₁.heap.objs.size] ∧ b ≠ H1.objs.size := fun b hb =>
    ⟨Nat.ne_of_lt (by omega), fun q => absurd hb (by rw [List.mem_singleton.mp q]; exact Nat.lt_irrefl _), Nat.ne_of_lt (by omega)⟩
  have hKs : s₁.heap.objs.size ≤ H2.objs.size + 1 := by omega
  have hDs : s₁.heap.objs.size ≤ H1.objs.size := by omega
  have newsAt : ∀ (K : Addr) (oc : Obj) (h : Heap), s₁.heap.objs.size ≤ K → h.get? K = some oc → (∀ b o, s₁.heap.get? b = some o → h.get? b = some o) → News h₀ L h ((K, oc) :: news) := fun K oc h hK e k q hq => by
    rcases List.mem_cons.mp hq with rfl | hq
    · exact ⟨e, Nat.ne_of_gt (Nat.lt_of_lt_of_le hLs hK), fresh _ hK⟩
    · exact N.grown k q hq
  have lts : ∀ (K : Addr), s₁.heap.objs.size ≤ K → ∀ p ∈ news, p.1 < K := fun K hK p hp => Nat.lt_of_lt_of_le (Heap.lt_size (N p hp).1) hK
  have loop : codeAny (model prog w) A (.compLoop (.ListComp elt [⟨.Name x px, iter, ifs, 0⟩] scope pos) 0 (.ref s₁.heap.objs.size) (.ref H1.objs.size) (compEnvC scope ((x, H2.objs.size + 1) :: cl) H2.objs.size env))
      (compPost (model prog w) A E none Q (.ref H1.objs.size) H2.objs.size) { s₁ with heap := H4 } := by
    refine m_compLoop_cell (s := { s₁ with heap := H4 }) (cenv := compEnvC scope ((x, H2.objs.size + 1) :: cl) H2.objs.size env) (K := H2.objs.size + 1) W p R hkind hx ?_ (Nat.ne_of_lt (by show H1.objs.size < H2.objs.size; omega)) (Nat.ne_of_lt (by omega)) (Nat.ne_of_lt (by show H2.objs.size < _; omega)) ?_ ?_ ?_ hst hacc hn4 hK4 ?_ ?_ ?_ (by simpa using hsz)
    · show List.lookup x ((x, H2.objs.size + 1) :: cl) = _
      rw [List.lookup_cons, beq_self_eq_true]
    · simp only [List.mem_cons, List.not_mem_nil, or_false, not_or]
      exact ⟨Nat.ne_of_gt (by omega), Nat.ne_of_gt (Nat.lt_of_lt_of_le hlt hDs)⟩
    · show H2.objs.size ∉ _
      simp only [List.mem_cons, List.not_mem_nil, or_false, not_or]
      exact ⟨Nat.ne_of_gt (by omega), Nat.ne_of_gt (Nat.lt_of_lt_of_le hlt (by omega))⟩
    · simp only [List.mem_cons, List.not_mem_nil, or_false, not_or]
      exact ⟨Nat.ne_of_gt (by omega), Nat.ne_of_gt (Nat.lt_of_lt_of_le hlt hKs)⟩
    · rintro i v s₂ hP ⟨oc, eK, dK⟩ hk
      have k : ∀ b o, s₁.heap.get? b = some o → s₂.heap.get? b = some o := fun b o e =>
        have q := below b (Heap.lt_size e)
        hk b o q.1 q.2.1 q.2.2 (up2 _ _ (up1 _ _ e))
      exact ht _ _ oc v s₂ _ (by simpa using Array.mem_of_getElem? hP) (lts _ hKs) dK k (F.keeps k) (newsAt _ _ _ hKs eK k)
    · rintro i v s₂ hP hp ⟨oc, eK, dK⟩ hk
      have k : ∀ b o, s₁.heap.get? b = some o → s₂.heap.get? b = some o := fun b o e =>
        have q := below b (Heap.lt_size e)
        hk b o q.1 q.2.1 q.2.2 (up2 _ _ (up1 _ _ e))
      exact he _ _ oc v s₂ _ (by simpa using Array.mem_of_getElem? hP) hp (lts _ hKs) dK k (F.keeps k) (newsAt _ _ _ hKs eK k)
    · intro h' tk ys vs' hns _ hpl hlen hP hF hk
      have e : vs' = vs := by simpa using list_of_places hlen hP
      subst e
      obtain ⟨n, hpl⟩ := hpl
      refine ⟨_, hns, fun h'' hs'' => ?_⟩
      have hDC : H1.objs.size ≠ H2.objs.size := Nat.ne_of_lt (by omega)
      have k : ∀ b o, s₁.heap.get? b = some o → h''.get? b = some o := fun b o e =>
        have q := below b (Heap.lt_size e)
        hs''.extBut b o (Nat.ne_of_lt (Nat.lt_of_lt_of_le (Heap.lt_size e) (by omega))) (hk b o q.1 q.2.1 q.2.2 (up2 _ _ (up1 _ _ e)))
      exact hd _ ys.toList n h'' tk (F.keeps k) (newsAt _ _ _ hDs (by simpa using hs''.extBut _ _ hDC hpl) k) (lts _ hDs) hF
  exact codeAny_compStart_list loop (W.self 0 _ _ _ hst loop)
end
end Mine

theorem Mine.fresh31 : True := by
  w_top off
  trivial
namespace Mine
/-- a tuple of numbers in order -/
def AskS (h : Heap) (D : Dat) (v : Value) : Prop := ∃ a vs qs, v = .ref a ∧ h.IsTuple a (List.toArray vs) ∧ IntsAre vs qs ∧ Asc qs ∧ D.Nums qs ∧ qs.length ≤ 5
abbrev MetL (limit : Int) (n : Nat) : Prop := 0 < limit ∧ limit ≤ (n : Int)
def ToldS (h : Heap) (D : Dat) (met : Prop) (r : Value) : Prop :=
  (r = .none ∧ D.can (rangeKs 0 D.fvs.length) = true) ∨ (∃ ra rvs rs, r = .ref ra ∧ h.IsTuple ra (List.toArray rvs) ∧ IntsAre rvs rs ∧ Asc rs ∧ D.Nums rs ∧ rs.length ≤ 5 ∧ D.can rs = false ∧ D.can (rangeKs 0 D.fvs.length) = false ∧ (¬met → ∀ k ∈ rs, D.can (rs.filter (fun j => decide (j ≠ k))) = true))
/-- can the rest do without this one -/
def lessP (D : Dat) (rs : List Int) : Value → Bool
  | .int k _ => !D.can (rs.filter (fun j => decide (j ≠ k)))
  | _ => false
theorem mem_range0 {n : Nat} {k : Int} (h0 : 0 ≤ k) (h1 : k < (n : Int)) : k ∈ rangeKs 0 ((n : Int)).toNat := by
  show k ∈ (List.range n).map fun (i : Nat) => (0 : Int) + (i : Int)
  exact List.mem_map.mpr ⟨k.toNat, List.mem_range.mpr (by omega), by omega⟩
theorem cr_c (w : World) {p : Program} {loose : List Str} {mean : ExcName → Option Value} {mg mb : Str → Option Value}
    (dp un : Nat) (gd : Option (List Code)) (cn : Str) (cs : Scope) (a : Addr) (ccd : Value) (cl : List (Str × Addr)) (outer : List Env) (A₀ : Around) (base h₀ : Heap) (L : Addr) (m : Str → Option Value) (s : Shared)
    (D : Dat) (ca aa : Addr) (o : Obj) (way limit : Int) (t1 t2 t3 : Tok) (avs : List Value) (told : Value) (lea : Bool) (Q E : Value → Shared → Prop)
    (B : Below A₀ base outer h₀) (F : Fr h₀ L s.heap m) (X : (hd.heap_39 w.params).In h₀) (N : News h₀ L s.heap [(ca, o)]) (T : Top p loose mean mg mb h₀) (hk : cs.kind = .function)
    (hd : o.IsDictOf (PySem.strKind PG w) [("many", .int D.many t1), ("formulas", .ref D.fa), ("granted", .ref D.ga), ("asked", .ref aa), ("way", .int way t2), ("limit", .int limit t3)])
    (ok : D.Ok) (hI : InH D.I [ca] s.heap) (hw0 : 0 ≤ way) (hw1 : way ≤ 2) (hlm0 : 0 ≤ limit) (hlm1 : limit ≤ 10)
    (haa : s.heap.IsList aa avs.toArray) (hav : avs.length ≤ 500) (hask : ∀ v ∈ avs, AskS s.heap D v) (htold : ToldS s.heap D (MetL limit avs.length) told)
    (hlea : lea = !decide (MetL limit avs.length)) (hdp : dp + 4 < recursionLimit) (hun : un + 400 < cLine)
    (hret : ∀ h' tk', Fr h₀ L h' m → KeepBut [] s.heap h' → Q (.bool true) { s with heap := h', toks := tk' }) :
    wpAny (model PG w) (ktrTop dp un gd cn cs L a ccd cl outer) (call (.ref 153) [.ref ca, told, .bool lea]) Q E s := by
  suffices h : Mine.hd.heap_39 = Mine.hd.heap_39 → PySem.Challenge.rw_nu0263_01 = PySem.Challenge.rw_nu0263_01 → wpAny (model PG w) (ktrTop dp un gd cn cs L a ccd cl outer) (call (.ref 153) [.ref ca, told, .bool lea]) Q E s from h rfl rfl
  k_fill
  intro _ _
  have haN : aa ≠ ca := by
    obtain ⟨es, ep, hx, _⟩ := id hd
    exact seq_ne_dict (.inl haa) (N.get (.head _)) hx.1
  have hmet : lea = false ∧ MetL limit avs.length ∨ lea = true ∧ ¬MetL limit avs.length := by
    by_cases q : MetL limit avs.length
    · exact .inl ⟨by rw [hlea, decide_eq_true q]; rfl, q⟩
    · exact .inr ⟨by rw [hlea, decide_eq_false q]; rfl, q⟩
  clear hlea
  refine wpAny_call ?_
  walk_at "mine_enterC"
  rename_i g1 L1 hh1 tk1 FG1 F1 B1 X1 T1 kG' l1 oV oT oC dV dT dC N0
  have hlg := isList_keep (S := [ca]) kG' haa (by simpa using haN)
  have hIg := hI.ground kG'
  have haskg : ∀ v ∈ avs, AskS g1 D v := fun v hv => by
    obtain ⟨qa, qvs, qs, e, ht, r⟩ := hask v hv
    have hneq : qa ≠ ca := by
      obtain ⟨es, ep, hx, _⟩ := id hd
      exact seq_ne_dict (.inr ht) (N.get (.head _)) hx.1
    exact ⟨qa, qvs, qs, e, isTup_keep (S := [ca]) kG' ht (by simpa using hneq), r⟩
  have htoldg : ToldS g1 D (MetL limit avs.length) told := by
    rcases htold with q | ⟨ra, rvs, rs, e, ht, r⟩
    · exact .inl q
    · have hneq : ra ≠ ca := by
        obtain ⟨es, ep, hx, _⟩ := id hd
        exact seq_ne_dict (.inr ht) (N.get (.head _)) hx.1
      exact .inr ⟨ra, rvs, rs, e, isTup_keep (S := [ca]) kG' ht (by simpa using hneq), r⟩
  clear htold hask haa hI
  k_extra "mine_steps"
  · exfalso
    rename (lea == _) = true => hq
    rcases hmet with ⟨rfl, h1, h2⟩ | ⟨rfl, h1⟩
    · simp [h2] at hq
    · exact h1 ⟨by assumption, by simpa using hq⟩
  rotate_left
  · exfalso
    rename (lea == _) = true => hq
    rcases hmet with ⟨rfl, h1, h2⟩ | ⟨rfl, h1⟩
    · exact absurd h1 (by assumption)
    · exact absurd (by simpa using hq : 0 < limit) (by assumption)
  have src : ∃ mt : Bool, mt = decide (0 < limit) ∧ mt = decide (MetL limit avs.length) := ⟨_, rfl, by rename ¬(0 < limit) => hq; rw [decide_eq_false hq, decide_eq_false (fun z => hq z.1)]⟩
  rotate_left
  have src : ∃ mt : Bool, mt = decide (limit ≤ (avs.length : Int)) ∧ mt = decide (MetL limit avs.length) := ⟨_, rfl, by rename 0 < limit => hq; exact decide_eq_decide.mpr ⟨fun z => ⟨hq, z⟩, fun z => z.2⟩⟩
  all_goals (
    rename (lea == _) = false => hq
    obtain ⟨mt, e0, hmt⟩ := src
    clear hq
    rename Fr _ L1 _ _ => F2
    rename News _ L1 _ _ => N2
    rw [← e0] at F2
    clear e0
    with_unfolding_all refine' m_search_list (fun _ => True) rfl (base_now hlg F2) (base_neL hlg F2) (base_neN hlg N2) F2 N2 trivial ?_ ?_
    · intro i v h tk own hv off _ F3 N3
      obtain ⟨qa, qvs, qs, rfl, ht, hqi, hqa, hqn, hq5⟩ := haskg v (List.mem_of_getElem? hv)
      simp only [List.nil_append, List.cons_append] at N3
      k_extra "mine_steps"
      all_goals exact trivial
    · intro u h tk _ F3 N3
      have hfag := hIg.list ok.hfa
      have hfl := ok.hfl
      clear F2 N2
      have hevN : D.Nums (rangeKs 0 ((D.fvs.length : Int)).toNat) := fun k hk => by have := mem_rangeKs hk; omega
      have hevL : (rangeKs 0 ((D.fvs.length : Int)).toNat).length ≤ 5 := by rw [rangeKs_length]; omega
      rcases htoldg with ⟨rfl, hcE⟩ | ⟨ra, rvs, rs, rfl, htr, hri, hra, hrn, hr5, hrc, hnc, hneed⟩
      · k_extra "mine_steps"
        exact q_bool hcE.symm (hret _ _ (by assumption) (keepBut_nil (keepBut_of (S := [ca]) kG' (by assumption)) (N.get (.head _)) (News.get (by assumption) (by k_mem))))
      · have hsra : SeqAt g1 ra rvs := .inr htr
        replace hnc : D.can (rangeKs 0 ((D.fvs.length : Int)).toNat) = false := hnc
        have hrin : rvs.filter (fun v => !inP (rangeKs 0 ((D.fvs.length : Int)).toNat) v) = [] := by
          rw [List.filter_eq_nil_iff]
          intro v hv
          obtain ⟨k, hk, t, rfl⟩ := ints_mem hri hv
          have := hrn k hk
          have : k ∈ rangeKs 0 ((D.fvs.length : Int)).toNat := mem_range0 this.1 this.2
          show ¬(!decide (k ∈ _)) = true
          rw [decide_eq_true this]; decide
        k_extra "mine_stepsL"
        rename Fr _ _ _ _ => F7
        refine m_listComp (fun v => !inP (rangeKs 0 ((D.fvs.length : Int)).toNat) v) (fun v y => y = v) F7 rfl (by with_unfolding_all rfl) (by decide) rfl (by decide) rfl ?_ (fun _ => by with_unfolding_all rfl)
        k_extra "mine_stepsL"
        rename Fr _ _ _ _ => F8
        rename News _ _ _ _ => N8
        rename IntsAre _ (rangeKs 0 _) => hie
        refine ⟨_, rvs, _, rfl, .inr (tbase_now htr F8), by rw [sizeLine_eq, hri.length]; omega, F8, N8, ?_, ?_, ?_⟩
        · intro C v s₃ m₃ E' hv hC hNs hmx hkeep F9 N9
          obtain ⟨k, hk, t, rfl⟩ := ints_mem hri hv
          unfold testsOf
          k_extra "mine_stepsL"
          · rw [any_mem]; rfl
          · exact ⟨_, _, rfl, fun _ _ e => e⟩
        · intro C v s₃ m₃ E' hv _ hC hNs hmx hkeep F9 N9
          k_extra "mine_stepsL"
          exact ⟨_, _, rfl, fun _ _ e => e⟩
        · intro D2 zs n2 h2 tk2 F9 N9 hD2 hP2 hK2 hDn2
          cases paired_self hP2
          rw [hrin] at N9
          k_extra "mine_stepsL"
          · rename mt = true => q9
            exact q_bool q9.symm (hret _ _ (by assumption) (keepBut_nil (keepBut_of (S := [ca]) kG' (by assumption)) (N.get (.head _)) (News.get (by assumption) (by k_mem))))
          rename mt = false => q9
          have hneed' := hneed (of_decide_eq_false (hmt ▸ q9))
          have hrl : rvs.filter (lessP D rs) = [] := by
            rw [List.filter_eq_nil_iff]
            intro v hv
            obtain ⟨k, hk, t, rfl⟩ := ints_mem hri hv
            show ¬(!D.can _) = true
            rw [hneed' k hk]; decide
          clear hrin
          rename Fr _ _ _ _ => F7
          refine' m_listCompC (lessP D rs) (fun v y => y = v) F7 rfl ?c1 rfl ?c2 ?c3 ?c5 ?c6 ?_ ?c4
          case c1 => with_unfolding_all rfl
          case c2 => exact (fun _ => by with_unfolding_all rfl)
          case c3 => exact (fun _ => by with_unfolding_all rfl)
          case c4 => exact (fun _ => by with_unfolding_all rfl)
          case c5 => decide
          case c6 => with_unfolding_all rfl
          k_extra "mine_stepsL"
          rename Fr _ _ _ _ => F8
          rename News _ _ _ _ => N8
          refine ⟨_, rvs, _, rfl, tbase_now htr F8, by rw [sizeLine_eq, hri.length]; omega, F8, N8, ?_, ?_, ?_⟩
          · intro C K oc v s₃ E' hv hlt9 hoc hkeep F9 N9
            obtain ⟨k, hk, t, rfl⟩ := ints_mem hri hv
            clear F8 N8
            unfold testsOf
            k_extra "mine_stepsL"
            refine' m_listComp (neP k) (fun v y => y = v) F9 rfl ?c1 ?c2 rfl ?c3 rfl ?_ ?c4
            case c1 => with_unfolding_all rfl
            case c2 => decide
            case c3 => decide
            case c4 => exact (fun _ => by with_unfolding_all rfl)
            k_extra "mine_stepsL"
            rename Fr _ _ s₃.heap _ => F8
            rename News _ _ s₃.heap _ => N8
            refine ⟨_, rvs, _, rfl, .inr (tbase_now htr F8), by rw [sizeLine_eq, hri.length]; omega, F8, N8, ?_, ?_, ?_⟩
            · intro C4 v4 s₄ m₄ E4 hv4 hC4 hNs4 hmx4 hkeep4 F10 N10
              obtain ⟨j, hj, t4, rfl⟩ := ints_mem hri hv4
              clear F8 N8
              unfold testsOf
              k_extra "mine_stepsL"
              · show (j != k) = decide (j ≠ k)
                by_cases z : j = k <;> simp [z]
              · exact ⟨_, _, rfl, fun _ _ e => e⟩
            · intro C4 v4 s₄ m₄ E4 hv4 _ hC4 hNs4 hmx4 hkeep4 F10 N10
              clear F8 N8
              k_extra "mine_stepsL"
              exact ⟨_, _, rfl, fun _ _ e => e⟩
            · intro D4 zs4 n4 h4 tk4 F10 N10 hD4 hP4 hK4 hDn4
              cases paired_self hP4
              clear F8 N8
              have hi4 := ints_filter (q := fun j => decide (j ≠ k)) (p := neP k) (fun _ _ => rfl) hri
              k_extra "mine_stepsL"
              rename KeepBut [] h4 _ => K9
              exact ⟨_, _, rfl, fun b o e => K9 b o (hK4 b o e (by simp)) (by simp)⟩
          · intro C K oc v s₃ E' hv _ hlt9 hoc hkeep F9 N9
            clear F8 N8
            k_extra "mine_stepsL"
            exact ⟨_, _, rfl, fun _ _ e => e⟩
          · intro D2 zs n2 h2 tk2 F9 N9 hD2 hP2
            cases paired_self hP2
            rw [hrl] at N9
            clear F8 N8
            k_extra "mine_stepsL"
            exact hret _ _ (by assumption) (keepBut_nil (keepBut_of (S := [ca]) kG' (by assumption)) (N.get (.head _)) (News.get (by assumption) (by k_mem))))
theorem cr_k (w : World) {p : Program} {loose : List Str} {mean : ExcName → Option Value} {mg mb : Str → Option Value}
    {dp un : Nat} {gd : Option (List Code)} {cn : Str} {cs : Scope} {a : Addr} {ccd : Value} {cl : List (Str × Addr)} {outer : List Env} {A₀ : Around} {base h₀ : Heap} {L : Addr} {m : Str → Option Value} {s : Shared}
    (D : Dat) {ca aa : Addr} {o : Obj} {way limit : Int} {t1 t2 t3 : Tok} {avs : List Value} {told : Value} {lea : Bool} {Q E : Value → Shared → Prop} {news : List (Addr × Obj)}
    (B : Below A₀ base outer h₀) (F : Fr h₀ L s.heap m) (X : (hd.heap_39 w.params).In h₀) (N : News h₀ L s.heap news) (T : Top p loose mean mg mb h₀) (hk : cs.kind = .function)
    (hm : (ca, o) ∈ news)
    (hd : o.IsDictOf (PySem.strKind PG w) [("many", .int D.many t1), ("formulas", .ref D.fa), ("granted", .ref D.ga), ("asked", .ref aa), ("way", .int way t2), ("limit", .int limit t3)])
    (ok : D.Ok) (hI : InH D.I [ca] s.heap) (hw0 : 0 ≤ way) (hw1 : way ≤ 2) (hlm0 : 0 ≤ limit) (hlm1 : limit ≤ 10)
    (haa : s.heap.IsList aa avs.toArray) (hav : avs.length ≤ 500) (hask : ∀ v ∈ avs, AskS s.heap D v) (htold : ToldS s.heap D (MetL limit avs.length) told)
    (hlea : lea = !decide (MetL limit avs.length)) (hdp : dp + 4 < recursionLimit) (hun : un + 400 < cLine)
    (hret : ∀ h' tk', Fr h₀ L h' m → News h₀ L h' news → KeepBut [] s.heap h' → Q (.bool true) { s with heap := h', toks := tk' }) :
    wpAny (model PG w) (ktrTop dp un gd cn cs L a ccd cl outer) (call (.ref 153) [.ref ca, told, .bool lea]) Q E s :=
  cr_c w dp un gd cn cs a ccd cl outer A₀ base h₀ L m s D ca aa o way limit t1 t2 t3 avs told lea Q E B F X (Mine.News.one N hm) T hk hd ok hI hw0 hw1 hlm0 hlm1 haa hav hask htold hlea hdp hun
    fun h' tk' F' K => hret h' tk' F' (fun p hp => ⟨K _ _ (N p hp).1 (by simp), (N p hp).2⟩) K
end Mine

theorem Mine.fresh32 : True := by
  w_top off
  trivial
namespace Mine
def dstep (labs : List Str) (acc : List Str) (k : Int) : List Str := if labs.getD k.toNat Str.empty ∈ acc then acc else acc ++ [labs.getD k.toNat Str.empty]
/-- the labels of these numbers, each once -/
def ddup (labs : List Str) (ks : List Int) : List Str := ks.foldl (dstep labs) []
theorem ddup_succ {labs : List Str} {ns : List Int} {i : Nat} {k : Int} (h : ns[i]? = some k) : ddup labs (ns.take (i + 1)) = dstep labs (ddup labs (ns.take i)) k := by
  unfold ddup
  rw [List.take_add_one, h, List.foldl_append]
  rfl
theorem strs_snoc {y : Str} {t : Tok} {vs : List Value} {xs : List Str} (h : StrsAre vs xs) : StrsAre (vs ++ [.str y t]) (xs ++ [y]) := by
  induction h with
  | nil => exact .cons y t .nil
  | cons z u r ih => exact .cons z u ih
section
variable {prog : Program} {w : World} {A : Around} {E : Value → Shared → Prop} {s : Shared}
variable {env : Env} {h₀ : Heap} {x : Str} {body : List Stmt} {Q : Flow → Shared → Prop}
/-- what a turn that stores the loop's name and lengthens one list must leave -/
inductive LEnd (h₀ : Heap) (L : Addr) (x : Str) (m₀ : Str → Option Value) (fl : Addr) (rest own : List (Addr × Obj)) (P : List Value → Prop) (s₁ s₂ : Shared) : Prop where
  | mk h' tk m' news' fls n
    (c1 : s₂ = { s₁ with heap := h', toks := tk })
    (c2 : Fr h₀ L h' m')
    (c3 : (∀ z, z ≠ x → m' z = m₀ z))
    (c4 : News h₀ L h' news')
    (c5 : (fl, listOf (List.toArray fls) n) ∈ news')
    (c6 : (∀ p ∈ rest, p ∈ news'))
    (c7 : (∀ p ∈ own, p ∈ news'))
    (c8 : P fls)
def LPost (h₀ : Heap) (L : Addr) (x : Str) (m₀ : Str → Option Value) (fl : Addr) (rest own : List (Addr × Obj)) (P : List Value → Prop) (s₁ : Shared) (Q : Flow → Shared → Prop) (f : Flow) (s₂ : Shared) : Prop :=
  match f with
  | .ret v => Q (.ret v) s₂
  | .brk => Q .next s₂
  | _ => LEnd h₀ L x m₀ fl rest own P s₁ s₂
theorem m_lab {l fl : Addr} {vs fls₀ : List Value} {n₀ : Nat} {m₀ : Str → Option Value} {rest : List (Addr × Obj)} (P : Nat → List Value → Prop)
    (hh : A.handled = none) (hl : s.heap.IsTuple l vs.toArray) (hL : l ≠ env.locals) (hn : ∀ q ∈ (fl, listOf (List.toArray fls₀) n₀) :: rest, q.1 ≠ l) (F : Fr h₀ env.locals s.heap m₀) (N : News h₀ env.locals s.heap ((fl, listOf (List.toArray fls₀) n₀) :: rest)) (h0 : P 0 fls₀)
    (turn : ∀ i v fls n h tk own, vs[i]? = some v → TbOff own ((fl, listOf (List.toArray fls) n) :: rest) → P i fls → Fr h₀ env.locals h (fun y => if y = x then some v else m₀ y) → News h₀ env.locals h ((fl, listOf (List.toArray fls) n) :: (rest ++ own)) →
      wpAny (model prog w) A (execs body env) (LPost h₀ env.locals x m₀ fl rest own (P (i + 1)) { s with heap := h, toks := tk } Q) E { s with heap := h, toks := tk })
    (done : ∀ u fls n h tk, P vs.length fls → Fr h₀ env.locals h (fun y => if y = x then u else m₀ y) → News h₀ env.locals h ((fl, listOf (List.toArray fls) n) :: rest) → Q .next { s with heap := h, toks := tk }) :
    wpAny (model prog w) A (pyIter (.ref l)) (fun it s₂ => LoopAtV prog w A h₀ env x body Q E it s₂) E s := by
  refine m_iter_tup (fun i m nx => ∃ fls n, nx = (fl, listOf (List.toArray fls) n) :: rest ∧ (∀ z, z ≠ x → m z = m₀ z) ∧ P i fls) hh hl hL hn F N ⟨fls₀, n₀, rfl, fun _ _ => rfl, h0⟩ ?_ ?_
  · rintro i v m₁ nx h tk own hv off ⟨fls, n, rfl, hm, hp⟩ F₁ N₁
    rw [sInv_map hm] at F₁
    refine wpAny_mono (turn i v fls n h tk own hv off hp F₁ (by simpa using N₁)) (fun f s₂ p => ?_) fun _ _ e => e
    have fin : LEnd h₀ env.locals x m₀ fl rest own (P (i + 1)) { s with heap := h, toks := tk } s₂ → TbEnd h₀ env.locals (fun m nx => ∃ fls n, nx = (fl, listOf (List.toArray fls) n) :: rest ∧ (∀ z, z ≠ x → m z = m₀ z) ∧ P (i + 1) fls) own { s with heap := h, toks := tk } s₂ := by
      rintro ⟨h', tk', m', news', fls', n', e, F', hm', N', h1, h2, h3, hp'⟩
      refine ⟨h', tk', m', news', (fl, listOf (List.toArray fls') n') :: rest, e, F', N', fun q hq => ?_, h3, fun q hq r hr => ?_, fls', n', rfl, hm', hp'⟩
      · rcases List.mem_cons.mp hq with rfl | hq
        · exact h1
        · exact h2 q hq
      · rcases List.mem_cons.mp hr with rfl | hr
        · exact off q hq (fl, listOf (List.toArray fls) n) (.head _)
        · exact off q hq r (.tail _ hr)
    cases f with
    | ret v => exact p
    | brk => exact p
    | next => exact fin p
    | cont => exact fin p
  · rintro m₁ nx h tk ⟨fls, n, rfl, hm, hp⟩ F₁ N₁
    rw [sInv_self hm] at F₁
    exact done _ fls n h tk hp F₁ N₁
end
end Mine

theorem Mine.fresh33 : True := by
  w_top off
  trivial
namespace Mine
theorem lb_c (w : World) {p : Program} {loose : List Str} {mean : ExcName → Option Value} {mg mb : Str → Option Value}
    (dp un : Nat) (gd : Option (List Code)) (cn : Str) (cs : Scope) (a : Addr) (ccd : Value) (cl : List (Str × Addr)) (outer : List Env) (A₀ : Around) (base h₀ : Heap) (L : Addr) (m : Str → Option Value) (s : Shared)
    (la na : Addr) (lvs nvs : List Value) (labs : List Str) (ns : List Int) (Q E : Value → Shared → Prop)
    (B : Below A₀ base outer h₀) (F : Fr h₀ L s.heap m) (X : (hd.heap_39 w.params).In h₀) (T : Top p loose mean mg mb h₀) (hk : cs.kind = .function)
    (hla : s.heap.IsList la lvs.toArray) (hls : StrsAre lvs labs) (hna : s.heap.IsTuple na nvs.toArray) (hni : IntsAre nvs ns) (hb : ∀ k ∈ ns, 0 ≤ k ∧ k < (labs.length : Int)) (hll : labs.length ≤ 100) (hnl : ns.length ≤ 10)
    (hdp : dp + 1 < recursionLimit) (hun : un + 100 < cLine)
    (hret : ∀ D us n h' tk', Fr h₀ L h' m → KeepBut [] s.heap h' → s.heap.get? D = none → h'.get? D = some (listOf (List.toArray us) n) → StrsAre us (ddup labs ns) → Q (.ref D) { s with heap := h', toks := tk' }) :
    wpAny (model PG w) (ktrTop dp un gd cn cs L a ccd cl outer) (call (.ref 107) [.ref la, .ref na]) Q E s := by
  suffices h : Mine.hd.heap_39 = Mine.hd.heap_39 → PySem.Challenge.rw_nu0263_01 = PySem.Challenge.rw_nu0263_01 → wpAny (model PG w) (ktrTop dp un gd cn cs L a ccd cl outer) (call (.ref 107) [.ref la, .ref na]) Q E s from h rfl rfl
  k_fill
  intro _ _
  have N : News h₀ L s.heap [] := News.nil
  refine wpAny_call ?_
  walk_at "mine_enter"
  rename GSub _ _ _ => kG'
  have hlg := isList_keep (S := []) kG' hla (by simp)
  have hng := isTup_keep (S := []) kG' hna (by simp)
  k_extra "mine_steps"
  rename Fr _ _ _ _ => F1
  rename News _ _ _ _ => N1
  with_unfolding_all refine' m_lab (fls₀ := []) (fun i fls => ∃ fs, StrsAre fls fs ∧ fs = ddup labs (ns.take i) ∧ fls.length ≤ i) rfl (tbase_now hng F1) (tbase_neL hng F1) (tbase_neN hng N1) F1 N1 ⟨[], .nil, rfl, Nat.le_refl _⟩ ?turn ?done
  case turn =>
    rintro i v fls n h tk own hv off ⟨fs, hfs, hdd, hfl⟩ F2 N2
    obtain ⟨k, t, rfl, hk9⟩ := ints_at hni hv
    have hkb := hb k (List.mem_of_getElem? hk9)
    have hlg2 := base_now hlg F2
    have hi10 : i < nvs.length := (List.getElem?_eq_some_iff.mp hv).1
    have hnv : nvs.length ≤ 10 := by rw [hni.length]; exact hnl
    have hfl10 : fls.length ≤ 10 := by omega
    clear F1 N1
    simp only [List.nil_append] at N2
    replace off := tbOff_own off
    simp only [List.map_cons, List.map_nil] at off
    k_extra "mine_steps"
    · rename _ = true => hin
      dsimp only [LPost]
      refine ⟨_, _, _, _, fls, n, rfl, (by assumption), by k_extra "mine_same", N2, .head _, (fun _ h => nomatch h), (fun p hp => .tail _ hp), ⟨fs, (by assumption), ?_, by omega⟩⟩
      rw [ddup_succ hk9, ← hdd]
      unfold dstep
      rw [any_memS] at hin
      rw [if_pos (of_decide_eq_true hin)]
    · rename _ = false => hin
      rename News _ _ _ _ => N5
      rename Fr _ _ _ _ => F5
      rw [List.push_toArray] at N5
      dsimp only [LPost]
      refine ⟨_, _, _, _, _, _, rfl, F5, by k_extra "mine_same", N5, .head _, (fun _ h => nomatch h), (fun p hp => .tail _ hp), ⟨_, strs_snoc (by assumption), ?_, by rw [List.length_append, List.length_singleton]; omega⟩⟩
      rw [ddup_succ hk9, ← hdd]
      unfold dstep
      rw [any_memS] at hin
      rw [if_neg (of_decide_eq_false hin)]
  case done =>
    rintro u fls n h tk ⟨fs, hfs, hdd, hfl⟩ F2 N2
    clear F1 N1
    rw [hni.length, List.take_length] at hdd
    k_extra "mine_steps"
    exact hret _ fls n _ _ (by assumption) (keepBut_of (S := []) kG' (by assumption)) (fresh_call kG' N2 (.head _) (by simp)) (N2.get (.head _)) (hdd ▸ hfs)
end Mine

theorem Mine.fresh34 : True := by
  w_top off
  trivial
namespace Mine
/-- what the building loop keeps -/
inductive LInv (w : World) (aa ga fa ca ta cla cc tb : Addr) (oc co cco : Obj) (i : Nat) (nx : List (Addr × Obj)) : Prop where
  | mk fvs gvs Fs Gs add nf ng kk kt ot
    (c1 : nx = (aa, listOf #[] 0) :: (ga, listOf (List.toArray gvs) ng) :: (fa, listOf (List.toArray fvs) nf) :: (ca, oc) :: (ta, ot) :: (cla, co) :: (cc, cco) :: (tb, tabObj #[]) :: add)
    (c2 : All2 (FormIn add) fvs Fs)
    (c3 : All2 (FormIn add) gvs Gs)
    (c4 : fvs.length + gvs.length = i)
    (c5 : 2 ≤ kk)
    (c6 : kk ≤ 2 + 9 * (i : Int))
    (c7 : ot.IsDictOf (PySem.strKind PG w) [("cells", .ref cla), ("spot", .int kk kt)])
    (c8 : OwnOff add [aa, ga, fa, ca, ta, cla, cc, tb])
theorem law_led {h₀ h : Heap} {L aa ga fa ca ta cla cc tb : Addr} {oc ot cco : Obj} {xs : Array Value} {n : Nat} {l : List (Addr × Obj)}
    (N : News h₀ L h ((aa, listOf #[] 0) :: (ga, listOf #[] 0) :: (fa, listOf #[] 0) :: (ca, oc) :: (ta, ot) :: (cla, listOf xs n) :: l)) (h1 : (cc, cco) ∈ l) (h2 : (tb, tabObj #[]) ∈ l) :
    News h₀ L h [(aa, listOf #[] 0), (ga, listOf #[] 0), (fa, listOf #[] 0), (ca, oc), (ta, ot), (cla, listOf xs n), (cc, cco), (tb, tabObj #[])] := fun q hq => by
  simp only [List.mem_cons, List.not_mem_nil, or_false] at hq
  refine N q ?_
  rcases hq with q | q | q | q | q | q | q | q
  · rw [q]; exact .head _
  · rw [q]; exact .tail _ (.head _)
  · rw [q]; exact .tail _ (.tail _ (.head _))
  · rw [q]; exact .tail _ (.tail _ (.tail _ (.head _)))
  · rw [q]; exact .tail _ (.tail _ (.tail _ (.tail _ (.head _))))
  · rw [q]; exact .tail _ (.tail _ (.tail _ (.tail _ (.tail _ (.head _)))))
  · rw [q]; exact .tail _ (.tail _ (.tail _ (.tail _ (.tail _ (.tail _ h1)))))
  · rw [q]; exact .tail _ (.tail _ (.tail _ (.tail _ (.tail _ (.tail _ h2)))))
theorem law_turn {w : World} {h₀ h' : Heap} {L aa ga fa ca ta cla cc tb : Addr} {oc ot co cco : Obj} {x y : Str} {m₀ m' : Str → Option Value} {s₁ : Shared} {tk : Nat} {fvs gvs : List Value} {Fs Gs : List (List (List Int))} {add own add' : List (Addr × Obj)} {nf ng i : Nat} {kk : Int} {kt : Tok} {ot' : Obj} {gv0 fv0 : Array Value} {n1 n2 : Nat}
    (F : Fr h₀ L h' m') (hm : ∀ z, z ≠ x → z ≠ y → m' z = m₀ z) (N : News h₀ L h' ((aa, listOf #[] 0) :: (ga, listOf (List.toArray gvs) ng) :: (fa, listOf (List.toArray fvs) nf) :: (ca, oc) :: (ta, ot) :: (cla, co) :: (cc, cco) :: (tb, tabObj #[]) :: (add ++ own ++ add')))
    (hF : All2 (FormIn (add ++ add')) fvs Fs) (hG : All2 (FormIn (add ++ add')) gvs Gs) (hlen : fvs.length + gvs.length = i + 1) (h0 : 2 ≤ kk) (h1 : kk ≤ 2 + 9 * ((i + 1 : Nat) : Int))
    (D6 : ot.IsDictOf (PySem.strKind PG w) [("cells", .ref cla), ("spot", .int kk kt)]) (hoff : OwnOff (add ++ own ++ add') [aa, ga, fa, ca, ta, cla, cc, tb])
    (off : TbOff own ((aa, listOf #[] 0) :: (ga, listOf gv0 n1) :: (fa, listOf fv0 n2) :: (ca, oc) :: (ta, ot') :: (cla, co) :: (cc, cco) :: (tb, tabObj #[]) :: add))
    (ho : ∀ p ∈ add', ∀ q ∈ own, p.1 ≠ q.1) :
    GEnd h₀ L x y m₀ own (LInv w aa ga fa ca ta cla cc tb oc co cco (i + 1)) s₁ { s₁ with heap := h', toks := tk } := by
  refine GEnd.intro (nx := (aa, listOf #[] 0) :: (ga, listOf (List.toArray gvs) ng) :: (fa, listOf (List.toArray fvs) nf) :: (ca, oc) :: (ta, ot) :: (cla, co) :: (cc, cco) :: (tb, tabObj #[]) :: (add ++ add')) F hm N ?_ ?_ ?_ ?_
  · intro q hq
    simp only [List.mem_cons, List.mem_append] at hq ⊢
    rcases hq with q | q | q | q | q | q | q | q | q | q <;> simp [q]
  · intro q hq; simp only [List.mem_cons, List.mem_append]; simp [hq]
  · intro p hp q hq
    have k : ∀ c ∈ [aa, ga, fa, ca, ta, cla, cc, tb], p.1 ≠ c := fun c hc => hoff p (List.mem_append_left _ (List.mem_append_right _ hp)) c hc
    simp only [List.mem_cons, List.mem_append] at hq
    rcases hq with rfl | rfl | rfl | rfl | rfl | rfl | rfl | rfl | q' | q'
    · exact k _ (by simp)
    · exact k _ (by simp)
    · exact k _ (by simp)
    · exact k _ (by simp)
    · exact k _ (by simp)
    · exact k _ (by simp)
    · exact k _ (by simp)
    · exact k _ (by simp)
    · exact off p hp q (by simp [q'])
    · exact fun z => ho q q' p hp z.symm
  · refine ⟨fvs, gvs, Fs, Gs, add ++ add', nf, ng, kk, kt, ot, rfl, hF, hG, hlen, h0, h1, D6, fun p hp c hc => ?_⟩
    rcases List.mem_append.mp hp with hp | hp
    · exact hoff p (List.mem_append_left _ (List.mem_append_left _ hp)) c hc
    · exact hoff p (List.mem_append_right _ hp) c hc
theorem forms_left {add : List (Addr × Obj)} {vs : List Value} {Gs : List (List (List Int))} (h : All2 (FormIn add) vs Gs) (add' : List (Addr × Obj)) : All2 (FormIn (add ++ add')) vs Gs :=
  h.mono fun _ _ q => q.mono fun _ hp => List.mem_append_left _ hp
theorem forms_right {add' : List (Addr × Obj)} {v : Value} {G : List (List Int)} (h : FormIn add' v G) (add : List (Addr × Obj)) : All2 (FormIn (add ++ add')) [v] [G] :=
  .cons (h.mono fun _ hp => List.mem_append_right _ hp) .nil
section
variable {M : Model} {A : Around} {E : Value → Shared → Prop} {s : Shared} {g : Heap} {L : Addr} {m : Str → Option Value} {news : List (Addr × Obj)} {e : Sem Value} {Q : Value → Shared → Prop}
/-- the tape's cells are made, by either branch -/
inductive CellsPost (g : Heap) (L : Addr) (m : Str → Option Value) (news : List (Addr × Obj)) (s : Shared) (v : Value) (s' : Shared) : Prop where
  | mk D ws cs n h tk
    (c1 : v = .ref D)
    (c2 : s' = { s with heap := h, toks := tk })
    (c3 : Fr g L h m)
    (c4 : News g L h ((D, listOf (List.toArray ws) n) :: news))
    (c5 : (∀ p ∈ news, @LT.lt Nat instLTNat p.1 D))
    (c6 : IntsAre ws cs)
    (c7 : cs.length ≤ 60)
theorem cells_post {D x : Addr} {ws : List Value} {cs : List Int} {n tk : Nat} {h : Heap} {ob : Obj} (F : Fr g L h m) (N : News g L h ((D, listOf (List.toArray ws) n) :: (x, ob) :: news)) (l : ∀ p ∈ news, @LT.lt Nat instLTNat p.1 D) (i : IntsAre ws cs) (c : cs.length ≤ 60) : CellsPost g L m news s (.ref D) { s with heap := h, toks := tk } :=
  ⟨D, ws, cs, n, h, tk, rfl, rfl, F, fun q hq => N q (by
    rcases List.mem_cons.mp hq with q | q
    · rw [q]; exact .head _
    · exact .tail _ (.tail _ q)), l, i, c⟩
theorem join_cells (_F : Fr g L s.heap m) (_N : News g L s.heap news) (ha : wpAny M A e (CellsPost g L m news s) E s)
    (hb : ∀ D ws cs n h tk, Fr g L h m → News g L h ((D, listOf (List.toArray ws) n) :: news) → (∀ p ∈ news, p.1 < D) → IntsAre ws cs → cs.length ≤ 60 → Q (.ref D) { s with heap := h, toks := tk }) : wpAny M A e Q E s :=
  wpAny_mono ha (fun _ _ q => by
    obtain ⟨D, ws, cs, n, h, tk, rfl, rfl, F, N, l, i, c⟩ := q
    exact hb D ws cs n h tk F N l i c) fun _ _ q => q
/-- the limit is drawn, by either branch -/
inductive LimPost (w : World) (g : Heap) (L : Addr) (m : Str → Option Value) (u : Obj → List (Addr × Obj)) (cla : Addr) (s : Shared) (v : Value) (s' : Shared) : Prop where
  | mk lim t o kk kt h tk
    (c1 : v = .int lim t)
    (c2 : s' = { s with heap := h, toks := tk })
    (c3 : 0 ≤ lim)
    (c4 : lim ≤ 10)
    (c5 : lim ≠ 1)
    (c6 : Fr g L h m)
    (c7 : News g L h (u o))
    (c8 : o.IsDictOf (PySem.strKind PG w) [("cells", .ref cla), ("spot", .int kk kt)])
theorem join_lim (w : World) {ta cla : Addr} {kk0 : Int} {kt0 : Tok} {o : Obj} {u : Obj → List (Addr × Obj)} (_F : Fr g L s.heap m) (_N : News g L s.heap news) (_D : o.IsDictOf (PySem.strKind PG w) [("cells", .ref cla), ("spot", .int kk0 kt0)]) (_M : (ta, o) ∈ news) (_U : UpdF ta o news u) (ha : wpAny M A e (LimPost w g L m u cla s) E s)
    (hb : ∀ lim t o kk kt h tk, 0 ≤ lim → lim ≤ 10 → lim ≠ 1 → Fr g L h m → News g L h (u o) → o.IsDictOf (PySem.strKind PG w) [("cells", .ref cla), ("spot", .int kk kt)] → Q (.int lim t) { s with heap := h, toks := tk }) : wpAny M A e Q E s :=
  wpAny_mono ha (fun _ _ q => by
    obtain ⟨lim, t, o, kk, kt, h, tk, rfl, rfl, l0, l1, l2, F, N, d⟩ := q
    exact hb lim t o kk kt h tk l0 l1 l2 F N d) fun _ _ q => q
end
end Mine

theorem Mine.fresh35 : True := by
  w_top off
  trivial
namespace Mine
theorem fr_back {h₀ h₀' h : Heap} {L : Addr} {m : Str → Option Value} (T : KtsTurn [] h₀ h₀') (F : Fr h₀' L h m) : Fr h₀ L h m :=
  ⟨F.ns, fun b o e => F.keep b o (T.other b o e (by simp)), by rw [← T.size]; exact F.above⟩
theorem news_back {h₀ h₀' h : Heap} {L : Addr} {l : List (Addr × Obj)} (T : KtsTurn [] h₀ h₀') (N : News h₀' L h l) : News h₀ L h l := fun p hp =>
  ⟨(N p hp).1, (N p hp).2.1, by
    cases e : h₀.get? p.1 with
    | none => rfl
    | some o => have y := T.other _ _ e (by simp); rw [(N p hp).2.2] at y; cases y⟩
theorem ClauseIn.atL {l : List (Addr × Obj)} {h : Heap} {v : Value} {c : List Int} (x : ClauseIn l v c) (k : ∀ q ∈ l, q.2.cls = .type "list" → h.get? q.1 = some q.2) : ClauseAt h v c := by
  obtain ⟨a, vs, n, e, hm, r⟩ := x
  exact ⟨a, vs, e, ⟨_, k _ hm rfl, rfl, _, rfl⟩, r⟩
theorem FormIn.atL {l : List (Addr × Obj)} {h : Heap} {v : Value} {F : List (List Int)} (x : FormIn l v F) (k : ∀ q ∈ l, q.2.cls = .type "list" → h.get? q.1 = some q.2) : FormAt h v F := by
  obtain ⟨a, vs, n, e, hm, r⟩ := x
  exact ⟨a, vs, e, ⟨_, k _ hm rfl, rfl, _, rfl⟩, r.mono fun _ _ y => y.atL k⟩
/-- the heap of these objects alone -/
def lawI (h : Heap) (S : List Addr) (lst : List (Addr × Obj)) : Heap := hideAll h (S ++ (List.range h.objs.size).filter fun b => decide (b ∉ lst.map (·.1)))
theorem lawI_of {h : Heap} {S : List Addr} {lst : List (Addr × Obj)} {b : Addr} {o : Obj} (hl : ∀ q ∈ lst, h.get? q.1 = some q.2) (e : (lawI h S lst).get? b = some o) : (b, o) ∈ lst ∧ b ∉ S := by
  have e' : h.get? b = some o := of_hideAll _ e
  have hn : b ∉ S ++ (List.range h.objs.size).filter fun b => decide (b ∉ lst.map (·.1)) := fun z => by
    have y := hideAll_none (h := h) _ z
    unfold lawI at e; rw [y] at e; cases e
  rw [List.mem_append, not_or] at hn
  refine ⟨?_, hn.1⟩
  have hm : b ∈ lst.map (·.1) := by
    by_cases q : b ∈ lst.map (·.1)
    · exact q
    · exact absurd (List.mem_filter.mpr ⟨List.mem_range.mpr (Heap.lt_size e'), decide_eq_true q⟩) hn.2
  obtain ⟨p, hp, rfl⟩ := List.mem_map.mp hm
  have y := hl p hp
  rw [y] at e'; cases e'; exact hp
theorem lawI_get {h : Heap} {S : List Addr} {lst : List (Addr × Obj)} {q : Addr × Obj} (hl : ∀ q ∈ lst, h.get? q.1 = some q.2) (hq : q ∈ lst) (hS : q.1 ∉ S) : (lawI h S lst).get? q.1 = some q.2 := by
  refine hideAll_get _ (hl q hq) fun z => ?_
  rcases List.mem_append.mp z with z | z
  · exact hS z
  · have y := (List.mem_filter.mp z).2
    simp only [decide_eq_true_eq] at y
    exact y (List.mem_map_of_mem hq)
/-- the law's formulas, as they stand in this heap, off these addresses -/
def lawD (h : Heap) (S : List Addr) (fa ga : Addr) (fvs gvs : List Value) (nf ng : Nat) (Fs Gs : List (List (List Int))) (many : Int) (add : List (Addr × Obj)) : Dat :=
  ⟨lawI h S ((fa, listOf (List.toArray fvs) nf) :: (ga, listOf (List.toArray gvs) ng) :: add), fa, ga, fvs, gvs, Fs, Gs, many⟩
theorem lawD_ok {h : Heap} {S : List Addr} {fa ga : Addr} {fvs gvs : List Value} {nf ng : Nat} {Fs Gs : List (List (List Int))} {many : Int} {add : List (Addr × Obj)}
    (hl : ∀ q ∈ (fa, listOf (List.toArray fvs) nf) :: (ga, listOf (List.toArray gvs) ng) :: add, h.get? q.1 = some q.2) (hS : ∀ q ∈ (fa, listOf (List.toArray fvs) nf) :: (ga, listOf (List.toArray gvs) ng) :: add, q.2.cls = .type "list" → q.1 ∉ S)
    (hF : All2 (FormIn add) fvs Fs) (hG : All2 (FormIn add) gvs Gs) (hn : fvs.length + gvs.length ≤ 5) (m0 : 2 ≤ many) (m1 : many ≤ 3) : (lawD h S fa ga fvs gvs nf ng Fs Gs many add).Ok where
  hfa := ⟨_, lawI_get (q := (fa, listOf (List.toArray fvs) nf)) hl (.head _) (hS _ (.head _) rfl), rfl, _, rfl⟩
  hga := ⟨_, lawI_get (q := (ga, listOf (List.toArray gvs) ng)) hl (.tail _ (.head _)) (hS _ (.tail _ (.head _)) rfl), rfl, _, rfl⟩
  hF := hF.mono fun _ _ x => x.atL fun q hq hc => lawI_get hl (.tail _ (.tail _ hq)) (hS q (.tail _ (.tail _ hq)) hc)
  hG := hG.mono fun _ _ x => x.atL fun q hq hc => lawI_get hl (.tail _ (.tail _ hq)) (hS q (.tail _ (.tail _ hq)) hc)
  hfl := by show fvs.length ≤ 5; omega
  hgl := by show gvs.length ≤ 5; omega
  hm0 := m0
  hm1 := m1
theorem lawD_in {h h' : Heap} {S S' : List Addr} {fa ga : Addr} {fvs gvs : List Value} {nf ng : Nat} {Fs Gs : List (List (List Int))} {many : Int} {add : List (Addr × Obj)}
    (hl : ∀ q ∈ (fa, listOf (List.toArray fvs) nf) :: (ga, listOf (List.toArray gvs) ng) :: add, h.get? q.1 = some q.2)
    (hl' : ∀ q ∈ (fa, listOf (List.toArray fvs) nf) :: (ga, listOf (List.toArray gvs) ng) :: add, h'.get? q.1 = some q.2) (hs : ∀ a ∈ S', a ∈ S) : InH (lawD h S fa ga fvs gvs nf ng Fs Gs many add).I S' h' := fun b o e => by
  obtain ⟨hm, hn⟩ := lawI_of hl e
  exact ⟨hl' _ hm, fun z => hn (hs _ z)⟩
theorem metP_iff {new : List Value} {limit : Int} (h0 : 0 ≤ limit) (h1 : limit ≠ 1) : metP [] new limit ↔ MetL limit new.length := by
  constructor
  · rintro ⟨a, b⟩
    simp only [List.length_nil, List.nil_append] at a b
    exact ⟨by omega, b⟩
  · rintro ⟨a, b⟩
    refine ⟨?_, ?_⟩
    · simp only [List.length_nil]; omega
    · simpa using b
theorem CoRes.congr {D : Dat} {add : List (Addr × Obj)} {a b : Prop} {r : Value} (h : a ↔ b) (x : CoRes D add a r) : CoRes D add b r := by
  rcases x with x | ⟨ra, rvs, rs, n, x1, x2, x3, x4, x5, x6, x7⟩
  · exact .inl x
  · exact .inr ⟨ra, rvs, rs, n, x1, x2, x3, x4, x5, x6, fun z => x7 fun y => z (h.mp y)⟩
theorem co_n (w : World) {p : Program} {loose : List Str} {mean : ExcName → Option Value} {mg mb : Str → Option Value}
    {dp un : Nat} {gd : Option (List Code)} {cn : Str} {cs : Scope} {a : Addr} {ccd : Value} {cl : List (Str × Addr)} {A₀ : Around} {base h₀ : Heap} {L : Addr} {m : Str → Option Value} {s : Shared}
    (D : Dat) {fd dd fk c' cca ca aa : Addr} {doc pm ctv : Value} {o cco : Obj} {k1 k2 k3 tn : Tok} {many : Int} {lea : Bool} {way limit : Int} {t1 t2 t3 : Tok} {an : Nat} {Q E : Value → Shared → Prop} {news : List (Addr × Obj)} (ex : List (Addr × Obj))
    (B : Below A₀ base [] h₀) (F : Fr h₀ L s.heap m) (X : (hd.heap_39 w.params).In h₀) (N : News h₀ L s.heap news) (T : Top p loose mean mg mb h₀) (hk : cs.kind = .function)
    (XB : (hd.heap_39 w.params).In base) (TB : Top p loose mean mg mb base)
    (m1 : (fk, askFn cca c' doc pm ctv) ∈ news) (m2 : (fd, instObj 96 dd) ∈ news) (m3 : (dd, dictOf (finEs w.params k1 k2 k3 fk many tn lea) 3) ∈ news) (m4 : (cca, cco) ∈ news) (m5 : (aa, listOf #[] an) ∈ news) (m6 : (ca, o) ∈ news)
    (hex : ∀ q ∈ ex, q ∈ news ∧ q.1 ∉ [fk, fd, dd, cca, aa, ca]) (six : Six fk fd dd cca aa ca)
    (hrec : s.heap.CodeRec (.ref c') (Str.ofString "law.<locals>._law_ask")) (hcco : cco.data = .cell (some (.ref ca)))
    (hd : o.IsDictOf (PySem.strKind PG w) [("many", .int D.many t1), ("formulas", .ref D.fa), ("granted", .ref D.ga), ("asked", .ref aa), ("way", .int way t2), ("limit", .int limit t3)])
    (ok : D.Ok) (hI : InH D.I (L :: [fk, fd, dd, cca, aa, ca]) s.heap) (hw0 : 0 ≤ way) (hw1 : way ≤ 2) (hlm0 : 0 ≤ limit) (hlm1 : limit ≤ 10) (hlim : limit ≠ 1)
    (hc' : c' ∉ [fk, fd, dd, cca, aa, ca]) (hmany : many = (D.fvs.length : Int)) (hdp : dp + 9 < recursionLimit) (hun : un + 900 < cLine)
    (hret : ∀ r new add an' h' tk', Fr h₀ L h' m →
      News h₀ L h' ((fk, askFn cca c' doc pm ctv) :: (fd, instObj 96 dd) :: (dd, dictOf (finEs w.params k1 k2 k3 fk many tn (!decide (MetL limit new.length))) 3) :: (cca, cco) :: (aa, listOf (List.toArray new) an') :: (ca, o) :: (ex ++ add)) →
      (∀ v ∈ new, AskIn D add v) → (∀ q ∈ add, s.heap.get? q.1 = none) → new.length ≤ 6 → CoRes D add (MetL limit new.length) r → Q r { s with heap := h', toks := tk' }) :
    wpAny (model PG w) (ktrTop dp un gd cn cs L a ccd cl []) (call (.ref 81) [.ref fd]) Q E s := by
  have N6 : News h₀ L s.heap [(fk, askFn cca c' doc pm ctv), (fd, instObj 96 dd), (dd, dictOf (finEs w.params k1 k2 k3 fk many tn lea) 3), (cca, cco), (aa, listOf ([] : List Value).toArray an), (ca, o)] := fun q hq => by
    simp only [List.mem_cons, List.not_mem_nil, or_false] at hq
    rcases hq with rfl | rfl | rfl | rfl | rfl | rfl <;> exact N _ (by assumption)
  refine co_c w dp un gd cn cs a ccd cl [] A₀ base h₀ L m s D fd dd fk c' cca ca aa doc pm ctv o cco k1 k2 k3 tn many lea way limit t1 t2 t3 [] an Q E B F X N6 T hk XB TB ktsDicts_nil six hrec hcco hd ok (InH.sub hI fun z hz => by simpa using hz) hw0 hw1 (by simp) hlm0 hlm1 (fun z => hlim (by simpa using z.symm)) hc' hmany hdp hun ?_
  intro h₀' r new add an' lea' h' tk' T' F' _ _ _ _ K N' hask hadd hlea hlen hres
  have iff9 := metP_iff (new := new) hlm0 hlim
  have hl9 : lea' = !decide (MetL limit new.length) := by
    rw [hlea]
    by_cases q : MetL limit new.length
    · rw [if_pos (iff9.mpr q), decide_eq_true q]; rfl
    · rw [if_neg fun z => q (iff9.mp z), decide_eq_false q]; rfl
  subst hl9
  refine hret r new add an' h' tk' (fr_back T' F') (fun q hq => ?_) hask hadd hlen (hres.congr iff9)
  have NB := news_back T' N'
  simp only [List.nil_append] at NB
  simp only [List.mem_cons, List.mem_append] at hq
  rcases hq with rfl | rfl | rfl | rfl | rfl | rfl | hq | hq
  · exact NB _ (by simp)
  · exact NB _ (by simp)
  · exact NB _ (by simp)
  · exact NB _ (by simp)
  · exact NB _ (by simp)
  · exact NB _ (by simp)
  · obtain ⟨hn, hoff⟩ := hex q hq
    refine ⟨K _ _ (N q hn).1 fun z => ?_, (N q hn).2⟩
    rcases List.mem_append.mp z with z | z
    · exact hoff z
    · rcases List.mem_cons.mp z with z | z
      · exact (N q hn).2.1 z
      · exact nomatch z
  · exact NB _ (by simp [hq])
theorem sh_n (w : World) {p : Program} {loose : List Str} {mean : ExcName → Option Value} {mg mb : Str → Option Value}
    {dp un : Nat} {gd : Option (List Code)} {cn : Str} {cs : Scope} {a : Addr} {ccd : Value} {cl : List (Str × Addr)} {A₀ : Around} {base h₀ : Heap} {L : Addr} {m : Str → Option Value} {s : Shared}
    (D : Dat) {fd dd fk c' cca ca aa sa : Addr} {doc pm ctv : Value} {o cco : Obj} {k1 k2 k3 tn : Tok} {many : Int} {lea : Bool} {way : Int} {t1 t2 t3 : Tok} {svs : List Value} {sn an : Nat} {ns : List Int} {Q E : Value → Shared → Prop} {news : List (Addr × Obj)} (ex : List (Addr × Obj))
    (B : Below A₀ base [] h₀) (F : Fr h₀ L s.heap m) (X : (hd.heap_39 w.params).In h₀) (N : News h₀ L s.heap news) (T : Top p loose mean mg mb h₀) (hk : cs.kind = .function)
    (XB : (hd.heap_39 w.params).In base) (TB : Top p loose mean mg mb base)
    (m1 : (fk, askFn cca c' doc pm ctv) ∈ news) (m2 : (fd, instObj 96 dd) ∈ news) (m3 : (dd, dictOf (finEs w.params k1 k2 k3 fk many tn lea) 3) ∈ news) (m4 : (cca, cco) ∈ news) (m5 : (aa, listOf #[] an) ∈ news) (m6 : (ca, o) ∈ news)
    (hex : ∀ q ∈ ex, q ∈ news ∧ q.1 ∉ [fk, fd, dd, cca, aa, ca]) (six : Six fk fd dd cca aa ca)
    (hrec : s.heap.CodeRec (.ref c') (Str.ofString "law.<locals>._law_ask")) (hcco : cco.data = .cell (some (.ref ca)))
    (hd : o.IsDictOf (PySem.strKind PG w) [("many", .int D.many t1), ("formulas", .ref D.fa), ("granted", .ref D.ga), ("asked", .ref aa), ("way", .int way t2), ("limit", .int 0 t3)])
    (ok : D.Ok) (hI : InH D.I (L :: [fk, fd, dd, cca, aa, ca]) s.heap) (hw0 : 0 ≤ way) (hw1 : way ≤ 2)
    (hs : (sa, tupObj svs sn) ∈ news) (hsi : IntsAre svs (rangeKs 0 D.fvs.length)) (hsa : sa ∉ [fk, fd, dd, cca, aa, ca]) (hc' : c' ∉ [fk, fd, dd, cca, aa, ca]) (hno : D.can (rangeKs 0 D.fvs.length) = false) (hdp : dp + 8 < recursionLimit) (hun : un + 800 < cLine)
    (hret : ∀ ra new add an' lea' h' tk', Fr h₀ L h' m →
      News h₀ L h' ((fk, askFn cca c' doc pm ctv) :: (fd, instObj 96 dd) :: (dd, dictOf (finEs w.params k1 k2 k3 fk many tn lea') 3) :: (cca, cco) :: (aa, listOf (List.toArray new) an') :: (ca, o) :: (ex ++ add)) →
      (∀ v ∈ new, AskIn D add v) → new.length ≤ 6 → ToldS h' D (MetL 0 new.length) (.ref ra) → Q (.ref ra) { s with heap := h', toks := tk' }) :
    wpAny (model PG w) (ktrTop dp un gd cn cs L a ccd cl []) (call (.ref 86) [.ref fd, .ref sa]) Q E s := by
  have N6 : News h₀ L s.heap [(fk, askFn cca c' doc pm ctv), (fd, instObj 96 dd), (dd, dictOf (finEs w.params k1 k2 k3 fk many tn lea) 3), (cca, cco), (aa, listOf ([] : List Value).toArray an), (ca, o)] := fun q hq => by
    simp only [List.mem_cons, List.not_mem_nil, or_false] at hq
    rcases hq with rfl | rfl | rfl | rfl | rfl | rfl <;> exact N _ (by assumption)
  have hr5 : (rangeKs 0 D.fvs.length).length ≤ 5 := by rw [rangeKs_length]; exact ok.hfl
  have hrn : D.Nums (rangeKs 0 D.fvs.length) := fun k hk => by have := mem_rangeKs hk; omega
  refine sh_c w dp un gd cn cs a ccd cl [] A₀ base h₀ L m s D fd dd fk c' cca ca aa sa doc pm ctv o cco k1 k2 k3 tn many lea way 0 t1 t2 t3 [] svs an (rangeKs 0 D.fvs.length) Q E B F X N6 T hk XB TB ktsDicts_nil six hrec hcco hd ok (InH.sub hI fun z hz => by simpa using hz) hw0 hw1 (by simp) (by decide) (by decide) (News.isTup N hs) hsi hsa hc' hr5 hrn (asc_range _) hno hdp hun ?_
  intro h₀' ra rvs rs new add an' lea' h' tk' T' F' _ _ _ _ K N' hask hadd htup hra hri hsub hcan hlea hmin hlen
  refine hret ra new add an' lea' h' tk' (fr_back T' F') (fun q hq => ?_) hask (by omega) (.inr ⟨ra, rvs, rs, rfl, htup, hri, (asc_range _).sublist hsub, hrn.sub fun k hk => hsub.subset hk, Nat.le_trans hsub.length_le hr5, hcan, hno, fun _ => hmin fun z => ?_⟩)
  · have NB := news_back T' N'
    simp only [List.nil_append] at NB
    simp only [List.mem_cons, List.mem_append] at hq
    rcases hq with rfl | rfl | rfl | rfl | rfl | rfl | hq | hq
    · exact NB _ (by simp)
    · exact NB _ (by simp)
    · exact NB _ (by simp)
    · exact NB _ (by simp)
    · exact NB _ (by simp)
    · exact NB _ (by simp)
    · obtain ⟨hn, hoff⟩ := hex q hq
      refine ⟨K _ _ (N q hn).1 fun z => ?_, (N q hn).2⟩
      rcases List.mem_append.mp z with z | z
      · exact hoff z
      · rcases List.mem_cons.mp z with z | z
        · exact (N q hn).2.1 z
        · exact nomatch z
    · exact NB _ (by simp [hq])
  · have := z.1
    simp only [List.length_nil] at this
    omega
theorem askS_of {h₀ h : Heap} {L : Addr} {news add : List (Addr × Obj)} {D : Dat} {v : Value} (N : News h₀ L h news) (hadd : ∀ q ∈ add, q ∈ news) (x : AskIn D add v) : AskS h D v := by
  obtain ⟨qa, qvs, qn, qs, e, hm, r⟩ := x
  exact ⟨qa, qvs, qs, e, News.isTup N (hadd _ hm), r⟩
theorem toldS_of {h₀ h : Heap} {L : Addr} {news add : List (Addr × Obj)} {D : Dat} {met : Prop} {v : Value} (ok : D.Ok) (N : News h₀ L h news) (hadd : ∀ q ∈ add, q ∈ news) (x : CoRes D add met v) : ToldS h D met v := by
  rcases x with x | ⟨ra, rvs, rs, n, x1, x2, x3, x4, x5, x6, x7⟩
  · exact .inl x
  · have hr5 : (rangeKs 0 D.fvs.length).length ≤ 5 := by rw [rangeKs_length]; exact ok.hfl
    have hrn : D.Nums (rangeKs 0 D.fvs.length) := fun k hk => by have := mem_rangeKs hk; omega
    exact .inr ⟨ra, rvs, rs, x1, News.isTup N (hadd _ x2), x3, (asc_range _).sublist x4, hrn.sub fun k hk => x4.subset hk, Nat.le_trans x4.length_le hr5, x5, x6, x7⟩
theorem cr_n (w : World) {p : Program} {loose : List Str} {mean : ExcName → Option Value} {mg mb : Str → Option Value}
    {dp un : Nat} {gd : Option (List Code)} {cn : Str} {cs : Scope} {a : Addr} {ccd : Value} {cl : List (Str × Addr)} {outer : List Env} {A₀ : Around} {base h₀ : Heap} {L : Addr} {m : Str → Option Value} {s : Shared}
    (D : Dat) {ca aa : Addr} {o : Obj} {way limit : Int} {t1 t2 t3 : Tok} {new : List Value} {an : Nat} {told : Value} {lea : Bool} {Q E : Value → Shared → Prop} {news add : List (Addr × Obj)}
    (B : Below A₀ base outer h₀) (F : Fr h₀ L s.heap m) (X : (hd.heap_39 w.params).In h₀) (N : News h₀ L s.heap news) (T : Top p loose mean mg mb h₀) (hk : cs.kind = .function)
    (hm : (ca, o) ∈ news) (hma : (aa, listOf (List.toArray new) an) ∈ news) (hadd : ∀ q ∈ add, q ∈ news)
    (hd : o.IsDictOf (PySem.strKind PG w) [("many", .int D.many t1), ("formulas", .ref D.fa), ("granted", .ref D.ga), ("asked", .ref aa), ("way", .int way t2), ("limit", .int limit t3)])
    (ok : D.Ok) (hI : InH D.I [ca] s.heap) (hw0 : 0 ≤ way) (hw1 : way ≤ 2) (hlm0 : 0 ≤ limit) (hlm1 : limit ≤ 10)
    (hav : new.length ≤ 6) (hask : ∀ v ∈ new, AskIn D add v) (htold : ToldS s.heap D (MetL limit new.length) told)
    (hlea : lea = !decide (MetL limit new.length)) (hdp : dp + 4 < recursionLimit) (hun : un + 400 < cLine)
    (hret : ∀ h' tk', Fr h₀ L h' m → News h₀ L h' news → Q (.bool true) { s with heap := h', toks := tk' }) :
    wpAny (model PG w) (ktrTop dp un gd cn cs L a ccd cl outer) (call (.ref 153) [.ref ca, told, .bool lea]) Q E s :=
  cr_k w D B F X N T hk hm hd ok hI hw0 hw1 hlm0 hlm1 ⟨_, N.get hma, rfl, _, rfl⟩ (by omega) (fun v hv => askS_of N hadd (hask v hv)) htold hlea hdp hun fun h' tk' F' N' _ => hret h' tk' F' N'
/-- what was told, and its tuple -/
def ToldX (r : Value) (xs : List (Addr × Obj)) (ks : List Int) : Prop := (r = .none ∧ xs = [] ∧ ks = []) ∨ ∃ ra rvs n, r = .ref ra ∧ xs = [(ra, tupObj rvs n)] ∧ IntsAre rvs ks
theorem toldX_of {D : Dat} {add : List (Addr × Obj)} {met : Prop} {r : Value} (ok : D.Ok) (x : CoRes D add met r) : ∃ xs ks, ToldX r xs ks ∧ (∀ q ∈ xs, q ∈ add) ∧ D.Nums ks ∧ ks.length ≤ 5 := by
  rcases x with ⟨x, _⟩ | ⟨ra, rvs, rs, n, x1, x2, x3, x4, _⟩
  · exact ⟨[], [], .inl ⟨x, rfl, rfl⟩, (fun _ h => nomatch h), (fun _ h => nomatch h), by decide⟩
  · have hr5 : (rangeKs 0 D.fvs.length).length ≤ 5 := by rw [rangeKs_length]; exact ok.hfl
    have hrn : D.Nums (rangeKs 0 D.fvs.length) := fun k hk => by have := mem_rangeKs hk; omega
    exact ⟨_, rs, .inr ⟨ra, rvs, n, x1, rfl, x3⟩, fun q hq => by rw [List.mem_singleton.mp hq]; exact x2, hrn.sub fun k hk => x4.subset hk, Nat.le_trans x4.length_le hr5⟩
section
variable {M : Model} {A : Around} {E : Value → Shared → Prop} {s : Shared} {g : Heap} {L : Addr} {m : Str → Option Value} {e : Sem Value} {Q : Value → Shared → Prop}
inductive TPost (g : Heap) (L : Addr) (m : Str → Option Value) (led xs : List (Addr × Obj)) (ks : List Int) (s : Shared) (v : Value) (s' : Shared) : Prop where
  | mk x vs n h tk
    (c1 : v = .ref x)
    (c2 : s' = { s with heap := h, toks := tk })
    (c3 : Fr g L h m)
    (c4 : News g L h ((x, tupObj vs n) :: led))
    (c5 : (∀ q ∈ led, q.1 ≠ x))
    (c6 : IntsAre vs ks)
    (c7 : ∀ q ∈ xs, q = (x, tupObj vs n))
theorem join_told {r : Value} {led xs : List (Addr × Obj)} {ks : List Int} (_F : Fr g L s.heap m) (_N : News g L s.heap (led ++ xs)) (hx : ToldX r xs ks) (hoff : ∀ q ∈ led, ∀ p ∈ xs, q.1 ≠ p.1)
    (h0 : r = .none → wpAny M A e (TPost g L m led [] [] s) E s)
    (h1 : ∀ ra, r = .ref ra → wpAny M A e (fun v s' => v = .ref ra ∧ ∃ h tk, s' = { s with heap := h, toks := tk } ∧ Fr g L h m ∧ News g L h (led ++ xs)) E s)
    (hb : ∀ x vs n h tk, Fr g L h m → News g L h ((x, tupObj vs n) :: led) → (∀ q ∈ led, q.1 ≠ x) → IntsAre vs ks → (∀ q ∈ xs, q = (x, tupObj vs n)) → Q (.ref x) { s with heap := h, toks := tk }) : wpAny M A e Q E s := by
  rcases hx with ⟨rfl, rfl, rfl⟩ | ⟨ra, rvs, n, rfl, rfl, hi⟩
  · refine wpAny_mono (h0 rfl) (fun _ _ q => ?_) fun _ _ q => q
    obtain ⟨x, vs, n, h, tk, rfl, rfl, F, N, off, i, z⟩ := q
    exact hb x vs n h tk F N off i z
  · refine wpAny_mono (h1 ra rfl) (fun _ _ q => ?_) fun _ _ q => q
    obtain ⟨rfl, h, tk, rfl, F, N⟩ := q
    exact hb ra rvs n h tk F (fun p hp => N p (by
      rcases List.mem_cons.mp hp with q | q
      · rw [q]; exact List.mem_append_right _ (.head _)
      · exact List.mem_append_left _ q)) (fun q hq => hoff q hq _ (.head _)) hi fun q hq => List.mem_singleton.mp hq
end
section
variable {prog : Program} {w : World} {A : Around} {E : Value → Shared → Prop} {s : Shared} {env : Env} {h₀ : Heap} {x : Str} {body : List Stmt} {Q : Flow → Shared → Prop}
/-- over a tuple of the ledger, which stays -/
theorem m_iter_tupK {l : Addr} {vs : List Value} {n : Nat} {m₀ : Str → Option Value} {news : List (Addr × Obj)} (J : Nat → (Str → Option Value) → List (Addr × Obj) → Prop)
    (hh : A.handled = none) (hn : ∀ q ∈ news, q.1 ≠ l) (F : Fr h₀ env.locals s.heap m₀) (N : News h₀ env.locals s.heap ((l, tupObj vs n) :: news)) (hj : J 0 m₀ news)
    (turn : ∀ i v m₁ nx h tk own, vs[i]? = some v → TbOff own nx → J i m₁ nx → Fr h₀ env.locals h (fun y => if y = x then some v else m₁ y) → News h₀ env.locals h (nx ++ own) →
      wpAny (model prog w) A (execs body env) (TbPost h₀ env.locals (J (i + 1)) own { s with heap := h, toks := tk } Q) E { s with heap := h, toks := tk })
    (done : ∀ m₁ nx h tk, J vs.length m₁ nx → Fr h₀ env.locals h m₁ → News h₀ env.locals h ((l, tupObj vs n) :: nx) → Q .next { s with heap := h, toks := tk }) :
    wpAny (model prog w) A (pyIter (.ref l)) (fun it s₂ => LoopAtV prog w A h₀ env x body Q E it s₂) E s := by
  have hl : s.heap.IsTuple l vs.toArray := ⟨_, (N _ (.head _)).1, rfl, _, rfl⟩
  have hL : l ≠ env.locals := (N _ (.head _)).2.1
  have h0l : h₀.get? l = none := (N _ (.head _)).2.2
  have hlt : l < s.heap.objs.size := Heap.lt_size (N _ (.head _)).1
  have hLt : env.locals < s.heap.objs.size := F.ns.lt
  refine wpAny_pyIter_tuple hl ?_
  generalize hit : ({ cls := .type "tuple_iterator", data := .fields #[.ref l, .int 0 0] } : Obj) = it
  have W := Walks.tuple (prog := prog) (w := w) hh s.heap.objs.size l (Nat.ne_of_lt hlt) vs.toArray
  rw [show vs.toArray.size = vs.length by simp] at W
  have NP : ∀ {q : Addr × Obj}, q ∈ (l, tupObj vs n) :: news → q.1 ≠ s.heap.objs.size := fun {q} hq z => absurd (Heap.lt_size (N q hq).1) (z ▸ Nat.lt_irrefl _)
  refine ⟨s.heap.objs.size, [s.heap.objs.size, l], [s.heap.objs.size], vs.length, fun i v => vs.toArray[i]? = some v, fun i h => h.IsTupleIter s.heap.objs.size l i ∧ h.IsTuple l vs.toArray, m₀, (l, tupObj vs n) :: news,
    fun i m₁ nx => ∃ nx0, nx = (l, tupObj vs n) :: nx0 ∧ (∀ q ∈ nx0, q.1 ∉ [s.heap.objs.size, l]) ∧ J i m₁ nx0, rfl, W, ?_, ?_, ?_, ?_, F.push _, fun p hp => ⟨Heap.get?_push_of_some _ (N p hp).1, (N p hp).2⟩, ⟨news, rfl, ?_, hj⟩, ?_, ?_⟩
  · intro hm
    rcases List.mem_cons.mp hm with e | hm
    · exact absurd hLt (e ▸ Nat.lt_irrefl _)
    · exact hL (List.mem_singleton.mp hm).symm
  · intro b hb
    rw [List.mem_singleton.mp hb]
    exact next_is_new F
  · intro q hq hm
    exact NP hq (List.mem_singleton.mp hm)
  · refine ⟨?_, hl.at fun o e => Heap.get?_push_of_some _ e⟩
    rw [← hit]
    exact ⟨_, Heap.get?_push_size _ rfl, rfl, rfl⟩
  · intro q hq hm
    rcases List.mem_cons.mp hm with e | hm
    · exact NP (.tail _ hq) e
    · exact hn q hq (List.mem_singleton.mp hm)
  · rintro i v m₁ nx s₁ own ⟨h, tk, rfl⟩ hin hP ⟨nx0, rfl, hnf, hJ⟩ _ hown _ hall hst₁ F₁ N₁
    have off : TbOff own nx0 := fun p hp q hq e => hnf q hq (e ▸ hown p hp)
    have hlm : (l, tupObj vs n) ∈ own := hall l (by simp) h0l _ (N₁ (l, tupObj vs n) (List.mem_append_right _ (.head _))).1
    have N₂ : News h₀ env.locals h (nx0 ++ own) := fun p hp => N₁ p (by
      rcases List.mem_append.mp hp with q | q
      · exact List.mem_append_right _ (.tail _ q)
      · exact List.mem_append_left _ q)
    refine wpAny_mono (turn i v m₁ nx0 h tk own (by simpa using hP) off hJ F₁ N₂) (fun f s₂ p => ?_) fun _ _ e => e
    have fin : TbEnd h₀ env.locals (J (i + 1)) own { s with heap := h, toks := tk } s₂ →
        LoopStepU h₀ env.locals [s.heap.objs.size] own (fun m₁ nx => ∃ nx0, nx = (l, tupObj vs n) :: nx0 ∧ (∀ q ∈ nx0, q.1 ∉ [s.heap.objs.size, l]) ∧ J (i + 1) m₁ nx0) { s with heap := h, toks := tk } .next s₂ := by
      rintro ⟨h', tk', m', news', nx', e, F', N', hn', ho, ha, hm⟩
      have far : ∀ q ∈ nx', q.1 ∉ [s.heap.objs.size, l] := by
        intro q hq hb
        cases hb0 : h₀.get? q.1 with
        | some o => have := (N' q (hn' q hq)).2.2; rw [hb0] at this; cases this
        | none =>
          obtain ⟨⟨o1, e1, _⟩, ⟨o2, e2, _⟩⟩ := hst₁
          have hex : ∃ o, h.get? q.1 = some o := by
            rcases List.mem_cons.mp hb with z | z
            · exact ⟨o1, z ▸ e1⟩
            · exact ⟨o2, (List.mem_singleton.mp z) ▸ e2⟩
          obtain ⟨o, ho'⟩ := hex
          exact ha _ (hall _ hb hb0 o ho') q hq rfl
      refine ⟨rfl, h', tk', m', (l, tupObj vs n) :: nx', e, F', fun p hp => N' p ?_, fun q hq => ?_, nx', rfl, far, hm⟩
      · rcases List.mem_append.mp hp with q | q
        · exact ho p q
        · rcases List.mem_cons.mp q with q | q
          · rw [q]; exact ho _ hlm
          · exact hn' p q
      · rcases List.mem_cons.mp hq with q' | q'
        · rw [q']; exact fun z => NP (.head _) (List.mem_singleton.mp z)
        · exact fun z => far q q' (by rw [List.mem_singleton.mp z]; exact .head _)
    cases f with
    | ret v => exact p
    | brk => exact p
    | next => exact fin p
    | cont => exact fin p
  · rintro h' tk m' nx F' N' _ ⟨nx0, rfl, _, hJ⟩
    exact done m' nx0 h' tk hJ F' N'
theorem m_labK {l fl : Addr} {vs fls₀ : List Value} {n n₀ : Nat} {m₀ : Str → Option Value} {rest : List (Addr × Obj)} (P : Nat → List Value → Prop)
    (hh : A.handled = none) (hn : ∀ q ∈ (fl, listOf (List.toArray fls₀) n₀) :: rest, q.1 ≠ l) (F : Fr h₀ env.locals s.heap m₀) (N : News h₀ env.locals s.heap ((l, tupObj vs n) :: (fl, listOf (List.toArray fls₀) n₀) :: rest)) (h0 : P 0 fls₀)
    (turn : ∀ i v fls n h tk own, vs[i]? = some v → TbOff own ((fl, listOf (List.toArray fls) n) :: rest) → P i fls → Fr h₀ env.locals h (fun y => if y = x then some v else m₀ y) → News h₀ env.locals h ((fl, listOf (List.toArray fls) n) :: (rest ++ own)) →
      wpAny (model prog w) A (execs body env) (LPost h₀ env.locals x m₀ fl rest own (P (i + 1)) { s with heap := h, toks := tk } Q) E { s with heap := h, toks := tk })
    (done : ∀ u fls n' h tk, P vs.length fls → Fr h₀ env.locals h (fun y => if y = x then u else m₀ y) → News h₀ env.locals h ((l, tupObj vs n) :: (fl, listOf (List.toArray fls) n') :: rest) → Q .next { s with heap := h, toks := tk }) :
    wpAny (model prog w) A (pyIter (.ref l)) (fun it s₂ => LoopAtV prog w A h₀ env x body Q E it s₂) E s := by
  refine m_iter_tupK (fun i m nx => ∃ fls n, nx = (fl, listOf (List.toArray fls) n) :: rest ∧ (∀ z, z ≠ x → m z = m₀ z) ∧ P i fls) hh hn F N ⟨fls₀, n₀, rfl, fun _ _ => rfl, h0⟩ ?_ ?_
  · rintro i v m₁ nx h tk own hv off ⟨fls, n, rfl, hm, hp⟩ F₁ N₁
    rw [sInv_map hm] at F₁
    refine wpAny_mono (turn i v fls n h tk own hv off hp F₁ (by simpa using N₁)) (fun f s₂ p => ?_) fun _ _ e => e
    have fin : LEnd h₀ env.locals x m₀ fl rest own (P (i + 1)) { s with heap := h, toks := tk } s₂ → TbEnd h₀ env.locals (fun m nx => ∃ fls n, nx = (fl, listOf (List.toArray fls) n) :: rest ∧ (∀ z, z ≠ x → m z = m₀ z) ∧ P (i + 1) fls) own { s with heap := h, toks := tk } s₂ := by
      rintro ⟨h', tk', m', news', fls', n', e, F', hm', N', h1, h2, h3, hp'⟩
      refine ⟨h', tk', m', news', (fl, listOf (List.toArray fls') n') :: rest, e, F', N', fun q hq => ?_, h3, fun q hq r hr => ?_, fls', n', rfl, hm', hp'⟩
      · rcases List.mem_cons.mp hq with rfl | hq
        · exact h1
        · exact h2 q hq
      · rcases List.mem_cons.mp hr with rfl | hr
        · exact off q hq (fl, listOf (List.toArray fls) n) (.head _)
        · exact off q hq r (.tail _ hr)
    cases f with
    | ret v => exact p
    | brk => exact p
    | next => exact fin p
    | cont => exact fin p
  · rintro m₁ nx h tk ⟨fls, n', rfl, hm, hp⟩ F₁ N₁
    rw [sInv_self hm] at F₁
    exact done _ fls n' h tk hp F₁ N₁
end
theorem m_carriedS {vs : List Value} {ls : List Str} (h : StrsAre vs ls) : CarriedAll vs (ls.map PyData.str) := by
  induction h with
  | nil => exact .nil
  | cons x t r ih => exact .cons (.str x t) ih
theorem m_layS : ∀ ls : List Str, (∀ x ∈ ls, PyData.strOk x = true) → PyData.canLayAll0 (ls.map PyData.str) = true
  | [], _ => rfl
  | x :: r, h => by
    have h1 := h x (.head _)
    simp [PyData.canLayAll0, PyData.canLay0, h1, m_layS r fun y hy => h y (.tail _ hy)]
theorem m_depthS : ∀ ls : List Str, PyData.depthAll (ls.map PyData.str) = 0
  | [] => rfl
  | _ :: r => by simp [PyData.depthAll, PyData.depth, m_depthS r]
theorem m_shapedS (ls : List Str) (h : ∀ x ∈ ls, PyData.strOk x = true) : SeqAt.shaped (.list (ls.map PyData.str)) = true := by
  simp [SeqAt.shaped, PyData.canLay0, PyData.depth, m_layS ls h, m_depthS]
theorem m_sameS : ∀ ls : List Str, PySem.Spec.sameAll (ls.map PyData.str) (ls.map PyData.str) = true
  | [] => by simp [PySem.Spec.sameAll]
  | _ :: r => by simp [PySem.Spec.sameAll, PySem.Spec.same, m_sameS r]
theorem m_ne_strs {prog : Program} {w : World} {A : Around} {E : Value → Shared → Prop} {s : Shared} {a b : Addr} {xs ys : List Value} {ls : List Str} {Q : Value → Shared → Prop}
    (ha : s.heap.IsList a xs.toArray) (hb : s.heap.IsList b ys.toArray) (hi : StrsAre xs ls) (hj : StrsAre ys ls) (hok : ∀ x ∈ ls, PyData.strOk x = true) (hu : A.units + 64 < cLine) (h : Q (.bool false) s) :
    wpAny (model prog w) A (compareOp .NotEq (.ref a) (.ref b)) Q E s :=
  ne_dataH_same (reads_newData ha (m_carriedS hi)) (reads_newData hb (m_carriedS hj)) (m_shapedS _ hok) (m_shapedS _ hok) hu (SeqAt.noMix_of_shape (.list .str) rfl _ _ (list_map_has fun _ => rfl) (list_map_has fun _ => rfl)) (by
    have e : PySem.Spec.same (.list (ls.map PyData.str)) (.list (ls.map PyData.str)) = true := by simp only [PySem.Spec.same]; exact m_sameS ls
    rw [e]; exact h)
/-- a string that can be laid -/
def StrV (_ : Value) (y : Value) : Prop := ∃ x t, y = .str x t ∧ PyData.strOk x = true
theorem strs_paired {vs ys : List Value} (p : Paired StrV vs ys) : ∃ labs, StrsAre ys labs ∧ labs.length = vs.length ∧ ∀ x ∈ labs, PyData.strOk x = true := by
  induction p with
  | nil => exact ⟨[], .nil, rfl, fun _ h => nomatch h⟩
  | cons q r ih =>
    obtain ⟨x, t, e, ho⟩ := q
    obtain ⟨labs, h, hl, ha⟩ := ih
    subst e
    refine ⟨x :: labs, .cons x t h, by simp [hl], fun y hy => ?_⟩
    rcases List.mem_cons.mp hy with rfl | hy
    · exact ho
    · exact ha y hy
theorem ddup_ok {labs : List Str} (h : ∀ x ∈ labs, PyData.strOk x = true) (ks : List Int) : ∀ x ∈ ddup labs ks, PyData.strOk x = true := by
  have key : ∀ (ks : List Int) (acc : List Str), (∀ x ∈ acc, PyData.strOk x = true) → ∀ x ∈ ks.foldl (dstep labs) acc, PyData.strOk x = true := by
    intro ks
    induction ks with
    | nil => exact fun _ ha => ha
    | cons k r ih =>
      intro acc ha
      refine ih _ fun x hx => ?_
      unfold dstep at hx
      split at hx
      · exact ha x hx
      · rcases List.mem_append.mp hx with hx | hx
        · exact ha x hx
        · rw [List.mem_singleton.mp hx, List.getD_eq_getElem?_getD]
          cases e : labs[k.toNat]? with
          | none => show PyData.strOk Str.empty = true; with_unfolding_all decide
          | some y => exact h y (List.mem_of_getElem? e)
  exact key ks [] fun _ h => nomatch h
theorem lb_n (w : World) {p : Program} {loose : List Str} {mean : ExcName → Option Value} {mg mb : Str → Option Value}
    {dp un : Nat} {gd : Option (List Code)} {cn : Str} {cs : Scope} {a : Addr} {ccd : Value} {cl : List (Str × Addr)} {outer : List Env} {A₀ : Around} {base h₀ : Heap} {L : Addr} {m : Str → Option Value} {s : Shared}
    {la na : Addr} {lvs nvs : List Value} {nl nn : Nat} {labs : List Str} {ns : List Int} {Q E : Value → Shared → Prop} {news : List (Addr × Obj)}
    (B : Below A₀ base outer h₀) (F : Fr h₀ L s.heap m) (X : (hd.heap_39 w.params).In h₀) (N : News h₀ L s.heap news) (T : Top p loose mean mg mb h₀) (hk : cs.kind = .function)
    (hla : (la, listOf (List.toArray lvs) nl) ∈ news) (hls : StrsAre lvs labs) (hna : (na, tupObj nvs nn) ∈ news) (hni : IntsAre nvs ns) (hb : ∀ k ∈ ns, 0 ≤ k ∧ k < (labs.length : Int)) (hll : labs.length ≤ 100) (hnl : ns.length ≤ 10)
    (hdp : dp + 1 < recursionLimit) (hun : un + 100 < cLine)
    (hret : ∀ D us n h' tk', Fr h₀ L h' m → News h₀ L h' ((D, listOf (List.toArray us) n) :: news) → AllNe D news → StrsAre us (ddup labs ns) → Q (.ref D) { s with heap := h', toks := tk' }) :
    wpAny (model PG w) (ktrTop dp un gd cn cs L a ccd cl outer) (call (.ref 107) [.ref la, .ref na]) Q E s :=
  lb_c w dp un gd cn cs a ccd cl outer A₀ base h₀ L m s la na lvs nvs labs ns Q E B F X T hk ⟨_, N.get hla, rfl, _, rfl⟩ hls (News.isTup N hna) hni hb hll hnl hdp hun fun D us n h' tk' F' K hn e hs =>
    hret D us n h' tk' F' (news_new F N K hn e).1 (news_new F N K hn e).2 hs
theorem news_tl {h₀ h : Heap} {L : Addr} {x : Addr × Obj} {l : List (Addr × Obj)} (N : News h₀ L h (x :: l)) : News h₀ L h l := fun q hq => N q (.tail _ hq)
end Mine

theorem Mine.fresh36 : True := by
  w_top off
  trivial
namespace Mine
theorem allLt_mem {d : Addr} {l : List (Addr × Obj)} (h : AllLt d l) : ∀ p ∈ l, @LT.lt Nat _ p.1 d := by
  induction l with
  | nil => exact fun _ hp => nomatch hp
  | cons q r ih =>
    intro p hp
    rcases List.mem_cons.mp hp with hp | hp
    · rw [hp]; exact h.1
    · exact ih h.2 p hp
/-- the formulas as data, and where they stand -/
structure LawDat (D : Dat) (fa ga : Addr) (fvs gvs : List Value) (nf ng : Nat) (Fs Gs : List (List (List Int))) (many : Int) (add : List (Addr × Obj)) (S : List Addr) : Prop where
  ok : D.Ok
  efa : D.fa = fa
  ega : D.ga = ga
  efv : D.fvs = fvs
  em : D.many = many
  eF : D.Fs = Fs
  eG : D.Gs = Gs
  inh : ∀ h : Heap, (∀ q ∈ (fa, listOf (List.toArray fvs) nf) :: (ga, listOf (List.toArray gvs) ng) :: add, h.get? q.1 = some q.2) → InH D.I S h
theorem law_core (w : World) {p : Program} {loose : List Str} {mean : ExcName → Option Value} {mg mb : Str → Option Value}
    {dp un : Nat} {gd : Option (List Code)} {cn : Str} {cs : Scope} {a : Addr} {ccd : Value} {cl : List (Str × Addr)} {A₀ : Around} {base : Heap} {L : Addr} {m : Str → Option Value} {s : Shared}
    {fd dd fk c' cca ca aa fa ga ta cla tb : Addr} {doc pm ctv : Value} {o cco fko oc ot clo tbo : Obj} {k1 k2 k3 tn : Tok} {many : Int} {lea : Bool} {way limit : Int} {t1 t2 t3 : Tok} {an nf ng : Nat} {fvs gvs : List Value} {Fs Gs : List (List (List Int))} {add : List (Addr × Obj)} {vs : Array Value} {qt : Tok} {qn : Str} {Q E : Value → Shared → Prop}
    (B : Below A₀ base [] base) (F : Fr base L s.heap m) (X : (hd.heap_39 w.params).In base)
    (N : News base L s.heap ((fd, instObj 96 dd) :: (dd, dictOf (finEs w.params k1 k2 k3 fk (fvs.length : Int) tn lea) 3) :: (fk, fko) :: (c', oc) :: (aa, listOf #[] an) :: (ga, listOf (List.toArray gvs) ng) :: (fa, listOf (List.toArray fvs) nf) :: (ca, o) :: (ta, ot) :: (cla, clo) :: (cca, cco) :: (tb, tbo) :: add))
    (T : Top p loose mean mg mb base)
    (hoc : oc.data = .fields vs) (hov : vs[1]? = some (.str qn qt)) (hcco : cco.data = .cell (some (.ref ca)))
    (hd : o.IsDictOf (PySem.strKind PG w) [("many", .int many t1), ("formulas", .ref fa), ("granted", .ref ga), ("asked", .ref aa), ("way", .int way t2), ("limit", .int limit t3)])
    (hF : All2 (FormIn add) fvs Fs) (hG : All2 (FormIn add) gvs Gs) (hlen : fvs.length + gvs.length ≤ 5) (hoff : OwnOff add [aa, ga, fa, ca, cca])
    (lts : @LT.lt Nat _ cca ca ∧ @LT.lt Nat _ ca fa ∧ @LT.lt Nat _ fa ga ∧ @LT.lt Nat _ ga aa ∧ @LT.lt Nat _ aa c' ∧ @LT.lt Nat _ c' fk ∧ @LT.lt Nat _ fk dd ∧ @LT.lt Nat _ dd fd) (hlt : AllLt c' add)
    (hm : 2 ≤ many ∧ many ≤ 3) (hw : 0 ≤ way ∧ way ≤ 2) (hlm : 0 ≤ limit ∧ limit ≤ 10 ∧ limit ≠ 1)
    (hk : cs.kind = .function) (hqn : qn = Str.ofString "law.<locals>._law_ask") (hfk : fko = askFn cca c' doc pm ctv) (hdp : dp + 9 < recursionLimit) (hun : un + 900 < cLine)
    (hret : ∀ D r new add' an' h' tk', LawDat D fa ga fvs gvs nf ng Fs Gs many add [L, fk, fd, dd, cca, aa, ca] → Fr base L h' m →
      News base L h' ((fk, fko) :: (fd, instObj 96 dd) :: (dd, dictOf (finEs w.params k1 k2 k3 fk (fvs.length : Int) tn (!decide (MetL limit new.length))) 3) :: (cca, cco) :: (aa, listOf (List.toArray new) an') :: (ca, o) :: (fa, listOf (List.toArray fvs) nf) :: (ga, listOf (List.toArray gvs) ng) :: (c', oc) :: (add ++ add')) →
      OwnOff (add ++ add') [fk, fd, dd, cca, aa, ca, fa, ga, c'] → (∀ p ∈ add', ∀ q ∈ add, p.1 ≠ q.1) →
      (∀ v ∈ new, AskIn D add' v) → new.length ≤ 6 → CoRes D add' (MetL limit new.length) r → Q r { s with heap := h', toks := tk' }) :
    wpAny (model PG w) (ktrTop dp un gd cn cs L a ccd cl []) (call (.ref 81) [.ref fd]) Q E s := by
  subst hfk hqn
  obtain ⟨e1, e2, e3, e4, e5, e6, e7, e8⟩ := lts
  have lb9 : @LT.lt Nat _ c' fd ∧ @LT.lt Nat _ c' dd := by clear hlm; omega
  have off6 : ∀ b : Nat, b ∈ [fa, ga, c'] → b ∉ [fk, fd, dd, cca, aa, ca] := fun b hb z => by
    clear hlm
    simp only [List.mem_cons, List.not_mem_nil, or_false] at z hb
    have k1 : @LE.le Nat _ fa b := by rcases hb with hb | hb | hb <;> omega
    have k2 : @LE.le Nat _ b c' := by rcases hb with hb | hb | hb <;> omega
    rcases z with z | z | z | z | z | z
    · omega
    · omega
    · omega
    · omega
    · rcases hb with hb | hb | hb <;> omega
    · omega
  have hsix : Six fk fd dd cca aa ca := by
    clear hlm
    exact ⟨by omega, by omega, by omega, by omega, by omega, by omega, by omega, by omega, by omega, by omega, by omega, by omega, by omega, by omega, by omega⟩
  have hadd2 : ∀ q ∈ add, q.1 ∉ [fk, fd, dd, cca, aa, ca, fa, ga, c'] := fun q hq z => by
    have y : @LT.lt Nat _ q.1 c' := allLt_mem hlt q hq
    have far : ∀ b : Nat, @LT.lt Nat _ c' b ∨ c' = b → q.1 ≠ b := fun b hb z => by rcases hb with hb | hb <;> (rw [z] at y; first | exact absurd (Nat.lt_trans y hb) (Nat.lt_irrefl _) | (rw [hb] at y; exact Nat.lt_irrefl _ y))
    have nn := hoff q hq
    simp only [List.mem_cons, List.not_mem_nil, or_false] at z
    rcases z with z | z | z | z | z | z | z | z | z
    · exact far _ (.inl e6) z
    · exact far _ (.inl lb9.1) z
    · exact far _ (.inl lb9.2) z
    · exact nn _ (.tail _ (.tail _ (.tail _ (.tail _ (.head _))))) z
    · exact nn _ (.head _) z
    · exact nn _ (.tail _ (.tail _ (.tail _ (.head _)))) z
    · exact nn _ (.tail _ (.tail _ (.head _))) z
    · exact nn _ (.tail _ (.head _)) z
    · exact far _ (.inr rfl) z
  have i1 := N _ (.head _)
  have i2 := N _ (.tail _ (.head _))
  have i3 := N _ (.tail _ (.tail _ (.head _)))
  have i4 := N _ (.tail _ (.tail _ (.tail _ (.head _))))
  have i5 := N _ (.tail _ (.tail _ (.tail _ (.tail _ (.head _)))))
  have i6 := N _ (.tail _ (.tail _ (.tail _ (.tail _ (.tail _ (.head _))))))
  have i7 := N _ (.tail _ (.tail _ (.tail _ (.tail _ (.tail _ (.tail _ (.head _)))))))
  have i8 := N _ (.tail _ (.tail _ (.tail _ (.tail _ (.tail _ (.tail _ (.tail _ (.head _))))))))
  have i9 := N _ (.tail _ (.tail _ (.tail _ (.tail _ (.tail _ (.tail _ (.tail _ (.tail _ (.tail _ (.tail _ (.head _)))))))))))
  have inA : ∀ q ∈ add, q ∈ ((fd, instObj 96 dd) :: (dd, dictOf (finEs w.params k1 k2 k3 fk (fvs.length : Int) tn lea) 3) :: (fk, askFn cca c' doc pm ctv) :: (c', oc) :: (aa, listOf #[] an) :: (ga, listOf (List.toArray gvs) ng) :: (fa, listOf (List.toArray fvs) nf) :: (ca, o) :: (ta, ot) :: (cla, clo) :: (cca, cco) :: (tb, tbo) :: add) := fun q hq =>
    .tail _ (.tail _ (.tail _ (.tail _ (.tail _ (.tail _ (.tail _ (.tail _ (.tail _ (.tail _ (.tail _ (.tail _ hq)))))))))))
  have hl : ∀ q ∈ (fa, listOf (List.toArray fvs) nf) :: (ga, listOf (List.toArray gvs) ng) :: add, s.heap.get? q.1 = some q.2 := fun q hq => by
    rcases List.mem_cons.mp hq with hq | hq
    · rw [hq]; exact i7.1
    rcases List.mem_cons.mp hq with hq | hq
    · rw [hq]; exact i6.1
    · exact (N q (inA q hq)).1
  have hS : ∀ q ∈ (fa, listOf (List.toArray fvs) nf) :: (ga, listOf (List.toArray gvs) ng) :: add, q.1 ∉ [L, fk, fd, dd, cca, aa, ca] := fun q hq z => by
    rcases List.mem_cons.mp hq with hq | hq
    · rw [hq] at z
      rcases List.mem_cons.mp z with z | z
      · exact i7.2.1 z
      · exact off6 _ (.head _) z
    rcases List.mem_cons.mp hq with hq | hq
    · rw [hq] at z
      rcases List.mem_cons.mp z with z | z
      · exact i6.2.1 z
      · exact off6 _ (.tail _ (.head _)) z
    · rcases List.mem_cons.mp z with z | z
      · exact (N q (inA q hq)).2.1 z
      · exact hadd2 q hq (List.mem_append_left [fa, ga, c'] z)
  have LD : LawDat (lawD s.heap [L, fk, fd, dd, cca, aa, ca] fa ga fvs gvs nf ng Fs Gs many add) fa ga fvs gvs nf ng Fs Gs many add [L, fk, fd, dd, cca, aa, ca] :=
    ⟨lawD_ok hl (fun q hq _ => hS q hq) hF hG hlen hm.1 hm.2, rfl, rfl, rfl, rfl, rfl, rfl, fun h hh => lawD_in hl hh fun _ z => z⟩
  have hc9 : c' ∉ [fk, fd, dd, cca, aa, ca] := off6 _ (.tail _ (.tail _ (.head _)))
  refine co_n w (lawD s.heap [L, fk, fd, dd, cca, aa, ca] fa ga fvs gvs nf ng Fs Gs many add) ((fa, listOf (List.toArray fvs) nf) :: (ga, listOf (List.toArray gvs) ng) :: (c', oc) :: add) B F X N T hk X T
    (.tail _ (.tail _ (.head _))) (.head _) (.tail _ (.head _)) (.tail _ (.tail _ (.tail _ (.tail _ (.tail _ (.tail _ (.tail _ (.tail _ (.tail _ (.tail _ (.head _))))))))))) (.tail _ (.tail _ (.tail _ (.tail _ (.head _))))) (.tail _ (.tail _ (.tail _ (.tail _ (.tail _ (.tail _ (.tail _ (.head _)))))))) ?_ hsix
    (codeRec_news N (.tail _ (.tail _ (.tail _ (.head _)))) hoc hov) hcco hd LD.ok (LD.inh _ hl) hw.1 hw.2 hlm.1 hlm.2.1 hlm.2.2 hc9 rfl hdp hun ?_
  · intro q hq
    rcases List.mem_cons.mp hq with hq | hq
    · rw [hq]; exact ⟨.tail _ (.tail _ (.tail _ (.tail _ (.tail _ (.tail _ (.head _)))))), off6 _ (.head _)⟩
    rcases List.mem_cons.mp hq with hq | hq
    · rw [hq]; exact ⟨.tail _ (.tail _ (.tail _ (.tail _ (.tail _ (.head _))))), off6 _ (.tail _ (.head _))⟩
    rcases List.mem_cons.mp hq with hq | hq
    · rw [hq]; exact ⟨.tail _ (.tail _ (.tail _ (.head _))), hc9⟩
    · exact ⟨inA q hq, fun z => hadd2 q hq (List.mem_append_left [fa, ga, c'] z)⟩
  · intro r new add' an' h' tk' F' N' hask hnone hnl hres
    have far : ∀ p ∈ add', ∀ (q : Addr) (x : Obj), s.heap.get? q = some x → p.1 ≠ q := fun p hp q x hx z => by
      rw [← z, hnone p hp] at hx; cases hx
    refine hret _ r new add' an' h' tk' LD F' (by simpa only [List.cons_append] using N') (fun p hp c hc => ?_) (fun p hp q hq => far p hp _ _ (N q (inA q hq)).1) hask hnl hres
    rcases List.mem_append.mp hp with hp | hp
    · exact fun z => hadd2 p hp (z ▸ hc)
    · simp only [List.mem_cons, List.not_mem_nil, or_false] at hc
      rcases hc with hc | hc | hc | hc | hc | hc | hc | hc | hc <;> rw [hc]
      · exact far p hp _ _ i3.1
      · exact far p hp _ _ i1.1
      · exact far p hp _ _ i2.1
      · exact far p hp _ _ i9.1
      · exact far p hp _ _ i5.1
      · exact far p hp _ _ i8.1
      · exact far p hp _ _ i7.1
      · exact far p hp _ _ i6.1
      · exact far p hp _ _ i4.1
theorem law_at {n1 n2 n3 n4 n5 n6 x f g : Addr × Obj} {add add' : List (Addr × Obj)} {q : Addr × Obj} (hq : q ∈ f :: g :: add) : q ∈ n1 :: n2 :: n3 :: n4 :: n5 :: n6 :: f :: g :: x :: (add ++ add') := by
  refine .tail _ (.tail _ (.tail _ (.tail _ (.tail _ (.tail _ ?_)))))
  rcases List.mem_cons.mp hq with hq | hq
  · rw [hq]; exact .head _
  rcases List.mem_cons.mp hq with hq | hq
  · rw [hq]; exact .tail _ (.head _)
  · exact .tail _ (.tail _ (.tail _ (List.mem_append_left _ hq)))
theorem law_add {n1 n2 n3 n4 n5 n6 x f g : Addr × Obj} {add add' : List (Addr × Obj)} {q : Addr × Obj} (hq : q ∈ add') : q ∈ n1 :: n2 :: n3 :: n4 :: n5 :: n6 :: f :: g :: x :: (add ++ add') :=
  .tail _ (.tail _ (.tail _ (.tail _ (.tail _ (.tail _ (.tail _ (.tail _ (.tail _ (List.mem_append_right _ hq)))))))))
theorem law_xs {h₀ h : Heap} {L : Addr} {n1 n2 n3 n4 n5 n6 x f g : Addr × Obj} {add add' xs : List (Addr × Obj)} (N : News h₀ L h (n1 :: n2 :: n3 :: n4 :: n5 :: n6 :: f :: g :: x :: (add ++ add'))) (hx : ∀ q ∈ xs, q ∈ add') : News h₀ L h (n1 :: n2 :: n3 :: n4 :: n5 :: n6 :: f :: g :: x :: (add ++ xs)) := fun q hq => by
  refine N q ?_
  have e : q ∈ [n1, n2, n3, n4, n5, n6, f, g, x] ++ (add ++ xs) := hq
  show q ∈ [n1, n2, n3, n4, n5, n6, f, g, x] ++ (add ++ add')
  rcases List.mem_append.mp e with e | e
  · exact List.mem_append_left _ e
  rcases List.mem_append.mp e with e | e
  · exact List.mem_append_right _ (List.mem_append_left _ e)
  · exact List.mem_append_right _ (List.mem_append_right _ (hx q e))
theorem goal_ok : PyData.strOk (Str.ofString "goal") = true := by decide +kernel
theorem fact_ok (i : Nat) : PyData.strOk (Str.ofString "fact " ++ Str.ofString (toString ((i : Int).fmod 3))) = true := by
  have h0 : 0 ≤ (i : Int).fmod 3 := Int.fmod_nonneg_of_pos _ (by decide)
  have h1 : (i : Int).fmod 3 < 3 := Int.fmod_lt_of_pos _ (by decide)
  generalize (i : Int).fmod 3 = x at *
  have h : x = 0 ∨ x = 1 ∨ x = 2 := by omega
  rcases h with rfl | rfl | rfl <;> decide +kernel
theorem law_off {h₀ h : Heap} {L d lb : Addr} {dn ln : Nat} {dv lv : Array Value} {n1 n2 n3 n4 n5 n6 n7 n8 n9 : Addr × Obj} {add xs : List (Addr × Obj)} {r : Value} {ks : List Int}
    (N : News h₀ L h ((d, listOf dv dn) :: (lb, listOf lv ln) :: n1 :: n2 :: n3 :: n4 :: n5 :: n6 :: n7 :: n8 :: n9 :: (add ++ xs))) (hx : ToldX r xs ks) (ho : OwnOff (add ++ xs) [n1.1, n2.1, n3.1, n4.1, n5.1, n6.1, n7.1, n8.1, n9.1]) (hfar : ∀ p ∈ xs, ∀ q ∈ add, p.1 ≠ q.1) :
    ∀ q ∈ (d, listOf dv dn) :: (lb, listOf lv ln) :: n1 :: n2 :: n3 :: n4 :: n5 :: n6 :: n7 :: n8 :: n9 :: add, ∀ p ∈ xs, q.1 ≠ p.1 := by
  rcases hx with ⟨_, rfl, _⟩ | ⟨ra, rvs, n, _, rfl, _⟩
  · exact fun _ _ _ hp => nomatch hp
  · intro q hq p hp
    rw [List.mem_singleton.mp hp]
    have hr : h.get? ra = some (tupObj rvs n) := (N (ra, tupObj rvs n) (List.mem_append_right [_, _, _, _, _, _, _, _, _, _, _] (List.mem_append_right _ (.head _)))).1
    have hm : (ra, tupObj rvs n) ∈ add ++ [(ra, tupObj rvs n)] := List.mem_append_right _ (.head _)
    have e : q ∈ [(d, listOf dv dn), (lb, listOf lv ln)] ++ ([n1, n2, n3, n4, n5, n6, n7, n8, n9] ++ add) := hq
    rcases List.mem_append.mp e with e | e
    · intro z
      have y := (N q (List.mem_append_left (n1 :: n2 :: n3 :: n4 :: n5 :: n6 :: n7 :: n8 :: n9 :: (add ++ [(ra, tupObj rvs n)])) e)).1
      rw [z] at y; dsimp only at y; rw [hr] at y
      rcases List.mem_cons.mp e with e | e
      · rw [e] at y; have y' := congrArg Obj.cls (Option.some.inj y); simp at y'
      · rw [List.mem_singleton.mp e] at y; have y' := congrArg Obj.cls (Option.some.inj y); simp at y'
    rcases List.mem_append.mp e with e | e
    · exact fun z => ho _ hm q.1 (List.mem_map_of_mem (f := Prod.fst) e) z.symm
    · exact fun z => hfar _ (.head _) q e z.symm
theorem law_back {h₀ h : Heap} {L x : Addr} {t : Obj} {led xs : List (Addr × Obj)} (N : News h₀ L h ((x, t) :: led)) (hxq : ∀ q ∈ xs, q = (x, t)) : News h₀ L h (led ++ xs) := fun q hq => by
  rcases List.mem_append.mp hq with hq | hq
  · exact N q (.tail _ hq)
  · rw [hxq q hq]; exact N _ (.head _)
theorem law_off2 {x d : Addr} {t o o' : Obj} {rest xs : List (Addr × Obj)} (h : ∀ q ∈ (d, o) :: rest, q.1 ≠ x) (hxq : ∀ q ∈ xs, q = (x, t)) : ∀ q ∈ (d, o') :: rest, ∀ p ∈ xs, q.1 ≠ p.1 := fun q hq p hp => by
  rw [hxq p hp]
  rcases List.mem_cons.mp hq with hq | hq
  · rw [hq]; exact h (d, o) (.head _)
  · exact h q (.tail _ hq)
theorem law_sub {n1 n2 n3 n4 n5 n6 n7 n8 n9 n10 n11 : Addr × Obj} {add xs : List (Addr × Obj)} : ∀ q ∈ n1 :: n2 :: n3 :: n4 :: n5 :: n6 :: n7 :: n8 :: n9 :: n10 :: n11 :: add, q ∈ n1 :: n2 :: n3 :: n4 :: n5 :: n6 :: n7 :: n8 :: n9 :: n10 :: n11 :: (add ++ xs) := fun q hq => by
  have e : q ∈ [n1, n2, n3, n4, n5, n6, n7, n8, n9, n10, n11] ++ add := hq
  show q ∈ [n1, n2, n3, n4, n5, n6, n7, n8, n9, n10, n11] ++ (add ++ xs)
  rcases List.mem_append.mp e with e | e
  · exact List.mem_append_left _ e
  · exact List.mem_append_right _ (List.mem_append_left _ e)
theorem law_none {g h : Heap} {L : Addr} {m : Str → Option Value} {s : Shared} {x : Addr} {n tk : Nat} {n1 n2 n3 n4 n5 n6 n7 n8 n9 n10 n11 : Addr × Obj} {add xs : List (Addr × Obj)}
    (F : Fr g L h m) (N : News g L h ((x, tupObj [] n) :: n1 :: n2 :: n3 :: n4 :: n5 :: n6 :: n7 :: n8 :: n9 :: n10 :: n11 :: (add ++ xs))) (l : AllLt x (n1 :: n2 :: n3 :: n4 :: n5 :: n6 :: n7 :: n8 :: n9 :: n10 :: n11 :: (add ++ xs))) :
    TPost g L m (n1 :: n2 :: n3 :: n4 :: n5 :: n6 :: n7 :: n8 :: n9 :: n10 :: n11 :: add) [] [] s (.ref x) { s with heap := h, toks := tk } :=
  ⟨x, [], n, h, tk, rfl, rfl, F, fun q hq => by
    rcases List.mem_cons.mp hq with hq | hq
    · rw [hq]; exact N _ (.head _)
    · exact N q (.tail _ (law_sub q hq)), fun q hq => Nat.ne_of_lt (allLt_mem l q (law_sub q hq)), .nil, fun _ hq => nomatch hq⟩
theorem law_none2 {g h : Heap} {L : Addr} {m : Str → Option Value} {s : Shared} {x : Addr} {n tk : Nat} {y : Addr × Obj} {led : List (Addr × Obj)}
    (F : Fr g L h m) (N : News g L h ((x, tupObj [] n) :: y :: led)) (l : AllLt x (y :: led)) : TPost g L m led [] [] s (.ref x) { s with heap := h, toks := tk } :=
  ⟨x, [], n, h, tk, rfl, rfl, F, fun q hq => by
    rcases List.mem_cons.mp hq with hq | hq
    · rw [hq]; exact N _ (.head _)
    · exact N q (.tail _ (.tail _ hq)), fun q hq => Nat.ne_of_lt (allLt_mem l q (.tail _ hq)), .nil, fun _ hq => nomatch hq⟩
theorem LawDat.can {D : Dat} {fa ga : Addr} {fvs gvs : List Value} {nf ng : Nat} {Fs Gs : List (List (List Int))} {many : Int} {add : List (Addr × Obj)} {S : List Addr} (x : LawDat D fa ga fvs gvs nf ng Fs Gs many add S) (ns : List Int) : D.can ns = canB many Fs Gs ns := by
  unfold Dat.can; rw [x.em, x.eF, x.eG]
theorem tbOff_head {own rest : List (Addr × Obj)} {d : Addr} {o : Obj} (h : TbOff own ((d, o) :: rest)) : OwnOff own [d] := fun p hp b hb => by
  rw [List.mem_singleton.mp hb]; exact h p hp (d, o) (.head _)
theorem allLt_off {add xs : List (Addr × Obj)} {d : Addr} (l : AllLt d (add ++ xs)) : OwnOff add [d] := fun p hp b hb => by
  rw [List.mem_singleton.mp hb]; exact Nat.ne_of_lt (allLt_mem l p (List.mem_append_left _ hp))
theorem law_shrunk (w : World) {p : Program} {loose : List Str} {mean : ExcName → Option Value} {mg mb : Str → Option Value}
    {dp un : Nat} {gd : Option (List Code)} {cn : Str} {cs : Scope} {a : Addr} {ccd : Value} {cl : List (Str × Addr)} {A₀ : Around} {base : Heap} {L : Addr} {m : Str → Option Value} {s : Shared}
    {fd dd fk c' cca ca aa fa ga ev ao f0 d0 : Addr} {doc pm ctv : Value} {o cco fko oc oo : Obj} {k1 k2 k3 tn : Tok} {many : Int} {mny : Int} {lea : Bool} {way : Int} {t1 t2 t3 : Tok} {an nf ng sn : Nat} {svs fvs gvs : List Value} {Fs Gs : List (List (List Int))} {add : List (Addr × Obj)} {vs : Array Value} {qt : Tok} {qn : Str} {Q E : Value → Shared → Prop}
    (B : Below A₀ base [] base) (F : Fr base L s.heap m) (X : (hd.heap_39 w.params).In base)
    (N : News base L s.heap ((fd, instObj 96 dd) :: (dd, dictOf (finEs w.params k1 k2 k3 fk mny tn lea) 3) :: (ev, tupObj svs sn) :: (aa, listOf #[] an) :: (fk, fko) :: (cca, cco) :: (ao, oo) :: (ca, o) :: (fa, listOf (List.toArray fvs) nf) :: (ga, listOf (List.toArray gvs) ng) :: (c', oc) :: add))
    (T : Top p loose mean mg mb base)
    (hoc : oc.data = .fields vs) (hov : vs[1]? = some (.str qn qt)) (hcco : cco.data = .cell (some (.ref ca)))
    (hd : o.IsDictOf (PySem.strKind PG w) [("many", .int many t1), ("formulas", .ref fa), ("granted", .ref ga), ("asked", .ref aa), ("way", .int way t2), ("limit", .int 0 t3)])
    (hF : All2 (FormIn add) fvs Fs) (hG : All2 (FormIn add) gvs Gs) (hlen : fvs.length + gvs.length ≤ 5) (hoff : OwnOff add [fk, f0, d0, cca, ao, ca, fa, ga, c'])
    (lts : @LT.lt Nat _ cca ca ∧ @LT.lt Nat _ ca fa ∧ @LT.lt Nat _ fa ga ∧ @LT.lt Nat _ ga c' ∧ @LT.lt Nat _ c' fk ∧ @LT.lt Nat _ fk aa ∧ @LT.lt Nat _ aa ev ∧ @LT.lt Nat _ ev dd ∧ @LT.lt Nat _ dd fd) (hlt : AllLt aa add)
    (hm : 2 ≤ many ∧ many ≤ 3) (hw : 0 ≤ way ∧ way ≤ 2) (hsi : IntsAre svs (rangeKs 0 fvs.length)) (hno : canB many Fs Gs (rangeKs 0 fvs.length) = false)
    (hk : cs.kind = .function) (hqn : qn = Str.ofString "law.<locals>._law_ask") (hfk : fko = askFn cca c' doc pm ctv) (hdp : dp + 8 < recursionLimit) (hun : un + 800 < cLine)
    (hret : ∀ D ra new add' an' lea' h' tk', LawDat D fa ga fvs gvs nf ng Fs Gs many add [L, fk, fd, dd, cca, aa, ca] → Fr base L h' m →
      News base L h' ((fk, fko) :: (fd, instObj 96 dd) :: (dd, dictOf (finEs w.params k1 k2 k3 fk mny tn lea') 3) :: (cca, cco) :: (aa, listOf (List.toArray new) an') :: (ca, o) :: (fa, listOf (List.toArray fvs) nf) :: (ga, listOf (List.toArray gvs) ng) :: (c', oc) :: (add ++ add')) →
      (∀ v ∈ new, AskIn D add' v) → new.length ≤ 6 → ToldS h' D (MetL 0 new.length) (.ref ra) → Q (.ref ra) { s with heap := h', toks := tk' }) :
    wpAny (model PG w) (ktrTop dp un gd cn cs L a ccd cl []) (call (.ref 86) [.ref fd, .ref ev]) Q E s := by
  subst hfk hqn
  obtain ⟨e1, e2, e3, e4, e5, e6, e7, e8, e9⟩ := lts
  have lb9 : @LT.lt Nat _ aa fd ∧ @LT.lt Nat _ aa dd := by omega
  have off6 : ∀ b : Nat, b ∈ [fa, ga, c', ev] → b ∉ [fk, fd, dd, cca, aa, ca] := fun b hb z => by
    simp only [List.mem_cons, List.not_mem_nil, or_false] at z hb
    rcases hb with hb | hb | hb | hb <;> rcases z with z | z | z | z | z | z <;> omega
  have hsix : Six fk fd dd cca aa ca :=
    ⟨by omega, by omega, by omega, by omega, by omega, by omega, by omega, by omega, by omega, by omega, by omega, by omega, by omega, by omega, by omega⟩
  have hadd2 : ∀ q ∈ add, q.1 ∉ [fk, fd, dd, cca, aa, ca] := fun q hq z => by
    have y : @LT.lt Nat _ q.1 aa := allLt_mem hlt q hq
    have far : ∀ b : Nat, @LT.lt Nat _ aa b ∨ aa = b → q.1 ≠ b := fun b hb z => by rcases hb with hb | hb <;> (rw [z] at y; first | exact absurd (Nat.lt_trans y hb) (Nat.lt_irrefl _) | (rw [hb] at y; exact Nat.lt_irrefl _ y))
    have nn := hoff q hq
    simp only [List.mem_cons, List.not_mem_nil, or_false] at z
    rcases z with z | z | z | z | z | z
    · exact nn _ (.head _) z
    · exact far _ (.inl lb9.1) z
    · exact far _ (.inl lb9.2) z
    · exact nn _ (.tail _ (.tail _ (.tail _ (.head _)))) z
    · exact far _ (.inr rfl) z
    · exact nn _ (.tail _ (.tail _ (.tail _ (.tail _ (.tail _ (.head _)))))) z
  have i6 := N _ (.tail _ (.tail _ (.tail _ (.tail _ (.tail _ (.tail _ (.tail _ (.tail _ (.tail _ (.head _))))))))))
  have i7 := N _ (.tail _ (.tail _ (.tail _ (.tail _ (.tail _ (.tail _ (.tail _ (.tail _ (.head _)))))))))
  have inA : ∀ q ∈ add, q ∈ ((fd, instObj 96 dd) :: (dd, dictOf (finEs w.params k1 k2 k3 fk mny tn lea) 3) :: (ev, tupObj svs sn) :: (aa, listOf #[] an) :: (fk, askFn cca c' doc pm ctv) :: (cca, cco) :: (ao, oo) :: (ca, o) :: (fa, listOf (List.toArray fvs) nf) :: (ga, listOf (List.toArray gvs) ng) :: (c', oc) :: add) := fun q hq =>
    .tail _ (.tail _ (.tail _ (.tail _ (.tail _ (.tail _ (.tail _ (.tail _ (.tail _ (.tail _ (.tail _ hq))))))))))
  have hl : ∀ q ∈ (fa, listOf (List.toArray fvs) nf) :: (ga, listOf (List.toArray gvs) ng) :: add, s.heap.get? q.1 = some q.2 := fun q hq => by
    rcases List.mem_cons.mp hq with hq | hq
    · rw [hq]; exact i7.1
    rcases List.mem_cons.mp hq with hq | hq
    · rw [hq]; exact i6.1
    · exact (N q (inA q hq)).1
  have hS : ∀ q ∈ (fa, listOf (List.toArray fvs) nf) :: (ga, listOf (List.toArray gvs) ng) :: add, q.1 ∉ [L, fk, fd, dd, cca, aa, ca] := fun q hq z => by
    rcases List.mem_cons.mp hq with hq | hq
    · rw [hq] at z
      rcases List.mem_cons.mp z with z | z
      · exact i7.2.1 z
      · exact off6 _ (.head _) z
    rcases List.mem_cons.mp hq with hq | hq
    · rw [hq] at z
      rcases List.mem_cons.mp z with z | z
      · exact i6.2.1 z
      · exact off6 _ (.tail _ (.head _)) z
    · rcases List.mem_cons.mp z with z | z
      · exact (N q (inA q hq)).2.1 z
      · exact hadd2 q hq z
  have LD : LawDat (lawD s.heap [L, fk, fd, dd, cca, aa, ca] fa ga fvs gvs nf ng Fs Gs many add) fa ga fvs gvs nf ng Fs Gs many add [L, fk, fd, dd, cca, aa, ca] :=
    ⟨lawD_ok hl (fun q hq _ => hS q hq) hF hG hlen hm.1 hm.2, rfl, rfl, rfl, rfl, rfl, rfl, fun h hh => lawD_in hl hh fun _ z => z⟩
  refine sh_n w (ns := []) (lawD s.heap [L, fk, fd, dd, cca, aa, ca] fa ga fvs gvs nf ng Fs Gs many add) ((fa, listOf (List.toArray fvs) nf) :: (ga, listOf (List.toArray gvs) ng) :: (c', oc) :: add) B F X N T hk X T
    (.tail _ (.tail _ (.tail _ (.tail _ (.head _))))) (.head _) (.tail _ (.head _)) (.tail _ (.tail _ (.tail _ (.tail _ (.tail _ (.head _)))))) (.tail _ (.tail _ (.tail _ (.head _)))) (.tail _ (.tail _ (.tail _ (.tail _ (.tail _ (.tail _ (.tail _ (.head _)))))))) ?_ hsix
    (codeRec_news N (.tail _ (.tail _ (.tail _ (.tail _ (.tail _ (.tail _ (.tail _ (.tail _ (.tail _ (.tail _ (.head _))))))))))) hoc hov) hcco hd LD.ok (LD.inh _ hl) hw.1 hw.2 (.tail _ (.tail _ (.head _))) hsi (off6 _ (.tail _ (.tail _ (.tail _ (.head _))))) (off6 _ (.tail _ (.tail _ (.head _)))) hno hdp hun ?_
  · intro q hq
    rcases List.mem_cons.mp hq with hq | hq
    · rw [hq]; exact ⟨.tail _ (.tail _ (.tail _ (.tail _ (.tail _ (.tail _ (.tail _ (.tail _ (.head _)))))))), off6 _ (.head _)⟩
    rcases List.mem_cons.mp hq with hq | hq
    · rw [hq]; exact ⟨.tail _ (.tail _ (.tail _ (.tail _ (.tail _ (.tail _ (.tail _ (.tail _ (.tail _ (.head _))))))))), off6 _ (.tail _ (.head _))⟩
    rcases List.mem_cons.mp hq with hq | hq
    · rw [hq]; exact ⟨.tail _ (.tail _ (.tail _ (.tail _ (.tail _ (.tail _ (.tail _ (.tail _ (.tail _ (.tail _ (.head _)))))))))), off6 _ (.tail _ (.tail _ (.head _)))⟩
    · exact ⟨inA q hq, hadd2 q hq⟩
  · intro ra new add' an' lea' h' tk' F' N' hask hnl htold
    exact hret _ ra new add' an' lea' h' tk' LD F' (by simpa only [List.cons_append] using N') hask hnl htold
theorem law_at0 {h₀ h : Heap} {L : Addr} {y z n1 n2 n3 n4 n5 n6 x f g : Addr × Obj} {add : List (Addr × Obj)} (N : News h₀ L h (y :: z :: n1 :: n2 :: n3 :: n4 :: n5 :: n6 :: f :: g :: x :: add)) : ∀ q ∈ f :: g :: add, h.get? q.1 = some q.2 := fun q hq => by
  refine (N q (.tail _ (.tail _ (.tail _ (.tail _ (.tail _ (.tail _ (.tail _ (.tail _ ?_)))))))) ).1
  rcases List.mem_cons.mp hq with hq | hq
  · rw [hq]; exact .head _
  rcases List.mem_cons.mp hq with hq | hq
  · rw [hq]; exact .tail _ (.head _)
  · exact .tail _ (.tail _ (.tail _ hq))
theorem news_drop2 {h₀ h : Heap} {L : Addr} {x y : Addr × Obj} {l : List (Addr × Obj)} (N : News h₀ L h (x :: y :: l)) : News h₀ L h (x :: l) := fun q hq => N q (by
  rcases List.mem_cons.mp hq with hq | hq
  · rw [hq]; exact .head _
  · exact .tail _ (.tail _ hq))
/-- the table of the nested def's code is kept with the formulas -/
theorem law_top {base h : Heap} {L c' aa ga fa ca ta cla cca tb : Addr} {n1 n2 n3 : Addr × Obj} {oc o1 o2 o3 o4 o5 o6 o7 : Obj} {ps : Array Value} {add : List (Addr × Obj)} {fvs gvs : List Value} {Fs Gs : List (List (List Int))}
    (N : News base L h (n1 :: n2 :: n3 :: (c', oc) :: (aa, o1) :: (ga, o2) :: (fa, o3) :: (ca, o4) :: (ta, o5) :: (cla, o6) :: (cca, o7) :: (tb, tabObj ps) :: add))
    (hoff : OwnOff add [aa, ga, fa, ca, ta, cla, cca, tb]) (hF : All2 (FormIn add) fvs Fs) (hG : All2 (FormIn add) gvs Gs) (hlt : AllLt c' add)
    (lts : @LT.lt Nat _ tb cca ∧ @LT.lt Nat _ cca ca ∧ @LT.lt Nat _ ca fa ∧ @LT.lt Nat _ fa ga ∧ @LT.lt Nat _ ga aa ∧ @LT.lt Nat _ aa c') :
    ∃ addT, (tb, tabObj ps) ∈ addT ∧ News base L h (n1 :: n2 :: n3 :: (c', oc) :: (aa, o1) :: (ga, o2) :: (fa, o3) :: (ca, o4) :: (ta, o5) :: (cla, o6) :: (cca, o7) :: (tb, tabObj ps) :: addT) ∧ OwnOff addT [aa, ga, fa, ca, cca] ∧
      All2 (FormIn addT) fvs Fs ∧ All2 (FormIn addT) gvs Gs ∧ AllLt c' addT := by
  obtain ⟨e1, e2, e3, e4, e5, e6⟩ := lts
  refine ⟨(tb, tabObj ps) :: add, .head _, fun q hq => N q ?_, fun p hp b hb => ?_, hF.mono fun _ _ x => x.mono fun _ hp => .tail _ hp, hG.mono fun _ _ x => x.mono fun _ hp => .tail _ hp, ?_, hlt⟩
  · have e : q ∈ [n1, n2, n3, (c', oc), (aa, o1), (ga, o2), (fa, o3), (ca, o4), (ta, o5), (cla, o6), (cca, o7)] ++ ((tb, tabObj ps) :: (tb, tabObj ps) :: add) := hq
    show q ∈ [n1, n2, n3, (c', oc), (aa, o1), (ga, o2), (fa, o3), (ca, o4), (ta, o5), (cla, o6), (cca, o7)] ++ ((tb, tabObj ps) :: add)
    rcases List.mem_append.mp e with e | e
    · exact List.mem_append_left _ e
    · rcases List.mem_cons.mp e with e | e
      · rw [e]; exact List.mem_append_right _ (.head _)
      · exact List.mem_append_right _ e
  · have sub : b = aa ∨ b = ga ∨ b = fa ∨ b = ca ∨ b = cca := by simpa only [List.mem_cons, List.not_mem_nil, or_false] using hb
    rcases List.mem_cons.mp hp with hp | hp
    · rw [hp]
      show tb ≠ b
      intro z
      rcases sub with s | s | s | s | s
      · exact Nat.ne_of_lt (show @LT.lt Nat _ tb aa by omega) (z.trans s)
      · exact Nat.ne_of_lt (show @LT.lt Nat _ tb ga by omega) (z.trans s)
      · exact Nat.ne_of_lt (show @LT.lt Nat _ tb fa by omega) (z.trans s)
      · exact Nat.ne_of_lt (show @LT.lt Nat _ tb ca by omega) (z.trans s)
      · exact Nat.ne_of_lt (show @LT.lt Nat _ tb cca by omega) (z.trans s)
    · rcases sub with s | s | s | s | s <;> rw [s]
      · exact hoff p hp _ (.head _)
      · exact hoff p hp _ (.tail _ (.head _))
      · exact hoff p hp _ (.tail _ (.tail _ (.head _)))
      · exact hoff p hp _ (.tail _ (.tail _ (.tail _ (.head _))))
      · exact hoff p hp _ (.tail _ (.tail _ (.tail _ (.tail _ (.tail _ (.tail _ (.head _)))))))
  · show @LT.lt Nat _ tb c'
    omega
theorem grown_end {base h : Heap} {L c P : Addr} {ps : Array Value} {l1 add l2 : List (Addr × Obj)} (N : News base L h (l1 ++ (add ++ l2))) (hm : (P, tabObj ps) ∈ add) : GrownAll [(c, P)] h :=
  ⟨GrownAt.of N (List.mem_append_right _ (List.mem_append_left _ hm)), trivial⟩
theorem grown_end0 {base h : Heap} {L c P : Addr} {ps : Array Value} {l1 add : List (Addr × Obj)} (N : News base L h (l1 ++ add)) (hm : (P, tabObj ps) ∈ add) : GrownAll [(c, P)] h :=
  ⟨GrownAt.of N (List.mem_append_right _ hm), trivial⟩
theorem news_cut {base h : Heap} {L : Addr} {a1 a2 a3 a4 a5 x y : Addr × Obj} {l : List (Addr × Obj)} (N : News base L h (a1 :: a2 :: a3 :: a4 :: a5 :: x :: y :: l)) : News base L h (a1 :: a2 :: a3 :: a4 :: a5 :: l) := fun q hq => N q (by
  have e : q ∈ [a1, a2, a3, a4, a5] ++ l := hq
  show q ∈ [a1, a2, a3, a4, a5] ++ (x :: y :: l)
  rcases List.mem_append.mp e with e | e
  · exact List.mem_append_left _ e
  · exact List.mem_append_right _ (.tail _ (.tail _ e)))
theorem met_nil (n : Nat) : true = !decide (MetL 0 n) := by
  rw [decide_eq_false fun z => absurd z.1 (by decide)]; rfl
theorem law_post (xs : List Int) : PySem.Challenge.rw_nu0263_01.row.claim.post [ofPy (PyData.list (xs.map PyData.int))] (.bool true) [ofPy (PyData.list (xs.map PyData.int))] = true := by
  wrow_post
theorem m_lenT {prog : Program} {w : World} {A : Around} {E : Value → Shared → Prop} {s : Shared} {h₀ : Heap} {L l : Addr} {vs : List Value} {n : Nat} {ks : List Int} {news : List (Addr × Obj)} {Q : Value → Shared → Prop}
    (N : News h₀ L s.heap news) (hm : (l, tupObj vs n) ∈ news) (hi : IntsAre vs ks) (hb : ks.length ≤ 1000)
    (h : Q (.int (ks.length : Int) (s.toks + 1)) { s with toks := s.toks + 1 + 1 }) : wpAny (model prog w) A (call (.builtin "len") [.ref l]) Q E s := by
  have e := hi.length
  exact len_tuple (News.isTup N hm) (by simp; omega) (by simpa [e] using h)
theorem fr_shadow {h₀ h : Heap} {L : Addr} {M : Str → Option Value} (x : Str) {v : Value} (F : Fr h₀ L h M) (e : M x = some v) : ∃ m₀ : Str → Option Value, Fr h₀ L h (fun y => if y = x then some v else m₀ y) :=
  ⟨M, by
    have q : (fun y => if y = x then some v else M y) = M := funext fun y => by
      by_cases z : y = x
      · subst z; rw [if_pos rfl, e]
      · rw [if_neg z]
    rw [q]; exact F⟩
end Mine

theorem Mine.fresh37 : True := by
  w_top off
  k_with "mine_stepsA" => (repeat' ((fail_if_success (with_reducible show wpAny _ _ (call (Value.ref 114) _) _ _ _)); (first | k_extra "mine_post" | (k_unfold; (try dsimp only)) | (k_end; wrow_close) | walk1 | (dsimp only; walk1) | fail "no step")))
  k_with "mine_stepsB" => (repeat' ((fail_if_success (with_reducible show wpAny _ _ (call (Value.ref 81) _) _ _ _)); (fail_if_success (with_reducible show wpAny _ _ (call (Value.ref 153) _) _ _ _)); (first | k_extra "mine_post" | (k_unfold; (try dsimp only)) | (k_end; wrow_close) | walk1 | (dsimp only; walk1) | fail "no step")))
  k_with "mine_stepsI" => (repeat' ((fail_if_success (with_reducible show wpAny _ _ (eval (Expr.IfExp _ _ _ _) _) _ _ _)); (first | k_extra "mine_post" | (k_unfold; (try dsimp only)) | (k_end; wrow_close) | walk1 | (dsimp only; walk1) | fail "no step")))
  k_with "mine_stepsC" => (repeat' ((fail_if_success (with_reducible show wpAny _ _ (call (Value.ref 86) _) _ _ _)); (fail_if_success (with_reducible show wpAny _ _ (call (Value.ref 107) _) _ _ _)); (fail_if_success (with_reducible show wpAny _ _ (call (Value.ref 136) _) _ _ _)); (fail_if_success (with_reducible show wpAny _ _ (call (Value.ref 153) _) _ _ _)); (fail_if_success (with_reducible show wpAny _ _ (eval (Expr.IfExp _ _ _ _) _) _ _ _)); (fail_if_success (with_reducible show wpAny _ _ (eval (Expr.ListComp _ _ _ _) _) _ _ _)); (fail_if_success (with_reducible show wpAny _ _ (compareOp CmpOp.NotEq _ _) _ _ _)); (fail_if_success (with_reducible show wpAny _ _ (pyIter (Value.ref _)) (fun it s₂ => LoopAtV _ _ _ _ _ _ _ _ _ it s₂) _ _)); (first | k_extra "mine_post" | (k_unfold; (try dsimp only)) | (k_end; wrow_close) | walk1 | (dsimp only; walk1) | fail "no step")))
  k_with "mine_stepsE" => (repeat' ((fail_if_success (with_reducible show wpAny _ _ (call (Value.ref 86) _) _ _ _)); (fail_if_success (with_reducible show wpAny _ _ (call (Value.ref 153) _) _ _ _)); (fail_if_success (with_reducible show GoodW _ _ _ _ _ _ _ ∧ _)); (first | k_extra "mine_post" | (k_unfold; (try dsimp only)) | walk1 | (dsimp only; walk1) | fail "no step")))
  k_with "my call builtin:len" => ((k_here; (with_reducible show wpAny _ _ (call (Value.builtin "len") [Value.ref _]) _ _ _); (with_unfolding_all refine' Mine.m_lenT ?k1qh ?k2qh ?k3qh ?k4qh ?_; (case k1qh => k_asm); (case k2qh => k_mem); (case k3qh => assumption); (case k4qh => (rw [PySem.W.rangeKs_length]; omega)); k_whole); walk_say "LEN TUPLE"))
  k_with "my eval Name" => ((k_here; k_dflt (first | (refine' nameX_L ?Fqh ?vqh ?_ ?aqh ?bqh; (case Fqh => k_asm); (case aqh => rfl); (case bqh => rfl); (case vqh => rfl); k_whole) | (refine' nameX_C ?Nqh ?cqh ?mqh ?dqh ?_ ?aqh ?bqh; (case aqh => rfl); (case bqh => rfl); (case Nqh => k_asm); (case cqh => rfl); (case mqh => k_mem); (case dqh => k_asm); k_whole))))
  k_with "my callWith ref" => ((k_here; k_dflt (first | (refine' callWith_K ?k1qh ?k2qh ?_; (case k1qh => k_asm); (case k2qh => k_is); k_whole) | (refine' callWith_K0 ?k1qh ?k2qh ?_; (case k1qh => first | with_reducible assumption | (refine' Frag.In.keeps ?kxqh (Fr.keep ?kfqh); (case kfqh => with_reducible assumption); (case kxqh => with_reducible assumption)) | k_in); (case k2qh => k_is); k_whole))))
  k_with "my execs cons" => (((with_reducible show wpAny _ _ (execs (Stmt.For _ _ _ _ _ :: _) _) _ _ _); (with_reducible refine Mine.genToks ?_); intro kTqz; first | ((fail_if_success (fail_if_success (first | refine Mine.isSP (by with_reducible assumption) ?_ | refine Mine.isP (by with_reducible assumption) ?_))); refine Mine.execs_abs ?_; intro qPqz hPqz) | (refine Mine.execs_abs2 ?_; intro qRqz hRqz qPqz hPqz)))
  k_with "mine_updF" => ((first | (refine' UpdF.head ?aqh; (case aqh => k_all)) | (refine' UpdF.tail ?aqh ?bqh; (case aqh => k_ne); (case bqh => k_updF))))
  k_with "mine_upd" => ((first | (refine' Upd.head ?aqh; (case aqh => k_all)) | (refine' Upd.tail ?aqh ?bqh; (case aqh => k_ne); (case bqh => k_upd))))
  trivial
theorem PySem.Challenge.cw_nu0263_01_holds : PySem.Challenge.rw_nu0263_01.Holds :=
  Mine.hd (by
  k_go0
  refine Mine.absQEp (by passes_own) ?_
  intro Q0 E0 hQ0 hE0 hP0
  rename Fr _ _ _ _ => F0
  obtain ⟨m0, F0'⟩ := Mine.fr_shadow (Str.ofString "script") F0 (by with_unfolding_all rfl)
  clear F0
  rename IntsAre _ _ => hI0
  rename ¬ ((63 : Nat) : Int) < _ => hI63
  k_extra "mine_stepsI"
  rename Fr _ _ _ _ => F5
  rename News _ _ _ _ => N5
  refine Mine.join_cells F5 N5 ?_ ?_
  · k_extra "mine_steps"
    · rename Fr _ _ _ _ => F9
      rename News _ _ _ _ => N9
      rename IntsAre _ (List.take 60 _) => hi9
      refine Mine.cells_post F9 N9 ?_ hi9 (by omega)
      · intro p hp
        simp only [List.mem_cons, List.not_mem_nil, or_false] at hp
        rcases hp with rfl | rfl <;> (dsimp only; omega)
    · rename Fr _ _ _ _ => F9
      rename News _ _ _ _ => N9
      refine ⟨_, _, _, _, _, _, rfl, rfl, F9, N9, ?_, by l_ints, by simp only [List.length_cons, List.length_nil]; omega⟩
      intro p hp
      simp only [List.mem_cons, List.not_mem_nil, or_false] at hp
      rcases hp with rfl | rfl <;> (dsimp only; omega)
  · clear F5 N5
    intro cla cws ccs cn h5 tk5 F5 N5 l1 hci hcl
    k_lt l1
    k_extra "mine_steps"
    rename Fr _ _ _ _ => F5
    rename News _ _ _ _ => N5
    rename IsRange _ _ _ _ _ _ _ _ => R5
    rename Obj.IsDictOf _ _ _ => D5
    have N6 := Mine.law_led N5 (.head _) (.tail _ (.head _))
    clear N5
    with_unfolding_all refine' Mine.m_grow_range (y := Str.ofString "formula") (Mine.LInv _ _ _ _ _ _ _ _ _ _ _ _) rfl R5 (Int.toNat_of_nonneg ?_).symm ?_ F5 N6 ⟨[], [], [], [], [], _, _, _, _, _, rfl, .nil, .nil, rfl, by omega, by omega, D5, fun _ hp => nomatch hp⟩ ?_ ?_
    · omega
    · omega
    · clear F5 N6 R5 D5
      rintro i t wv nx h tk own hi9 off ⟨fvs, gvs, Fs, Gs, add, nf, ng, kk, kt, ot, rfl, hF, hG, hlen, hkk0, hkk1, D6, hoff⟩ F6 N6
      have off1 := Mine.tbOff_pre (pre := [_, _, _, _, _, _, _, _]) (add := add) off
      replace hoff := Mine.ownOff_append hoff off1
      simp only [List.cons_append] at N6
      have hi5 : (i : Int) < 5 := by omega
      clear off1
      k_extra "mine_stepsA"
      rename News _ _ _ _ => N7
      rename TbOff _ (_ :: _ :: _) => ho9
      rename Mine.FormIn _ _ _ => hf9
      have hoff2 := Mine.tbOff_pre (pre := [_, _, _, _, _, _, _, _]) (add := add ++ own) ho9
      have hoff3 := Mine.ownOff_append hoff hoff2
      simp only [List.cons_append] at N7
      clear N6 hoff2
      k_extra "mine_steps"
      all_goals (
        rename Fr _ _ _ _ => F9
        rename News _ _ _ _ => N9
        rename Obj.IsDictOf _ _ _ => D9
        rw [List.push_toArray] at N9
        dsimp only [Mine.GPost]
        first
          | exact Mine.law_turn F9 (fun z z1 z2 => by simp [z1, z2]) N9 (Mine.forms_left hF _) ((Mine.forms_left hG _).append (Mine.forms_right hf9 add)) (by simp only [List.length_append, List.length_cons, List.length_nil]; omega) (by omega) (by omega) D9 hoff3 off (fun p hp q hq => ho9 p hp q (by simp [hq]))
          | exact Mine.law_turn F9 (fun z z1 z2 => by simp [z1, z2]) N9 ((Mine.forms_left hF _).append (Mine.forms_right hf9 add)) (Mine.forms_left hG _) (by simp only [List.length_append, List.length_cons, List.length_nil]; omega) (by omega) (by omega) D9 hoff3 off (fun p hp q hq => ho9 p hp q (by simp [hq])))
    · clear F5 N6 R5 D5
      rintro u u' nx h tk ⟨fvs, gvs, Fs, Gs, add, nf, ng, kk, kt, ot, rfl, hF, hG, hlen, hkk0, hkk1, D6, hoff⟩ F6 N6
      dsimp only
      k_extra "mine_stepsI"
      clear F6 N6
      rename Fr _ _ _ _ => F7
      rename News _ _ _ _ => N7
      rename Obj.IsDictOf _ _ [_, _] => D7
      refine' Mine.join_lim _ F7 N7 D7 ?kM ?kU ?kA ?kB
      case kM => k_mem
      case kU => k_updF
      case kA =>
        k_extra "mine_steps"
        all_goals (
          rename Fr _ _ _ _ => F9
          rename News _ _ _ _ => N9
          rename Obj.IsDictOf _ _ [_, _] => D9
          exact ⟨_, _, _, _, _, _, _, rfl, rfl, by omega, by omega, by omega, F9, N9, D9⟩)
      case kB =>
        intro lim tl ot2 kk2 kt2 h9 tk9 hl0 hl1 hl2 F9 N9 D9
        (try dsimp only at N9)
        k_extra "mine_stepsB"
        rename Fr _ _ _ _ => F10
        rename News _ _ _ _ => N10
        rename _ < _ ∧ _ ∧ _ ∧ _ ∧ _ ∧ _ ∧ _ ∧ _ ∧ AllLt _ _ => l9
        obtain ⟨add, hT, N10, hoff, hF, hG, hlt9⟩ := Mine.law_top N10 hoff hF hG l9.2.2.2.2.2.2.2.2 ⟨by omega, by omega, by omega, by omega, by omega, by omega⟩
        refine' Mine.law_core _ ?cB F10 ?cX N10 ?cT ?chd1 ?chd2 ?chcco ?chd ?chF ?chG ?chlen ?choff ?clts ?chlt ?chm ?chw ?chlm ?chk ?chqn ?chfk ?chdp ?chun ?cret
        case cB => assumption
        case cX => assumption
        case cT => assumption
        case chd1 => assumption
        case chd2 => assumption
        case chcco => assumption
        case chd => assumption
        case chF => assumption
        case chG => assumption
        case chlen => rw [hlen]; omega
        case choff => assumption
        case clts => refine ⟨by omega, by omega, by omega, by omega, by omega, by omega, by omega, by omega⟩
        case chlt => exact hlt9
        case chm => exact ⟨by omega, by omega⟩
        case chw => exact ⟨by omega, by omega⟩
        case chlm => exact ⟨hl0, hl1, hl2⟩
        case chk => rfl
        case chqn => with_unfolding_all rfl
        case chfk => with_unfolding_all rfl
        case chdp => ktr_room
        case chun => ktr_units
        case cret =>
          clear F10 N10
          intro D r new add' an' h10 tk10 LD F11 N11 hoff2 hfar hask hnl hres
          k_extra "mine_stepsB"
          rename Fr _ _ _ _ => F12
          rename News _ _ _ _ => N12
          refine' Mine.cr_n _ D ?rB F12 ?rX N12 ?rT ?rk ?rm ?rma (fun q hq => Mine.law_add hq) ?rd LD.ok (Mine.InH.sub (LD.inh _ fun q hq => (N12 q (Mine.law_at hq)).1) ?rs) ?rw0 ?rw1 ?rl0 ?rl1 hnl hask (Mine.toldS_of LD.ok N12 (fun q hq => Mine.law_add hq) hres) rfl ?rdp ?run ?rret
          case rd => rw [LD.em, LD.efa, LD.ega]; assumption
          case rB => assumption
          case rX => assumption
          case rT => assumption
          case rk => rfl
          case rm => k_mem
          case rma => k_mem
          case rs => exact fun z hz => List.mem_append_right [_, _, _, _, _, _] hz
          case rw0 => omega
          case rw1 => omega
          case rl0 => exact hl0
          case rl1 => exact hl1
          case rdp => ktr_room
          case run => ktr_units
          case rret =>
            obtain ⟨xs, ks, hx, hxs, hks, hkl⟩ := Mine.toldX_of LD.ok hres
            intro h11 tk11 F13 N13
            have N14 := Mine.law_xs N13 hxs
            have hoff3 : OwnOff (add ++ xs) _ := fun p hp => hoff2 p (by
              rcases List.mem_append.mp hp with hp | hp
              · exact List.mem_append_left _ hp
              · exact List.mem_append_right _ (hxs _ hp))
            replace hfar : ∀ p ∈ xs, ∀ q ∈ add, p.1 ≠ q.1 := fun p hp => hfar p (hxs p hp)
            clear N13 hoff2 hask hres hxs N12 F12
            k_extra "mine_stepsC"
            rename Fr _ _ _ _ => F15
            refine Mine.m_listCompR (fun _ => true) Mine.StrV F15 rfl (by with_unfolding_all rfl) (by decide) rfl (by decide) rfl ?_ (fun _ => by with_unfolding_all rfl)
            k_extra "mine_stepsC"
            rename IsRange _ _ _ _ _ _ _ _ => R16
            rename Fr _ _ _ _ => F16
            rename News _ _ _ _ => N16
            refine ⟨_, fvs.length, _, _, _, _, _, rfl, R16, rfl, by omega, F16, N16, ?_, ?_, ?_⟩
            · intro C i t s₃ m₃ E' hin hC hNs hmx hkeep F3 N3
              unfold Mine.testsOf
              k_extra "mine_steps"
              exact ⟨_, _, rfl, fun _ _ e => e⟩
            · intro C i t s₃ m₃ E' hin hp hC hNs hmx hkeep F3 N3
              k_extra "mine_steps"
              · exact ⟨_, _, rfl, Mine.goal_ok⟩
              · exact ⟨_, _, rfl, fun _ _ e => e⟩
              · exact ⟨_, _, rfl, Mine.fact_ok _⟩
              · exact ⟨_, _, rfl, fun _ _ e => e⟩
            · intro lb lvs0 ys n2 h2 tk2 hiv F17 N17 hD2 hP2 hK2 hDn2
              obtain ⟨labs, hys, hll, hok⟩ := Mine.strs_paired hP2
              rw [List.filter_eq_self.mpr (fun _ _ => rfl), hiv.length, PySem.W.rangeKs_length] at hll
              clear hP2 hiv hK2 R16
              (try clear F16); (try clear N16); (try clear F15); (try clear N14)
              k_extra "mine_stepsC"
              rename Fr _ _ _ _ => F18
              rename News _ _ _ _ => N18
              replace N18 := Mine.news_tl N18
              refine Mine.join_told (led := _ :: _ :: _ :: _ :: _ :: _ :: _ :: _ :: _ :: _ :: _ :: add) F18 N18 hx (Mine.law_off N18 hx hoff3 hfar) ?_ ?_ ?_
              · intro hr9
                subst hr9
                k_extra "mine_steps"
                rename Fr _ _ _ _ => F19
                rename News _ _ _ _ => N19
                rename _ < _ ∧ _ => l9
                exact Mine.law_none F19 N19 l9
              · intro ra hr9
                subst hr9
                k_extra "mine_steps"
                · assumption
                · assumption
              · clear F18 N18
                intro x9 tvs tn h3 tk3 F20 N20 hoff20 hti hxq
                have hb9 : ∀ k ∈ ks, 0 ≤ k ∧ k < (labs.length : Int) := fun k hk => by
                  have y := hks k hk
                  rw [LD.efv] at y
                  rw [hll]; exact y
                have hlb9 : labs.length ≤ 10 := by omega
                k_extra "mine_stepsC"
                with_unfolding_all refine' Mine.m_labK (fls₀ := []) (fun i fls => ∃ fs, StrsAre fls fs ∧ fs = Mine.ddup labs (ks.take i) ∧ fls.length ≤ i) rfl hoff20 F20 N20 ⟨[], .nil, rfl, Nat.le_refl _⟩ ?turn ?done
                case turn =>
                  rintro i v fls n h tk own hv off ⟨fs, hfs, hdd, hfl⟩ F2 N2
                  obtain ⟨k, t, rfl, hk9⟩ := Mine.ints_at hti hv
                  have hkb := hb9 k (List.mem_of_getElem? hk9)
                  have hi10 : i < tvs.length := (List.getElem?_eq_some_iff.mp hv).1
                  have hnv : tvs.length ≤ 10 := by rw [hti.length]; omega
                  have hfl10 : fls.length ≤ 10 := by omega
                  clear F20 N20
                  rename _ < _ ∧ _ ∧ _ ∧ _ ∧ _ ∧ _ ∧ _ ∧ _ ∧ _ ∧ _ ∧ AllLt _ (_ ++ _) => l9
                  have hoffB := Mine.allLt_off l9.2.2.2.2.2.2.2.2.2.2
                  replace off := Mine.tbOff_head off
                  have hoffC := Mine.ownOff_append hoffB off
                  simp only [List.cons_append] at N2
                  k_extra "mine_steps"
                  · rename _ = true => hin
                    dsimp only [Mine.LPost]
                    refine ⟨_, _, _, _, fls, n, rfl, (by assumption), by k_extra "mine_same", N2, .head _, (fun p hp => .tail _ (List.mem_append_left own hp)), (fun p hp => .tail _ (List.mem_append_right (_ :: _ :: _ :: _ :: _ :: _ :: _ :: _ :: _ :: _ :: add) hp)), ⟨fs, (by assumption), ?_, by omega⟩⟩
                    rw [Mine.ddup_succ hk9, ← hdd]
                    unfold Mine.dstep
                    rw [Mine.any_memS] at hin
                    rw [if_pos (of_decide_eq_true hin)]
                  · rename _ = false => hin
                    rename News _ _ _ _ => N5
                    rename Fr _ _ _ _ => F5
                    rw [List.push_toArray] at N5
                    dsimp only [Mine.LPost]
                    refine ⟨_, _, _, _, _, _, rfl, F5, by k_extra "mine_same", N5, .head _, (fun p hp => .tail _ (List.mem_append_left own hp)), (fun p hp => .tail _ (List.mem_append_right (_ :: _ :: _ :: _ :: _ :: _ :: _ :: _ :: _ :: _ :: add) hp)), ⟨_, Mine.strs_snoc (by assumption), ?_, by rw [List.length_append, List.length_singleton]; omega⟩⟩
                    rw [Mine.ddup_succ hk9, ← hdd]
                    unfold Mine.dstep
                    rw [Mine.any_memS] at hin
                    rw [if_neg (of_decide_eq_false hin)]
                case done =>
                  rintro u9 fls n h tk ⟨fs, hfs, hdd, hfl⟩ F22 N22
                  rw [hti.length, List.take_length] at hdd
                  k_extra "mine_stepsC"
                  rename Fr _ _ _ _ => F23
                  rename News _ _ _ _ => N23
                  have hoff9 := Mine.law_off2 (o' := PySem.W.listOf (List.toArray fls) n) hoff20 hxq
                  refine Mine.join_told F23 (Mine.law_back N23 hxq) hx hoff9 ?_ ?_ ?_
                  · intro hr9
                    subst hr9
                    k_extra "mine_steps"
                    rename Fr _ _ _ _ => F19
                    rename News _ _ _ _ => N19
                    rename _ < _ ∧ _ => l9
                    exact Mine.law_none2 F19 N19 l9
                  · intro ra hr9
                    subst hr9
                    replace N23 := Mine.law_back N23 hxq
                    k_extra "mine_steps"
                    · assumption
                    · assumption
                  · clear F23 N23
                    intro x8 tvs8 tn8 h4 tk4 F24 N24 hoff24 hti8 hxq8
                    k_extra "mine_stepsC"
                    rename Fr _ _ _ _ => F25
                    rename News _ _ _ _ => N25
                    refine' Mine.lb_n _ ?lB F25 ?lX N25 ?lT ?lk ?lla hys ?lna hti8 hb9 ?lll ?lnl ?ldp ?lun ?lret
                    case lB => assumption
                    case lX => assumption
                    case lT => assumption
                    case lk => rfl
                    case lla => k_mem
                    case lna => k_mem
                    case lll => omega
                    case lnl => omega
                    case ldp => ktr_room
                    case lun => ktr_units
                    case lret =>
                      clear F25 N25
                      intro ub us un9 h5 tk5 F26 N26 hne9 hus
                      k_extra "mine_stepsC"
                      rename Fr _ _ _ _ => F27
                      rename News _ _ _ _ => N27
                      subst hdd
                      refine Mine.m_ne_strs ⟨_, N27.get (by k_mem), rfl, _, rfl⟩ ⟨_, N27.get (by k_mem), rfl, _, rfl⟩ hus hfs (Mine.ddup_ok hok _) (by ktr_units) ?_
                      replace N27 := Mine.news_tl (Mine.news_tl (Mine.news_tl (Mine.news_tl N27)))
                      have hoffA : OwnOff add _ := fun p hp => hoff3 p (List.mem_append_left xs hp)
                      clear hoff3 hfar hoff9 hoff20 hoff24 hxq hxq8 hx hti hti8 hus hfs hys hok hb9
                      k_extra "mine_stepsC"
                      rename News _ _ _ _ => N28
                      rename Fr _ _ _ _ => F28
                      rename IntsAre _ _ => hi28
                      have N29 := Mine.news_drop2 N28
                      clear N28
                      refine' Mine.can_k D ?aB F28 ?aX N29 ?aT ?ak ?am ?ad LD.efa.symm LD.ega.symm LD.em.symm LD.ok (Mine.InH.sub (LD.inh _ (Mine.law_at0 N29)) ?as) (.inr ⟨_, (N29 _ (.head _)).1, rfl, _, rfl⟩) hi28 ?al ?ab ?ap ?au ?aret
                      case ad => assumption
                      case aB => assumption
                      case aX => assumption
                      case aT => assumption
                      case ak => rfl
                      case am => k_mem
                      case as => exact fun z hz => List.mem_append_right [_, _, _, _, _, _] hz
                      case al => rw [PySem.W.rangeKs_length]; omega
                      case ab => exact fun k hk => by have := PySem.W.mem_rangeKs hk; rw [LD.efv]; omega
                      case ap => ktr_room
                      case au => ktr_units
                      case aret =>
                        intro h6 tk6 F31 N31 K31
                        rw [LD.can]
                        generalize hcan : Mine.canB _ _ _ _ = bc
                        cases bc
                        · rename _ < _ ∧ _ ∧ _ ∧ _ ∧ _ ∧ _ ∧ _ ∧ _ ∧ _ ∧ AllLt _ _ => l8
                          k_extra "mine_stepsE"
                          rename Fr _ _ _ _ => F33
                          rename News _ _ _ _ => N33
                          replace N33 := Mine.news_cut N33
                          refine' Mine.law_shrunk _ ?sB F33 ?sX N33 ?sT ?sd1 ?sd2 ?scco ?sd hF hG ?sl hoffA ?slt ?shl ?sm ?sw hi28 hcan ?sk ?sq ?sf ?sp ?su ?sret
                          case sB => assumption
                          case sX => assumption
                          case sT => assumption
                          case sd1 => assumption
                          case sd2 => assumption
                          case scco => assumption
                          case sd => assumption
                          case sl => rw [hlen]; omega
                          case slt => exact ⟨by omega, by omega, by omega, by omega, by omega, by omega, by omega, by omega, by omega⟩
                          case shl => exact l8.2.2.2.2.2.2.2.2.2
                          case sm => exact ⟨by omega, by omega⟩
                          case sw => exact ⟨by omega, by omega⟩
                          case sk => rfl
                          case sq => with_unfolding_all rfl
                          case sf => with_unfolding_all rfl
                          case sp => ktr_room
                          case su => ktr_units
                          case sret =>
                            clear F33 N33
                            intro D2 ra new2 add2 an2 lea2 h8 tk8 LD2 F35 N35 hask2 hnl2 htold2
                            k_extra "mine_stepsE"
                            rename Fr _ _ _ _ => F36
                            rename News _ _ _ _ => N36
                            refine' Mine.cr_n _ D2 ?rB F36 ?rX N36 ?rT ?rk ?rm ?rma (fun q hq => Mine.law_add hq) ?rd LD2.ok (Mine.InH.sub (LD2.inh _ fun q hq => (N36 q (Mine.law_at hq)).1) ?rs) ?rw0 ?rw1 (Int.le_refl 0) (by decide) hnl2 hask2 htold2 (Mine.met_nil _) ?rdp ?run ?rret
                            case rd => rw [LD2.em, LD2.efa, LD2.ega]; assumption
                            case rB => assumption
                            case rX => assumption
                            case rT => assumption
                            case rk => rfl
                            case rm => k_mem
                            case rma => k_mem
                            case rs => exact fun z hz => List.mem_append_right [_, _, _, _, _, _] hz
                            case rw0 => omega
                            case rw1 => omega
                            case rdp => ktr_room
                            case run => ktr_units
                            case rret =>
                              intro h9 tk9 F37 N37
                              k_extra "mine_stepsE"
                              refine ⟨?_, Mine.grown_end (l1 := [_, _, _, _, _, _, _, _, _]) N37 hT⟩
                              rename Shared.gens _ = _ => hg9
                              refine goodW_bool F37 hg9 (raisesW_false ?_) ?_
                              · wrow_none_raised
                              · exact Mine.law_post _
                        · k_extra "mine_stepsE"
                          refine ⟨?_, Mine.grown_end0 (l1 := [_, _, _, _, _, _, _, _, _, _, _]) N31 hT⟩
                          rename Shared.gens _ = _ => hg9
                          refine goodW_bool F31 hg9 (raisesW_false ?_) ?_
                          · wrow_none_raised
                          · exact Mine.law_post _)

