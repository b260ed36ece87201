import PyProof.Rows.All
import Wide.All
import OpenK.AllK
import Wide.FinOn
import KE.KStateDown
import HandS.ForMost
import HandS.Exc
import HandS.More
import HandS.NoneIn
import HandS.Defaults
import HandS.Head0
import HandS.Head1
import HandS.Head2
import HandS.Head3
import HandS.HeadEnd
import HandS.HeadHook1
import HandS.HeadHook2
import HandS.HeadHook3
import Open.Seg
import HandS.Style
import HandS.Wide
import HandS.IsInst
import HandS.FStr
import HandS.StrMore
import HandS.Gcd
import HandS.Deep
import HandS.TupAny
import HandS.Conv
import HandS.Flow
import HandS.FStrTup
import PySem.Challenge.RW_chartspec_k07_whole_values_keep_kinds
set_option Elab.async false
set_option linter.all false
set_option maxRecDepth 100000
set_option maxHeartbeats 0
/-! AHead -/
noncomputable section
namespace HeadA
open PySem PySem.W PySem.Calls PyProof.Rows HandSHeadRun
abbrev R : OpenRow := OpenLaw.row PySem.Challenge.rw_chartspec_k07_whole_values_keep_kinds
abbrev ST := SharedT → Thread → Option (SharedT × Thread)
section
variable (st : ST) (n0 : Nat) (ann : Option Value)
/-- n steps towards the top's end -/
def topF : Nat → SharedT → Thread → Option (SharedT × Thread)
  | 0, s, t => some (s, t)
  | m + 1, s, t => match through t with
    | true => none
    | false => match stepOk n0 ann t with
      | false => none
      | true => match st s t with
        | some (s', t') => frS s' fun s' => topF m s' t'
        | none => none
/-- a statement's run, to its end -/
def segF : Nat → SharedT → Thread → Option (Flow × SharedT × Code × Pos)
  | 0, _, _ => none
  | m + 1, s, t => match endAt 1 t with
    | some f => some (f, s, t.code, t.pos)
    | none => match stepOk n0 ann t with
      | false => none
      | true => match st s t with
        | some (s', t') => frS s' fun s' => segF m s' t'
        | none => none
/-- n steps of it -/
def cutF : Nat → SharedT → Thread → Option (SharedT × Thread)
  | 0, s, t => some (s, t)
  | m + 1, s, t => match endAt 1 t with
    | some _ => none
    | none => match stepOk n0 ann t with
      | false => none
      | true => match st s t with
        | some (s', t') => frS s' fun s' => cutF m s' t'
        | none => none
end
/-! the run's states -/
abbrev stW (w : World) : ST := stepQ (denQ tabQ) R.prog w
def pre (w : World) : Option (Shared × SharedT) := ((impF (stepQ (denQ tabQ) (opening R.prog) w) 1200 (startT (opening R.prog)) (start (opening R.prog)).2).bind fun s => fenceQ R.prog s.abs).bind fun s0 => (treeOf s0).map fun x => (s0, x)
abbrev b : List Stmt := behindTheImports R.prog
def env : Env := { scope := R.prog.main.scope, locals := mainNs, globals := mainNs, cells := [], code := .ref 41, frame := some 42 }
abbrev c : Code := .body b env
abbrev q0 : Pos := ⟨0, 0, 0, 0⟩
abbrev B : List Frame := [topFrame q0]
abbrev ann : Option Value := some (.ref 6)
def l1 : List Stmt := b.take 17
def s17 : Stmt := b.getD 17 (.Pass ⟨0, 0, 0, 0⟩)
def l2 : List Stmt := b.drop 18
abbrev pA : Pos := ⟨60, 0, 60, 7⟩
/-! the table's last pair -/
def subTail (d : Addr) (v4 : Value) : Sem Addr := do
  holding [.ref d] do
    for (k, v) in [(Value.none, v4)] do dictSet d k v
  return d
def dispTail (d : Addr) (v4 : Value) : Sem Value := do
  match ← (do return some (← subTail d v4) : Sem (Option Addr)) with
  | some d => pure (.ref d)
  | none => newDict
def asgTail (d : Addr) (v4 : Value) (st : Stmt) : Sem Flow := match st with
  | .Assign targets value pos => do
    let v ← dispTail d v4
    assignStores env v (← swappedStores targets value env) ((assignEach targets env).map (·.2))
  | _ => pure .next
abbrev pD : Pos := ⟨61, 8, 61, 55⟩
/-! ### steps by hand, within one statement of the top -/
abbrev sr (w : World) := segRun treeTable R.prog w 39 ann 1
theorem sr_mono {w : World} : ∀ (n k : Nat) (s : Shared) (t : Thread) (r : Flow × Shared × Code × Pos), sr w n s t = some r → sr w (n + k) s t = some r
  | 0, _, _, _, _, h => by cases h
  | n + 1, k, s, t, r, h => by
    rw [show n + 1 + k = n + k + 1 by omega]
    show (match endAt 1 t with
      | some f => some (f, s, t.code, t.pos)
      | none => match stepOk 39 ann t with
        | false => none
        | true => match step (denote treeTable) R.prog w s t with
          | .go s' t' => sr w (n + k) s' t'
          | .halt _ _ => none) = some r
    have h1 : (match endAt 1 t with
      | some f => some (f, s, t.code, t.pos)
      | none => match stepOk 39 ann t with
        | false => none
        | true => match step (denote treeTable) R.prog w s t with
          | .go s' t' => sr w n s' t'
          | .halt _ _ => none) = some r := h
    cases e : endAt 1 t with
    | some f =>
      rw [e] at h1
      exact h1
    | none =>
      rw [e] at h1
      cases e2 : stepOk 39 ann t with
      | false =>
        rw [e2] at h1
        cases h1
      | true =>
        rw [e2] at h1
        cases e3 : step (denote treeTable) R.prog w s t with
        | go s' t' =>
          rw [e3] at h1
          exact sr_mono n k s' t' r h1
        | halt o s' =>
          rw [e3] at h1
          cases h1
/-- t goes from s to s' with the answer a, in at most k steps -/
def Go {α : Type} (w : World) (k : Nat) (t : Sem α) (s : Shared) (a : α) (s' : Shared) : Prop :=
  ∀ (K : α → Sem Fin) (H : Value → Sem Fin) (gd : Bool → Bool) (lv : List Value → List Value) (pos : Pos) (N : Nat) (r : Flow × Shared × Code × Pos),
    sr w N s' ⟨K a, c, pos, B⟩ = some r → sr w (N + k) s ⟨t.wrap K H gd lv, c, pos, B⟩ = some r
section
variable {α β : Type} {w : World} {s s1 s2 : Shared} {k1 k2 : Nat}
theorem Go.le {t : Sem α} {a : α} (h : Go w k1 t s a s1) (hk : k1 ≤ k2) : Go w k2 t s a s1 := fun K H gd lv pos N r z => by
  have q := sr_mono _ (k2 - k1) _ _ _ (h K H gd lv pos N r z)
  rw [show N + k1 + (k2 - k1) = N + k2 by omega] at q
  exact q
theorem go_pure {a : α} : Go w 0 (pure a : Sem α) s a s := fun K H gd lv pos N r h => h
theorem go_bind {t : Sem α} {f : α → Sem β} {a : α} {x : β} (h1 : Go w k1 t s a s1) (h2 : Go w k2 (f a) s1 x s2) : Go w (k2 + k1) (t >>= f) s x s2 := fun K H gd lv pos N r h => by
  have q := h2 K H gd lv pos N r h
  rw [Sem.bind_eq_wrap', Sem.wrap_wrap, ← Nat.add_assoc]
  exact h1 _ _ _ _ pos _ r q
theorem go_keep {t : Sem α} {a : α} {vs : List Value} (h1 : Go w k1 t s a s1) : Go w k1 (t.keep vs) s a s1 := fun K H gd lv pos N r h => by
  rw [Sem.keep_eq_wrap, Sem.wrap_wrap]
  exact h1 _ _ _ _ pos N r h
theorem go_rule {x : String} : Go w 1 (rule x) s () s := fun K H gd lv pos N r h => h
theorem go_load {a : Addr} {p : Option Value} {o : Obj} (e : s.heap.get? a = some o) : Go w 1 (loadPart a p) s o s := fun K H gd lv pos N r h => by
  obtain ⟨heap, gens, drawn, toks, os⟩ := s
  have e2 : heap.get? a = some o := e
  show (match (match heap.get? a with
    | some o => Step.go ⟨heap, gens, drawn, toks, os⟩ ⟨K o, c, pos, B⟩
    | none => .halt (.stuck (if a < heap.objs.size then "load: the object has been freed" else "load: no object at this address")) ⟨heap, gens, drawn, toks, os⟩) with
    | .go s' t' => sr w N s' t'
    | .halt _ _ => none) = some r
  rw [e2]
  exact h
theorem go_update {a : Addr} {p : Option Value} {o : Obj} {f : Obj → Obj} (e : s.heap.get? a = some o) (ha : Nat.ble 39 a = true) : Go w 1 (updatePart a p f) s () { s with heap := s.heap.update a f } := fun K H gd lv pos N r h => by
  obtain ⟨heap, gens, drawn, toks, os⟩ := s
  have e2 : (heap.get? a).isSome = true := by rw [show heap.get? a = some o from e] <;> rfl
  show (match (Nat.ble 39 a || a == mainNs || a == cStatics || ann == some (.ref a)) with
    | false => none
    | true => (match (if (heap.get? a).isSome = true then Step.go ⟨heap.update a f, gens, drawn, toks, os⟩ ⟨K (), c, pos, B⟩
    else .halt (.stuck "update: no object at this address, or it has been freed") ⟨heap, gens, drawn, toks, os⟩) with
    | .go s' t' => sr w N s' t'
    | .halt _ _ => none)) = some r
  rw [e2, ha]
  exact h
theorem go_hash (b : Bool) {heap : Heap} {gens : Array GenState} {drawn : Drawn} {toks : Nat} {os : OsState} : Go (w.withFollow "special-get-raises" b) 5 (pyHash .none) ⟨heap, gens, drawn, toks, os⟩ 4238894112 ⟨heap, gens, drawn, toks + 1, os⟩ := fun K H gd lv pos N r h => by
  rw [← h]
  cases b <;> kernel_rfl
theorem go_eqN (b : Bool) {x : Str} {t : Tok} {heap : Heap} {gens : Array GenState} {drawn : Drawn} {toks : Nat} {os : OsState} : Go (w.withFollow "special-get-raises" b) 10 (eqBool (.str x t) .none) ⟨heap, gens, drawn, toks, os⟩ false ⟨heap, gens, drawn, toks, os⟩ := fun K H gd lv pos N r h => by
  rw [← h]
  cases b <;> kernel_rfl
theorem go_forIn {σ : Type} {l : List α} {x : σ} {f : α → σ → Sem (ForInStep σ)} (h : ∀ i ∈ l, Go w k1 (f i x) s (.yield x) s) : Go w (l.length * k1) (forIn l x f) s x s := by
  induction l with
  | nil => exact go_pure.le (Nat.zero_le _)
  | cons i r ih =>
    rw [List.forIn_cons]
    refine (go_bind (h i List.mem_cons_self) (ih fun j hj => h j (List.mem_cons_of_mem _ hj))).le ?_
    rw [List.length_cons, Nat.succ_mul]
    exact Nat.le_refl _
def AllStr (es : Array DictEntry) : Prop := ∀ (i : Nat) (e : DictEntry), es[i]? = some e → ∃ x t, e.key = .str x t
theorem go_walk (b : Bool) {d : Addr} {cl : Value} {od : Option Addr} {es : Array DictEntry} {n : Nat} {sl : Array (Option Value)} (hs : AllStr es) (e : s.heap.get? d = some ⟨cl, od, .dict es n, sl⟩) (pl : List Nat) :
    Go (w.withFollow "special-get-raises" b) (pl.length * 20) (dictWalkPlain d .none 4238894112 es pl) s none s := by
  unfold dictWalkPlain
  refine Go.le (go_bind (k1 := pl.length * 20) (go_forIn (k1 := 20) fun i hi => ?_) go_pure) (by omega)
  cases ei : es[i]? with
  | none => exact go_pure.le (by omega)
  | some en =>
    obtain ⟨x, t, ek⟩ := hs i en ei
    dsimp only
    by_cases hh : en.hash == 4238894112
    · rw [if_pos hh]
      have ep : Go (w.withFollow "special-get-raises" b) 1 (dictEpoch d (keyPart .none)) s n s := by
        unfold dictEpoch
        exact Go.le (go_bind (go_load e) go_pure) (by omega)
      refine Go.le (go_bind (k2 := 19) ep ?_) (by omega)
      rw [ek]
      refine Go.le (go_bind (k2 := 9) (go_eqN b) ?_) (by omega)
      refine Go.le (go_bind (k2 := 8) ep ?_) (by omega)
      rw [if_neg (by simp)]
      exact Go.le (go_bind go_rule go_pure) (by omega)
    · rw [if_neg hh]
      exact go_pure.le (by omega)
theorem go_find (b : Bool) {d : Addr} {cl : Value} {od : Option Addr} {es : Array DictEntry} {n : Nat} {sl : Array (Option Value)} (hs : AllStr es) (e : s.heap.get? d = some ⟨cl, od, .dict es n, sl⟩) :
    Go (w.withFollow "special-get-raises" b) (es.size * 20 + 1) (dictFind d .none 4238894112) s none s := by
  unfold dictFind
  show Go _ _ ((loadPart d (keyPart .none) >>= fun o => match o.data with
    | .dict es _ => pure es
    | _ => unsupported "internal:not-a-dict") >>= fun es => _) s none s
  refine Go.le (go_bind (k2 := es.size * 20) (go_bind (go_load e) go_pure) ?_) (by omega)
  dsimp only
  have ca : (Value.none :: (placesWithHash es.size (fun i => es[i]?.map (·.hash)) 4238894112).filterMap fun i => es[i]?.map (·.key)).all carriedByValue = true := by
    rw [List.all_cons, Bool.and_eq_true]
    refine ⟨rfl, List.all_eq_true.mpr fun k hk => ?_⟩
    obtain ⟨i, _, hi⟩ := List.mem_filterMap.mp hk
    cases ei : es[i]? with
    | none =>
      rw [ei] at hi
      cases hi
    | some en =>
      rw [ei] at hi
      obtain ⟨x, t, ek⟩ := hs i en ei
      have : en.key = k := Option.some.inj hi
      rw [← this, ek]
      rfl
  rw [if_pos ca]
  refine (go_walk b hs e _).le (Nat.mul_le_mul_right _ ?_)
  unfold placesWithHash
  refine Nat.le_trans (List.length_filter_le _ _) ?_
  rw [List.length_range]
  exact Nat.le_refl _
theorem go_store (b : Bool) {d : Addr} {cl : Value} {od : Option Addr} {es : Array DictEntry} {n : Nat} {sl : Array (Option Value)} {v : Value} {heap : Heap} {gens : Array GenState} {drawn : Drawn} {toks : Nat} {os : OsState}
    (hs : AllStr es) (e : heap.get? d = some ⟨cl, od, .dict es n, sl⟩) (hz : es.size ≤ 10) (hd : Nat.ble 39 d = true) (hv : (match v with | .ref _ => false | _ => true) = true) :
    Go (w.withFollow "special-get-raises" b) 300 (dictSet d .none v) ⟨heap, gens, drawn, toks, os⟩ () ⟨heap.update d (Obj.mapDictKeys (·.push ⟨4238894112, .none, v⟩)), gens, drawn, toks + 1, os⟩ := by
  have e0 : dictSet d .none v = (pyHash .none >>= fun h => dictSetHashed d .none h v) := by
    unfold dictSet
    cases v <;> first | rfl | cases hv
  rw [e0]
  refine Go.le (go_bind (k2 := 290) (go_hash b) ?_) (by omega)
  have e1 : dictSetHashed d .none 4238894112 v = (dictFind d .none 4238894112 >>= fun r => match r with
    | some i => (do
      rule "dict.set.replace-value-keep-key"
      updateDict d (·.modify i fun e => { e with val := v }) (keyPart .none)
      point)
    | none => (do rule "dict.set.new-key-at-the-end"; updateDictKeys d (·.push ⟨4238894112, .none, v⟩) (keyPart .none))) := by
    unfold dictSetHashed
    cases v <;> first | rfl | cases hv
  rw [e1]
  refine Go.le (go_bind (k2 := 10) (go_find b hs (s := ⟨heap, gens, drawn, toks + 1, os⟩) e) ?_) (by omega)
  refine Go.le (go_bind (k2 := 9) go_rule ?_) (by omega)
  unfold updateDictKeys
  refine Go.le (go_bind (k2 := 8) (go_load (s := ⟨heap, gens, drawn, toks + 1, os⟩) e) ?_) (by omega)
  refine Go.le (go_bind (k2 := 7) (go_update (s := ⟨heap, gens, drawn, toks + 1, os⟩) e hd) ?_) (by omega)
  unfold lookBehind
  have e3 : (heap.update d (Obj.mapDictKeys (·.push ⟨4238894112, .none, v⟩))).get? d = some ⟨cl, od, .dict (es.push ⟨4238894112, .none, v⟩) (n + 1), sl⟩ := by
    rw [Heap.get?_update_self _ e (Obj.isFreed_of_dict (Obj.data_mapDictKeys rfl _))] <;> rfl
  refine Go.le (go_bind (k2 := 6) (go_load e3) ?_) (by omega)
  have e4 : (Data.dict (es.push ⟨4238894112, .none, v⟩) (n + 1)).pastItsLine = none := by
    show (if (es.push ⟨4238894112, .none, v⟩).size > sizeLine + 1 then some "dict:memory" else none) = none
    rw [if_neg]
    rw [Array.size_push, sizeLine_eq]
    omega
  rw [e4]
  exact go_pure.le (by omega)
/-- the rest of the statement, behind the display -/
def asgEnd (v : Value) (st : Stmt) : Sem Flow := match st with
  | .Assign targets value pos => do
    assignStores env v (← swappedStores targets value env) ((assignEach targets env).map (·.2))
  | _ => pure .next
theorem go_disp {d : Addr} {v : Value} (h : Go w k1 (dictSet d .none v) s () s1) : Go w k1 (dispTail d v) s (.ref d) s1 := by
  unfold dispTail subTail
  refine Go.le (go_bind (go_bind (go_bind (a := ()) (k1 := k1) ?_ go_pure) go_pure) go_pure) (by omega)
  show Go w k1 (Sem.keep [.ref d] _) s () s1
  refine go_keep ?_
  rw [List.forIn_cons]
  refine Go.le (go_bind (a := PUnit.unit) (s1 := s1) (k1 := k1) ((go_bind (a := ForInStep.yield PUnit.unit) (s1 := s1) (k1 := k1) ?_ ?_).le (k2 := k1) (Nat.le_of_eq (Nat.zero_add _))) go_pure) (by omega)
  · exact Go.le (go_bind h go_pure) (by omega)
  · exact go_pure
theorem asg_eq (d : Addr) (v : Value) : asgTail d v s17 = (dispTail d v >>= fun u => asgEnd u s17) := by rfl
theorem go_asg {d : Addr} {v : Value} (h : Go w k1 (dictSet d .none v) s () s1) {pos : Pos} {N : Nat} {r : Flow × Shared × Code × Pos}
    (k : sr w N s1 ⟨(asgEnd (.ref d) s17).wrap doneF deadEnd id id, c, pos, B⟩ = some r) : sr w (N + k1) s ⟨(asgTail d v s17).wrap doneF deadEnd id id, c, pos, B⟩ = some r := by
  rw [asg_eq, Sem.bind_eq_wrap', Sem.wrap_wrap]
  exact go_disp h _ _ _ _ pos N r k
end
/-! ### the segments' soundness -/
section
variable {p : Program} {w : World} {n0 : Nat} {ann' : Option Value}
abbrev dT (p : Program) (w : World) : ST := stepT (denote treeTable) p w
theorem topF_ok : ∀ {m N : Nat} {s s' : SharedT} {t t' : Thread} {r : Shared}, topF (dT p w) n0 ann' m s t = some (s', t') → topRun treeTable p w n0 ann' N s'.abs t' = some r → topRun treeTable p w n0 ann' (N + m) s.abs t = some r
  | 0, N, s, s', t, t', r, h, k => by
    cases h
    exact k
  | m + 1, N, s, s', t, t', r, h, k => by
    have h1 : (match through t with
      | true => none
      | false => match stepOk n0 ann' t with
        | false => none
        | true => match dT p w s t with
          | some (s', t') => frS s' fun s' => topF (dT p w) n0 ann' m s' t'
          | none => none) = some (s', t') := h
    rw [← Nat.add_assoc]
    unfold topRun
    cases ht : through t with
    | true =>
      rw [ht] at h1
      cases h1
    | false =>
      rw [ht] at h1
      cases hk : stepOk n0 ann' t with
      | false =>
        rw [hk] at h1
        cases h1
      | true =>
        rw [hk] at h1
        cases hs : dT p w s t with
        | none =>
          rw [hs] at h1
          cases h1
        | some q =>
          obtain ⟨s2, t2⟩ := q
          rw [hs] at h1
          have h3 : (frS s2 fun s' => topF (dT p w) n0 ann' m s' t2) = some (s', t') := h1
          rw [frS_eq] at h3
          show (match step (denote treeTable) p w s.abs t with
            | .go s' t' => topRun treeTable p w n0 ann' (N + m) s' t'
            | .halt _ _ => none) = some r
          rw [stepT_spec hs]
          exact topF_ok h3 k
theorem segF_ok : ∀ {m : Nat} {s s' : SharedT} {t : Thread} {f : Flow} {c : Code} {q : Pos}, segF (dT p w) n0 ann' m s t = some (f, s', c, q) → segRun treeTable p w n0 ann' 1 m s.abs t = some (f, s'.abs, c, q)
  | 0, _, _, _, _, _, _, h => by cases h
  | m + 1, s, s', t, f, c, q, h => by
    have h1 : (match endAt 1 t with
      | some f => some (f, s, t.code, t.pos)
      | none => match stepOk n0 ann' t with
        | false => none
        | true => match dT p w s t with
          | some (s', t') => frS s' fun s' => segF (dT p w) n0 ann' m s' t'
          | none => none) = some (f, s', c, q) := h
    unfold segRun
    cases ht : endAt 1 t with
    | some f2 =>
      rw [ht] at h1
      cases h1
      rfl
    | none =>
      rw [ht] at h1
      cases hk : stepOk n0 ann' t with
      | false =>
        rw [hk] at h1
        cases h1
      | true =>
        rw [hk] at h1
        cases hs : dT p w s t with
        | none =>
          rw [hs] at h1
          cases h1
        | some z =>
          obtain ⟨s2, t2⟩ := z
          rw [hs] at h1
          have h3 : (frS s2 fun s' => segF (dT p w) n0 ann' m s' t2) = some (f, s', c, q) := h1
          rw [frS_eq] at h3
          show (match step (denote treeTable) p w s.abs t with
            | .go s' t' => segRun treeTable p w n0 ann' 1 m s' t'
            | .halt _ _ => none) = some (f, s'.abs, c, q)
          rw [stepT_spec hs]
          exact segF_ok h3
theorem cutF_ok : ∀ {m N : Nat} {s s' : SharedT} {t t' : Thread} {r : Flow × Shared × Code × Pos}, cutF (dT p w) n0 ann' m s t = some (s', t') → segRun treeTable p w n0 ann' 1 N s'.abs t' = some r → segRun treeTable p w n0 ann' 1 (N + m) s.abs t = some r
  | 0, N, s, s', t, t', r, h, k => by
    cases h
    exact k
  | m + 1, N, s, s', t, t', r, h, k => by
    have h1 : (match endAt 1 t with
      | some _ => none
      | none => match stepOk n0 ann' t with
        | false => none
        | true => match dT p w s t with
          | some (s', t') => frS s' fun s' => cutF (dT p w) n0 ann' m s' t'
          | none => none) = some (s', t') := h
    rw [← Nat.add_assoc]
    unfold segRun
    cases ht : endAt 1 t with
    | some _ =>
      rw [ht] at h1
      cases h1
    | none =>
      rw [ht] at h1
      cases hk : stepOk n0 ann' t with
      | false =>
        rw [hk] at h1
        cases h1
      | true =>
        rw [hk] at h1
        cases hs : dT p w s t with
        | none =>
          rw [hs] at h1
          cases h1
        | some q =>
          obtain ⟨s2, t2⟩ := q
          rw [hs] at h1
          have h3 : (frS s2 fun s' => cutF (dT p w) n0 ann' m s' t2) = some (s', t') := h1
          rw [frS_eq] at h3
          show (match step (denote treeTable) p w s.abs t with
            | .go s' t' => segRun treeTable p w n0 ann' 1 (N + m) s' t'
            | .halt _ _ => none) = some r
          rw [stepT_spec hs]
          exact cutF_ok h3 k
end
theorem stW_eq (w : World) : dT R.prog w = stW w := by
  unfold dT stW
  rw [stepQ_eq, denQ_eq, tabQ_eq]
/-! ### the run, piece by piece -/
abbrev row : String := "special-get-raises"
abbrev W (b : Bool) (w : World) : World := w.withFollow row b
/-- the table's object ahead of the last pair -/
def chk (X : SharedT) : Bool := Nat.blt 134 X.n && match X.tree.get 134 with
  | some ⟨_, _, .dict es _, _⟩ => es.toList.all (fun e => isExactStrKey e.key) && Nat.ble es.size 10
  | _ => false
def put (X : SharedT) : SharedT := { X with tree := X.tree.set 134 (Obj.mapDictKeys (·.push ⟨4238894112, .none, .int 3 499⟩)), toks := X.toks + 1 }
abbrev pE : Pos := ⟨61, 0, 61, 5⟩
def names0 : List PySem.Str := ["LIMIT", "lowest", "plus", "minus", "times", "over", "compare", "floor_of", "ceiling_of", "nearest_of", "as_number", "power_of_ten", "decimal_places", "fraction_text", "LONGEST", "RANKS", "cell_kind", "compare_cells", "cell_text", "position"]
def names1 : List PySem.Str := ["kind_in", "OPERATIONS", "LEAVES", "parts_of", "kind_of", "other_kind", "evaluate", "connected", "limited", "of_one", "of_two", "_law_tape", "_law_draw", "_law_is_integer", "_law_gcd", "_law_ratio", "_law_kept", "_law_number", "_law_small", "_law_sign"]
def names2 : List PySem.Str := ["_law_text", "_law_name", "_law_full", "_law_cell", "_law_kind_drawn", "_law_cell_kind", "_law_columns", "_law_cells", "_law_stranger", "_law_forms", "_law_leaf", "_law_tree", "_law_parts", "_law_kind", "_law_mentioned", "_law_fits", "_law_renamed", "_law_truth", "_law_logical"]
def names : List PySem.Str := names0 ++ names1 ++ names2
/-! ### the text -/
def topS (i : Nat) : Stmt := PySem.Challenge.pw_chartspec_k07_whole_values_keep_kinds.main.body.getD i (.Pass ⟨0, 0, 0, 0⟩)
def mkD (x : PySem.Str) (i : Nat) : He.DefD := ⟨(x, none), x, x, L2.defArgs (topS i), L2.defBody (topS i), L2.defScope (topS i), [], []⟩
def fn0 : List He.DefD := [mkD "lowest" 3, mkD "plus" 4, mkD "minus" 5, mkD "times" 6, mkD "over" 7, mkD "compare" 8, mkD "floor_of" 9, mkD "ceiling_of" 10, mkD "nearest_of" 11, mkD "as_number" 12, mkD "power_of_ten" 13, mkD "decimal_places" 14, mkD "fraction_text" 15, mkD "cell_kind" 19, mkD "compare_cells" 20, mkD "cell_text" 21, mkD "position" 23, mkD "kind_in" 24, mkD "parts_of" 28, mkD "kind_of" 29]
def fn1 : List He.DefD := [mkD "other_kind" 30, mkD "evaluate" 31, mkD "connected" 32, mkD "limited" 33, mkD "of_one" 34, mkD "of_two" 35, mkD "_law_tape" 37, mkD "_law_draw" 38, mkD "_law_is_integer" 39, mkD "_law_gcd" 40, mkD "_law_ratio" 41, mkD "_law_kept" 42, mkD "_law_number" 43, mkD "_law_small" 44, mkD "_law_sign" 45, mkD "_law_text" 46, mkD "_law_name" 47, mkD "_law_full" 48, mkD "_law_cell" 49, mkD "_law_kind_drawn" 50]
def fn2 : List He.DefD := [mkD "_law_cell_kind" 51, mkD "_law_columns" 52, mkD "_law_cells" 53, mkD "_law_stranger" 54, mkD "_law_forms" 55, mkD "_law_leaf" 56, mkD "_law_tree" 57, mkD "_law_parts" 58, mkD "_law_kind" 59, mkD "_law_mentioned" 60, mkD "_law_fits" 61, mkD "_law_renamed" 62, mkD "_law_truth" 63, mkD "_law_logical" 64, mkD "law" 65]
def fn : List He.DefD := fn0 ++ fn1 ++ fn2
def fg0 : List He.Fa := [.glo "lowest", .glo "plus", .glo "minus", .glo "times", .glo "over", .glo "compare", .glo "floor_of", .glo "ceiling_of", .glo "nearest_of", .glo "as_number", .glo "power_of_ten", .glo "decimal_places", .glo "fraction_text", .glo "cell_kind", .glo "compare_cells", .glo "cell_text", .glo "position", .glo "kind_in", .glo "parts_of", .glo "kind_of"]
def fg1 : List He.Fa := [.glo "other_kind", .glo "evaluate", .glo "connected", .glo "limited", .glo "of_one", .glo "of_two", .glo "_law_tape", .glo "_law_draw", .glo "_law_is_integer", .glo "_law_gcd", .glo "_law_ratio", .glo "_law_kept", .glo "_law_number", .glo "_law_small", .glo "_law_sign", .glo "_law_text", .glo "_law_name", .glo "_law_full", .glo "_law_cell", .glo "_law_kind_drawn"]
def fg2 : List He.Fa := [.glo "_law_cell_kind", .glo "_law_columns", .glo "_law_cells", .glo "_law_stranger", .glo "_law_forms", .glo "_law_leaf", .glo "_law_tree", .glo "_law_parts", .glo "_law_kind", .glo "_law_mentioned", .glo "_law_fits", .glo "_law_renamed", .glo "_law_truth", .glo "_law_logical", .glo "law"]
def fr : List He.Fa := [.free "abs", .free "int", .free "max", .free "min", .free "len", .free "str", .free "isinstance", .free "range", .free "tuple", .free "list", .free "all", .free "repr", .free "bool", .int "LIMIT" 1000000000000, .int "LONGEST" 40, .glo "LEAVES", .glo "RANKS", .glo "OPERATIONS"]
def fa : List He.Fa := fg0 ++ fg1 ++ fg2 ++ fr
def opK : List PySem.Str := ["minus", "abs", "floor", "ceil", "round", "+", "-", "*", "/", "join", "length", "not", "and", "or"]
def opT : List (PySem.Str × List PySem.Str × PySem.Str) := [("minus", ["number"], "number"), ("abs", ["number"], "number"), ("floor", ["number"], "number"), ("ceil", ["number"], "number"), ("round", ["number"], "number"), ("+", ["number", "number"], "number"), ("-", ["number", "number"], "number"), ("*", ["number", "number"], "number"), ("/", ["number", "number"], "number"), ("join", ["text", "text"], "text"), ("length", ["text"], "number"), ("not", ["boolean"], "boolean"), ("and", ["boolean", "boolean"], "boolean"), ("or", ["boolean", "boolean"], "boolean")]
def opsAt (K : PySem.W.Frag) : Addr := He.ga K "OPERATIONS"
def ts : List He.Tab := [(opsAt, opK)]
/-- the value of a key of OPERATIONS: a tuple of (a tuple of texts, a text) -/
def strsB (K : PySem.W.Frag) (a : Addr) (xs : List PySem.Str) : Bool := match K.lookup a with
  | some ⟨.type c, _, .seq its _, _⟩ => decide (c = "tuple") && He.relAll (xs.map L2.V.str) its.toList
  | _ => false
def opB (K : PySem.W.Frag) (a : Addr) (need : List PySem.Str) (kind : PySem.Str) : Bool := match K.lookup a with
  | some ⟨.type c, _, .seq its _, _⟩ => decide (c = "tuple") && (match its.toList with
    | [.ref u, .str k _] => strsB K u need && decide (k = kind)
    | _ => false)
  | _ => false
def opsB (K : PySem.W.Frag) : Bool := opT.all fun q => match PySem.W.nsIn K (opsAt K) q.1 with
  | some (some (.ref a)) => opB K a q.2.1 q.2.2
  | _ => false
/-- the words of a tree that OPERATIONS does not hold -/
def opM : List PySem.Str := ["text", "missing", "in", "if", "least", "greatest", "=", "<>", "<", "<=", ">", ">="]
def missB (K : PySem.W.Frag) : Bool := opM.all fun x => He.eqO (PySem.W.nsIn K (opsAt K) x) (some none)
def gcdB (K : PySem.W.Frag) : Bool := match PySem.W.nsIn K mainGlobals "gcd" with
  | some (some (.builtin x)) => decide (x = "math.gcd")
  | _ => false
def exB (K : PySem.W.Frag) : Bool := opsB K && (missB K && gcdB K) && (He.tupB K "LEAVES" [.str "cell", .str "nothing", .str "column"])
/-- RANKS: the keys (a text or None), their hashes, the ints -/
abbrev RkV : Type := Option (List (Option (Option PySem.Str × Int × Int)))
def rkE (e : DictEntry) : Option (Option PySem.Str × Int × Int) := match e.key, e.val with
  | .str x _, .int i _ => some (some x, e.hash, i)
  | .none, .int i _ => some (none, e.hash, i)
  | _, _ => none
def rkW (K : PySem.W.Frag) : RkV := match K.lookup (He.ga K "RANKS") with
  | some ⟨.type c, none, .dict es _, sl⟩ => (match decide (c = "dict") && (sl.isEmpty && !(He.ga K "RANKS" == sysModules)) with
    | true => some (es.toList.map rkE)
    | false => none)
  | _ => none
def rkG (w : World) : RkV := some [some (some "boolean", PyData.keyHash w.params "boolean", 0), some (some "number", PyData.keyHash w.params "number", 1), some (some "text", PyData.keyHash w.params "text", 2), some (none, 4238894112, 3)]
/-! ### the Hook -/
abbrev AlY : Type := He.AlT × Bool × RkV
def obsY (K : PySem.W.Frag) : AlY := (He.obsT fa fn ts K, exB K, rkW K)
def valY (w : World) : AlY := (He.valT fn ts w, true, rkG w)
/-- what is looked at: the module's names, each def and its code, the tables -/
def glAt (g : Addr → Option Obj) (x : PySem.Str) : List Addr := match g mainGlobals with
  | some ⟨_, _, .dict es _, _⟩ => (match es.toList.find? (·.key.isStr x) with
    | some e => He.refV e.val
    | none => [])
  | _ => []
def defAt (g : Addr → Option Obj) (x : PySem.Str) : List Addr := (glAt g x).flatMap fun a => a :: match g a with
  | some ⟨_, _, .func fd, _⟩ => He.refV fd.code
  | _ => []
def tabAt (g : Addr → Option Obj) (x : PySem.Str) : List Addr := (glAt g x).flatMap fun a => a :: match g a with
  | some o => (He.refsO o).flatMap fun b => b :: match g b with
    | some u => He.refsO u
    | none => []
  | none => []
def asY (g : Addr → Option Obj) : List Addr := mainGlobals :: (fn.flatMap fun d => defAt g d.name) ++ (tabAt g "OPERATIONS" ++ (tabAt g "RANKS" ++ tabAt g "LEAVES"))
def obsYG (g : Addr → Option Obj) : AlY := obsY (He.frG g (asY g))
def SaysY (w : World) (K : PySem.W.Frag) : Prop := obsY K = valY w
def hookY : PySem.W.Hook where
  α := AlY
  obs := fun s => obsYG s.heap.get?
  val := fun w => valY w
  says := fun w h => ∃ K : PySem.W.Frag, K.In h ∧ SaysY w K
  of := fun _ _ e => ⟨_, He.frG_in, e⟩
  keeps := fun _ _ _ ⟨K, hK, c⟩ k => ⟨K, PySem.W.Frag.In.keeps hK k, c⟩
def obY (s : SharedT) : AlY := obsYG (getT s)
theorem obY_eq (s : SharedT) : obY s = hookY.obs s.abs := by
  have e : getT s = s.abs.heap.get? := funext (getT_eq s)
  unfold obY
  rw [e] <;> rfl
/-! ### the end of the run -/
abbrev qv : Program := view R.prog [0, 65]
abbrev pZ : Pos := ⟨448, 0, 473, 105⟩
abbrev FCP : Type := Flow × Code × Pos
/-- the whole run, cut where the None key is stored -/
def runAll (w : World) := (pre w).bind fun q => (topF (stW w) 39 ann 12 q.2 (topStub R.prog)).bind fun xa => (segF (stW w) 39 ann 1 xa.1 (blockOf b env c q0 B)).bind fun xb =>
  (segF (stW w) 39 ann 436 xb.2.1 (piecesOf l1 env c q0 B)).bind fun xc => (cutF (stW w) 39 ann 50 xc.2.1 (pieceOf s17 env c pA B)).bind fun xd =>
  (segF (stW w) 39 ann 40 (put xd.1) ⟨(asgEnd (.ref 134) s17).wrap doneF deadEnd id id, c, pD, B⟩).bind fun xf => (segF (stW w) 39 ann 1700 xf.2.1 (piecesOf l2 env c pE B)).bind fun xz =>
  some ((xa.2, (xb.1, xb.2.2), (xc.1, xc.2.2), xd.2, chk xd.1, (xf.1, xf.2.2), (xz.1, xz.2.2)), (q.1.heap.isNs mainGlobals && q.1.gens.size == 0, q.1.heap.objs.size, q.1.heap.nsMap mainGlobals "__annotations__"),
    looksF R.prog q.1.heap xz.2.1.abs, seenQ qv names (importedModules R.prog.main.body) (fun s => xlAt qv [] s && recOk R.toRowW.records s) xz.2.1.abs, obY xz.2.1)
theorem runsF (w : World) : runAll (W false w) = some (((⟨denQ tabQ c, c, q0, B⟩ : Thread), ((Flow.next, c, q0) : FCP), ((Flow.next, c, pA) : FCP), (⟨(asgTail 134 (.int 3 499) s17).wrap doneF deadEnd id id, c, pD, B⟩ : Thread), true, ((Flow.next, c, pE) : FCP), ((Flow.next, c, pZ) : FCP)),
    (true, 39, ann), true, openGood qv names, valY (W false w)) := by kernel_rfl
theorem runsT (w : World) : runAll (W true w) = some (((⟨denQ tabQ c, c, q0, B⟩ : Thread), ((Flow.next, c, q0) : FCP), ((Flow.next, c, pA) : FCP), (⟨(asgTail 134 (.int 3 499) s17).wrap doneF deadEnd id id, c, pD, B⟩ : Thread), true, ((Flow.next, c, pE) : FCP), ((Flow.next, c, pZ) : FCP)),
    (true, 39, ann), true, openGood qv names, valY (W true w)) := by kernel_rfl
theorem runs (b : Bool) (w : World) : runAll (W b w) = some (((⟨denQ tabQ c, c, q0, B⟩ : Thread), ((Flow.next, c, q0) : FCP), ((Flow.next, c, pA) : FCP), (⟨(asgTail 134 (.int 3 499) s17).wrap doneF deadEnd id id, c, pD, B⟩ : Thread), true, ((Flow.next, c, pE) : FCP), ((Flow.next, c, pZ) : FCP)),
    (true, 39, ann), true, openGood qv names, valY (W b w)) := by
  cases b
  · exact runsF w
  · exact runsT w
theorem put_abs {X : SharedT} (h : chk X = true) (b : Bool) (w : World) : Go (W b w) 300 (dictSet 134 .none (.int 3 499)) X.abs () (put X).abs := by
  unfold chk at h
  obtain ⟨h1, h2⟩ := Bool.and_eq_true_iff.mp h
  have lt : 134 < X.n := Nat.le_of_ble_eq_true h1
  cases e : X.tree.get 134 with
  | none =>
    rw [e] at h2
    cases h2
  | some o =>
    obtain ⟨cl, od, dt, sl⟩ := o
    rw [e] at h2
    cases dt with
    | dict es n =>
      obtain ⟨h3, h4⟩ := Bool.and_eq_true_iff.mp (show (es.toList.all (fun e => isExactStrKey e.key) && Nat.ble es.size 10) = true from h2)
      have hg : X.abs.heap.get? 134 = some ⟨cl, od, .dict es n, sl⟩ := abs_get lt e
      have hs : AllStr es := fun i en hi => by
        have hm : en ∈ es.toList := Array.mem_toList_iff.mpr (Array.mem_of_getElem? hi)
        have q := List.all_eq_true.mp h3 en hm
        cases ek : en.key with
        | str x t => exact ⟨x, t, rfl⟩
        | _ =>
          rw [ek] at q
          cases q
      have z := go_store (w := w) b (d := 134) (v := .int 3 499) (heap := X.abs.heap) (gens := X.gens) (drawn := X.drawn) (toks := X.toks) (os := X.os) hs hg (Nat.le_of_ble_eq_true h4) rfl rfl
      have ea : (put X).abs = ⟨X.abs.heap.update 134 (Obj.mapDictKeys (·.push ⟨4238894112, .none, .int 3 499⟩)), X.gens, X.drawn, X.toks + 1, X.os⟩ := by
        show (⟨absHeap (X.tree.set 134 _) X.n X.life, X.gens, X.drawn, X.toks + 1, X.os⟩ : Shared) = _
        rw [absHeap_set e]
        rfl
      rw [ea]
      exact z
    | _ => cases h2
theorem b_eq : b = l1 ++ (s17 :: l2) := by rfl
theorem left (w : World) : (openEnds treeTable R.prog w 5000).map (fun s => (openSeen qv names (importedModules R.prog.main.body) (fun s => xlAt qv [] s && recOk R.toRowW.records s) true s, hookY.obs s)) = some (openGood qv names, hookY.val w) := by
  have key : ∀ (bb : Bool) (w : World), (openEnds treeTable R.prog (W bb w) 5000).map (fun s => (openSeen qv names (importedModules R.prog.main.body) (fun s => xlAt qv [] s && recOk R.toRowW.records s) true s, hookY.obs s)) = some (openGood qv names, hookY.val (W bb w)) := by
    intro bb w
    have h := runs bb w
    unfold runAll at h
    rw [← stW_eq] at h
    obtain ⟨⟨s0, x0⟩, e0, h⟩ := Option.bind_eq_some_iff.mp h
    obtain ⟨⟨xa, ta⟩, ea, h⟩ := Option.bind_eq_some_iff.mp h
    obtain ⟨⟨fb, xb, cb, pb⟩, eb, h⟩ := Option.bind_eq_some_iff.mp h
    obtain ⟨⟨fc, xc, cc, pc⟩, ec, h⟩ := Option.bind_eq_some_iff.mp h
    obtain ⟨⟨xd, td⟩, ed, h⟩ := Option.bind_eq_some_iff.mp h
    obtain ⟨⟨ff, xf, cf, pf⟩, ef, h⟩ := Option.bind_eq_some_iff.mp h
    obtain ⟨⟨fz, xz, cz, pz⟩, ez, h⟩ := Option.bind_eq_some_iff.mp h
    have h := Option.some.inj h
    simp only [Prod.mk.injEq] at h
    obtain ⟨⟨g1, ⟨g2, g3, g4⟩, ⟨g5, g6, g7⟩, g8, g9, ⟨g10, g11, g12⟩, ⟨g13, g14, g15⟩⟩, ⟨g16, g17, g18⟩, g19, g20, g21⟩ := h
    subst g1 g2 g3 g4 g5 g6 g7 g8 g10 g11 g12 g13 g14 g15
    -- the opening
    unfold pre at e0
    obtain ⟨z0, e0, ez0⟩ := Option.bind_eq_some_iff.mp e0
    obtain ⟨z1, e1, e2⟩ := Option.bind_eq_some_iff.mp e0
    obtain ⟨z2, e3, e4⟩ := Option.map_eq_some_iff.mp ez0
    obtain ⟨rfl, rfl⟩ := Prod.mk.inj e4
    obtain ⟨ax, an⟩ := treeOf_eq e3
    rw [← stepQ_eq, ← denQ_eq, ← tabQ_eq] at e1
    rw [← fenceQ_eq] at e2
    have i1 := impF_ok e1
    rw [startT_eq] at i1
    have op : fencedOpening treeTable R.prog (W bb w) 1200 = some z0 := by
      unfold fencedOpening
      rw [i1]
      exact e2
    have op2 : fencedOpening treeTable R.prog (W bb w) 5000 = some z0 := by
      unfold fencedOpening
      rw [show (5000 : Nat) = 1200 + 3800 from rfl, importEnds_mono 3800 _ _ _ _ i1]
      exact e2
    have t7 : topRun treeTable R.prog (W bb w) 39 ann 2 xz.abs ⟨doneF .next, c, pZ, B⟩ = some xz.abs := rfl
    have t6 : topRun treeTable R.prog (W bb w) 39 ann (1700 + 2) xf.abs (restOf (l2 ++ []) env c pE B) = some xz.abs := piece_app (segF_ok ez) t7
    rw [List.append_nil] at t6
    have r5 : segRun treeTable R.prog (W bb w) 39 ann 1 (40 + 300 + 50) xc.abs (pieceOf s17 env c pA B) = some (.next, xf.abs, c, pE) := cutF_ok ed (go_asg (put_abs g9 bb w) (segF_ok ef))
    have t5 : topRun treeTable R.prog (W bb w) 39 ann (40 + 300 + 50 + (1700 + 2)) xc.abs (restOf (s17 :: l2) env c pA B) = some xz.abs := piece_cons r5 t6
    have t4 : topRun treeTable R.prog (W bb w) 39 ann (436 + (40 + 300 + 50 + (1700 + 2))) xb.abs (restOf (l1 ++ (s17 :: l2)) env c q0 B) = some xz.abs := piece_app (segF_ok ec) t5
    rw [← b_eq] at t4
    have t3 : topRun treeTable R.prog (W bb w) 39 ann (1 + (436 + (40 + 300 + 50 + (1700 + 2)))) xa.abs ⟨denote treeTable (.body b env), c, q0, B⟩ = some xz.abs := piece_block (segF_ok eb) t4
    rw [← denQ_eq, ← tabQ_eq] at ea
    have t2 := topF_ok ea t3
    have t1 := topRun_mono (5000 - (1 + (436 + (40 + 300 + 50 + (1700 + 2))) + 12)) _ _ _ _ t2
    have ax2 : z2.abs = z0 := ax
    rw [ax2] at t1
    have tf : topFrom treeTable R.prog (W bb w) 5000 z0 = some xz.abs := by
      unfold topFrom
      rw [g16, g17, g18]
      show (topRun treeTable R.prog (W bb w) 39 ann 5000 z0 (topStub R.prog)).bind _ = _
      rw [show (5000 : Nat) = 1 + (436 + (40 + 300 + 50 + (1700 + 2))) + 12 + (5000 - (1 + (436 + (40 + 300 + 50 + (1700 + 2))) + 12)) from rfl, t1]
      have l1' : (staticsOk (importedModules R.prog.main.body) z0.heap xz.abs.heap && namesBound R.prog xz.abs.heap && gensDone xz.abs && laidKept z0.heap xz.abs.heap) = true := g19
      show (match staticsOk (importedModules R.prog.main.body) z0.heap xz.abs.heap && namesBound R.prog xz.abs.heap && gensDone xz.abs && laidKept z0.heap xz.abs.heap with | true => some xz.abs | false => none) = _
      rw [l1']
    unfold openEnds
    rw [op2]
    show (topFrom treeTable R.prog (W bb w) 5000 z0).map _ = _
    rw [tf]
    rw [← seenQ_eq] at g20
    rw [obY_eq] at g21
    exact congrArg some (Prod.ext g20 g21)
  exact byRow2 row (P := fun w => (openEnds treeTable R.prog w 5000).map (fun s => (openSeen qv names (importedModules R.prog.main.body) (fun s => xlAt qv [] s && recOk R.toRowW.records s) true s, hookY.obs s)) = some (openGood qv names, hookY.val w)) (key false) (key true) w
/-- the law's def in the view -/
theorem head {d : DefRec} {kwd : List (PySem.Str × PySem.Expr)} (hdef : defOf qv R.name = some (d, kwd)) (hp : R.prog.theDef R.name = some (d.params, d.body, d.scope)) (hk : kwWritten? d.params.kwonlyargs d.params.kw_defaults = some kwd)
    (hwr : (!R.writes || R.records.isEmpty) = true) (k1 : R.wellSaid = true) (ok : (chainsOk qv && opensWell R.prog && (frees R.toRowW && R.within.isEmpty)) = true) (hb : R.prog.bare) (hw : R.toRowW.promised)
    (call : WalkO qv names (XL qv []) hookY.says R.toRowW d kwd fun f vs => PySem.call f vs) : R.Holds :=
  holds_open (r := R) (q := qv) (loose := names) (XP := XL qv []) (YP := hookY.says) (d := d) (kwd := kwd) (N := 5000) left hookY.of hookY.keeps (fun s z => xl_of s (Bool.and_eq_true_iff.mp z).1) XL.keeps hdef hp hk (fun s z => recFacts_of (Bool.and_eq_true_iff.mp z).2) hwr k1 ok hb hw call
theorem test (call : WalkO qv names (XL qv []) hookY.says R.toRowW (topDef R.prog 65) [] fun f vs => PySem.call f vs) : PySem.Challenge.rw_chartspec_k07_whole_values_keep_kinds.Holds := by
  w_on; o_law
  refine head (d := topDef R.prog 65) (kwd := []) (by kernel_rfl) (by kernel_rfl) (by kernel_rfl) (by rfl) (by first | assumption | decide +kernel) (by decide +kernel) ⟨rfl, rfl, rfl, rfl, rfl, by decide +kernel⟩ ?hw ?hc
  case hw => w_witness2
  case hc => exact call
end HeadA
end
/-! WBase -/
namespace K7
open PySem PySem.Spec PyProof.Rows L2
/-! ### the text by places -/
def topS (i : Nat) : Stmt := PySem.Challenge.pw_chartspec_k07_whole_values_keep_kinds.main.body.getD i (.Pass ⟨0, 0, 0, 0⟩)
/-! ### a def as it stands behind the top -/
structure Fd (K : PySem.W.Frag) (mg : Str → Option Value) (x : Str) (i : Nat) (ps : List Str) where
  f : Addr
  fd : FuncData
  F : FunD K x x (defArgs (topS i)) (defBody (topS i)) (defScope (topS i)) [] [] f fd
  g : mg x = some (.ref f)
  b : Binds K fd ps []
/-! ### the top's tables -/
def opT : List (Str × List Str × Str) := [("minus", ["number"], "number"), ("abs", ["number"], "number"), ("floor", ["number"], "number"), ("ceil", ["number"], "number"), ("round", ["number"], "number"), ("+", ["number", "number"], "number"), ("-", ["number", "number"], "number"), ("*", ["number", "number"], "number"), ("/", ["number", "number"], "number"), ("join", ["text", "text"], "text"), ("length", ["text"], "number"), ("not", ["boolean"], "boolean"), ("and", ["boolean", "boolean"], "boolean"), ("or", ["boolean", "boolean"], "boolean")]
def opM : List Str := ["text", "missing", "in", "if", "least", "greatest", "=", "<>", "<", "<=", ">", ">="]
/-- RANKS: keys are texts and None -/
def hkN (w : World) : Option Key → Int
  | none => reduceHash 0xFCA86420
  | some k => keyH w k
def rkOf (x : Str) : Option Int := if x = ("boolean" : Str) then some 0 else if x = ("number" : Str) then some 1 else if x = ("text" : Str) then some 2 else none
structure RkDict (K : PySem.W.Frag) (w : World) (a : Addr) : Prop where
  ex : ∃ (es : Array DictEntry) (n : Nat), K.lookup a = some ⟨.type "dict", none, .dict es n, #[]⟩ ∧ (∀ e ∈ es, ∃ k : Option Key, nkIs k e.key = true ∧ e.hash = hkN w k) ∧ ∀ x i, rkOf x = some i → ∃ t, findBy nkIs es (some (.inr x)) = some (.int i t)
def rRk (a : Addr) : R2 := fun x y H Q => ∃ (z : Str) (i : Int), x = .ref a ∧ y = .str z ∧ rkOf z = some i ∧ Q (.int i) H
theorem ix_rk {X : Cx} {a : Addr} (D : RkDict X.K X.w a) : IxR X (rRk a) := by
  intro value slice pins s σ H x y v u Q I rx ry h hs
  obtain ⟨z, i, rfl, rfl, ez, q⟩ := h
  obtain ⟨es, n, hl, hk, hv⟩ := D.ex
  obtain ⟨t', ht⟩ := hv z i ez
  cases rx
  obtain ⟨t, rfl⟩ := ry
  have hm : s.heap.MapOf (noneKind X.prog X.w) a (fun k => findBy nkIs es k) :=
    ⟨_, es, n, I.kIn _ _ hl, ⟨rfl, rfl, rfl⟩, rfl, fun e he => by
      obtain ⟨k, h1, h2⟩ := hk e he
      refine ⟨k, h1, ?_⟩
      rw [h2]
      cases k <;> rfl, fun _ => rfl⟩
  exact tail_any hm.typeIs slot_dict_getitem.lookup (wpAny_getItem_of (show (noneKind X.prog X.w).is (some (.inr z)) (.str z t) = true from keyIs_str z t) hm ht ⟨.int i, H, I.tok _, ⟨_, rfl⟩, q⟩) hs
/-! ### the facts of the top -/
structure Ev (K : PySem.W.Frag) (w : World) (mg : Str → Option Value) where
  n_abs : mg "abs" = none
  n_int : mg "int" = none
  n_max : mg "max" = none
  n_min : mg "min" = none
  n_len : mg "len" = none
  n_str : mg "str" = none
  n_isinstance : mg "isinstance" = none
  n_range : mg "range" = none
  n_tuple : mg "tuple" = none
  n_list : mg "list" = none
  n_all : mg "all" = none
  n_repr : mg "repr" = none
  n_bool : mg "bool" = none
  gcd : mg "gcd" = some (.builtin "math.gcd")
  tL : Tok
  limit : mg "LIMIT" = some (.int 1000000000000 tL)
  tG : Tok
  longest : mg "LONGEST" = some (.int 40 tG)
  aLv : Addr
  gLv : mg "LEAVES" = some (.ref aLv)
  leaves : ∀ H : Hp, SqT K H aLv [.str "cell", .str "nothing", .str "column"]
  aOp : Addr
  gOp : mg "OPERATIONS" = some (.ref aOp)
  esOp : Array DictEntry
  nOp : Nat
  dOp : KDict K w aOp esOp nOp
  hit : ∀ q ∈ opT, ∃ a u, PySem.W.nsIn K aOp q.1 = some (some (.ref a)) ∧ (∀ H : Hp, SqT K H a [.ref u, .str q.2.2]) ∧ ∀ H : Hp, SqT K H u (q.2.1.map V.str)
  miss : ∀ x ∈ opM, PySem.W.nsIn K aOp x = some none
  aRk : Addr
  gRk : mg "RANKS" = some (.ref aRk)
  rk : RkDict K w aRk
  d_lowest : Fd K mg "lowest" 3 ["numerator", "denominator"]
  d_plus : Fd K mg "plus" 4 ["a", "b"]
  d_minus : Fd K mg "minus" 5 ["a", "b"]
  d_times : Fd K mg "times" 6 ["a", "b"]
  d_over : Fd K mg "over" 7 ["a", "b"]
  d_compare : Fd K mg "compare" 8 ["a", "b"]
  d_floor_of : Fd K mg "floor_of" 9 ["a"]
  d_ceiling_of : Fd K mg "ceiling_of" 10 ["a"]
  d_nearest_of : Fd K mg "nearest_of" 11 ["a"]
  d_as_number : Fd K mg "as_number" 12 ["a"]
  d_power_of_ten : Fd K mg "power_of_ten" 13 ["exponent"]
  d_decimal_places : Fd K mg "decimal_places" 14 ["denominator"]
  d_fraction_text : Fd K mg "fraction_text" 15 ["a"]
  d_cell_kind : Fd K mg "cell_kind" 19 ["cell"]
  d_compare_cells : Fd K mg "compare_cells" 20 ["a", "b"]
  d_cell_text : Fd K mg "cell_text" 21 ["cell"]
  d_position : Fd K mg "position" 23 ["columns", "name"]
  d_kind_in : Fd K mg "kind_in" 24 ["columns", "name"]
  d_parts_of : Fd K mg "parts_of" 28 ["expression"]
  d_kind_of : Fd K mg "kind_of" 29 ["expression", "columns"]
  d_other_kind : Fd K mg "other_kind" 30 ["expression", "kinds"]
  d_evaluate : Fd K mg "evaluate" 31 ["expression", "columns", "cells"]
  d_connected : Fd K mg "connected" 32 ["values", "decisive"]
  d_limited : Fd K mg "limited" 33 ["value"]
  d_of_one : Fd K mg "of_one" 34 ["word", "a"]
  d_of_two : Fd K mg "of_two" 35 ["word", "a", "b"]
  d__law_tape : Fd K mg "_law_tape" 37 ["_law_script"]
  d__law_draw : Fd K mg "_law_draw" 38 ["_law_tape_here", "_law_many"]
  d__law_is_integer : Fd K mg "_law_is_integer" 39 ["_law_value"]
  d__law_gcd : Fd K mg "_law_gcd" 40 ["_law_first", "_law_second"]
  d__law_ratio : Fd K mg "_law_ratio" 41 ["_law_top", "_law_bottom"]
  d__law_kept : Fd K mg "_law_kept" 42 ["_law_fraction"]
  d__law_number : Fd K mg "_law_number" 43 ["_law_tape_here"]
  d__law_small : Fd K mg "_law_small" 44 ["_law_tape_here"]
  d__law_sign : Fd K mg "_law_sign" 45 ["_law_tape_here"]
  d__law_text : Fd K mg "_law_text" 46 ["_law_tape_here", "_law_longest"]
  d__law_name : Fd K mg "_law_name" 47 ["_law_tape_here"]
  d__law_full : Fd K mg "_law_full" 48 ["_law_tape_here", "_law_kind_here"]
  d__law_cell : Fd K mg "_law_cell" 49 ["_law_tape_here", "_law_kind_here"]
  d__law_kind_drawn : Fd K mg "_law_kind_drawn" 50 ["_law_tape_here"]
  d__law_cell_kind : Fd K mg "_law_cell_kind" 51 ["_law_cell_here"]
  d__law_columns : Fd K mg "_law_columns" 52 ["_law_tape_here", "_law_most"]
  d__law_cells : Fd K mg "_law_cells" 53 ["_law_tape_here", "_law_columns_here"]
  d__law_stranger : Fd K mg "_law_stranger" 54 ["_law_tape_here", "_law_columns_here"]
  d__law_forms : Fd K mg "_law_forms" 55 ["_law_kind_here"]
  d__law_leaf : Fd K mg "_law_leaf" 56 ["_law_tape_here", "_law_columns_here", "_law_kind_here", "_law_drift"]
  d__law_tree : Fd K mg "_law_tree" 57 ["_law_tape_here", "_law_columns_here", "_law_kind_here", "_law_most", "_law_drift"]
  d__law_parts : Fd K mg "_law_parts" 58 ["_law_tree_here"]
  d__law_kind : Fd K mg "_law_kind" 59 ["_law_tree_here", "_law_columns_here"]
  d__law_mentioned : Fd K mg "_law_mentioned" 60 ["_law_tree_here"]
  d__law_fits : Fd K mg "_law_fits" 61 ["_law_cell_here", "_law_kind_here"]
  d__law_renamed : Fd K mg "_law_renamed" 62 ["_law_tree_here", "_law_names"]
  d__law_truth : Fd K mg "_law_truth" 63 ["_law_cell_here"]
  d__law_logical : Fd K mg "_law_logical" 64 ["_law_tree_here", "_law_other", "_law_columns_here", "_law_cells_here"]
  d_law : Fd K mg "law" 65 ["_law_script"]
/-! ### heaps -/
/-- all that was tracked is as it was, but for t -/
def Ext (t : Addr) (H H' : Hp) : Prop := ∀ b o, b ≠ t → H b = some o → H' b = some o
theorem Ext.refl (t : Addr) (H : Hp) : Ext t H H := fun _ _ _ h => h
theorem Ext.trans {t : Addr} {H H1 H2 : Hp} (a : Ext t H H1) (b : Ext t H1 H2) : Ext t H H2 := fun c o n h => b c o n (a c o n h)
theorem Same.ext {t : Addr} {H H' : Hp} (s : Same H H') : Ext t H H' := fun b o _ h => s b o h
theorem Ext.tape {t : Addr} {H : Hp} {o : HO} : Ext t H (upd H t o) := fun b u n h => by rw [upd_ne n]; exact h
theorem same_new {H : Hp} {p : Addr} {o : HO} (h : H p = none) : Same H (upd H p o) := fun b u q => by rw [upd_ne (ne_of_none q h)]; exact q
/-- what never changes -/
structure Keep (H H' : Hp) : Prop where
  t : ∀ b xs, H b = some (.tup xs) → H' b = some (.tup xs)
  f : ∀ b o u, H b = some (.frz o u) → H' b = some (.frz o u)
theorem Keep.refl (H : Hp) : Keep H H := ⟨fun _ _ h => h, fun _ _ _ h => h⟩
theorem Keep.trans {H H1 H2 : Hp} (a : Keep H H1) (b : Keep H1 H2) : Keep H H2 := ⟨fun c xs h => b.t c xs (a.t c xs h), fun c o u h => b.f c o u (a.f c o u h)⟩
theorem Same.keep {H H' : Hp} (s : Same H H') : Keep H H' := ⟨fun b xs h => s b _ h, fun b o u h => s b _ h⟩
theorem Ext.keep {t : Addr} {H H' : Hp} (s : Ext t H H') {xs : List V} (h : H t = some (.lst xs)) : Keep H H' :=
  ⟨fun b xs q => s b _ (ne_of q h fun z => by cases z) q, fun b o u q => s b _ (ne_of q h fun z => by cases z) q⟩
theorem keep_new {H : Hp} {p : Addr} {o : HO} (h : H p = none) : Keep H (upd H p o) := Same.keep (same_new h)
theorem keep_lst {H : Hp} {p : Addr} {xs : List V} {o : HO} (h : H p = some (.lst xs)) : Keep H (upd H p o) :=
  ⟨fun b xs q => by rw [upd_ne (ne_of q h fun z => by cases z)]; exact q, fun b o u q => by rw [upd_ne (ne_of q h fun z => by cases z)]; exact q⟩
theorem Keep.tup {K : PySem.W.Frag} {H H' : Hp} {a : Addr} {xs : List V} (e : Keep H H') (h : SqT K H a xs) : SqT K H' a xs := by
  rcases h with (h | ⟨o, h⟩) | h
  · exact .inl (.inl (e.t _ _ h))
  · exact .inl (.inr ⟨o, e.f _ _ _ h⟩)
  · exact .inr h
theorem same_tup {K : PySem.W.Frag} {H H' : Hp} {a : Addr} {xs : List V} (e : Same H H') (h : SqT K H a xs) : SqT K H' a xs := (Same.keep e).tup h
theorem small {n : Nat} (h : n ≤ 1000) : n ≤ sizeLine := Nat.le_of_lt (small1000 h)
/-! ### kinds, cells -/
inductive Kd where
  | num | txt | boo
  deriving DecidableEq
def Kd.s : Kd → Str
  | .num => "number"
  | .txt => "text"
  | .boo => "boolean"
def kdV : Option Kd → V
  | some k => .str k.s
  | none => .non
inductive Cell where
  | non | bl (b : Bool) | txt (x : Str) | num (n d : Int)
  deriving DecidableEq
def Cell.kind : Cell → Option Kd
  | .non => none
  | .bl _ => some .boo
  | .txt _ => some .txt
  | .num _ _ => some .num
/-- v is the cell c -/
def IsCell (K : PySem.W.Frag) (H : Hp) (v : V) : Cell → Prop
  | .non => v = .non
  | .bl b => v = .bl b
  | .txt x => v = .str x
  | .num n d => ∃ a, v = .ref a ∧ SqT K H a [.int n, .int d]
theorem IsCell.keep {K : PySem.W.Frag} {H H' : Hp} {v : V} {c : Cell} (h : IsCell K H v c) (e : Keep H H') : IsCell K H' v c := by
  cases c with
  | num n d =>
    obtain ⟨a, rfl, h⟩ := h
    exact ⟨a, rfl, e.tup h⟩
  | _ => exact h
end K7
/-! W1 -/
namespace K7
open PySem PySem.Spec PyProof.Rows L2
/-! ### fractions -/
def lowT (n d : Int) : Int × Int := if d < 0 then (-n / (Nat.gcd (-n).natAbs (-d).natAbs : Nat), -d / (Nat.gcd (-n).natAbs (-d).natAbs : Nat)) else (n / (Nat.gcd n.natAbs d.natAbs : Nat), d / (Nat.gcd n.natAbs d.natAbs : Nat))
def cellN (p : Int × Int) : Cell := .num p.1 p.2
def NumB (n d : Int) : Prop := 0 < d ∧ d < 1000000000000 ∧ n.natAbs < 1000000000000
theorem gcd_wide {n d : Int} {b : Nat} (h : d ≠ 0) (hb : d.natAbs < 2 ^ b) (h0 : 0 < b) (h9 : b ≤ 9000) (x : Int) : CDivW x ((Nat.gcd n.natAbs d.natAbs : Nat) : Int) := by
  have hp : 0 < d.natAbs := by omega
  have g0 : 0 < Nat.gcd n.natAbs d.natAbs := Nat.gcd_pos_of_pos_right _ hp
  have g1 : Nat.gcd n.natAbs d.natAbs ≤ d.natAbs := Nat.le_of_dvd hp (Nat.gcd_dvd_right _ _)
  exact wide_div (by omega) (b := b) (by omega) h0 h9
theorem mul_lt {a b : Int} (h : a.natAbs < 1000000000000) (h' : b.natAbs < 1000000000000) : (a * b).natAbs < 2 ^ 80 := wide_lt (a := 40) (b := 40) (by omega) (by omega)
def cmpT (a b c d : Int) : Int := (if decide (c * b < a * d) = true then 1 else 0) - (if decide (a * d < c * b) = true then 1 else 0)
def keepT (n d : Int) : Cell := if (if n < 0 then -n else n) < 1000000000000 ∧ d < 1000000000000 then .num n d else .non
section
variable {P : Program} {w : World} {K : PySem.W.Frag} {mg : Str → Option Value} {base : Heap}
theorem isCell_new {K : PySem.W.Frag} {H : Hp} {p : Addr} {a b : Int} : IsCell K (upd H p (.tup [.int a, .int b])) (.ref p) (.num a b) := ⟨p, rfl, .inl (.inl upd_same)⟩
def spLow (K : PySem.W.Frag) : Sp := fun vs H Q _ => ∃ n d : Int, vs = [.int n, .int d] ∧ d ≠ 0 ∧ d.natAbs < 2 ^ 200 ∧ ∀ v H', Same H H' → IsCell K H' v (cellN (lowT n d)) → Q v H'
abbrev N_lowest : List Str := ["numerator", "denominator", "common"]
theorem sc_lowest : FnScope N_lowest ["numerator", "denominator"] (defScope (topS 3)) := ⟨rfl, rfl, rfl, by decide +kernel, rfl, by decide +kernel, by decide +kernel⟩
theorem ok_lowest (E : Ev K w mg) : FnOk P w K mg base CX0 1 E.d_lowest.f E.d_lowest.fd ["numerator", "denominator"] (spLow K) := by
  refine E.d_lowest.F.ok sc_lowest (fun vs H Q X h => ?_) (fun cdv A outer s H vs Q X hr h => ?_)
  · obtain ⟨n, d, rfl, _⟩ := h
    rfl
  · obtain ⟨n, d, rfl, hd, hz, q⟩ := h
    refine ⟨_, PSs.nox (pss_cons (ps_if (pt_cmpR op_lt (pv 1) pe_int (nomark _)) (pss_one (ps_par (i := 0) (j := 1) (by rfl) sc_lowest.nd rfl rfl (by decide) rfl rfl (pa_cons (pe_un un_neg (pv 0)) (pa_cons (pe_un un_neg (pv 1)) pa_nil)) (by rfl))) pss_nil)
      (pss_cons (ps_set (i := 2) sc_lowest.nd rfl (.inl rfl) (pe_callBfun cr_gcd (by rfl) E.gcd (pa_cons (pv 0) (pa_cons (pv 1) pa_nil))))
      (pss_one (ps_ret (pe_tup (pa_cons (pe_op op_fdivW (pv 0) (pv 2)) (pa_cons (pe_op op_fdivW (pv 1) (pv 2)) pa_nil))))))), ?_⟩
    refine ⟨_, rfl, _, _, rfl, rfl, _, rfl, ite2 (fun c => ?_) (fun c => ?_)⟩
    · have c' : d < 0 := of_decide_eq_true c
      refine ⟨_, rfl, _, rfl, _, rfl, _, rfl, _, _, rfl, ?_⟩
      refine ⟨_, rfl, _, rfl, _, _, rfl, ?_⟩
      refine ⟨_, rfl, _, rfl, _, _, rfl, rfl, gcd_wide (b := 200) (by omega) (by omega) (by omega) (by omega) _, _, rfl, _, rfl, _, _, rfl, rfl, gcd_wide (b := 200) (by omega) (by omega) (by omega) (by omega) _, (by show 2 ≤ sizeLine; decide), fun p1 n1 => ?_⟩
      refine q _ _ (same_new n1) ?_
      unfold lowT
      rw [if_pos c']
      exact isCell_new
    · have c' : ¬ d < 0 := of_decide_eq_false (Bool.eq_false_iff.mpr c)
      refine ⟨_, rfl, _, rfl, _, _, rfl, ?_⟩
      refine ⟨_, rfl, _, rfl, _, _, rfl, rfl, gcd_wide (b := 200) (by omega) (by omega) (by omega) (by omega) _, _, rfl, _, rfl, _, _, rfl, rfl, gcd_wide (b := 200) (by omega) (by omega) (by omega) (by omega) _, (by show 2 ≤ sizeLine; decide), fun p1 n1 => ?_⟩
      refine q _ _ (same_new n1) ?_
      unfold lowT
      rw [if_neg c']
      exact isCell_new
/-- two numbers in, a number out -/
def spF2 (K : PySem.W.Frag) (g : Int → Int → Int → Int → Int × Int) (ok : Int → Int → Prop) : Sp := fun vs H Q _ => ∃ x y a b c d, vs = [x, y] ∧ IsCell K H x (.num a b) ∧ IsCell K H y (.num c d) ∧ NumB a b ∧ NumB c d ∧ ok c d ∧ ∀ v H', Same H H' → IsCell K H' v (cellN (g a b c d)) → Q v H'
def plusT (a b c d : Int) : Int × Int := lowT (a * d + c * b) (b * d)
def minusT (a b c d : Int) : Int × Int := lowT (a * d - c * b) (b * d)
def timesT (a b c d : Int) : Int × Int := lowT (a * c) (b * d)
def overT (a b c d : Int) : Int × Int := lowT (a * d) (b * c)
theorem mul_nz {b d : Int} (h : 0 < b) (h' : d ≠ 0) : b * d ≠ 0 := fun z => by
  rcases Int.mul_eq_zero.mp z with z | z
  · omega
  · exact h' z
theorem pow80 {n : Nat} (h : n < 2 ^ 80) : n < 2 ^ 200 := Nat.lt_trans h (by decide)
abbrev N_plus : List Str := ["a", "b"]
theorem sc_plus : FnScope N_plus ["a", "b"] (defScope (topS 4)) := ⟨rfl, rfl, rfl, by decide +kernel, rfl, by decide +kernel, by decide +kernel⟩
theorem ok_plus (E : Ev K w mg) : FnOk P w K mg base CX0 2 E.d_plus.f E.d_plus.fd ["a", "b"] (spF2 K plusT fun _ _ => True) := by
  refine E.d_plus.F.ok sc_plus (fun vs H Q X h => ?_) (fun cdv A outer s H vs Q X hr h => ?_)
  · obtain ⟨x, y, a, b, c, d, rfl, _⟩ := h
    rfl
  · obtain ⟨x, y, a, b, c, d, rfl, ⟨p, rfl, hp⟩, ⟨p', rfl, hp'⟩, ⟨b1, b2, b3⟩, ⟨d1, d2, d3⟩, _, q⟩ := h
    refine ⟨_, PSs.nox (pss_one (ps_ret (pe_call (ok_lowest E) (hr.mono (by omega)) (by rfl) E.d_lowest.g E.d_lowest.F.kp E.d_lowest.b .nil pass0 (pa_cons (pe_op op_add (pe_op op_mul (pe_ix ix_tup (pv 0) pe_int (fun _ _ => rfl)) (pe_ix ix_tup (pv 1) pe_int (fun _ _ => rfl))) (pe_op op_mul (pe_ix ix_tup (pv 1) pe_int (fun _ _ => rfl)) (pe_ix ix_tup (pv 0) pe_int (fun _ _ => rfl)))) (pa_cons (pe_op op_mul (pe_ix ix_tup (pv 0) pe_int (fun _ _ => rfl)) (pe_ix ix_tup (pv 1) pe_int (fun _ _ => rfl))) pa_nil))))), ?_⟩
    refine ⟨_, rfl, _, _, _, _, rfl, rfl, hp, atI_nat (j := 0) rfl, _, rfl, _, _, _, _, rfl, rfl, hp', atI_nat (j := 1) rfl, _, _, rfl, rfl, .inl ⟨by omega, by omega⟩, ?_⟩
    refine ⟨_, rfl, _, _, _, _, rfl, rfl, hp', atI_nat (j := 0) rfl, _, rfl, _, _, _, _, rfl, rfl, hp, atI_nat (j := 1) rfl, _, _, rfl, rfl, .inl ⟨by omega, by omega⟩, _, _, rfl, rfl, ?_⟩
    refine ⟨_, rfl, _, _, _, _, rfl, rfl, hp, atI_nat (j := 1) rfl, _, rfl, _, _, _, _, rfl, rfl, hp', atI_nat (j := 1) rfl, _, _, rfl, rfl, .inl ⟨by omega, by omega⟩, ?_⟩
    exact ⟨_, _, rfl, mul_nz b1 (by omega), pow80 (mul_lt (by omega) (by omega)), q⟩
abbrev N_minus : List Str := ["a", "b"]
theorem sc_minus : FnScope N_minus ["a", "b"] (defScope (topS 5)) := ⟨rfl, rfl, rfl, by decide +kernel, rfl, by decide +kernel, by decide +kernel⟩
theorem ok_minus (E : Ev K w mg) : FnOk P w K mg base CX0 2 E.d_minus.f E.d_minus.fd ["a", "b"] (spF2 K minusT fun _ _ => True) := by
  refine E.d_minus.F.ok sc_minus (fun vs H Q X h => ?_) (fun cdv A outer s H vs Q X hr h => ?_)
  · obtain ⟨x, y, a, b, c, d, rfl, _⟩ := h
    rfl
  · obtain ⟨x, y, a, b, c, d, rfl, ⟨p, rfl, hp⟩, ⟨p', rfl, hp'⟩, ⟨b1, b2, b3⟩, ⟨d1, d2, d3⟩, _, q⟩ := h
    refine ⟨_, PSs.nox (pss_one (ps_ret (pe_call (ok_lowest E) (hr.mono (by omega)) (by rfl) E.d_lowest.g E.d_lowest.F.kp E.d_lowest.b .nil pass0 (pa_cons (pe_op op_sub (pe_op op_mul (pe_ix ix_tup (pv 0) pe_int (fun _ _ => rfl)) (pe_ix ix_tup (pv 1) pe_int (fun _ _ => rfl))) (pe_op op_mul (pe_ix ix_tup (pv 1) pe_int (fun _ _ => rfl)) (pe_ix ix_tup (pv 0) pe_int (fun _ _ => rfl)))) (pa_cons (pe_op op_mul (pe_ix ix_tup (pv 0) pe_int (fun _ _ => rfl)) (pe_ix ix_tup (pv 1) pe_int (fun _ _ => rfl))) pa_nil))))), ?_⟩
    refine ⟨_, rfl, _, _, _, _, rfl, rfl, hp, atI_nat (j := 0) rfl, _, rfl, _, _, _, _, rfl, rfl, hp', atI_nat (j := 1) rfl, _, _, rfl, rfl, .inl ⟨by omega, by omega⟩, ?_⟩
    refine ⟨_, rfl, _, _, _, _, rfl, rfl, hp', atI_nat (j := 0) rfl, _, rfl, _, _, _, _, rfl, rfl, hp, atI_nat (j := 1) rfl, _, _, rfl, rfl, .inl ⟨by omega, by omega⟩, _, _, rfl, rfl, ?_⟩
    refine ⟨_, rfl, _, _, _, _, rfl, rfl, hp, atI_nat (j := 1) rfl, _, rfl, _, _, _, _, rfl, rfl, hp', atI_nat (j := 1) rfl, _, _, rfl, rfl, .inl ⟨by omega, by omega⟩, ?_⟩
    exact ⟨_, _, rfl, mul_nz b1 (by omega), pow80 (mul_lt (by omega) (by omega)), q⟩
abbrev N_times : List Str := ["a", "b"]
theorem sc_times : FnScope N_times ["a", "b"] (defScope (topS 6)) := ⟨rfl, rfl, rfl, by decide +kernel, rfl, by decide +kernel, by decide +kernel⟩
theorem ok_times (E : Ev K w mg) : FnOk P w K mg base CX0 2 E.d_times.f E.d_times.fd ["a", "b"] (spF2 K timesT fun _ _ => True) := by
  refine E.d_times.F.ok sc_times (fun vs H Q X h => ?_) (fun cdv A outer s H vs Q X hr h => ?_)
  · obtain ⟨x, y, a, b, c, d, rfl, _⟩ := h
    rfl
  · obtain ⟨x, y, a, b, c, d, rfl, ⟨p, rfl, hp⟩, ⟨p', rfl, hp'⟩, ⟨b1, b2, b3⟩, ⟨d1, d2, d3⟩, _, q⟩ := h
    refine ⟨_, PSs.nox (pss_one (ps_ret (pe_call (ok_lowest E) (hr.mono (by omega)) (by rfl) E.d_lowest.g E.d_lowest.F.kp E.d_lowest.b .nil pass0 (pa_cons (pe_op op_mul (pe_ix ix_tup (pv 0) pe_int (fun _ _ => rfl)) (pe_ix ix_tup (pv 1) pe_int (fun _ _ => rfl))) (pa_cons (pe_op op_mul (pe_ix ix_tup (pv 0) pe_int (fun _ _ => rfl)) (pe_ix ix_tup (pv 1) pe_int (fun _ _ => rfl))) pa_nil))))), ?_⟩
    refine ⟨_, rfl, _, _, _, _, rfl, rfl, hp, atI_nat (j := 0) rfl, _, rfl, _, _, _, _, rfl, rfl, hp', atI_nat (j := 0) rfl, _, _, rfl, rfl, .inl ⟨by omega, by omega⟩, ?_⟩
    refine ⟨_, rfl, _, _, _, _, rfl, rfl, hp, atI_nat (j := 1) rfl, _, rfl, _, _, _, _, rfl, rfl, hp', atI_nat (j := 1) rfl, _, _, rfl, rfl, .inl ⟨by omega, by omega⟩, ?_⟩
    exact ⟨_, _, rfl, mul_nz b1 (by omega), pow80 (mul_lt (by omega) (by omega)), q⟩
abbrev N_over : List Str := ["a", "b"]
theorem sc_over : FnScope N_over ["a", "b"] (defScope (topS 7)) := ⟨rfl, rfl, rfl, by decide +kernel, rfl, by decide +kernel, by decide +kernel⟩
theorem ok_over (E : Ev K w mg) : FnOk P w K mg base CX0 2 E.d_over.f E.d_over.fd ["a", "b"] (spF2 K overT fun c _ => c ≠ 0) := by
  refine E.d_over.F.ok sc_over (fun vs H Q X h => ?_) (fun cdv A outer s H vs Q X hr h => ?_)
  · obtain ⟨x, y, a, b, c, d, rfl, _⟩ := h
    rfl
  · obtain ⟨x, y, a, b, c, d, rfl, ⟨p, rfl, hp⟩, ⟨p', rfl, hp'⟩, ⟨b1, b2, b3⟩, ⟨d1, d2, d3⟩, hc, q⟩ := h
    refine ⟨_, PSs.nox (pss_one (ps_ret (pe_call (ok_lowest E) (hr.mono (by omega)) (by rfl) E.d_lowest.g E.d_lowest.F.kp E.d_lowest.b .nil pass0 (pa_cons (pe_op op_mul (pe_ix ix_tup (pv 0) pe_int (fun _ _ => rfl)) (pe_ix ix_tup (pv 1) pe_int (fun _ _ => rfl))) (pa_cons (pe_op op_mul (pe_ix ix_tup (pv 0) pe_int (fun _ _ => rfl)) (pe_ix ix_tup (pv 1) pe_int (fun _ _ => rfl))) pa_nil))))), ?_⟩
    refine ⟨_, rfl, _, _, _, _, rfl, rfl, hp, atI_nat (j := 0) rfl, _, rfl, _, _, _, _, rfl, rfl, hp', atI_nat (j := 1) rfl, _, _, rfl, rfl, .inl ⟨by omega, by omega⟩, ?_⟩
    refine ⟨_, rfl, _, _, _, _, rfl, rfl, hp, atI_nat (j := 1) rfl, _, rfl, _, _, _, _, rfl, rfl, hp', atI_nat (j := 0) rfl, _, _, rfl, rfl, .inl ⟨by omega, by omega⟩, ?_⟩
    exact ⟨_, _, rfl, mul_nz b1 hc, pow80 (mul_lt (by omega) (by omega)), q⟩
def spCmp (K : PySem.W.Frag) : Sp := fun vs H Q _ => ∃ x y a b c d, vs = [x, y] ∧ IsCell K H x (.num a b) ∧ IsCell K H y (.num c d) ∧ NumB a b ∧ NumB c d ∧ Q (.int (cmpT a b c d)) H
abbrev N_compare : List Str := ["a", "b", "left", "right"]
theorem sc_compare : FnScope N_compare ["a", "b"] (defScope (topS 8)) := ⟨rfl, rfl, rfl, by decide +kernel, rfl, by decide +kernel, by decide +kernel⟩
theorem ok_compare (E : Ev K w mg) : FnOk P w K mg base CX0 1 E.d_compare.f E.d_compare.fd ["a", "b"] (spCmp K) := by
  refine E.d_compare.F.ok sc_compare (fun vs H Q X h => ?_) (fun cdv A outer s H vs Q X hr h => ?_)
  · obtain ⟨x, y, a, b, c, d, rfl, _⟩ := h
    rfl
  · obtain ⟨x, y, a, b, c, d, rfl, ⟨p, rfl, hp⟩, ⟨p', rfl, hp'⟩, ⟨b1, b2, b3⟩, ⟨d1, d2, d3⟩, q⟩ := h
    refine ⟨_, PSs.nox (pss_cons (ps_set (i := 2) sc_compare.nd rfl (.inl rfl) (pe_op op_mul (pe_ix ix_tup (pv 0) pe_int (fun _ _ => rfl)) (pe_ix ix_tup (pv 1) pe_int (fun _ _ => rfl))))
      (pss_cons (ps_set (i := 3) sc_compare.nd rfl (.inl rfl) (pe_op op_mul (pe_ix ix_tup (pv 1) pe_int (fun _ _ => rfl)) (pe_ix ix_tup (pv 0) pe_int (fun _ _ => rfl))))
      (pss_one (ps_ret (pe_op op_sub (pe_callTy call_int1 (by rfl) E.n_int (by decide +kernel) (pa_cons (pe_cmpR op_gt (pv 2) (pv 3) (nomark _)) pa_nil)) (pe_callTy call_int1 (by rfl) E.n_int (by decide +kernel) (pa_cons (pe_cmpR op_lt (pv 2) (pv 3) (nomark _)) pa_nil))))))), ?_⟩
    refine ⟨_, rfl, _, _, _, _, rfl, rfl, hp, atI_nat (j := 0) rfl, _, rfl, _, _, _, _, rfl, rfl, hp', atI_nat (j := 1) rfl, _, _, rfl, rfl, .inl ⟨by omega, by omega⟩, ?_⟩
    refine ⟨_, rfl, _, _, _, _, rfl, rfl, hp', atI_nat (j := 0) rfl, _, rfl, _, _, _, _, rfl, rfl, hp, atI_nat (j := 1) rfl, _, _, rfl, rfl, .inl ⟨by omega, by omega⟩, ?_⟩
    refine ⟨_, rfl, _, rfl, _, _, rfl, rfl, .inr ⟨_, rfl, ?_⟩⟩
    refine ⟨_, rfl, _, rfl, _, _, rfl, rfl, .inr ⟨_, rfl, ?_⟩⟩
    exact ⟨_, _, rfl, rfl, q⟩
/-- one number in, an int out -/
def spF1 (K : PySem.W.Frag) (g : Int → Int → Int) : Sp := fun vs H Q _ => ∃ x a b, vs = [x] ∧ IsCell K H x (.num a b) ∧ NumB a b ∧ Q (.int (g a b)) H
def floorT (a b : Int) : Int := a / b
def ceilT (a b : Int) : Int := -(-a / b)
def nearT (a b : Int) : Int := (2 * a + b) / (2 * b)
abbrev N_floor_of : List Str := ["a"]
theorem sc_floor_of : FnScope N_floor_of ["a"] (defScope (topS 9)) := ⟨rfl, rfl, rfl, by decide +kernel, rfl, by decide +kernel, by decide +kernel⟩
theorem ok_floor_of (E : Ev K w mg) : FnOk P w K mg base CX0 1 E.d_floor_of.f E.d_floor_of.fd ["a"] (spF1 K floorT) := by
  refine E.d_floor_of.F.ok sc_floor_of (fun vs H Q X h => ?_) (fun cdv A outer s H vs Q X hr h => ?_)
  · obtain ⟨x, a, b, rfl, _⟩ := h
    rfl
  · obtain ⟨x, a, b, rfl, ⟨p, rfl, hp⟩, ⟨b1, b2, b3⟩, q⟩ := h
    refine ⟨_, PSs.nox (pss_one (ps_ret (pe_op op_fdivW (pe_ix ix_tup (pv 0) pe_int (fun _ _ => rfl)) (pe_ix ix_tup (pv 0) pe_int (fun _ _ => rfl))))), ?_⟩
    exact ⟨_, rfl, _, _, _, _, rfl, rfl, hp, atI_nat (j := 0) rfl, _, rfl, _, _, _, _, rfl, rfl, hp, atI_nat (j := 1) rfl, _, _, rfl, rfl, wide_div (b := 50) b1 (by omega) (by omega) (by omega), q⟩
abbrev N_ceiling_of : List Str := ["a"]
theorem sc_ceiling_of : FnScope N_ceiling_of ["a"] (defScope (topS 10)) := ⟨rfl, rfl, rfl, by decide +kernel, rfl, by decide +kernel, by decide +kernel⟩
theorem ok_ceiling_of (E : Ev K w mg) : FnOk P w K mg base CX0 1 E.d_ceiling_of.f E.d_ceiling_of.fd ["a"] (spF1 K ceilT) := by
  refine E.d_ceiling_of.F.ok sc_ceiling_of (fun vs H Q X h => ?_) (fun cdv A outer s H vs Q X hr h => ?_)
  · obtain ⟨x, a, b, rfl, _⟩ := h
    rfl
  · obtain ⟨x, a, b, rfl, ⟨p, rfl, hp⟩, ⟨b1, b2, b3⟩, q⟩ := h
    refine ⟨_, PSs.nox (pss_one (ps_ret (pe_un un_neg (pe_op op_fdivW (pe_un un_neg (pe_ix ix_tup (pv 0) pe_int (fun _ _ => rfl))) (pe_ix ix_tup (pv 0) pe_int (fun _ _ => rfl)))))), ?_⟩
    exact ⟨_, rfl, _, _, _, _, rfl, rfl, hp, atI_nat (j := 0) rfl, _, rfl, _, rfl, _, _, _, _, rfl, rfl, hp, atI_nat (j := 1) rfl, _, _, rfl, rfl, wide_div (b := 50) b1 (by omega) (by omega) (by omega), _, rfl, q⟩
abbrev N_nearest_of : List Str := ["a"]
theorem sc_nearest_of : FnScope N_nearest_of ["a"] (defScope (topS 11)) := ⟨rfl, rfl, rfl, by decide +kernel, rfl, by decide +kernel, by decide +kernel⟩
theorem ok_nearest_of (E : Ev K w mg) : FnOk P w K mg base CX0 1 E.d_nearest_of.f E.d_nearest_of.fd ["a"] (spF1 K nearT) := by
  refine E.d_nearest_of.F.ok sc_nearest_of (fun vs H Q X h => ?_) (fun cdv A outer s H vs Q X hr h => ?_)
  · obtain ⟨x, a, b, rfl, _⟩ := h
    rfl
  · obtain ⟨x, a, b, rfl, ⟨p, rfl, hp⟩, ⟨b1, b2, b3⟩, q⟩ := h
    refine ⟨_, PSs.nox (pss_one (ps_ret (pe_op op_fdivW (pe_op op_add (pe_op op_mul pe_int (pe_ix ix_tup (pv 0) pe_int (fun _ _ => rfl))) (pe_ix ix_tup (pv 0) pe_int (fun _ _ => rfl))) (pe_op op_mul pe_int (pe_ix ix_tup (pv 0) pe_int (fun _ _ => rfl)))))), ?_⟩
    refine ⟨_, rfl, _, _, _, _, rfl, rfl, hp, atI_nat (j := 0) rfl, _, _, rfl, rfl, .inl ⟨by omega, by omega⟩, _, rfl, _, _, _, _, rfl, rfl, hp, atI_nat (j := 1) rfl, _, _, rfl, rfl, ?_⟩
    exact ⟨_, rfl, _, _, _, _, rfl, rfl, hp, atI_nat (j := 1) rfl, _, _, rfl, rfl, .inl ⟨by omega, by omega⟩, _, _, rfl, rfl, wide_div (b := 50) (by omega) (by omega) (by omega) (by omega), q⟩
def spAsn (K : PySem.W.Frag) : Sp := fun vs H Q _ => ∃ x a b, vs = [x] ∧ IsCell K H x (.num a b) ∧ ∀ v, IsCell K H v (keepT a b) → Q v H
abbrev N_as_number : List Str := ["a"]
theorem sc_as_number : FnScope N_as_number ["a"] (defScope (topS 12)) := ⟨rfl, rfl, rfl, by decide +kernel, rfl, by decide +kernel, by decide +kernel⟩
theorem ok_as_number (E : Ev K w mg) : FnOk P w K mg base CX0 1 E.d_as_number.f E.d_as_number.fd ["a"] (spAsn K) := by
  refine E.d_as_number.F.ok sc_as_number (fun vs H Q X h => ?_) (fun cdv A outer s H vs Q X hr h => ?_)
  · obtain ⟨x, a, b, rfl, _⟩ := h
    rfl
  · obtain ⟨x, a, b, rfl, ⟨p, rfl, hp⟩, q⟩ := h
    refine ⟨_, PSs.nox (pss_cons (ps_if (PW.pt (pw_and (pt_cmpR op_lt (pe_callB call_abs (by rfl) E.n_abs (by decide +kernel) (pa_cons (pe_ix ix_tup (pv 0) pe_int (fun _ _ => rfl)) pa_nil)) (pe_glob rfl E.limit (v := .int 1000000000000) ⟨_, rfl⟩) (nomark _)) (pw_and1 (pt_cmpR op_lt (pe_ix ix_tup (pv 0) pe_int (fun _ _ => rfl)) (pe_glob rfl E.limit (v := .int 1000000000000) ⟨_, rfl⟩) (nomark _))))) (pss_one (ps_ret (pv 0))) pss_nil)
      (pss_one (ps_ret pe_non))), ?_⟩
    refine ⟨_, rfl, _, _, _, _, rfl, rfl, hp, atI_nat (j := 0) rfl, _, rfl, _, _, rfl, rfl, _, rfl, ite2 (fun c => ?_) (fun c => ?_)⟩
    · have c' : (if a < 0 then -a else a) < 1000000000000 := of_decide_eq_true c
      refine ⟨_, rfl, _, _, _, _, rfl, rfl, hp, atI_nat (j := 1) rfl, _, _, rfl, rfl, _, rfl, ite2 (fun e => ?_) (fun e => ?_)⟩
      · have e' : b < 1000000000000 := of_decide_eq_true e
        refine ⟨_, rfl, q _ ?_⟩
        unfold keepT
        rw [if_pos ⟨c', e'⟩]
        exact ⟨p, rfl, hp⟩
      · have e' : ¬ b < 1000000000000 := of_decide_eq_false (Bool.eq_false_iff.mpr e)
        refine q _ ?_
        unfold keepT
        rw [if_neg fun z => e' z.2]
        exact rfl
    · have c' : ¬ (if a < 0 then -a else a) < 1000000000000 := of_decide_eq_false (Bool.eq_false_iff.mpr c)
      refine iteF ?_
      refine q _ ?_
      unfold keepT
      rw [if_neg fun z => c' z.1]
      exact rfl
end
end K7
/-! W2 -/
namespace K7
open PySem PySem.Spec PyProof.Rows L2 TL
/-! ### texts: plain signs -/
def Asc (x : Str) : Prop := ∀ c ∈ tl x, c < 128
theorem asc_app {x y : Str} (h : Asc x) (h' : Asc y) : Asc (x ++ y) := fun c hc => by
  have e : tl (x ++ y) = tl x ++ tl y := Array.toList_append
  rw [e] at hc
  rcases List.mem_append.mp hc with z | z
  · exact h c z
  · exact h' c z
theorem asc_lit {x : Str} (h : (tl x).all (fun c => decide (c < 128)) = true) : Asc x := fun c hc => of_decide_eq_true (List.all_eq_true.mp h c hc)
theorem asc_cut {x : Str} (h : Asc x) (lo hi : Option Int) : Asc (cutS x lo hi) := fun c hc => by
  have hc' : c ∈ ((x.cps.toList.drop (HT.sIx x.length 0 lo)).take (HT.sIx x.length x.length hi - HT.sIx x.length 0 lo)) := by
    have z : c ∈ (((x.cps.toList.drop (HT.sIx x.length 0 lo)).take (HT.sIx x.length x.length hi - HT.sIx x.length 0 lo)).toArray).toList := hc
    simpa using z
  exact h c (List.mem_of_mem_drop (List.mem_of_mem_take hc'))
theorem asc_nat (n : Nat) : Asc (Str.ofString (toString ((n : Nat) : Int))) := fun c hc => by
  rw [tl_num] at hc
  have := numL_digits n c hc
  omega
theorem asc_str {s : String} (h : ∀ c ∈ s.toList, c.toNat < 128) : Asc (Str.ofString s) := fun c hc => by
  rw [Str.ofString_eq_toList] at hc
  have z : c ∈ s.toList.map Char.toNat := by simpa using hc
  obtain ⟨d, hd, rfl⟩ := List.mem_map.mp z
  exact h d hd
theorem asc_int (i : Int) : Asc (Str.ofString (toString i)) := by
  rcases (show i < 0 ∨ 0 ≤ i by omega) with h | h
  · obtain ⟨m, rfl⟩ : ∃ m : Nat, i = Int.negSucc m := ⟨(-i - 1).toNat, by omega⟩
    refine asc_str fun c hc => ?_
    have e : toString (Int.negSucc m) = "-" ++ toString (m + 1) := rfl
    rw [e, String.toList_append] at hc
    rcases List.mem_append.mp hc with z | z
    · have : c = '-' := by simpa using z
      rw [this]
      decide
    · have q := asc_nat (m + 1) c.toNat (by
        rw [Str.ofString_eq_toList]
        show c.toNat ∈ ((toString (((m + 1 : Nat)) : Int)).toList.map Char.toNat).toArray.toList
        have e2 : toString (((m + 1 : Nat)) : Int) = toString (m + 1) := rfl
        rw [e2]
        simpa using List.mem_map.mpr ⟨c, z, rfl⟩)
      exact q
  · obtain ⟨m, rfl⟩ : ∃ m : Nat, i = (m : Int) := ⟨i.toNat, by omega⟩
    exact asc_nat m
theorem asc_zfill {x : Str} (h : Asc x) (i : Int) : Asc (Txt.zfill x i) := by
  have hp : ∀ (y : Str) (k : Nat), Asc y → Asc (Builtin.Str.padded y k 0 48) := fun y k hy c hc => by
    have z : c ∈ (Array.replicate k 48 ++ y.cps ++ Array.replicate 0 48).toList := hc
    simp only [Array.toList_append, Array.toList_replicate, List.mem_append, List.mem_replicate] at z
    rcases z with (z | z) | z
    · omega
    · exact hy c z
    · omega
  have hs : ∀ (a b : Nat), Asc (Builtin.Str.strSub x a b) := fun a b c hc => by
    have z : c ∈ (x.cps.extract a b).toList := hc
    rw [Array.toList_extract] at z
    exact h c (List.mem_of_mem_drop (List.mem_of_mem_take z))
  unfold Txt.zfill
  split
  · exact h
  · unfold PySem.zfilled
    split
    · exact asc_app (hs _ _) (hp _ _ (hs _ _))
    · exact asc_app (hs _ _) (hp _ _ (hs _ _))
    · exact hp _ _ h
theorem zfill_len (x : Str) (i : Int) : (Txt.zfill x i).length ≤ x.length + i.toNat := by
  unfold Txt.zfill
  split
  · omega
  · have hp : ∀ (y : Str) (k : Nat), (Builtin.Str.padded y k 0 48).length = k + y.length := fun y k => by
      show (Array.replicate k 48 ++ y.cps ++ Array.replicate 0 48).size = k + y.cps.size
      simp
    have hs : ∀ (a b : Nat), (Builtin.Str.strSub x a b).length ≤ b - a := fun a b => by
      show (x.cps.extract a b).size ≤ b - a
      rw [Array.size_extract]
      omega
    unfold PySem.zfilled
    split
    · rw [Str.length_append, hp]
      have h1 := hs 0 1
      have h2 := hs 1 x.length
      have h3 : 1 ≤ x.length := by
        rename_i q
        have := (Array.getElem?_eq_some_iff.mp q).1
        exact this
      omega
    · rw [Str.length_append, hp]
      have h1 := hs 0 1
      have h2 := hs 1 x.length
      have h3 : 1 ≤ x.length := by
        rename_i q
        have := (Array.getElem?_eq_some_iff.mp q).1
        exact this
      omega
    · rw [hp]
      omega
theorem pad_ok {i : Int} (h0 : 0 ≤ i) (h : i ≤ 1000) : PadOk i = true := by
  obtain ⟨n, rfl⟩ : ∃ n : Nat, i = (n : Int) := ⟨i.toNat, by omega⟩
  have hn : n ≤ 1000 := by omega
  unfold PadOk
  have e1 : fitsSsize (n : Int) = true := by
    unfold fitsSsize
    simp
    omega
  have e2 : Builtin.Str.tooLong ((n : Int)).toNat = false := by
    unfold Builtin.Str.tooLong
    rw [sizeLine_eq]
    exact decide_eq_false (by omega)
  rw [e1, e2] <;> rfl
theorem int_len {i : Int} {k : Nat} (hk : 0 < k) (h : i.natAbs < 10 ^ k) : (Str.ofString (toString i)).length ≤ k + 1 := by
  have e := int_text_length_le10 (k := k) hk h
  rw [PySem.ofString_length]
  exact e
/-! ### the decimal places -/
def decW (p : Int) : Nat → Int → Int × Int
  | 0, d => (0, d)
  | f + 1, d => if d % p = 0 then ((decW p f (d / p)).1 + 1, (decW p f (d / p)).2) else (0, d)
theorem decW_stop {p : Int} {d : Int} (h : d % p ≠ 0) : ∀ f, decW p f d = (0, d)
  | 0 => rfl
  | f + 1 => by
    unfold decW
    rw [if_neg h]
theorem decW_go {p : Int} {f : Nat} {d : Int} (h : d % p = 0) : decW p (f + 1) d = ((decW p f (d / p)).1 + 1, (decW p f (d / p)).2) := by
  rw [decW, if_pos h]
theorem decW_pos {p : Int} (hp : 2 ≤ p) : ∀ (f : Nat) (d : Int), 1 ≤ d → 1 ≤ (decW p f d).2 ∧ (decW p f d).2 ≤ d ∧ 0 ≤ (decW p f d).1 ∧ (decW p f d).1 ≤ f
  | 0, d, h => ⟨h, Int.le_refl _, Int.le_refl _, Int.le_refl _⟩
  | f + 1, d, h => by
    by_cases c : d % p = 0
    · rw [decW_go c]
      have e : p * (d / p) = d := Int.mul_ediv_cancel_of_emod_eq_zero c
      have h1 : 1 ≤ d / p := by
        rcases (show d / p ≤ 0 ∨ 1 ≤ d / p by omega) with z | z
        · have : p * (d / p) ≤ 0 := Int.mul_nonpos_of_nonneg_of_nonpos (by omega) z
          omega
        · exact z
      have h2 : d / p ≤ d := Int.ediv_le_self p (by omega)
      obtain ⟨a1, a2, a3, a4⟩ := decW_pos hp f (d / p) h1
      refine ⟨a1, Int.le_trans a2 h2, ?_, ?_⟩
      · show 0 ≤ (decW p f (d / p)).1 + 1
        omega
      · show (decW p f (d / p)).1 + 1 ≤ ((f + 1 : Nat) : Int)
        omega
    · rw [decW_stop c]
      exact ⟨h, Int.le_refl _, Int.le_refl _, by omega⟩
theorem div_step {p x : Int} {f : Nat} (hp : 2 ≤ p) (h1 : 1 ≤ x) (h2 : x < 2 ^ f) (c : x % p = 0) : ∃ g, f = g + 1 ∧ 1 ≤ x / p ∧ x / p < 2 ^ g ∧ x / p < x := by
  have e : p * (x / p) = x := Int.mul_ediv_cancel_of_emod_eq_zero c
  have a1 : 1 ≤ x / p := by
    rcases (show x / p ≤ 0 ∨ 1 ≤ x / p by omega) with z | z
    · have : p * (x / p) ≤ 0 := Int.mul_nonpos_of_nonneg_of_nonpos (by omega) z
      omega
    · exact z
  have a2 : 2 * (x / p) ≤ p * (x / p) := Int.mul_le_mul_of_nonneg_right hp (by omega)
  cases f with
  | zero =>
    have : (2 : Int) ^ 0 = 1 := rfl
    omega
  | succ g =>
    have : (2 : Int) ^ (g + 1) = 2 ^ g * 2 := Int.pow_succ 2 g
    exact ⟨g, rfl, a1, by omega, by omega⟩
/-- how many digits stand behind the point -/
def decT (d : Int) : Option Int := if (decW 5 60 (decW 2 60 d).2).2 = 1 then some (if (decW 5 60 (decW 2 60 d).2).1 > (decW 2 60 d).1 then (decW 5 60 (decW 2 60 d).2).1 else (decW 2 60 d).1) else none
theorem decT_le {d p : Int} (h : 1 ≤ d) (e : decT d = some p) : 0 ≤ p ∧ p ≤ 60 := by
  have a := decW_pos (p := 2) (by omega) 60 d h
  have b := decW_pos (p := 5) (by omega) 60 (decW 2 60 d).2 a.1
  unfold decT at e
  split at e
  · have e2 := Option.some.inj e
    split at e2 <;> omega
  · cases e
def optV : Option Int → V
  | some i => .int i
  | none => .non
section
variable {P : Program} {w : World} {K : PySem.W.Frag} {mg : Str → Option Value} {base : Heap}
def spPow : Sp := fun vs H Q _ => ∃ n : Nat, vs = [.int n] ∧ n ≤ 1000 ∧ Q (.int (10 ^ n)) H
abbrev N_power_of_ten : List Str := ["exponent", "result", "_"]
theorem sc_power_of_ten : FnScope N_power_of_ten ["exponent"] (defScope (topS 13)) := ⟨rfl, rfl, rfl, by decide +kernel, rfl, by decide +kernel, by decide +kernel⟩
theorem ok_power_of_ten (E : Ev K w mg) : FnOk P w K mg base CX0 1 E.d_power_of_ten.f E.d_power_of_ten.fd ["exponent"] spPow := by
  refine E.d_power_of_ten.F.ok sc_power_of_ten (fun vs H Q X h => ?_) (fun cdv A outer s H vs Q X hr h => ?_)
  · obtain ⟨n, rfl, _⟩ := h
    rfl
  · obtain ⟨n, rfl, hn, q⟩ := h
    refine ⟨_, PSs.nox (pss_cons (ps_set (i := 1) sc_power_of_ten.nd rfl (.inl rfl) pe_int)
      (pss_cons (ps_for PassesOwn.never rfl (pi_range1 rfl E.n_range (pa_cons (pv 0) pa_nil)) (pg_name (i := 2) sc_power_of_ten.nd rfl (.inl rfl))
        (pss_one (ps_set (i := 1) sc_power_of_ten.nd rfl (.inl rfl) (pe_op op_mul (pv 1) pe_int))))
      (pss_one (ps_ret (pv 1))))), ?_⟩
    refine ⟨_, rfl, _, rfl, by omega, by omega, for_range (n := n) (fun i σ H' => ∃ y, σ = [some (.int n), some (.int (10 ^ i)), y] ∧ H' = H) ⟨_, rfl, rfl⟩ (fun i σ H' hi hp => ?_) (fun σ H' hp => ?_)⟩
    · obtain ⟨y, rfl, rfl⟩ := hp
      refine ⟨_, rfl, _, _, rfl, rfl, .inr ⟨by omega, by omega⟩, some (.int (0 + i)), ?_, rfl⟩
      rw [Int.pow_succ]
      rfl
    · obtain ⟨y, rfl, rfl⟩ := hp
      exact ⟨_, rfl, q⟩
def spDec : Sp := fun vs H Q _ => ∃ d : Int, vs = [.int d] ∧ 1 ≤ d ∧ d < 2 ^ 50 ∧ Q (optV (decT d)) H
abbrev N_decimal_places : List Str := ["denominator", "twos", "fives"]
theorem sc_decimal_places : FnScope N_decimal_places ["denominator"] (defScope (topS 14)) := ⟨rfl, rfl, rfl, by decide +kernel, rfl, by decide +kernel, by decide +kernel⟩
theorem ok_decimal_places (E : Ev K w mg) : FnOk P w K mg base CX0 1 E.d_decimal_places.f E.d_decimal_places.fd ["denominator"] spDec := by
  refine E.d_decimal_places.F.ok sc_decimal_places (fun vs H Q X h => ?_) (fun cdv A outer s H vs Q X hr h => ?_)
  · obtain ⟨n, rfl, _⟩ := h
    rfl
  · obtain ⟨d, rfl, h1, h2, q⟩ := h
    refine ⟨_, PSs.nox (pss_cons (ps_set (i := 1) sc_decimal_places.nd rfl (.inl rfl) pe_int)
      (pss_cons (ps_while PassesOwn.never (pt_cmpR op_eq (pe_op op_mod (pv 0) pe_int) pe_int (nomark _)) (pss_cons (ps_set (i := 0) sc_decimal_places.nd rfl (.inl rfl) (pe_op op_fdiv (pv 0) pe_int))
        (pss_one (ps_aug (i := 1) sc_decimal_places.nd rfl (.inl rfl) pe_int ip_add))))
      (pss_cons (ps_set (i := 2) sc_decimal_places.nd rfl (.inl rfl) pe_int)
      (pss_cons (ps_while PassesOwn.never (pt_cmpR op_eq (pe_op op_mod (pv 0) pe_int) pe_int (nomark _)) (pss_cons (ps_set (i := 0) sc_decimal_places.nd rfl (.inl rfl) (pe_op op_fdiv (pv 0) pe_int))
        (pss_one (ps_aug (i := 2) sc_decimal_places.nd rfl (.inl rfl) pe_int ip_add))))
      (pss_cons (ps_if (pt_cmpR op_ne (pv 0) pe_int (nomark _)) (pss_one (ps_ret pe_non)) pss_nil)
      (pss_one (ps_ret (pe_callB (call_max2 rfl) (by rfl) E.n_max (by decide +kernel) (pa_cons (pv 1) (pa_cons (pv 2) pa_nil)))))))))), ?_⟩
    have b2 := decW_pos (p := 2) (by omega) 60 d h1
    refine ⟨fun m σ H' => ∃ (f : Nat) (x i : Int) (y : Option V), σ = [some (.int x), some (.int i), y] ∧ H' = H ∧ 1 ≤ x ∧ x < 2 ^ f ∧ (decW 2 f x).1 + i = (decW 2 60 d).1 ∧ (decW 2 f x).2 = (decW 2 60 d).2 ∧ m = x.toNat,
      ⟨_, 60, d, 0, none, rfl, rfl, h1, Int.lt_trans h2 (by decide), by omega, rfl, rfl⟩, fun m σ H' hW => ?_⟩
    obtain ⟨f, x, i, y, rfl, rfl, x1, x2, e1, e2, rfl⟩ := hW
    refine ⟨_, rfl, _, _, rfl, rfl, (by show (0 : Int) < _; omega), rfl, _, rfl, ite2 (fun c => ?_) (fun c => ?_)⟩
    · have c' : x % 2 = 0 := V.int.inj (of_decide_eq_true c)
      obtain ⟨g, rfl, a1, a2, a3⟩ := div_step (by omega) x1 x2 c'
      rw [decW_go c'] at e1 e2
      have e1' : (decW 2 g (x / 2)).1 + 1 + i = (decW 2 60 d).1 := e1
      refine ⟨fun σ H2 => σ = [some (.int (x / 2)), some (.int (i + 1)), y] ∧ H2 = H', fun σ H2 hN => ⟨_, ?_, g, x / 2, i + 1, y, hN.1, hN.2, a1, a2, by omega, e2, rfl⟩, ?_⟩
      · omega
      · refine ⟨_, rfl, _, _, rfl, rfl, ⟨by omega, by omega⟩, ?_⟩
        exact ⟨_, rfl, _, _, rfl, rfl, rfl, rfl⟩
    · have c' : ¬ x % 2 = 0 := fun z => of_decide_eq_false (Bool.eq_false_iff.mpr c) (congrArg V.int z)
      rw [decW_stop c'] at e1 e2
      have e1' : (0 : Int) + i = (decW 2 60 d).1 := e1
      have e2' : x = (decW 2 60 d).2 := e2
      have e3 : i = (decW 2 60 d).1 := by omega
      subst e2'
      have b5 := decW_pos (p := 5) (by omega) 60 (decW 2 60 d).2 b2.1
      refine ⟨fun m σ H2 => ∃ (f : Nat) (x j : Int), σ = [some (.int x), some (.int i), some (.int j)] ∧ H2 = H' ∧ 1 ≤ x ∧ x < 2 ^ f ∧ (decW 5 f x).1 + j = (decW 5 60 (decW 2 60 d).2).1 ∧ (decW 5 f x).2 = (decW 5 60 (decW 2 60 d).2).2 ∧ m = x.toNat,
        ⟨_, 60, _, 0, rfl, rfl, b2.1, Int.lt_of_le_of_lt b2.2.1 (Int.lt_trans h2 (by decide)), by omega, rfl, rfl⟩, fun m σ H2 hW => ?_⟩
      obtain ⟨f, x, j, rfl, rfl, x1, x2, e1, e2, rfl⟩ := hW
      refine ⟨_, rfl, _, _, rfl, rfl, (by show (0 : Int) < _; omega), rfl, _, rfl, ite2 (fun c => ?_) (fun c => ?_)⟩
      · have c' : x % 5 = 0 := V.int.inj (of_decide_eq_true c)
        obtain ⟨g, rfl, a1, a2, a3⟩ := div_step (by omega) x1 x2 c'
        rw [decW_go c'] at e1 e2
        have e1' : (decW 5 g (x / 5)).1 + 1 + j = (decW 5 60 (decW 2 60 d).2).1 := e1
        refine ⟨fun σ H3 => σ = [some (.int (x / 5)), some (.int i), some (.int (j + 1))] ∧ H3 = H2, fun σ H3 hN => ⟨_, ?_, g, x / 5, j + 1, hN.1, hN.2, a1, a2, by omega, e2, rfl⟩, ?_⟩
        · omega
        · refine ⟨_, rfl, _, _, rfl, rfl, ⟨by omega, by omega⟩, ?_⟩
          exact ⟨_, rfl, _, _, rfl, rfl, rfl, rfl⟩
      · have c' : ¬ x % 5 = 0 := fun z => of_decide_eq_false (Bool.eq_false_iff.mpr c) (congrArg V.int z)
        rw [decW_stop c'] at e1 e2
        have e1' : (0 : Int) + j = (decW 5 60 (decW 2 60 d).2).1 := e1
        have e2' : x = (decW 5 60 (decW 2 60 d).2).2 := e2
        have e4 : j = (decW 5 60 (decW 2 60 d).2).1 := by omega
        refine ⟨_, rfl, rfl, _, rfl, ite2 (fun k => ?_) (fun k => ?_)⟩
        · have k' : ¬ x = 1 := fun z => by
            rw [z] at k
            exact absurd k (by decide)
          have ed : decT d = none := by
            unfold decT
            rw [if_neg (by rw [← e2']; exact k')]
          rw [ed] at q
          exact q
        · have k' : x = 1 := by
            rcases Decidable.em (x = 1) with z | z
            · exact z
            · exact absurd (by rw [decide_eq_false (fun t => z (V.int.inj t))] <;> rfl) k
          have ed : decT d = some (if j > i then j else i) := by
            unfold decT
            rw [if_pos (by rw [← e2']; exact k'), ← e4, ← e3]
          rw [ed] at q
          exact ⟨_, rfl, _, rfl, _, _, rfl, q⟩
/-! ### the text of a fraction -/
def decI (i : Int) : Str := Str.ofString (toString i)
def fracDs (a b p : Int) : Str := Txt.zfill (decI ((if a < 0 then -a else a) * 10 ^ p.toNat / b)) (p + 1)
def sgnT (a : Int) : Str := if a < 0 then ("-" : Str) else ("" : Str)
def fracT (a b : Int) : Str := match decT b with
  | none => Str.empty ++ decI a ++ "/" ++ decI b
  | some p => if p = 0 then sgnT a ++ fracDs a b p else sgnT a ++ cutS (fracDs a b p) none (some (-p)) ++ "." ++ cutS (fracDs a b p) (some (-p)) none
theorem asc_empty : Asc Str.empty := asc_lit rfl
theorem asc_frac (a b : Int) : Asc (fracT a b) := by
  have hs : Asc (sgnT a) := by
    unfold sgnT
    split
    · exact asc_lit (by decide +kernel)
    · exact asc_lit (by decide +kernel)
  have hd : ∀ p, Asc (fracDs a b p) := fun p => asc_zfill (asc_int _) _
  unfold fracT
  split
  · exact asc_app (asc_app (asc_app asc_empty (asc_int _)) (asc_lit (by decide +kernel))) (asc_int _)
  · split
    · exact asc_app hs (hd _)
    · exact asc_app (asc_app (asc_app hs (asc_cut (hd _) _ _)) (asc_lit (by decide +kernel))) (asc_cut (hd _) _ _)
def spFt (K : PySem.W.Frag) : Sp := fun vs H Q _ => ∃ x a b, vs = [x] ∧ IsCell K H x (.num a b) ∧ NumB a b ∧ Q (.str (fracT a b)) H
theorem log_small {i : Int} {k : Nat} (h : i.natAbs < 2 ^ k) (hk : 0 < k) (h2 : k ≤ 1900) : i.natAbs.log2 < 1920 := Nat.lt_of_lt_of_le (PySem.Flt.log2_lt_of hk h) (by omega)
theorem one_len (x : String) (n : Nat) (h : (Str.ofString x).length ≤ n) : (Str.ofString x).length ≤ n := h
theorem quot_lt {a b p : Int} (ha : a.natAbs < 1000000000000) (hb : 0 < b) (h0 : 0 ≤ p) (hp : p ≤ 60) : 0 ≤ (if a < 0 then -a else a) * 10 ^ p.toNat / b ∧ ((if a < 0 then -a else a) * 10 ^ p.toNat / b).natAbs < 10 ^ 72 := by
  have h1 : 0 ≤ (if a < 0 then -a else a) := by split <;> omega
  have h2 : (if a < 0 then -a else a) < 1000000000000 := by split <;> omega
  have h3 : (10 : Int) ^ p.toNat ≤ 10 ^ 60 := by
    have z : (10 : Nat) ^ p.toNat ≤ 10 ^ 60 := Nat.pow_le_pow_right (by omega) (by omega)
    have z2 : ((10 ^ p.toNat : Nat) : Int) ≤ ((10 ^ 60 : Nat) : Int) := Int.ofNat_le.mpr z
    rw [Int.natCast_pow, Int.natCast_pow] at z2
    exact z2
  have h4 : (0 : Int) < 10 ^ p.toNat := Int.pow_pos (by omega)
  have h5 : 0 ≤ (if a < 0 then -a else a) * 10 ^ p.toNat := Int.mul_nonneg h1 (by omega)
  have h6 : (if a < 0 then -a else a) * 10 ^ p.toNat ≤ (999999999999 : Int) * 10 ^ 60 := Int.mul_le_mul (by omega) h3 (by omega) (by omega)
  have h7 : (if a < 0 then -a else a) * 10 ^ p.toNat / b ≤ (if a < 0 then -a else a) * 10 ^ p.toNat := Int.ediv_le_self b h5
  have h8 : 0 ≤ (if a < 0 then -a else a) * 10 ^ p.toNat / b := Int.ediv_nonneg h5 (by omega)
  refine ⟨h8, ?_⟩
  generalize (if a < 0 then -a else a) * 10 ^ p.toNat / b = z at h7 h8 ⊢
  generalize (if a < 0 then -a else a) * 10 ^ p.toNat = y at h6 h7
  have e1 : (999999999999 : Int) * 10 ^ 60 < 10 ^ 72 := by decide
  have e2 : ((10 : Int) ^ 72) = ((10 ^ 72 : Nat) : Int) := by decide
  omega
theorem ds_len {a b p : Int} (ha : a.natAbs < 1000000000000) (hb : 0 < b) (h0 : 0 ≤ p) (hp : p ≤ 60) : (fracDs a b p).length ≤ 200 := by
  have h1 := zfill_len (decI ((if a < 0 then -a else a) * 10 ^ p.toNat / b)) (p + 1)
  have h2 := int_len (k := 72) (by omega) (quot_lt ha hb h0 hp).2
  unfold fracDs
  have h3 : (decI ((if a < 0 then -a else a) * 10 ^ p.toNat / b)).length ≤ 73 := h2
  omega
abbrev N_fraction_text : List Str := ["a", "places", "sign", "digits"]
theorem sc_fraction_text : FnScope N_fraction_text ["a"] (defScope (topS 15)) := ⟨rfl, rfl, rfl, by decide +kernel, rfl, by decide +kernel, by decide +kernel⟩
theorem ok_fraction_text (E : Ev K w mg) : FnOk P w K mg base CX0 2 E.d_fraction_text.f E.d_fraction_text.fd ["a"] (spFt K) := by
  refine E.d_fraction_text.F.ok sc_fraction_text (fun vs H Q X h => ?_) (fun cdv A outer s H vs Q X hr h => ?_)
  · obtain ⟨x, a, b, rfl, _⟩ := h
    rfl
  · obtain ⟨x, a, b, rfl, ⟨p, rfl, hp⟩, ⟨b1, b2, b3⟩, q⟩ := h
    refine ⟨_, PSs.nox (pss_cons (ps_set (i := 1) sc_fraction_text.nd rfl (.inl rfl) (pe_call (ok_decimal_places E) (hr.mono (by omega)) (by rfl) E.d_decimal_places.g E.d_decimal_places.F.kp E.d_decimal_places.b .nil pass0 (pa_cons (pe_ix ix_tup (pv 0) pe_int (fun _ _ => rfl)) pa_nil)))
      (pss_cons (ps_if (pt_cmpR op_isN (pv 1) pe_non (nomark _)) (pss_one (ps_ret (pe_joined (.cons (pe_fmt (pe_ix ix_tup (pv 0) pe_int (fun _ _ => rfl))) (.cons pe_str (.cons (pe_fmt (pe_ix ix_tup (pv 0) pe_int (fun _ _ => rfl))) .nil)))))) pss_nil)
      (pss_cons (ps_set (i := 2) sc_fraction_text.nd rfl (.inl rfl) pe_str)
      (pss_cons (ps_if (pt_cmpR op_lt (pe_ix ix_tup (pv 0) pe_int (fun _ _ => rfl)) pe_int (nomark _)) (pss_one (ps_set (i := 2) sc_fraction_text.nd rfl (.inl rfl) pe_str)) pss_nil)
      (pss_cons (ps_set (i := 3) sc_fraction_text.nd rfl (.inl rfl) (pe_bm PySem.F.plainAttrs_str PySem.F.slot_str_zfill PySem.F.type_str_zfill mt_zfill (pe_callTy call_str_int (by rfl) E.n_str (by decide +kernel) (pa_cons (pe_op op_fdivW (pe_op op_mul (pe_callB call_abs (by rfl) E.n_abs (by decide +kernel) (pa_cons (pe_ix ix_tup (pv 0) pe_int (fun _ _ => rfl)) pa_nil)) (pe_call (ok_power_of_ten E) (hr.mono (by omega)) (by rfl) E.d_power_of_ten.g E.d_power_of_ten.F.kp E.d_power_of_ten.b .nil pass0 (pa_cons (pv 1) pa_nil))) (pe_ix ix_tup (pv 0) pe_int (fun _ _ => rfl))) pa_nil)) (pa_cons (pe_op op_add (pv 1) pe_int) pa_nil)))
      (pss_cons (ps_if (pt_cmpR op_eq (pv 1) pe_int (nomark _)) (pss_one (ps_ret (pe_op op_add_str (pv 2) (pv 3)))) pss_nil)
      (pss_one (ps_ret (pe_op op_add_str (pe_op op_add_str (pe_op op_add_str (pv 2) (pe_slice sl_str (pv 3) po_none (po_some (pe_un un_neg (pv 1))))) pe_str) (pe_slice sl_str (pv 3) (po_some (pe_un un_neg (pv 1))) po_none)))))))))), ?_⟩
    refine ⟨_, rfl, _, _, _, _, rfl, rfl, hp, atI_nat (j := 1) rfl, _, rfl, b1, Int.lt_trans b2 (by decide), ?_⟩
    refine ⟨_, rfl, rfl, _, rfl, ite2 (fun c => ?_) (fun c => ?_)⟩
    · have ed : decT b = none := by
        cases e : decT b with
        | none => rfl
        | some r =>
          rw [e] at c
          cases c
      have la := int_len (i := a) (k := 12) (by omega) (by omega)
      have lb := int_len (i := b) (k := 12) (by omega) (by omega)
      have e0 : Str.empty.length = 0 := rfl
      have e1 : (Str.ofString "/").length = 1 := by decide +kernel
      refine ⟨_, rfl, _, _, _, _, rfl, rfl, hp, atI_nat (j := 0) rfl, .inr ⟨_, rfl, log_small (k := 50) (by omega) (by omega) (by omega), _, rfl, small ?_, _, rfl, small ?_, ?_⟩⟩
      · rw [Str.length_append, e0]
        omega
      · rw [Str.length_append, Str.length_append, e0, e1]
        omega
      · refine ⟨_, rfl, _, _, _, _, rfl, rfl, hp, atI_nat (j := 1) rfl, .inr ⟨_, rfl, log_small (k := 50) (by omega) (by omega) (by omega), _, rfl, small ?_, ?_⟩⟩
        · rw [Str.length_append, Str.length_append, Str.length_append, e0, e1]
          omega
        · have q' := q
          unfold fracT at q'
          rw [ed] at q'
          exact q'
    · obtain ⟨r, ed⟩ : ∃ r, decT b = some r := by
        cases e : decT b with
        | none =>
          rw [e] at c
          exact absurd rfl c
        | some r => exact ⟨r, rfl⟩
      obtain ⟨r0, r1⟩ := decT_le b1 ed
      rw [ed]
      have q' := q
      unfold fracT at q'
      rw [ed] at q'
      dsimp only at q'
      have dl := ds_len (a := a) (p := r) b3 b1 r0 r1
      have ql := quot_lt (p := r) b3 b1 r0 r1
      refine ⟨_, rfl, _, _, _, _, rfl, rfl, hp, atI_nat (j := 0) rfl, _, _, rfl, rfl, _, rfl, ite2 (fun k => ?_) (fun k => ?_)⟩
      · have es : sgnT a = "-" := if_pos (of_decide_eq_true k)
        rw [es] at q'
        have sl : (sgnT a).length ≤ 1 := by
          rw [es]
          decide +kernel
        rw [es] at sl
        have rn : ((r.toNat : Nat) : Int) = r := by omega
        refine ⟨_, rfl, _, _, _, _, rfl, rfl, hp, atI_nat (j := 0) rfl, _, rfl, _, rfl, r.toNat, congrArg (fun z => [V.int z]) rn.symm, by omega, ?_⟩
        refine ⟨_, _, rfl, rfl, .inl ?_, _, rfl, _, _, _, _, rfl, rfl, hp, atI_nat (j := 1) rfl, _, _, rfl, rfl, wide_div (b := 50) b1 (by omega) (by omega) (by omega), _, rfl, log_small (k := 250) (Nat.lt_trans ql.2 (by decide)) (by omega) (by omega), rfl, _, rfl, _, _, rfl, rfl, _, _, rfl, rfl, pad_ok (by omega) (by omega), ?_⟩
        · constructor
          · split <;> omega
          · split <;> omega
        refine ⟨_, rfl, rfl, _, rfl, ite2 (fun m => ?_) (fun m => ?_)⟩
        · have m' : r = 0 := V.int.inj (of_decide_eq_true m)
          refine ⟨_, rfl, _, rfl, _, _, rfl, rfl, small (by show _ + (fracDs a b r).length ≤ 1000; omega), ?_⟩
          rw [if_pos m'] at q'
          exact q'
        · have m' : ¬ r = 0 := fun z => of_decide_eq_false (Bool.eq_false_iff.mpr m) (congrArg V.int z)
          have c1 := cutS_length (fracDs a b r) none (some (-r))
          have c2 := cutS_length (fracDs a b r) (some (-r)) none
          have e1 : (Str.ofString ".").length = 1 := by decide +kernel
          refine ⟨_, rfl, _, rfl, _, rfl, _, rfl, _, rfl, _, rfl, small (by show (fracDs a b r).length ≤ 1000; omega), _, _, rfl, rfl, small (by show _ + (cutS (fracDs a b r) none (some (-r))).length ≤ 1000; omega), ?_⟩
          refine ⟨_, _, rfl, rfl, small ?_, _, rfl, _, rfl, _, rfl, _, rfl, _, rfl, small (by show (fracDs a b r).length ≤ 1000; omega), _, _, rfl, rfl, small ?_, ?_⟩
          · show (_ ++ cutS (fracDs a b r) none (some (-r)) : Str).length + _ ≤ 1000
            rw [Str.length_append, e1]
            omega
          · show (_ ++ cutS (fracDs a b r) none (some (-r)) ++ _ : Str).length + (cutS (fracDs a b r) (some (-r)) none).length ≤ 1000
            rw [Str.length_append, Str.length_append, e1]
            omega
          · rw [if_neg m'] at q'
            exact q'
      · have es : sgnT a = "" := if_neg (of_decide_eq_false (Bool.eq_false_iff.mpr k))
        rw [es] at q'
        have sl : (sgnT a).length ≤ 1 := by
          rw [es]
          decide +kernel
        rw [es] at sl
        have rn : ((r.toNat : Nat) : Int) = r := by omega
        refine ⟨_, rfl, _, _, _, _, rfl, rfl, hp, atI_nat (j := 0) rfl, _, rfl, _, rfl, r.toNat, congrArg (fun z => [V.int z]) rn.symm, by omega, ?_⟩
        refine ⟨_, _, rfl, rfl, .inl ?_, _, rfl, _, _, _, _, rfl, rfl, hp, atI_nat (j := 1) rfl, _, _, rfl, rfl, wide_div (b := 50) b1 (by omega) (by omega) (by omega), _, rfl, log_small (k := 250) (Nat.lt_trans ql.2 (by decide)) (by omega) (by omega), rfl, _, rfl, _, _, rfl, rfl, _, _, rfl, rfl, pad_ok (by omega) (by omega), ?_⟩
        · constructor
          · split <;> omega
          · split <;> omega
        refine ⟨_, rfl, rfl, _, rfl, ite2 (fun m => ?_) (fun m => ?_)⟩
        · have m' : r = 0 := V.int.inj (of_decide_eq_true m)
          refine ⟨_, rfl, _, rfl, _, _, rfl, rfl, small (by show _ + (fracDs a b r).length ≤ 1000; omega), ?_⟩
          rw [if_pos m'] at q'
          exact q'
        · have m' : ¬ r = 0 := fun z => of_decide_eq_false (Bool.eq_false_iff.mpr m) (congrArg V.int z)
          have c1 := cutS_length (fracDs a b r) none (some (-r))
          have c2 := cutS_length (fracDs a b r) (some (-r)) none
          have e1 : (Str.ofString ".").length = 1 := by decide +kernel
          refine ⟨_, rfl, _, rfl, _, rfl, _, rfl, _, rfl, _, rfl, small (by show (fracDs a b r).length ≤ 1000; omega), _, _, rfl, rfl, small (by show _ + (cutS (fracDs a b r) none (some (-r))).length ≤ 1000; omega), ?_⟩
          refine ⟨_, _, rfl, rfl, small ?_, _, rfl, _, rfl, _, rfl, _, rfl, _, rfl, small (by show (fracDs a b r).length ≤ 1000; omega), _, _, rfl, rfl, small ?_, ?_⟩
          · show (_ ++ cutS (fracDs a b r) none (some (-r)) : Str).length + _ ≤ 1000
            rw [Str.length_append, e1]
            omega
          · show (_ ++ cutS (fracDs a b r) none (some (-r)) ++ _ : Str).length + (cutS (fracDs a b r) (some (-r)) none).length ≤ 1000
            rw [Str.length_append, Str.length_append, e1]
            omega
          · rw [if_neg m'] at q'
            exact q'
end
end K7
/-! W3 -/
namespace K7
open PySem PySem.Spec PyProof.Rows L2 TL
/-! ### cells as data -/
def NumOk (n d : Int) : Prop := NumB n d ∧ Nat.gcd n.natAbs d.natAbs = 1
def Cell.Ok : Cell → Prop
  | .non => True
  | .bl _ => True
  | .txt x => x.length ≤ 40 ∧ Asc x
  | .num n d => NumOk n d
def dataOf : Cell → PyData
  | .non => .none
  | .bl b => .bool b
  | .txt x => .str x
  | .num n d => .tuple [.int n, .int d]
theorem dp_cell {K : PySem.W.Frag} {H : Hp} {v : V} {c : Cell} (h : IsCell K H v c) : Dp K H v (dataOf c) := by
  cases c with
  | non =>
    have e : v = .non := h
    subst e
    exact .non
  | bl b =>
    have e : v = .bl b := h
    subst e
    exact .bl b
  | txt x =>
    have e : v = .str x := h
    subst e
    exact .str x
  | num n d =>
    obtain ⟨a, rfl, h⟩ := h
    exact .tup h (.cons (.int n) (.cons (.int d) .nil))
theorem asc_strOk {x : Str} (h : Asc x) : PyData.strOk x = true := by
  unfold PyData.strOk
  rw [← Array.all_toList, List.all_eq_true]
  intro c hc
  exact decide_eq_true (Nat.lt_trans (h c hc) (by decide))
theorem lay_cell {c : Cell} (h : c.Ok) : (dataOf c).canLay0 = true := by
  cases c with
  | txt x =>
    simp only [dataOf, PyData.canLay0]
    exact asc_strOk h.2
  | _ => simp [dataOf, PyData.canLay0, PyData.canLayAll0]
theorem depth_cell (c : Cell) : (dataOf c).depth ≤ 1 := by
  cases c <;> simp [dataOf, PyData.depth, PyData.depthAll]
theorem shaped_cell {c : Cell} (h : c.Ok) : SeqAt.shaped (dataOf c) = true := by
  unfold SeqAt.shaped
  rw [lay_cell h, Bool.true_and]
  exact decide_eq_true (Nat.le_trans (depth_cell c) (by omega))
theorem lay_cells : ∀ {cs : List Cell}, (∀ c ∈ cs, c.Ok) → PyData.canLayAll0 (cs.map dataOf) = true
  | [], _ => by simp [PyData.canLayAll0]
  | c :: cs, h => by
    simp only [List.map_cons, PyData.canLayAll0]
    rw [lay_cell (h c List.mem_cons_self), lay_cells fun x hx => h x (List.mem_cons_of_mem _ hx)] <;> rfl
theorem depth_cells : ∀ cs : List Cell, PyData.depthAll (cs.map dataOf) ≤ 1
  | [] => by simp [PyData.depthAll]
  | c :: cs => by
    simp only [List.map_cons, PyData.depthAll]
    have h1 := depth_cell c
    have h2 := depth_cells cs
    omega
theorem shaped_cells {cs : List Cell} (h : ∀ c ∈ cs, c.Ok) : SeqAt.shaped (.list (cs.map dataOf)) = true ∧ SeqAt.shaped (.tuple (cs.map dataOf)) = true := by
  have h1 := lay_cells h
  have h2 := depth_cells cs
  constructor
  · unfold SeqAt.shaped
    simp only [PyData.canLay0, PyData.depth]
    rw [h1, Bool.true_and]
    exact decide_eq_true (by omega)
  · unfold SeqAt.shaped
    simp only [PyData.canLay0, PyData.depth]
    rw [h1, Bool.true_and]
    exact decide_eq_true (by omega)
theorem eqv_cell (a b : Cell) : PyData.eqv (dataOf a) (dataOf b) = decide (a = b) := by
  have ne : ∀ {a b : Cell}, a ≠ b → decide (a = b) = false := fun h => decide_eq_false h
  cases a with
  | non => cases b <;> simp [dataOf, PyData.eqv]
  | bl x => cases b with
    | bl y =>
      simp only [dataOf, PyData.eqv]
      cases x <;> cases y <;> rfl
    | _ => simp only [dataOf, PyData.eqv] <;> exact (ne (by intro z; cases z)).symm
  | txt x => cases b with
    | txt y =>
      simp only [dataOf, PyData.eqv]
      by_cases e : x = y
      · subst e
        simp
      · rw [ne (by intro z; exact e (Cell.txt.inj z))]
        exact beq_eq_false_iff_ne.mpr e
    | _ => simp only [dataOf, PyData.eqv] <;> exact (ne (by intro z; cases z)).symm
  | num n d => cases b with
    | num m k =>
      simp only [dataOf, PyData.eqv, PyData.eqvAll]
      by_cases e : n = m
      · by_cases e2 : d = k
        · subst e e2
          simp
        · rw [ne (by intro z; exact e2 (Cell.num.inj z).2)]
          simp [e2]
      · rw [ne (by intro z; exact e (Cell.num.inj z).1)]
        simp [e]
    | _ => simp only [dataOf, PyData.eqv] <;> exact (ne (by intro z; cases z)).symm
/-- the cells of a list or a tuple -/
abbrev Cells (K : PySem.W.Frag) (H : Hp) : List V → List Cell → Prop := Paired (IsCell K H)
theorem dp_cells {K : PySem.W.Frag} {H : Hp} : ∀ {vs : List V} {cs : List Cell}, Cells K H vs cs → DpAll K H vs (cs.map dataOf)
  | _, _, .nil => .nil
  | _, _, .cons h t => .cons (dp_cell h) (dp_cells t)
theorem Cells.keep {K : PySem.W.Frag} {H H' : Hp} {vs : List V} {cs : List Cell} (h : Cells K H vs cs) (e : Keep H H') : Cells K H' vs cs := Paired.mapP h fun _ _ z => z.keep e
theorem tyx_tup {K : PySem.W.Frag} {H : Hp} {a : Addr} {xs : List V} (h : SqT K H a xs) : TyX K H (.ref a) (.type "tuple") := by
  rcases h with (h | ⟨o, h⟩) | ⟨o, its, n, h, c, _⟩
  · exact .base (.tup h)
  · exact .fTuple h
  · exact .kTuple h c
def tyName : Cell → String
  | .non => "NoneType"
  | .bl _ => "bool"
  | .txt _ => "str"
  | .num _ _ => "tuple"
theorem tyx_cell {K : PySem.W.Frag} {H : Hp} {v : V} {c : Cell} (h : IsCell K H v c) : TyX K H v (.type (tyName c)) := by
  cases c with
  | non =>
    have e : v = .non := h
    subst e
    exact .base .non
  | bl b =>
    have e : v = .bl b := h
    subst e
    exact .base (.bl b)
  | txt x =>
    have e : v = .str x := h
    subst e
    exact .base (.str x)
  | num n d =>
    obtain ⟨a, rfl, h⟩ := h
    exact tyx_tup h
section
variable {P : Program} {w : World} {K : PySem.W.Frag} {mg : Str → Option Value} {base : Heap}
def spKind (K : PySem.W.Frag) : Sp := fun vs H Q _ => ∃ v c, vs = [v] ∧ IsCell K H v c ∧ Q (kdV c.kind) H
abbrev N_cell_kind : List Str := ["cell"]
theorem sc_cell_kind : FnScope N_cell_kind ["cell"] (defScope (topS 19)) := ⟨rfl, rfl, rfl, by decide +kernel, rfl, by decide +kernel, by decide +kernel⟩
theorem ok_cell_kind (E : Ev K w mg) : FnOk P w K mg base CX0 1 E.d_cell_kind.f E.d_cell_kind.fd ["cell"] (spKind K) := by
  refine E.d_cell_kind.F.ok sc_cell_kind (fun vs H Q X h => ?_) (fun cdv A outer s H vs Q X hr h => ?_)
  · obtain ⟨v, c, rfl, _⟩ := h
    rfl
  · obtain ⟨v, c, rfl, hc, q⟩ := h
    refine ⟨_, PSs.nox (pss_cons (ps_if (pt_cmpR op_isN (pv 0) pe_non (nomark _)) (pss_one (ps_ret pe_non)) pss_nil)
      (pss_cons (ps_if (pt_val (pe_callB call_isi (by rfl) E.n_isinstance (by decide +kernel) (pa_cons (pv 0) (pa_cons (pe_bltn (v := .ty "bool") (by rfl) E.n_bool (by decide +kernel) rfl) pa_nil)))) (pss_one (ps_ret pe_str)) pss_nil)
      (pss_cons (ps_if (pt_val (pe_callB call_isi (by rfl) E.n_isinstance (by decide +kernel) (pa_cons (pv 0) (pa_cons (pe_bltn (v := .ty "str") (by rfl) E.n_str (by decide +kernel) rfl) pa_nil)))) (pss_one (ps_ret pe_str)) pss_nil)
      (pss_one (ps_ret pe_str))))), ?_⟩
    refine ⟨_, rfl, rfl, _, rfl, ite2 (fun k => ?_) (fun k => ?_)⟩
    · have e : v = .non := of_decide_eq_true k
      subst e
      cases c with
      | non => exact q
      | bl b => cases hc
      | txt x => cases hc
      | num n d =>
        obtain ⟨a, z, _⟩ := hc
        cases z
    · cases c with
      | non => exact absurd (decide_eq_true (show v = .non from hc)) k
      | bl b => exact ⟨_, rfl, _, _, .type "bool", _, true, rfl, .ty _, tyx_cell hc, kit_ty (by decide +kernel), ⟨_, rfl, iteT q⟩⟩
      | txt x => exact ⟨_, rfl, _, _, .type "str", _, false, rfl, .ty _, tyx_cell hc, kit_ty (by decide +kernel), ⟨_, rfl, iteF ⟨_, rfl, _, _, .type "str", _, true, rfl, .ty _, tyx_cell hc, kit_ty (by decide +kernel), ⟨_, rfl, iteT q⟩⟩⟩⟩
      | num n d => exact ⟨_, rfl, _, _, .type "tuple", _, false, rfl, .ty _, tyx_cell hc, kit_ty (by decide +kernel), ⟨_, rfl, iteF ⟨_, rfl, _, _, .type "tuple", _, false, rfl, .ty _, tyx_cell hc, kit_ty (by decide +kernel), ⟨_, rfl, iteF q⟩⟩⟩⟩
abbrev N__law_cell_kind : List Str := ["_law_cell_here"]
theorem sc__law_cell_kind : FnScope N__law_cell_kind ["_law_cell_here"] (defScope (topS 51)) := ⟨rfl, rfl, rfl, by decide +kernel, rfl, by decide +kernel, by decide +kernel⟩
theorem ok__law_cell_kind (E : Ev K w mg) : FnOk P w K mg base CX0 1 E.d__law_cell_kind.f E.d__law_cell_kind.fd ["_law_cell_here"] (spKind K) := by
  refine E.d__law_cell_kind.F.ok sc__law_cell_kind (fun vs H Q X h => ?_) (fun cdv A outer s H vs Q X hr h => ?_)
  · obtain ⟨v, c, rfl, _⟩ := h
    rfl
  · obtain ⟨v, c, rfl, hc, q⟩ := h
    refine ⟨_, PSs.nox (pss_cons (ps_if (pt_cmpR op_isN (pv 0) pe_non (nomark _)) (pss_one (ps_ret pe_non)) pss_nil)
      (pss_cons (ps_if (pt_val (pe_callB call_isi (by rfl) E.n_isinstance (by decide +kernel) (pa_cons (pv 0) (pa_cons (pe_bltn (v := .ty "bool") (by rfl) E.n_bool (by decide +kernel) rfl) pa_nil)))) (pss_one (ps_ret pe_str)) pss_nil)
      (pss_cons (ps_if (pt_val (pe_callB call_isi (by rfl) E.n_isinstance (by decide +kernel) (pa_cons (pv 0) (pa_cons (pe_bltn (v := .ty "str") (by rfl) E.n_str (by decide +kernel) rfl) pa_nil)))) (pss_one (ps_ret pe_str)) pss_nil)
      (pss_one (ps_ret pe_str))))), ?_⟩
    refine ⟨_, rfl, rfl, _, rfl, ite2 (fun k => ?_) (fun k => ?_)⟩
    · have e : v = .non := of_decide_eq_true k
      subst e
      cases c with
      | non => exact q
      | bl b => cases hc
      | txt x => cases hc
      | num n d =>
        obtain ⟨a, z, _⟩ := hc
        cases z
    · cases c with
      | non => exact absurd (decide_eq_true (show v = .non from hc)) k
      | bl b => exact ⟨_, rfl, _, _, .type "bool", _, true, rfl, .ty _, tyx_cell hc, kit_ty (by decide +kernel), ⟨_, rfl, iteT q⟩⟩
      | txt x => exact ⟨_, rfl, _, _, .type "str", _, false, rfl, .ty _, tyx_cell hc, kit_ty (by decide +kernel), ⟨_, rfl, iteF ⟨_, rfl, _, _, .type "str", _, true, rfl, .ty _, tyx_cell hc, kit_ty (by decide +kernel), ⟨_, rfl, iteT q⟩⟩⟩⟩
      | num n d => exact ⟨_, rfl, _, _, .type "tuple", _, false, rfl, .ty _, tyx_cell hc, kit_ty (by decide +kernel), ⟨_, rfl, iteF ⟨_, rfl, _, _, .type "tuple", _, false, rfl, .ty _, tyx_cell hc, kit_ty (by decide +kernel), ⟨_, rfl, iteF q⟩⟩⟩⟩
/-- two cells of one kind, compared -/
def cmpC : Cell → Cell → Int
  | .num a b, .num c d => cmpT a b c d
  | .bl a, .bl b => if a = b then 0 else (if a then 1 else 0) - (if b then 1 else 0)
  | .txt x, .txt y => if x = y then 0 else if x.cps.toList < y.cps.toList then -1 else 1
  | _, _ => 0
theorem cmpC_range (a b : Cell) : cmpC a b = -1 ∨ cmpC a b = 0 ∨ cmpC a b = 1 := by
  have z : ∀ a b : Cell, cmpC a b = 0 → cmpC a b = -1 ∨ cmpC a b = 0 ∨ cmpC a b = 1 := fun a b h => .inr (.inl h)
  cases a with
  | non => exact z _ _ rfl
  | bl x => cases b with
    | bl y => cases x <;> cases y <;> decide
    | _ => exact z _ _ rfl
  | txt x => cases b with
    | txt y =>
      show (if x = y then (0 : Int) else if x.cps.toList < y.cps.toList then -1 else 1) = -1 ∨ (if x = y then (0 : Int) else if x.cps.toList < y.cps.toList then -1 else 1) = 0 ∨ (if x = y then (0 : Int) else if x.cps.toList < y.cps.toList then -1 else 1) = 1
      split
      · exact .inr (.inl rfl)
      · split
        · exact .inl rfl
        · exact .inr (.inr rfl)
    | _ => exact z _ _ rfl
  | num n d => cases b with
    | num m k =>
      show cmpT n d m k = -1 ∨ cmpT n d m k = 0 ∨ cmpT n d m k = 1
      unfold cmpT
      split <;> split <;> omega
    | _ => exact z _ _ rfl
def spCmpC (K : PySem.W.Frag) : Sp := fun vs H Q _ => ∃ x y a b, vs = [x, y] ∧ IsCell K H x a ∧ IsCell K H y b ∧ a.Ok ∧ b.Ok ∧ a.kind = b.kind ∧ a ≠ .non ∧ Q (.int (cmpC a b)) H
abbrev N_compare_cells : List Str := ["a", "b", "first", "second"]
theorem sc_compare_cells : FnScope N_compare_cells ["a", "b"] (defScope (topS 20)) := ⟨rfl, rfl, rfl, by decide +kernel, rfl, by decide +kernel, by decide +kernel⟩
theorem ok_compare_cells (E : Ev K w mg) : FnOk P w K mg base CX0 2 E.d_compare_cells.f E.d_compare_cells.fd ["a", "b"] (spCmpC K) := by
  refine E.d_compare_cells.F.ok sc_compare_cells (fun vs H Q X h => ?_) (fun cdv A outer s H vs Q X hr h => ?_)
  · obtain ⟨x, y, a, b, rfl, _⟩ := h
    rfl
  · obtain ⟨x, y, a, b, rfl, ha, hb, oa, ob, hk, hn, q⟩ := h
    refine ⟨_, PSs.nox (pss_cons (ps_set (i := 2) sc_compare_cells.nd rfl (.inl rfl) (pe_ix (ix_rk E.rk) (pe_glob rfl E.gRk (v := .ref E.aRk) rfl) (pe_call (ok_cell_kind E) (hr.mono (by omega)) (by rfl) E.d_cell_kind.g E.d_cell_kind.F.kp E.d_cell_kind.b .nil pass0 (pa_cons (pv 0) pa_nil)) (fun _ _ => rfl)))
      (pss_cons (ps_set (i := 3) sc_compare_cells.nd rfl (.inl rfl) (pe_ix (ix_rk E.rk) (pe_glob rfl E.gRk (v := .ref E.aRk) rfl) (pe_call (ok_cell_kind E) (hr.mono (by omega)) (by rfl) E.d_cell_kind.g E.d_cell_kind.F.kp E.d_cell_kind.b .nil pass0 (pa_cons (pv 1) pa_nil)) (fun _ _ => rfl)))
      (pss_cons (ps_if (pt_cmpR op_ne (pv 2) (pv 3) (nomark _)) (pss_one (ps_ret (pe_op op_sub (pe_callTy call_int1 (by rfl) E.n_int (by decide +kernel) (pa_cons (pe_cmpR op_gt (pv 2) (pv 3) (nomark _)) pa_nil)) (pe_callTy call_int1 (by rfl) E.n_int (by decide +kernel) (pa_cons (pe_cmpR op_lt (pv 2) (pv 3) (nomark _)) pa_nil))))) pss_nil)
      (pss_cons (ps_if (pt_cmpR op_eq (pv 2) pe_int (nomark _)) (pss_one (ps_ret (pe_call (ok_compare E) (hr.mono (by omega)) (by rfl) E.d_compare.g E.d_compare.F.kp E.d_compare.b .nil pass0 (pa_cons (pv 0) (pa_cons (pv 1) pa_nil))))) pss_nil)
      (pss_cons (ps_if (pt_cmpR op_eq (pv 0) (pv 1) (nomark _)) (pss_one (ps_ret pe_int)) pss_nil)
      (pss_cons (ps_if (pt_cmpR op_eq (pv 2) pe_int (nomark _)) (pss_one (ps_ret (pe_op op_sub (pe_callTy call_int1 (by rfl) E.n_int (by decide +kernel) (pa_cons (pv 0) pa_nil)) (pe_callTy call_int1 (by rfl) E.n_int (by decide +kernel) (pa_cons (pv 1) pa_nil))))) pss_nil)
      (pss_cons (ps_if (pt_cmpR op_lt_str (pv 0) (pv 1) (nomark _)) (pss_one (ps_ret (pe_un un_neg pe_int))) pss_nil)
      (pss_one (ps_ret pe_int))))))))), ?_⟩
    have rk : ∀ k : Kd, ∃ i : Int, rkOf k.s = some i ∧ (i = 1 ↔ k = .num) ∧ (i = 0 ↔ k = .boo) := fun k => by
      cases k with
      | num => exact ⟨1, by decide +kernel, ⟨fun _ => rfl, fun _ => rfl⟩, ⟨fun z => by omega, fun z => by cases z⟩⟩
      | txt => exact ⟨2, by decide +kernel, ⟨fun z => by omega, fun z => by cases z⟩, ⟨fun z => by omega, fun z => by cases z⟩⟩
      | boo => exact ⟨0, by decide +kernel, ⟨fun z => by omega, fun z => by cases z⟩, ⟨fun _ => rfl, fun _ => rfl⟩⟩
    obtain ⟨kk, ek⟩ : ∃ k, a.kind = some k := by
      cases a with
      | non => exact absurd rfl hn
      | bl _ => exact ⟨_, rfl⟩
      | txt _ => exact ⟨_, rfl⟩
      | num _ _ => exact ⟨_, rfl⟩
    obtain ⟨i, e1, e2, e3⟩ := rk kk
    have eb : b.kind = some kk := hk.symm.trans ek
    refine ⟨_, rfl, x, a, rfl, ha, ?_⟩
    rw [ek]
    refine ⟨_, _, rfl, rfl, e1, ?_⟩
    refine ⟨_, rfl, y, b, rfl, hb, ?_⟩
    rw [eb]
    refine ⟨_, _, rfl, rfl, e1, ?_⟩
    refine ⟨_, rfl, _, rfl, rfl, _, rfl, iteNS rfl ?_⟩
    refine ⟨_, rfl, rfl, _, rfl, ite2 (fun c => ?_) (fun c => ?_)⟩
    · have c' := e2.mp (V.int.inj (of_decide_eq_true c))
      subst c'
      cases a with
      | num n d =>
        cases b with
        | num m k => exact ⟨_, rfl, _, rfl, x, y, n, d, m, k, rfl, ha, hb, oa.1, ob.1, q⟩
        | _ => cases eb
      | _ => cases ek
    · have c' : ¬ kk = .num := fun z => of_decide_eq_false (Bool.eq_false_iff.mpr c) (congrArg V.int (e2.mpr z))
      cases a with
      | non => exact absurd rfl hn
      | num n d => exact absurd (Option.some.inj ek).symm c'
      | bl p =>
        cases b with
        | bl r =>
          have ex : x = .bl p := ha
          have ey : y = .bl r := hb
          subst ex ey
          refine ⟨_, rfl, _, rfl, rfl, _, rfl, ite2 (fun m => ?_) (fun m => ?_)⟩
          · have m' : p = r := V.bl.inj (of_decide_eq_true m)
            have eq : cmpC (.bl p) (.bl r) = 0 := if_pos m'
            rw [eq] at q
            exact q
          · have m' : ¬ p = r := fun z => of_decide_eq_false (Bool.eq_false_iff.mpr m) (congrArg V.bl z)
            have i0 : i = 0 := e3.mpr (Option.some.inj ek).symm
            subst i0
            refine ⟨_, rfl, rfl, _, rfl, iteT ?_⟩
            refine ⟨_, rfl, .inr ⟨_, rfl, ?_⟩⟩
            refine ⟨_, rfl, .inr ⟨_, rfl, ?_⟩⟩
            have eq : cmpC (.bl p) (.bl r) = (if p then 1 else 0) - (if r then 1 else 0) := if_neg m'
            rw [eq] at q
            exact ⟨_, _, rfl, rfl, q⟩
        | _ => cases hk
      | txt p =>
        cases b with
        | txt r =>
          have ex : x = .str p := ha
          have ey : y = .str r := hb
          subst ex ey
          refine ⟨_, rfl, _, rfl, rfl, _, rfl, ite2 (fun m => ?_) (fun m => ?_)⟩
          · have m' : p = r := V.str.inj (of_decide_eq_true m)
            have eq : cmpC (.txt p) (.txt r) = 0 := if_pos m'
            rw [eq] at q
            exact q
          · have m' : ¬ p = r := fun z => of_decide_eq_false (Bool.eq_false_iff.mpr m) (congrArg V.str z)
            have i0 : ¬ i = 0 := fun z => by
              have z2 := e3.mp z
              rw [z2] at ek
              cases ek
            refine ⟨_, rfl, rfl, _, rfl, ite2 (fun z => absurd (V.int.inj (of_decide_eq_true z)) i0) (fun _ => ?_)⟩
            refine ⟨_, rfl, _, rfl, _, _, rfl, rfl, _, rfl, ite2 (fun z => ?_) (fun z => ?_)⟩
            · have eq : cmpC (.txt p) (.txt r) = -1 := by
                show (if p = r then (0 : Int) else if p.cps.toList < r.cps.toList then -1 else 1) = -1
                rw [if_neg m', if_pos (of_decide_eq_true z)]
              rw [eq] at q
              exact ⟨_, rfl, q⟩
            · have eq : cmpC (.txt p) (.txt r) = 1 := by
                show (if p = r then (0 : Int) else if p.cps.toList < r.cps.toList then -1 else 1) = 1
                rw [if_neg m', if_neg (of_decide_eq_false (Bool.eq_false_iff.mpr z))]
              rw [eq] at q
              exact q
        | _ => cases hk
def textC : Cell → Str
  | .bl b => if b = true then ("true" : Str) else ("false" : Str)
  | .txt x => x
  | .num a b => fracT a b
  | .non => Str.empty
def spText (K : PySem.W.Frag) : Sp := fun vs H Q _ => ∃ v c, vs = [v] ∧ IsCell K H v c ∧ c ≠ .non ∧ c.Ok ∧ Q (.str (textC c)) H
abbrev N_cell_text : List Str := ["cell"]
theorem sc_cell_text : FnScope N_cell_text ["cell"] (defScope (topS 21)) := ⟨rfl, rfl, rfl, by decide +kernel, rfl, by decide +kernel, by decide +kernel⟩
theorem ok_cell_text (E : Ev K w mg) : FnOk P w K mg base CX0 3 E.d_cell_text.f E.d_cell_text.fd ["cell"] (spText K) := by
  refine E.d_cell_text.F.ok sc_cell_text (fun vs H Q X h => ?_) (fun cdv A outer s H vs Q X hr h => ?_)
  · obtain ⟨v, c, rfl, _⟩ := h
    rfl
  · obtain ⟨v, c, rfl, hc, hn, oc, q⟩ := h
    refine ⟨_, PSs.nox (pss_cons (ps_if (pt_val (pe_callB call_isi (by rfl) E.n_isinstance (by decide +kernel) (pa_cons (pv 0) (pa_cons (pe_bltn (v := .ty "bool") (by rfl) E.n_bool (by decide +kernel) rfl) pa_nil)))) (pss_cons (ps_if (pt_truth (pv 0) (by intro _; rfl)) (pss_one (ps_ret pe_str)) pss_nil)
        (pss_one (ps_ret pe_str))) pss_nil)
      (pss_cons (ps_if (pt_val (pe_callB call_isi (by rfl) E.n_isinstance (by decide +kernel) (pa_cons (pv 0) (pa_cons (pe_bltn (v := .ty "str") (by rfl) E.n_str (by decide +kernel) rfl) pa_nil)))) (pss_one (ps_ret (pv 0))) pss_nil)
      (pss_one (ps_ret (pe_call (ok_fraction_text E) (hr.mono (by omega)) (by rfl) E.d_fraction_text.g E.d_fraction_text.F.kp E.d_fraction_text.b .nil pass0 (pa_cons (pv 0) pa_nil)))))), ?_⟩
    cases c with
    | non => exact absurd rfl hn
    | bl b =>
      have e : v = .bl b := hc
      subst e
      refine ⟨_, rfl, _, _, .type "bool", _, true, rfl, .ty _, tyx_cell hc, kit_ty (by decide +kernel), ⟨_, rfl, iteT ?_⟩⟩
      cases b with
      | true => exact ⟨_, rfl, _, rfl, iteT q⟩
      | false => exact ⟨_, rfl, _, rfl, iteF q⟩
    | txt x =>
      have e : v = .str x := hc
      subst e
      exact ⟨_, rfl, _, _, .type "str", _, false, rfl, .ty _, tyx_cell hc, kit_ty (by decide +kernel), ⟨_, rfl, iteF ⟨_, rfl, _, _, .type "str", _, true, rfl, .ty _, tyx_cell hc, kit_ty (by decide +kernel), ⟨_, rfl, iteT ⟨_, rfl, q⟩⟩⟩⟩⟩
    | num n d => exact ⟨_, rfl, _, _, .type "tuple", _, false, rfl, .ty _, tyx_cell hc, kit_ty (by decide +kernel), ⟨_, rfl, iteF ⟨_, rfl, _, _, .type "tuple", _, false, rfl, .ty _, tyx_cell hc, kit_ty (by decide +kernel), ⟨_, rfl, iteF ⟨_, rfl, v, n, d, rfl, hc, oc.1, q⟩⟩⟩⟩⟩
def limC : Cell → Cell
  | .num a b => keepT a b
  | .txt x => if x.length > 40 then .non else .txt x
  | c => c
def spLim (K : PySem.W.Frag) : Sp := fun vs H Q _ => ∃ v c, vs = [v] ∧ IsCell K H v c ∧ (∀ x, c = .txt x → x.length ≤ 1000) ∧ ∀ u, IsCell K H u (limC c) → Q u H
abbrev N_limited : List Str := ["value"]
theorem sc_limited : FnScope N_limited ["value"] (defScope (topS 33)) := ⟨rfl, rfl, rfl, by decide +kernel, rfl, by decide +kernel, by decide +kernel⟩
theorem ok_limited (E : Ev K w mg) : FnOk P w K mg base CX0 2 E.d_limited.f E.d_limited.fd ["value"] (spLim K) := by
  refine E.d_limited.F.ok sc_limited (fun vs H Q X h => ?_) (fun cdv A outer s H vs Q X hr h => ?_)
  · obtain ⟨v, c, rfl, _⟩ := h
    rfl
  · obtain ⟨v, c, rfl, hc, hl, q⟩ := h
    refine ⟨_, PSs.nox (pss_cons (ps_if (pt_val (pe_callB call_isi (by rfl) E.n_isinstance (by decide +kernel) (pa_cons (pv 0) (pa_cons (pe_bltn (v := .ty "tuple") (by rfl) E.n_tuple (by decide +kernel) rfl) pa_nil)))) (pss_one (ps_ret (pe_call (ok_as_number E) (hr.mono (by omega)) (by rfl) E.d_as_number.g E.d_as_number.F.kp E.d_as_number.b .nil pass0 (pa_cons (pv 0) pa_nil)))) pss_nil)
      (pss_cons (ps_if (PW.pt (pw_and (pt_val (pe_callB call_isi (by rfl) E.n_isinstance (by decide +kernel) (pa_cons (pv 0) (pa_cons (pe_bltn (v := .ty "str") (by rfl) E.n_str (by decide +kernel) rfl) pa_nil)))) (pw_and1 (pt_cmpR op_gt (pe_callB call_len (by rfl) E.n_len (by decide +kernel) (pa_cons (pv 0) pa_nil)) (pe_glob rfl E.longest (v := .int 40) ⟨_, rfl⟩) (nomark _))))) (pss_one (ps_ret pe_non)) pss_nil)
      (pss_one (ps_ret (pv 0))))), ?_⟩
    cases c with
    | num n d => exact ⟨_, rfl, _, _, .type "tuple", _, true, rfl, .ty _, tyx_cell hc, kit_ty (by decide +kernel), ⟨_, rfl, iteT ⟨_, rfl, v, n, d, rfl, hc, q⟩⟩⟩
    | non => exact ⟨_, rfl, _, _, .type "NoneType", _, false, rfl, .ty _, tyx_cell hc, kit_ty (by decide +kernel), ⟨_, rfl, iteF ⟨_, rfl, _, _, .type "NoneType", _, false, rfl, .ty _, tyx_cell hc, kit_ty (by decide +kernel), ⟨_, rfl, iteF (iteF ⟨_, rfl, q _ hc⟩)⟩⟩⟩⟩
    | bl b => exact ⟨_, rfl, _, _, .type "bool", _, false, rfl, .ty _, tyx_cell hc, kit_ty (by decide +kernel), ⟨_, rfl, iteF ⟨_, rfl, _, _, .type "bool", _, false, rfl, .ty _, tyx_cell hc, kit_ty (by decide +kernel), ⟨_, rfl, iteF (iteF ⟨_, rfl, q _ hc⟩)⟩⟩⟩⟩
    | txt x =>
      have e : v = .str x := hc
      subst e
      refine ⟨_, rfl, _, _, .type "str", _, false, rfl, .ty _, tyx_cell hc, kit_ty (by decide +kernel), ⟨_, rfl, iteF ⟨_, rfl, _, _, .type "str", _, true, rfl, .ty _, tyx_cell hc, kit_ty (by decide +kernel), ⟨_, rfl, iteT ?_⟩⟩⟩⟩
      refine ⟨_, rfl, _, _, rfl, ⟨small (hl x rfl), rfl⟩, _, _, rfl, rfl, _, rfl, ite2 (fun k => ?_) (fun k => ?_)⟩
      · have k' : (40 : Int) < ((x.length : Nat) : Int) := of_decide_eq_true k
        have el : limC (.txt x) = .non := if_pos (by omega)
        rw [el] at q
        exact q _ rfl
      · have k' : ¬ (40 : Int) < ((x.length : Nat) : Int) := of_decide_eq_false (Bool.eq_false_iff.mpr k)
        have el : limC (.txt x) = .txt x := if_neg (by omega)
        rw [el] at q
        exact ⟨_, rfl, q _ rfl⟩
end
end K7
/-! W4 -/
namespace K7
open PySem PySem.Spec PyProof.Rows L2 TL
theorem ifT {c : Bool} {A B : Prop} (h : c = true) (a : A) : if c = true then A else B := by
  rw [if_pos h]
  exact a
theorem ifF {c : Bool} {A B : Prop} (h : c = false) (b : B) : if c = true then A else B := by
  rw [h]
  exact iteF b
/-! ### operations -/
inductive O1 where
  | minus | abs | floor | ceil | round | length | not | text | missing
  deriving DecidableEq
def O1.s : O1 → Str
  | .minus => "minus"
  | .abs => "abs"
  | .floor => "floor"
  | .ceil => "ceil"
  | .round => "round"
  | .length => "length"
  | .not => "not"
  | .text => "text"
  | .missing => "missing"
inductive O2 where
  | add | sub | mul | div | join | and | or | least | greatest | eq | ne | lt | le | gt | ge
  deriving DecidableEq
def O2.s : O2 → Str
  | .add => "+"
  | .sub => "-"
  | .mul => "*"
  | .div => "/"
  | .join => "join"
  | .and => "and"
  | .or => "or"
  | .least => "least"
  | .greatest => "greatest"
  | .eq => "="
  | .ne => "<>"
  | .lt => "<"
  | .le => "<="
  | .gt => ">"
  | .ge => ">="
def one1 : O1 → Cell → Cell
  | .not, .bl b => .bl (!b)
  | .text, c => .txt (textC c)
  | .length, .txt x => .num x.length 1
  | .minus, .num n d => .num (-n) d
  | .abs, .num n d => .num (if n < 0 then -n else n) d
  | .floor, .num n d => .num (floorT n d) 1
  | .ceil, .num n d => .num (ceilT n d) 1
  | .round, .num n d => .num (nearT n d) 1
  | _, _ => .non
def two2 : O2 → Cell → Cell → Cell
  | .add, .num a b, .num c d => cellN (plusT a b c d)
  | .sub, .num a b, .num c d => cellN (minusT a b c d)
  | .mul, .num a b, .num c d => cellN (timesT a b c d)
  | .div, .num a b, .num c d => if c = 0 then .non else cellN (overT a b c d)
  | .join, .txt x, .txt y => .txt (x ++ y)
  | .least, a, b => if cmpC a b = 1 then b else a
  | .greatest, a, b => if cmpC a b = -1 then b else a
  | .eq, a, b => .bl (decide (cmpC a b = 0))
  | .ne, a, b => .bl (!decide (cmpC a b = 0))
  | .lt, a, b => .bl (decide (cmpC a b = -1))
  | .le, a, b => .bl (!decide (cmpC a b = 1))
  | .gt, a, b => .bl (decide (cmpC a b = 1))
  | .ge, a, b => .bl (!decide (cmpC a b = -1))
  | _, _, _ => .non
/-- the kinds that an operation asks -/
def fit1 : O1 → Cell → Bool
  | .not, .bl _ => true
  | .text, .non => false
  | .text, _ => true
  | .length, .txt _ => true
  | .minus, .num _ _ => true
  | .abs, .num _ _ => true
  | .floor, .num _ _ => true
  | .ceil, .num _ _ => true
  | .round, .num _ _ => true
  | _, _ => false
def fit2 : O2 → Cell → Cell → Bool
  | .add, .num _ _, .num _ _ => true
  | .sub, .num _ _, .num _ _ => true
  | .mul, .num _ _, .num _ _ => true
  | .div, .num _ _, .num _ _ => true
  | .join, .txt _, .txt _ => true
  | .add, _, _ => false
  | .sub, _, _ => false
  | .mul, _, _ => false
  | .div, _, _ => false
  | .join, _, _ => false
  | .and, _, _ => false
  | .or, _, _ => false
  | _, a, b => decide (a.kind = b.kind ∧ a ≠ .non)
section
variable {P : Program} {w : World} {K : PySem.W.Frag} {mg : Str → Option Value} {base : Heap}
def spOne (K : PySem.W.Frag) : Sp := fun vs H Q _ => ∃ (o : O1) (v : V) (c : Cell), vs = [.str o.s, v] ∧ IsCell K H v c ∧ c.Ok ∧ fit1 o c = true ∧ ∀ u H', Same H H' → IsCell K H' u (one1 o c) → Q u H'
abbrev N_of_one : List Str := ["word", "a"]
theorem sc_of_one : FnScope N_of_one ["word", "a"] (defScope (topS 34)) := ⟨rfl, rfl, rfl, by decide +kernel, rfl, by decide +kernel, by decide +kernel⟩
theorem ok_of_one (E : Ev K w mg) : FnOk P w K mg base CX0 4 E.d_of_one.f E.d_of_one.fd ["word", "a"] (spOne K) := by
  refine E.d_of_one.F.ok sc_of_one (fun vs H Q X h => ?_) (fun cdv A outer s H vs Q X hr h => ?_)
  · obtain ⟨o, v, c, rfl, _⟩ := h
    rfl
  · obtain ⟨o, v, c, rfl, hc, oc, ft, q⟩ := h
    refine ⟨_, PSs.nox (pss_cons (ps_if (pt_cmpR op_eq (pv 0) pe_str (nomark _)) (pss_one (ps_ret (pe_not (pv 1)))) pss_nil)
      (pss_cons (ps_if (pt_cmpR op_eq (pv 0) pe_str (nomark _)) (pss_one (ps_ret (pe_call (ok_cell_text E) (hr.mono (by omega)) (by rfl) E.d_cell_text.g E.d_cell_text.F.kp E.d_cell_text.b .nil pass0 (pa_cons (pv 1) pa_nil)))) pss_nil)
      (pss_cons (ps_if (pt_cmpR op_eq (pv 0) pe_str (nomark _)) (pss_one (ps_ret (pe_tup (pa_cons (pe_callB call_len (by rfl) E.n_len (by decide +kernel) (pa_cons (pv 1) pa_nil)) (pa_cons pe_int pa_nil))))) pss_nil)
      (pss_cons (ps_if (pt_cmpR op_eq (pv 0) pe_str (nomark _)) (pss_one (ps_ret (pe_tup (pa_cons (pe_un un_neg (pe_ix ix_tup (pv 1) pe_int (fun _ _ => rfl))) (pa_cons (pe_ix ix_tup (pv 1) pe_int (fun _ _ => rfl)) pa_nil))))) pss_nil)
      (pss_cons (ps_if (pt_cmpR op_eq (pv 0) pe_str (nomark _)) (pss_one (ps_ret (pe_tup (pa_cons (pe_callB call_abs (by rfl) E.n_abs (by decide +kernel) (pa_cons (pe_ix ix_tup (pv 1) pe_int (fun _ _ => rfl)) pa_nil)) (pa_cons (pe_ix ix_tup (pv 1) pe_int (fun _ _ => rfl)) pa_nil))))) pss_nil)
      (pss_cons (ps_if (pt_cmpR op_eq (pv 0) pe_str (nomark _)) (pss_one (ps_ret (pe_tup (pa_cons (pe_call (ok_floor_of E) (hr.mono (by omega)) (by rfl) E.d_floor_of.g E.d_floor_of.F.kp E.d_floor_of.b .nil pass0 (pa_cons (pv 1) pa_nil)) (pa_cons pe_int pa_nil))))) pss_nil)
      (pss_cons (ps_if (pt_cmpR op_eq (pv 0) pe_str (nomark _)) (pss_one (ps_ret (pe_tup (pa_cons (pe_call (ok_ceiling_of E) (hr.mono (by omega)) (by rfl) E.d_ceiling_of.g E.d_ceiling_of.F.kp E.d_ceiling_of.b .nil pass0 (pa_cons (pv 1) pa_nil)) (pa_cons pe_int pa_nil))))) pss_nil)
      (pss_one (ps_ret (pe_tup (pa_cons (pe_call (ok_nearest_of E) (hr.mono (by omega)) (by rfl) E.d_nearest_of.g E.d_nearest_of.F.kp E.d_nearest_of.b .nil pass0 (pa_cons (pv 1) pa_nil)) (pa_cons pe_int pa_nil)))))))))))), ?_⟩
    refine ⟨_, rfl, rfl, _, rfl, ite2 (fun k => ?_) (fun k1 => ?_)⟩
    · have eo : o = .not := by cases o <;> first | rfl | exact absurd k (by decide +kernel)
      subst eo
      cases c with
      | bl b =>
        have e : v = .bl b := hc
        subst e
        exact ⟨_, rfl, _, rfl, q _ _ (Same.refl H) rfl⟩
      | _ => cases ft
    refine ⟨_, rfl, rfl, _, rfl, ite2 (fun k => ?_) (fun k2 => ?_)⟩
    · have eo : o = .text := by cases o <;> first | rfl | exact absurd k (by decide +kernel)
      subst eo
      exact ⟨_, rfl, v, c, rfl, hc, (by intro z; subst z; cases ft), oc, q _ _ (Same.refl H) rfl⟩
    refine ⟨_, rfl, rfl, _, rfl, ite2 (fun k => ?_) (fun k3 => ?_)⟩
    · have eo : o = .length := by cases o <;> first | rfl | exact absurd k (by decide +kernel)
      subst eo
      cases c with
      | txt x =>
        have e : v = .str x := hc
        subst e
        have hx := oc.1
        exact ⟨_, rfl, _, _, rfl, ⟨small (by omega), rfl⟩, (by show 2 ≤ sizeLine; decide), fun p1 n1 => q _ _ (same_new n1) isCell_new⟩
      | _ => cases ft
    refine ⟨_, rfl, rfl, _, rfl, ite2 (fun k => ?_) (fun k4 => ?_)⟩
    · have eo : o = .minus := by cases o <;> first | rfl | exact absurd k (by decide +kernel)
      subst eo
      cases c with
      | num n d =>
        obtain ⟨p, rfl, hp⟩ := hc
        exact ⟨_, rfl, _, _, _, _, rfl, rfl, hp, atI_nat (j := 0) rfl, _, rfl, _, rfl, _, _, _, _, rfl, rfl, hp, atI_nat (j := 1) rfl, (by show 2 ≤ sizeLine; decide), fun p1 n1 => q _ _ (same_new n1) isCell_new⟩
      | _ => cases ft
    refine ⟨_, rfl, rfl, _, rfl, ite2 (fun k => ?_) (fun k5 => ?_)⟩
    · have eo : o = .abs := by cases o <;> first | rfl | exact absurd k (by decide +kernel)
      subst eo
      cases c with
      | num n d =>
        obtain ⟨p, rfl, hp⟩ := hc
        exact ⟨_, rfl, _, _, _, _, rfl, rfl, hp, atI_nat (j := 0) rfl, _, rfl, _, rfl, _, _, _, _, rfl, rfl, hp, atI_nat (j := 1) rfl, (by show 2 ≤ sizeLine; decide), fun p1 n1 => q _ _ (same_new n1) isCell_new⟩
      | _ => cases ft
    refine ⟨_, rfl, rfl, _, rfl, ite2 (fun k => ?_) (fun k6 => ?_)⟩
    · have eo : o = .floor := by cases o <;> first | rfl | exact absurd k (by decide +kernel)
      subst eo
      cases c with
      | num n d => exact ⟨_, rfl, v, n, d, rfl, hc, oc.1, (by show 2 ≤ sizeLine; decide), fun p1 n1 => q _ _ (same_new n1) isCell_new⟩
      | _ => cases ft
    refine ⟨_, rfl, rfl, _, rfl, ite2 (fun k => ?_) (fun k7 => ?_)⟩
    · have eo : o = .ceil := by cases o <;> first | rfl | exact absurd k (by decide +kernel)
      subst eo
      cases c with
      | num n d => exact ⟨_, rfl, v, n, d, rfl, hc, oc.1, (by show 2 ≤ sizeLine; decide), fun p1 n1 => q _ _ (same_new n1) isCell_new⟩
      | _ => cases ft
    · have eo : o = .round := by
        cases o with
        | minus => exact absurd (by decide +kernel) k4
        | abs => exact absurd (by decide +kernel) k5
        | floor => exact absurd (by decide +kernel) k6
        | ceil => exact absurd (by decide +kernel) k7
        | round => rfl
        | length => exact absurd (by decide +kernel) k3
        | not => exact absurd (by decide +kernel) k1
        | text => exact absurd (by decide +kernel) k2
        | missing => cases c <;> cases ft
      subst eo
      cases c with
      | num n d => exact ⟨_, rfl, v, n, d, rfl, hc, oc.1, (by show 2 ≤ sizeLine; decide), fun p1 n1 => q _ _ (same_new n1) isCell_new⟩
      | _ => cases ft
def spTwo (K : PySem.W.Frag) : Sp := fun vs H Q _ => ∃ (o : O2) (v u : V) (a b : Cell), vs = [.str o.s, v, u] ∧ IsCell K H v a ∧ IsCell K H u b ∧ a.Ok ∧ b.Ok ∧ fit2 o a b = true ∧ ∀ x H', Same H H' → IsCell K H' x (two2 o a b) → Q x H'
theorem zero_ok {c d : Int} (h : NumOk c d) (z : ¬ (c = 0 ∧ d = 1)) : c ≠ 0 := fun e => by
  subst e
  obtain ⟨⟨d0, _, _⟩, g⟩ := h
  have g2 : Nat.gcd 0 d.natAbs = 1 := g
  rw [Nat.gcd_zero_left] at g2
  exact z ⟨rfl, by omega⟩
abbrev N_of_two : List Str := ["word", "a", "b", "order"]
theorem sc_of_two : FnScope N_of_two ["word", "a", "b"] (defScope (topS 35)) := ⟨rfl, rfl, rfl, by decide +kernel, rfl, by decide +kernel, by decide +kernel⟩
theorem ok_of_two (E : Ev K w mg) : FnOk P w K mg base CX0 3 E.d_of_two.f E.d_of_two.fd ["word", "a", "b"] (spTwo K) := by
  refine E.d_of_two.F.ok sc_of_two (fun vs H Q X h => ?_) (fun cdv A outer s H vs Q X hr h => ?_)
  · obtain ⟨o, v, u, a, b, rfl, _⟩ := h
    rfl
  · obtain ⟨o, v, u, a, b, rfl, ha, hb, oa, ob, ft, q⟩ := h
    refine ⟨_, PSs.nox (pss_cons (ps_if (pt_cmpR op_eq (pv 0) pe_str (nomark _)) (pss_one (ps_ret (pe_call (ok_plus E) (hr.mono (by omega)) (by rfl) E.d_plus.g E.d_plus.F.kp E.d_plus.b .nil pass0 (pa_cons (pv 1) (pa_cons (pv 2) pa_nil))))) pss_nil)
      (pss_cons (ps_if (pt_cmpR op_eq (pv 0) pe_str (nomark _)) (pss_one (ps_ret (pe_call (ok_minus E) (hr.mono (by omega)) (by rfl) E.d_minus.g E.d_minus.F.kp E.d_minus.b .nil pass0 (pa_cons (pv 1) (pa_cons (pv 2) pa_nil))))) pss_nil)
      (pss_cons (ps_if (pt_cmpR op_eq (pv 0) pe_str (nomark _)) (pss_one (ps_ret (pe_call (ok_times E) (hr.mono (by omega)) (by rfl) E.d_times.g E.d_times.F.kp E.d_times.b .nil pass0 (pa_cons (pv 1) (pa_cons (pv 2) pa_nil))))) pss_nil)
      (pss_cons (ps_if (pt_cmpR op_eq (pv 0) pe_str (nomark _)) (pss_cons (ps_if (pt_cmpR (op_eqD hr.units) (pv 2) (pe_tup (pa_cons pe_int (pa_cons pe_int pa_nil))) (nomark _)) (pss_one (ps_ret pe_non)) pss_nil)
        (pss_one (ps_ret (pe_call (ok_over E) (hr.mono (by omega)) (by rfl) E.d_over.g E.d_over.F.kp E.d_over.b .nil pass0 (pa_cons (pv 1) (pa_cons (pv 2) pa_nil)))))) pss_nil)
      (pss_cons (ps_if (pt_cmpR op_eq (pv 0) pe_str (nomark _)) (pss_one (ps_ret (pe_op op_add_str (pv 1) (pv 2)))) pss_nil)
      (pss_cons (ps_set (i := 3) sc_of_two.nd rfl (.inl rfl) (pe_call (ok_compare_cells E) (hr.mono (by omega)) (by rfl) E.d_compare_cells.g E.d_compare_cells.F.kp E.d_compare_cells.b .nil pass0 (pa_cons (pv 1) (pa_cons (pv 2) pa_nil))))
      (pss_cons (ps_if (pt_cmpR op_eq (pv 0) pe_str (nomark _)) (pss_one (ps_ret (pe_ix ix_list (pe_lst (pa_cons (pv 1) (pa_cons (pv 1) (pa_cons (pv 2) pa_nil)))) (pe_op op_add (pv 3) pe_int) (fun _ _ => rfl)))) pss_nil)
      (pss_cons (ps_if (pt_cmpR op_eq (pv 0) pe_str (nomark _)) (pss_one (ps_ret (pe_ix ix_list (pe_lst (pa_cons (pv 2) (pa_cons (pv 1) (pa_cons (pv 1) pa_nil)))) (pe_op op_add (pv 3) pe_int) (fun _ _ => rfl)))) pss_nil)
      (pss_cons (ps_if (pt_cmpR op_in_seq (pv 0) (pe_tup (pa_cons pe_str (pa_cons pe_str pa_nil))) (by rfl)) (pss_one (ps_ret (pe_cmpR op_eq (pe_cmpR op_eq (pv 3) pe_int (nomark _)) (pe_cmpR op_eq (pv 0) pe_str (nomark _)) (nomark _)))) pss_nil)
      (pss_cons (ps_if (pt_cmpR op_in_seq (pv 0) (pe_tup (pa_cons pe_str (pa_cons pe_str pa_nil))) (by rfl)) (pss_one (ps_ret (pe_or (pe_cmpR op_lt (pv 3) pe_int (nomark _)) (pe_one (pe_and (pe_cmpR op_eq (pv 3) pe_int (nomark _)) (pe_one (pe_cmpR op_eq (pv 0) pe_str (nomark _)))))))) pss_nil)
      (pss_one (ps_ret (pe_or (pe_cmpR op_gt (pv 3) pe_int (nomark _)) (pe_one (pe_and (pe_cmpR op_eq (pv 3) pe_int (nomark _)) (pe_one (pe_cmpR op_eq (pv 0) pe_str (nomark _)))))))))))))))))), ?_⟩
    refine ⟨_, rfl, rfl, _, rfl, ite2 (fun k => ?_) (fun k1 => ?_)⟩
    · have eo : o = .add := by cases o <;> first | rfl | exact absurd k (by decide +kernel)
      subst eo
      cases a <;> cases b <;> first | (exfalso; simp [fit2] at ft; done) | skip
      exact ⟨_, rfl, _, rfl, v, u, _, _, _, _, rfl, ha, hb, oa.1, ob.1, trivial, q⟩
    refine ⟨_, rfl, rfl, _, rfl, ite2 (fun k => ?_) (fun k2 => ?_)⟩
    · have eo : o = .sub := by cases o <;> first | rfl | exact absurd k (by decide +kernel)
      subst eo
      cases a <;> cases b <;> first | (exfalso; simp [fit2] at ft; done) | skip
      exact ⟨_, rfl, _, rfl, v, u, _, _, _, _, rfl, ha, hb, oa.1, ob.1, trivial, q⟩
    refine ⟨_, rfl, rfl, _, rfl, ite2 (fun k => ?_) (fun k3 => ?_)⟩
    · have eo : o = .mul := by cases o <;> first | rfl | exact absurd k (by decide +kernel)
      subst eo
      cases a <;> cases b <;> first | (exfalso; simp [fit2] at ft; done) | skip
      exact ⟨_, rfl, _, rfl, v, u, _, _, _, _, rfl, ha, hb, oa.1, ob.1, trivial, q⟩
    refine ⟨_, rfl, rfl, _, rfl, ite2 (fun k => ?_) (fun k4 => ?_)⟩
    · have eo : o = .div := by cases o <;> first | rfl | exact absurd k (by decide +kernel)
      subst eo
      cases a with
      | num n d => cases b with
        | num m e =>
          refine ⟨_, rfl, (by show 2 ≤ sizeLine; decide), fun p1 n1 => ?_⟩
          have kp := keep_new (o := .tup [.int 0, .int 1]) n1
          have sm := same_new (o := .tup [.int 0, .int 1]) n1
          refine ⟨_, _, dp_cell (hb.keep kp), .tup (.inl (.inl upd_same)) (.cons (.int 0) (.cons (.int 1) .nil)), shaped_cell ob, by decide +kernel, _, rfl, ite2 (fun c => ?_) (fun c => ?_)⟩
          · have c' : (m == 0 && (e == 1 && true)) = true := by
              have z := c
              simp only [dataOf, PyData.eqv, PyData.eqvAll] at z
              exact z
            have m0 : m = 0 := by
              have := (Bool.and_eq_true_iff.mp c').1
              exact eq_of_beq this
            refine q _ _ sm ?_
            show IsCell K _ _ (if m = 0 then .non else _)
            rw [if_pos m0]
            exact rfl
          · have m0 : m ≠ 0 := zero_ok ob fun z => by
              apply c
              simp only [dataOf, PyData.eqv, PyData.eqvAll]
              rw [z.1, z.2]
              rfl
            refine ⟨_, rfl, _, rfl, v, u, _, _, _, _, rfl, ha.keep kp, hb.keep kp, oa.1, ob.1, m0, fun x H' s' hx => q x H' (sm.trans s') ?_⟩
            show IsCell K _ _ (if m = 0 then .non else _)
            rw [if_neg m0]
            exact hx
        | _ => exact absurd ft (by simp [fit2])
      | _ => exact absurd ft (by simp [fit2])
    refine ⟨_, rfl, rfl, _, rfl, ite2 (fun k => ?_) (fun k5 => ?_)⟩
    · have eo : o = .join := by cases o <;> first | rfl | exact absurd k (by decide +kernel)
      subst eo
      cases a with
      | txt x => cases b with
        | txt y =>
          have e1 : v = .str x := ha
          have e2 : u = .str y := hb
          subst e1 e2
          have h1 := oa.1
          have h2 := ob.1
          exact ⟨_, rfl, _, rfl, _, _, rfl, rfl, small (by omega), q _ _ (Same.refl H) rfl⟩
        | _ => exact absurd ft (by simp [fit2])
      | _ => exact absurd ft (by simp [fit2])
    have hk : a.kind = b.kind ∧ a ≠ .non := by
      cases o with
      | add => exact absurd (by decide +kernel) k1
      | sub => exact absurd (by decide +kernel) k2
      | mul => exact absurd (by decide +kernel) k3
      | div => exact absurd (by decide +kernel) k4
      | join => exact absurd (by decide +kernel) k5
      | and => exact absurd ft (by simp [fit2])
      | or => exact absurd ft (by simp [fit2])
      | _ => exact of_decide_eq_true (by simpa [fit2] using ft)
    refine ⟨_, rfl, _, rfl, v, u, a, b, rfl, ha, hb, oa, ob, hk.1, hk.2, ?_⟩
    have rg := cmpC_range a b
    refine ⟨_, rfl, rfl, _, rfl, ite2 (fun k => ?_) (fun k6 => ?_)⟩
    · have eo : o = .least := by cases o <;> first | rfl | exact absurd k (by decide +kernel)
      subst eo
      refine ⟨_, rfl, _, rfl, _, rfl, (by show 3 ≤ sizeLine; decide), fun p1 n1 => ?_⟩
      have kp := keep_new (o := .lst [v, v, u]) n1
      have q2 : ∀ x, IsCell K _ x (if cmpC a b = 1 then b else a) → Q x _ := fun x hx => q x _ (same_new (o := .lst [v, v, u]) n1) hx
      rcases rg with e | e | e
      · rw [e] at q2 ⊢
        exact ⟨_, rfl, _, _, rfl, rfl, _, _, _, _, rfl, rfl, .inl (.inl upd_same), atI_nat (j := 0) rfl, q2 _ (ha.keep kp)⟩
      · rw [e] at q2 ⊢
        exact ⟨_, rfl, _, _, rfl, rfl, _, _, _, _, rfl, rfl, .inl (.inl upd_same), atI_nat (j := 1) rfl, q2 _ (ha.keep kp)⟩
      · rw [e] at q2 ⊢
        exact ⟨_, rfl, _, _, rfl, rfl, _, _, _, _, rfl, rfl, .inl (.inl upd_same), atI_nat (j := 2) rfl, q2 _ (hb.keep kp)⟩
    refine ⟨_, rfl, rfl, _, rfl, ite2 (fun k => ?_) (fun k7 => ?_)⟩
    · have eo : o = .greatest := by cases o <;> first | rfl | exact absurd k (by decide +kernel)
      subst eo
      refine ⟨_, rfl, _, rfl, _, rfl, (by show 3 ≤ sizeLine; decide), fun p1 n1 => ?_⟩
      have kp := keep_new (o := .lst [u, v, v]) n1
      have q2 : ∀ x, IsCell K _ x (if cmpC a b = -1 then b else a) → Q x _ := fun x hx => q x _ (same_new (o := .lst [u, v, v]) n1) hx
      rcases rg with e | e | e
      · rw [e] at q2 ⊢
        exact ⟨_, rfl, _, _, rfl, rfl, _, _, _, _, rfl, rfl, .inl (.inl upd_same), atI_nat (j := 0) rfl, q2 _ (hb.keep kp)⟩
      · rw [e] at q2 ⊢
        exact ⟨_, rfl, _, _, rfl, rfl, _, _, _, _, rfl, rfl, .inl (.inl upd_same), atI_nat (j := 1) rfl, q2 _ (ha.keep kp)⟩
      · rw [e] at q2 ⊢
        exact ⟨_, rfl, _, _, rfl, rfl, _, _, _, _, rfl, rfl, .inl (.inl upd_same), atI_nat (j := 2) rfl, q2 _ (ha.keep kp)⟩
    have k8 : ∀ (o' : O2), o' = o → o' ≠ .add ∧ o' ≠ .sub ∧ o' ≠ .mul ∧ o' ≠ .div ∧ o' ≠ .join ∧ o' ≠ .and ∧ o' ≠ .or ∧ o' ≠ .least ∧ o' ≠ .greatest := fun o' eo => by
      subst eo
      refine ⟨?_, ?_, ?_, ?_, ?_, ?_, ?_, ?_, ?_⟩ <;> rintro rfl
      · exact absurd (by decide +kernel) k1
      · exact absurd (by decide +kernel) k2
      · exact absurd (by decide +kernel) k3
      · exact absurd (by decide +kernel) k4
      · exact absurd (by decide +kernel) k5
      · exact absurd ft (by simp [fit2])
      · exact absurd ft (by simp [fit2])
      · exact absurd (by decide +kernel) k6
      · exact absurd (by decide +kernel) k7
    obtain ⟨j1, j2, j3, j4, j5, j6, j7, j8, j9⟩ := k8 o rfl
    clear k1 k2 k3 k4 k5 k6 k7 k8 ft
    cases o with
    | add => exact absurd rfl j1
    | sub => exact absurd rfl j2
    | mul => exact absurd rfl j3
    | div => exact absurd rfl j4
    | join => exact absurd rfl j5
    | and => exact absurd rfl j6
    | or => exact absurd rfl j7
    | least => exact absurd rfl j8
    | greatest => exact absurd rfl j9
    | eq =>
      have q2 : ∀ x H', Same H H' → IsCell K H' x (.bl (decide (cmpC a b = 0))) → Q x H' := q
      generalize cmpC a b = z at q2 rg ⊢
      refine ⟨_, rfl, (by show 2 ≤ sizeLine; decide), fun p4 n4 => ?_⟩
      refine ⟨_, _, rfl, .inr (.inl (.inl upd_same)), rfl, rfl, _, rfl, ifT (by decide +kernel) ?_⟩
      refine ⟨_, rfl, rfl, _, rfl, rfl, rfl, q2 _ _ (same_new n4) ?_⟩
      rcases rg with rfl | rfl | rfl
      · show V.bl _ = V.bl _
        decide +kernel
      · show V.bl _ = V.bl _
        decide +kernel
      · show V.bl _ = V.bl _
        decide +kernel
    | ne =>
      have q2 : ∀ x H', Same H H' → IsCell K H' x (.bl (!decide (cmpC a b = 0))) → Q x H' := q
      generalize cmpC a b = z at q2 rg ⊢
      refine ⟨_, rfl, (by show 2 ≤ sizeLine; decide), fun p4 n4 => ?_⟩
      refine ⟨_, _, rfl, .inr (.inl (.inl upd_same)), rfl, rfl, _, rfl, ifT (by decide +kernel) ?_⟩
      refine ⟨_, rfl, rfl, _, rfl, rfl, rfl, q2 _ _ (same_new n4) ?_⟩
      rcases rg with rfl | rfl | rfl
      · show V.bl _ = V.bl _
        decide +kernel
      · show V.bl _ = V.bl _
        decide +kernel
      · show V.bl _ = V.bl _
        decide +kernel
    | lt =>
      have q2 : ∀ x H', Same H H' → IsCell K H' x (.bl (decide (cmpC a b = -1))) → Q x H' := q
      generalize cmpC a b = z at q2 rg ⊢
      refine ⟨_, rfl, (by show 2 ≤ sizeLine; decide), fun p4 n4 => ?_⟩
      refine ⟨_, _, rfl, .inr (.inl (.inl upd_same)), rfl, rfl, _, rfl, ifF (by decide +kernel) ?_⟩
      refine ⟨_, rfl, (by show 2 ≤ sizeLine; decide), fun p5 n5 => ?_⟩
      have sm := (same_new (o := .tup [.str "=", .str "<>"]) n4).trans (same_new (o := .tup [.str "<", .str "<="]) n5)
      refine ⟨_, _, rfl, .inr (.inl (.inl upd_same)), rfl, rfl, _, rfl, ifT (by decide +kernel) ?_⟩
      rcases rg with rfl | rfl | rfl
      · exact ⟨_, rfl, _, _, rfl, rfl, _, rfl, ifT (by decide) (q2 _ _ sm (by show V.bl _ = V.bl _; decide +kernel))⟩
      · exact ⟨_, rfl, _, _, rfl, rfl, _, rfl, ifF (by decide) ⟨_, rfl, rfl, _, rfl, ifT (by decide +kernel) ⟨_, rfl, rfl, q2 _ _ sm (by show V.bl _ = V.bl _; decide +kernel)⟩⟩⟩
      · exact ⟨_, rfl, _, _, rfl, rfl, _, rfl, ifF (by decide) ⟨_, rfl, rfl, _, rfl, ifF (by decide +kernel) (q2 _ _ sm (by show V.bl _ = V.bl _; decide +kernel))⟩⟩
    | le =>
      have q2 : ∀ x H', Same H H' → IsCell K H' x (.bl (!decide (cmpC a b = 1))) → Q x H' := q
      generalize cmpC a b = z at q2 rg ⊢
      refine ⟨_, rfl, (by show 2 ≤ sizeLine; decide), fun p4 n4 => ?_⟩
      refine ⟨_, _, rfl, .inr (.inl (.inl upd_same)), rfl, rfl, _, rfl, ifF (by decide +kernel) ?_⟩
      refine ⟨_, rfl, (by show 2 ≤ sizeLine; decide), fun p5 n5 => ?_⟩
      have sm := (same_new (o := .tup [.str "=", .str "<>"]) n4).trans (same_new (o := .tup [.str "<", .str "<="]) n5)
      refine ⟨_, _, rfl, .inr (.inl (.inl upd_same)), rfl, rfl, _, rfl, ifT (by decide +kernel) ?_⟩
      rcases rg with rfl | rfl | rfl
      · exact ⟨_, rfl, _, _, rfl, rfl, _, rfl, ifT (by decide) (q2 _ _ sm (by show V.bl _ = V.bl _; decide +kernel))⟩
      · exact ⟨_, rfl, _, _, rfl, rfl, _, rfl, ifF (by decide) ⟨_, rfl, rfl, _, rfl, ifT (by decide +kernel) ⟨_, rfl, rfl, q2 _ _ sm (by show V.bl _ = V.bl _; decide +kernel)⟩⟩⟩
      · exact ⟨_, rfl, _, _, rfl, rfl, _, rfl, ifF (by decide) ⟨_, rfl, rfl, _, rfl, ifF (by decide +kernel) (q2 _ _ sm (by show V.bl _ = V.bl _; decide +kernel))⟩⟩
    | gt =>
      have q2 : ∀ x H', Same H H' → IsCell K H' x (.bl (decide (cmpC a b = 1))) → Q x H' := q
      generalize cmpC a b = z at q2 rg ⊢
      refine ⟨_, rfl, (by show 2 ≤ sizeLine; decide), fun p4 n4 => ?_⟩
      refine ⟨_, _, rfl, .inr (.inl (.inl upd_same)), rfl, rfl, _, rfl, ifF (by decide +kernel) ?_⟩
      refine ⟨_, rfl, (by show 2 ≤ sizeLine; decide), fun p5 n5 => ?_⟩
      have sm := (same_new (o := .tup [.str "=", .str "<>"]) n4).trans (same_new (o := .tup [.str "<", .str "<="]) n5)
      refine ⟨_, _, rfl, .inr (.inl (.inl upd_same)), rfl, rfl, _, rfl, ifF (by decide +kernel) ?_⟩
      rcases rg with rfl | rfl | rfl
      · exact ⟨_, rfl, _, _, rfl, rfl, _, rfl, ifF (by decide) ⟨_, rfl, rfl, _, rfl, ifF (by decide +kernel) (q2 _ _ sm (by show V.bl _ = V.bl _; decide +kernel))⟩⟩
      · exact ⟨_, rfl, _, _, rfl, rfl, _, rfl, ifF (by decide) ⟨_, rfl, rfl, _, rfl, ifT (by decide +kernel) ⟨_, rfl, rfl, q2 _ _ sm (by show V.bl _ = V.bl _; decide +kernel)⟩⟩⟩
      · exact ⟨_, rfl, _, _, rfl, rfl, _, rfl, ifT (by decide) (q2 _ _ sm (by show V.bl _ = V.bl _; decide +kernel))⟩
    | ge =>
      have q2 : ∀ x H', Same H H' → IsCell K H' x (.bl (!decide (cmpC a b = -1))) → Q x H' := q
      generalize cmpC a b = z at q2 rg ⊢
      refine ⟨_, rfl, (by show 2 ≤ sizeLine; decide), fun p4 n4 => ?_⟩
      refine ⟨_, _, rfl, .inr (.inl (.inl upd_same)), rfl, rfl, _, rfl, ifF (by decide +kernel) ?_⟩
      refine ⟨_, rfl, (by show 2 ≤ sizeLine; decide), fun p5 n5 => ?_⟩
      have sm := (same_new (o := .tup [.str "=", .str "<>"]) n4).trans (same_new (o := .tup [.str "<", .str "<="]) n5)
      refine ⟨_, _, rfl, .inr (.inl (.inl upd_same)), rfl, rfl, _, rfl, ifF (by decide +kernel) ?_⟩
      rcases rg with rfl | rfl | rfl
      · exact ⟨_, rfl, _, _, rfl, rfl, _, rfl, ifF (by decide) ⟨_, rfl, rfl, _, rfl, ifF (by decide +kernel) (q2 _ _ sm (by show V.bl _ = V.bl _; decide +kernel))⟩⟩
      · exact ⟨_, rfl, _, _, rfl, rfl, _, rfl, ifF (by decide) ⟨_, rfl, rfl, _, rfl, ifT (by decide +kernel) ⟨_, rfl, rfl, q2 _ _ sm (by show V.bl _ = V.bl _; decide +kernel)⟩⟩⟩
      · exact ⟨_, rfl, _, _, rfl, rfl, _, rfl, ifT (by decide) (q2 _ _ sm (by show V.bl _ = V.bl _; decide +kernel))⟩
end
end K7
/-! W5 -/
namespace K7
open PySem PySem.Spec PyProof.Rows L2 TL
/-! ### heaps that go on: what may change lies in V -/
structure Ex (V : Addr → Prop) (H H' : Hp) : Prop where
  at_ : ∀ b o, ¬ V b → H b = some o → H' b = some o
  kp : Keep H H'
theorem Ex.refl (V : Addr → Prop) (H : Hp) : Ex V H H := ⟨fun _ _ _ h => h, Keep.refl H⟩
theorem Ex.trans {V : Addr → Prop} {H H1 H2 : Hp} (a : Ex V H H1) (b : Ex V H1 H2) : Ex V H H2 := ⟨fun c o n h => b.at_ c o n (a.at_ c o n h), a.kp.trans b.kp⟩
theorem Ex.mono {V W : Addr → Prop} {H H' : Hp} (a : Ex V H H') (h : ∀ b, V b → W b) : Ex W H H' := ⟨fun c o n q => a.at_ c o (fun z => n (h c z)) q, a.kp⟩
theorem Same.ex {V : Addr → Prop} {H H' : Hp} (s : Same H H') : Ex V H H' := ⟨fun b o _ h => s b o h, Same.keep s⟩
theorem Ex.same {H H' : Hp} (s : Ex (fun _ => False) H H') : Same H H' := fun b o h => s.at_ b o (fun z => z) h
theorem ex_lst {V : Addr → Prop} {H : Hp} {p : Addr} {o : HO} {ys : List L2.V} (h : H p = some (.lst ys)) (hv : V p) : Ex V H (upd H p o) := ⟨fun b u n q => by rw [upd_ne (fun z => n (by rw [z]; exact hv))]; exact q, keep_lst h⟩
/-- behind i turns of a comprehension: the list at D holds what R says -/
structure MapInv (V : Addr → Prop) (P : Hp → Prop) (R : Nat → L2.V → Hp → Prop) (D : Addr) (H0 : Hp) (i : Nat) (H : Hp) : Prop where
  ex : Ex (fun b => V b ∨ b = D) H0 H
  p : P H
  l : ∃ ys, H D = some (.lst ys) ∧ ys.length = i ∧ ∀ j y, ys[j]? = some y → R j y H
theorem MapInv.zero {V : Addr → Prop} {P : Hp → Prop} {R : Nat → L2.V → Hp → Prop} {D : Addr} {H : Hp} (n : H D = none) (p : P (upd H D (.lst []))) : MapInv V P R D (upd H D (.lst [])) 0 (upd H D (.lst [])) :=
  ⟨Ex.refl _ _, p, [], upd_same, rfl, fun j y h => by simp at h⟩
theorem MapInv.step {V : Addr → Prop} {P : Hp → Prop} {R : Nat → L2.V → Hp → Prop} {D : Addr} {H0 H H' : Hp} {i : Nat} {y : L2.V} (h : MapInv V P R D H0 i H) (e : Ex V H H') (p : P H') (r : R i y H') (hD : ¬ V D) (hi : i < 1000)
    (hR : ∀ j z G G', R j z G → Ex (fun b => V b ∨ b = D) G G' → R j z G') (hP : ∀ G ys o, G D = some (.lst ys) → P G → P (upd G D o)) :
    ∃ acc, H' D = some (.lst acc) ∧ acc.length < sizeLine ∧ MapInv V P R D H0 (i + 1) (upd H' D (.lst (acc ++ [y]))) := by
  obtain ⟨ys, hl, hn, hr⟩ := h.l
  have hl' := e.at_ D _ hD hl
  have e1 : Ex (fun b => V b ∨ b = D) H H' := e.mono fun b z => .inl z
  have e2 : Ex (fun b => V b ∨ b = D) H' (upd H' D (.lst (ys ++ [y]))) := ex_lst hl' (.inr rfl)
  refine ⟨ys, hl', small1000 (by omega), h.ex.trans (e1.trans e2), hP _ _ _ hl' p, ys ++ [y], upd_same, by rw [List.length_append, hn] <;> rfl, fun j z hz => ?_⟩
  by_cases c : j < ys.length
  · rw [List.getElem?_append_left c] at hz
    exact hR _ _ _ _ (hr j z hz) (e1.trans e2)
  · have cj : j = ys.length := by
      have := (List.getElem?_eq_some_iff.mp hz).1
      rw [List.length_append, List.length_singleton] at this
      omega
    subst cj
    rw [List.getElem?_append_right (Nat.le_refl _), Nat.sub_self] at hz
    have ez : y = z := Option.some.inj hz
    subst ez
    rw [hn]
    exact hR _ _ _ _ r e2
/-! ### expressions -/
inductive Tree where
  | cell (c : Cell)
  | nothing (k : Kd)
  | column (x : Str)
  | one (o : O1) (t : Tree)
  | two (o : O2) (s t : Tree)
  | cond (c s t : Tree)
  | isin (t : Tree) (cs : List Cell)
def Tree.word : Tree → Str
  | .cell _ => "cell"
  | .nothing _ => "nothing"
  | .column _ => "column"
  | .one o _ => o.s
  | .two o _ _ => o.s
  | .cond _ _ _ => "if"
  | .isin _ _ => "in"
def Tree.parts : Tree → List Tree
  | .one _ t => [t]
  | .two _ s t => [s, t]
  | .cond c s t => [c, s, t]
  | .isin t _ => [t]
  | _ => []
def Tree.leaf : Tree → Bool
  | .cell _ => true
  | .nothing _ => true
  | .column _ => true
  | _ => false
def Tree.dep : Tree → Nat
  | .one _ t => t.dep + 1
  | .two _ s t => max s.dep t.dep + 1
  | .cond c s t => max c.dep (max s.dep t.dep) + 1
  | .isin t _ => t.dep + 1
  | _ => 0
theorem dep_parts {t p : Tree} (h : p ∈ t.parts) : p.dep < t.dep := by
  cases t <;> simp only [Tree.parts, List.mem_cons, List.not_mem_nil, or_false] at h
  · subst h
    simp only [Tree.dep]
    omega
  · rcases h with rfl | rfl <;> simp only [Tree.dep] <;> omega
  · rcases h with rfl | rfl | rfl <;> simp only [Tree.dep] <;> omega
  · subst h
    simp only [Tree.dep]
    omega
/-- its cells are cells that are there -/
def Tree.Ok : Tree → Prop
  | .cell c => c.Ok ∧ c ≠ .non
  | .one _ t => t.Ok
  | .two _ s t => s.Ok ∧ t.Ok
  | .cond c s t => c.Ok ∧ s.Ok ∧ t.Ok
  | .isin t cs => t.Ok ∧ (∀ c ∈ cs, c.Ok ∧ c ≠ .non) ∧ cs.length ≤ 8
  | _ => True
theorem ok_parts {t p : Tree} (o : t.Ok) (h : p ∈ t.parts) : p.Ok := by
  cases t <;> simp only [Tree.parts, List.mem_cons, List.not_mem_nil, or_false] at h
  · subst h
    exact o
  · rcases h with rfl | rfl
    · exact o.1
    · exact o.2
  · rcases h with rfl | rfl | rfl
    · exact o.1
    · exact o.2.1
    · exact o.2.2
  · subst h
    exact o.1
/-- v is the expression t -/
def IsTree (K : PySem.W.Frag) (H : Hp) : V → Tree → Prop
  | v, .cell c => ∃ a u, v = .ref a ∧ SqT K H a [.str "cell", u] ∧ IsCell K H u c
  | v, .nothing k => ∃ a, v = .ref a ∧ SqT K H a [.str "nothing", .str k.s]
  | v, .column x => ∃ a, v = .ref a ∧ SqT K H a [.str "column", .str x]
  | v, .one o t => ∃ a u, v = .ref a ∧ SqT K H a [.str o.s, u] ∧ IsTree K H u t
  | v, .two o s t => ∃ a u u', v = .ref a ∧ SqT K H a [.str o.s, u, u'] ∧ IsTree K H u s ∧ IsTree K H u' t
  | v, .cond c s t => ∃ a u u' u'', v = .ref a ∧ SqT K H a [.str "if", u, u', u''] ∧ IsTree K H u c ∧ IsTree K H u' s ∧ IsTree K H u'' t
  | v, .isin t cs => ∃ a u b us, v = .ref a ∧ SqT K H a [.str "in", u, .ref b] ∧ IsTree K H u t ∧ SqT K H b us ∧ Cells K H us cs
theorem IsTree.keep {K : PySem.W.Frag} {H H' : Hp} (e : Keep H H') : ∀ {t : Tree} {v : V}, IsTree K H v t → IsTree K H' v t
  | .cell c, v, ⟨a, u, e1, h, hc⟩ => ⟨a, u, e1, e.tup h, hc.keep e⟩
  | .nothing k, v, ⟨a, e1, h⟩ => ⟨a, e1, e.tup h⟩
  | .column x, v, ⟨a, e1, h⟩ => ⟨a, e1, e.tup h⟩
  | .one o t, v, ⟨a, u, e1, h, h1⟩ => ⟨a, u, e1, e.tup h, IsTree.keep e h1⟩
  | .two o s t, v, ⟨a, u, u', e1, h, h1, h2⟩ => ⟨a, u, u', e1, e.tup h, IsTree.keep e h1, IsTree.keep e h2⟩
  | .cond c s t, v, ⟨a, u, u', u'', e1, h, h1, h2, h3⟩ => ⟨a, u, u', u'', e1, e.tup h, IsTree.keep e h1, IsTree.keep e h2, IsTree.keep e h3⟩
  | .isin t cs, v, ⟨a, u, b, us, e1, h, h1, h2, h3⟩ => ⟨a, u, b, us, e1, e.tup h, IsTree.keep e h1, e.tup h2, h3.keep e⟩
/-- the tuple of an expression: the word, what follows it -/
theorem IsTree.head {K : PySem.W.Frag} {H : Hp} {v : V} {t : Tree} (h : IsTree K H v t) : ∃ a r, v = .ref a ∧ SqT K H a (.str t.word :: r) ∧ r ≠ [] := by
  cases t with
  | cell c => obtain ⟨a, u, e, h, _⟩ := h; exact ⟨a, _, e, h, by simp⟩
  | nothing c => obtain ⟨a, e, h⟩ := h; exact ⟨a, _, e, h, by simp⟩
  | column c => obtain ⟨a, e, h⟩ := h; exact ⟨a, _, e, h, by simp⟩
  | one o t => obtain ⟨a, u, e, h, _⟩ := h; exact ⟨a, _, e, h, by simp⟩
  | two o s t => obtain ⟨a, u, u', e, h, _⟩ := h; exact ⟨a, _, e, h, by simp⟩
  | cond c s t => obtain ⟨a, u, u', u'', e, h, _⟩ := h; exact ⟨a, _, e, h, by simp⟩
  | isin t cs => obtain ⟨a, u, b, us, e, h, _⟩ := h; exact ⟨a, _, e, h, by simp⟩
abbrev Trees (K : PySem.W.Frag) (H : Hp) : List V → List Tree → Prop := Paired (IsTree K H)
theorem Trees.keep {K : PySem.W.Frag} {H H' : Hp} {vs : List V} {ts : List Tree} (h : Trees K H vs ts) (e : Keep H H') : Trees K H' vs ts := Paired.mapP h fun _ _ z => z.keep e
/-! ### columns, rows -/
abbrev Cols : Type := List (Str × Kd)
def IsCol (K : PySem.W.Frag) (H : Hp) (v : V) (c : Str × Kd) : Prop := ∃ a, v = .ref a ∧ SqT K H a [.str c.1, .str c.2.s]
def IsCols (K : PySem.W.Frag) (H : Hp) (a : Addr) (cols : Cols) : Prop := ∃ us, SqT K H a us ∧ Paired (IsCol K H) us cols ∧ cols.length ≤ 6
def IsRow (K : PySem.W.Frag) (H : Hp) (a : Addr) (cs : List Cell) : Prop := ∃ us, SqT K H a us ∧ Cells K H us cs
theorem IsCol.keep {K : PySem.W.Frag} {H H' : Hp} {v : V} {c : Str × Kd} (h : IsCol K H v c) (e : Keep H H') : IsCol K H' v c := by
  obtain ⟨a, e1, h⟩ := h
  exact ⟨a, e1, e.tup h⟩
theorem IsCols.keep {K : PySem.W.Frag} {H H' : Hp} {a : Addr} {c : Cols} (h : IsCols K H a c) (e : Keep H H') : IsCols K H' a c := by
  obtain ⟨us, h1, h2, h3⟩ := h
  exact ⟨us, e.tup h1, Paired.mapP h2 fun _ _ z => z.keep e, h3⟩
theorem IsRow.keep {K : PySem.W.Frag} {H H' : Hp} {a : Addr} {c : List Cell} (h : IsRow K H a c) (e : Keep H H') : IsRow K H' a c := by
  obtain ⟨us, h1, h2⟩ := h
  exact ⟨us, e.tup h1, h2.keep e⟩
theorem Paired.get {α β : Type} {F : α → β → Prop} : ∀ {l₁ : List α} {l₂ : List β} {i : Nat} {x : α}, Paired F l₁ l₂ → l₁[i]? = some x → ∃ y, l₂[i]? = some y ∧ F x y
  | _, _, _, _, .nil, e => by simp at e
  | _, _, 0, _, .cons r _, e => by
    have := Option.some.inj e
    subst this
    exact ⟨_, rfl, r⟩
  | _, _, i + 1, x, .cons _ t, e => by
    obtain ⟨y, h1, h2⟩ := Paired.get (i := i) t (by simpa using e)
    exact ⟨y, by simpa using h1, h2⟩
theorem Paired.get2 {α β : Type} {F : α → β → Prop} : ∀ {l₁ : List α} {l₂ : List β} {i : Nat} {y : β}, Paired F l₁ l₂ → l₂[i]? = some y → ∃ x, l₁[i]? = some x ∧ F x y
  | _, _, _, _, .nil, e => by simp at e
  | _, _, 0, _, .cons r _, e => by
    have := Option.some.inj e
    subst this
    exact ⟨_, rfl, r⟩
  | _, _, i + 1, x, .cons _ t, e => by
    obtain ⟨y, h1, h2⟩ := Paired.get2 (i := i) t (by simpa using e)
    exact ⟨y, by simpa using h1, h2⟩
theorem paired_of {α β : Type} {F : α → β → Prop} : ∀ {l₁ : List α} {l₂ : List β}, l₁.length = l₂.length → (∀ (i : Nat) (x : α) (y : β), l₁[i]? = some x → l₂[i]? = some y → F x y) → Paired F l₁ l₂
  | [], [], _, _ => .nil
  | [], _ :: _, h, _ => by simp at h
  | _ :: _, [], h, _ => by simp at h
  | x :: l₁, y :: l₂, h, f => .cons (f 0 x y rfl rfl) (paired_of (by simpa using h) fun i a b ha hb => f (i + 1) a b (by simpa using ha) (by simpa using hb))
def kindIn (cols : Cols) (x : Str) : Option Kd := (cols.find? fun c => decide (c.1 = x)).map (·.2)
def posIn (cols : Cols) (x : Str) : Option Nat := cols.findIdx? fun c => decide (c.1 = x)
section
variable {P : Program} {w : World} {K : PySem.W.Frag} {mg : Str → Option Value} {base : Heap}
/-! ### connected -/
def connT (dec : Bool) (a b : Cell) : Cell := if a = .bl dec ∨ b = .bl dec then .bl dec else if a = .non ∨ b = .non then .non else .bl (!dec)
def boolC : Cell → Bool
  | .non => true
  | .bl _ => true
  | _ => false
def spConn (K : PySem.W.Frag) : Sp := fun vs H Q _ => ∃ (l : Addr) (x y : V) (a b : Cell) (dec : Bool), vs = [.ref l, .bl dec] ∧ SqL K H l [x, y] ∧ IsCell K H x a ∧ IsCell K H y b ∧ boolC a = true ∧ boolC b = true ∧ ∀ u, IsCell K H u (connT dec a b) → Q u H
theorem flat_bool {K : PySem.W.Frag} {H : Hp} {x : V} {a : Cell} (h : IsCell K H x a) (b : boolC a = true) : flatV x = true ∧ (∀ d, eqV x (.bl d) = decide (a = .bl d)) ∧ eqV x .non = decide (a = .non) := by
  cases a with
  | non =>
    have e : x = .non := h
    subst e
    exact ⟨rfl, fun d => rfl, rfl⟩
  | bl p =>
    have e : x = .bl p := h
    subst e
    refine ⟨rfl, fun d => ?_, rfl⟩
    cases p <;> cases d <;> rfl
  | txt _ => cases b
  | num _ _ => cases b
abbrev N_connected : List Str := ["values", "decisive"]
theorem sc_connected : FnScope N_connected ["values", "decisive"] (defScope (topS 32)) := ⟨rfl, rfl, rfl, by decide +kernel, rfl, by decide +kernel, by decide +kernel⟩
theorem ok_connected (E : Ev K w mg) : FnOk P w K mg base CX0 1 E.d_connected.f E.d_connected.fd ["values", "decisive"] (spConn K) := by
  refine E.d_connected.F.ok sc_connected (fun vs H Q X h => ?_) (fun cdv A outer s H vs Q X hr h => ?_)
  · obtain ⟨l, x, y, a, b, dec, rfl, _⟩ := h
    rfl
  · obtain ⟨l, x, y, a, b, dec, rfl, hl, ha, hb, ba, bb, q⟩ := h
    refine ⟨_, PSs.nox (pss_cons (ps_if (pt_cmpR op_in_seq (pv 1) (pv 0) (by rfl)) (pss_one (ps_ret (pv 1))) pss_nil)
      (pss_cons (ps_if (pt_cmpR op_in_seq pe_non (pv 0) (by rfl)) (pss_one (ps_ret pe_non)) pss_nil)
      (pss_one (ps_ret (pe_not (pv 1)))))), ?_⟩
    obtain ⟨f1, g1, n1⟩ := flat_bool ha ba
    obtain ⟨f2, g2, n2⟩ := flat_bool hb bb
    have fl : [x, y].all flatV = true := by rw [List.all_cons, List.all_cons, f1, f2] <;> rfl
    have e1 : inV (.bl dec) [x, y] = (decide (a = .bl dec) || (decide (b = .bl dec) || false)) := by
      show (eqV x (.bl dec) || (eqV y (.bl dec) || false)) = _
      rw [g1, g2]
    have e2 : inV .non [x, y] = (decide (a = .non) || (decide (b = .non) || false)) := by
      show (eqV x .non || (eqV y .non || false)) = _
      rw [n1, n2]
    refine ⟨_, rfl, _, rfl, _, _, rfl, .inl hl, rfl, fl, _, rfl, ite2 (fun c => ?_) (fun c => ?_)⟩
    · have c' : inV (.bl dec) [x, y] = true := c
      rw [e1] at c'
      have c2 : a = .bl dec ∨ b = .bl dec := by simpa using c'
      have ec : connT dec a b = .bl dec := if_pos c2
      rw [ec] at q
      exact ⟨_, rfl, q _ rfl⟩
    · have c' : ¬ inV (.bl dec) [x, y] = true := c
      rw [e1] at c'
      have c2 : ¬ (a = .bl dec ∨ b = .bl dec) := by simpa using c'
      refine ⟨_, rfl, _, _, rfl, .inl hl, rfl, fl, _, rfl, ite2 (fun m => ?_) (fun m => ?_)⟩
      · have m' : inV .non [x, y] = true := m
        rw [e2] at m'
        have m2 : a = .non ∨ b = .non := by simpa using m'
        have ec : connT dec a b = .non := by
          unfold connT
          rw [if_neg c2, if_pos m2]
        rw [ec] at q
        exact q _ rfl
      · have m' : ¬ inV .non [x, y] = true := m
        rw [e2] at m'
        have m2 : ¬ (a = .non ∨ b = .non) := by simpa using m'
        have ec : connT dec a b = .bl (!dec) := by
          unfold connT
          rw [if_neg c2, if_neg m2]
        rw [ec] at q
        exact ⟨_, rfl, _, rfl, q _ rfl⟩
/-! ### the columns' names -/
def spKin (K : PySem.W.Frag) : Sp := fun vs H Q _ => ∃ (ca : Addr) (x : Str) (cols : Cols), vs = [.ref ca, .str x] ∧ IsCols K H ca cols ∧ Q (kdV (kindIn cols x)) H
theorem kin_step {cols : Cols} {x : Str} {i : Nat} (h : ∀ j c, j < i → cols[j]? = some c → c.1 ≠ x) {c : Str × Kd} (hc : cols[i]? = some c) (e : c.1 = x) : kindIn cols x = some c.2 ∧ posIn cols x = some i := by
  have hi : i < cols.length := (List.getElem?_eq_some_iff.mp hc).1
  have gi : cols[i] = c := (List.getElem?_eq_some_iff.mp hc).2
  have p : posIn cols x = some i := by
    unfold posIn
    rw [List.findIdx?_eq_some_iff_getElem]
    refine ⟨hi, by rw [gi]; exact decide_eq_true e, fun j hj => ?_⟩
    have hj2 : j < cols.length := by omega
    intro z
    exact h j _ hj (List.getElem?_eq_getElem hj2) (of_decide_eq_true z)
  refine ⟨?_, p⟩
  unfold kindIn
  have f : cols.find? (fun c => decide (c.1 = x)) = some c := by
    rw [List.find?_eq_some_iff_getElem]
    refine ⟨decide_eq_true e, i, hi, gi, fun j hj => ?_⟩
    have hj2 : j < cols.length := by omega
    have := h j _ hj (List.getElem?_eq_getElem hj2)
    simp [this]
  rw [f] <;> rfl
theorem kin_none {cols : Cols} {x : Str} (h : ∀ j c, j < cols.length → cols[j]? = some c → c.1 ≠ x) : kindIn cols x = none := by
  unfold kindIn
  have f : cols.find? (fun c => decide (c.1 = x)) = none := by
    rw [List.find?_eq_none]
    intro c hc
    obtain ⟨j, hj, e⟩ := List.mem_iff_getElem.mp hc
    have := h j c hj (by rw [List.getElem?_eq_getElem hj, e])
    simp [this]
  rw [f] <;> rfl
abbrev N_kind_in : List Str := ["columns", "name", "column", "kind"]
theorem sc_kind_in : FnScope N_kind_in ["columns", "name"] (defScope (topS 24)) := ⟨rfl, rfl, rfl, by decide +kernel, rfl, by decide +kernel, by decide +kernel⟩
theorem ok_kind_in (E : Ev K w mg) : FnOk P w K mg base CX0 1 E.d_kind_in.f E.d_kind_in.fd ["columns", "name"] (spKin K) := by
  refine E.d_kind_in.F.ok sc_kind_in (fun vs H Q X h => ?_) (fun cdv A outer s H vs Q X hr h => ?_)
  · obtain ⟨ca, x, cols, rfl, _⟩ := h
    rfl
  · obtain ⟨ca, x, cols, rfl, ⟨us, hu, hp, hn⟩, q⟩ := h
    refine ⟨_, PSs.nox (pss_cons (ps_for PassesOwn.never rfl (pi_tup (pv 0)) (pg_tup rfl (pgs_cons (pg_name (i := 2) sc_kind_in.nd rfl (.inl rfl)) (pgs_cons (pg_name (i := 3) sc_kind_in.nd rfl (.inl rfl)) pgs_nil)))
        (pss_one (ps_if (pt_cmpR op_eq (pv 2) (pv 1) (nomark _)) (pss_one (ps_ret (pv 3))) pss_nil)))
      (pss_one (ps_ret pe_non))), ?_⟩
    have el := Paired.length hp
    refine ⟨_, rfl, ca, rfl, ⟨_, hu⟩, for_tup (K := K) (a := ca) (xs := us) (fun i σ H' => (∃ y z, σ = [some (.ref ca), some (.str x), y, z]) ∧ H' = H ∧ ∀ j c, j < i → cols[j]? = some c → c.1 ≠ x) ⟨⟨_, _, rfl⟩, rfl, fun j c hj => by omega⟩ (fun i σ H' _ hw => by rw [hw.2.1]; exact hu) (fun i v σ H' hv hw => ?_) (fun σ H' hw => ?_)⟩
    · obtain ⟨⟨y, z, rfl⟩, rfl, hw⟩ := hw
      obtain ⟨c, hc, b, rfl, hb⟩ := Paired.get hp hv
      refine ⟨b, _, rfl, hb, rfl, _, _, rfl, _, _, rfl, rfl, ?_⟩
      refine ⟨_, rfl, _, rfl, rfl, _, rfl, ite2 (fun k => ?_) (fun k => ?_)⟩
      · have k' : c.1 = x := V.str.inj (of_decide_eq_true k)
        have e := (kin_step hw hc k').1
        rw [e] at q
        exact ⟨_, rfl, q⟩
      · have k' : ¬ c.1 = x := fun z => of_decide_eq_false (Bool.eq_false_iff.mpr k) (congrArg V.str z)
        refine ⟨⟨_, _, rfl⟩, rfl, fun j d hj hd => ?_⟩
        by_cases e : j = i
        · subst e
          rw [hc] at hd
          cases hd
          exact k'
        · exact hw j d (by omega) hd
    · obtain ⟨⟨y, z, rfl⟩, rfl, hw⟩ := hw
      rw [kin_none fun j c hj => hw j c (by omega)] at q
      exact q
end
end K7
/-! W6 -/
namespace K7
open PySem PySem.Spec PyProof.Rows L2 TL
theorem MapInv.fr {V : Addr → Prop} {P : Hp → Prop} {R : Nat → L2.V → Hp → Prop} {D : Addr} {H H' : Hp} {i : Nat} (h : MapInv V P R D (upd H D (.lst [])) i H') (n : H D = none) : Ex V H H' :=
  ⟨fun b o nv q => h.ex.at_ b o (fun z => z.elim nv fun e => by rw [e, n] at q; cases q) (by rw [upd_ne (ne_of_none q n)]; exact q), (keep_new n).trans h.ex.kp⟩
theorem MapInv.same {P : Hp → Prop} {R : Nat → L2.V → Hp → Prop} {D : Addr} {H H' : Hp} {i : Nat} (h : MapInv (fun _ => False) P R D (upd H D (.lst [])) i H') (n : H D = none) : Same H H' := Ex.same (h.fr n)
theorem MapInv.stepK {R : Nat → L2.V → Hp → Prop} {D : Addr} {H0 H H' : Hp} {i : Nat} {y : L2.V} (h : MapInv (fun _ => False) (fun _ => True) R D H0 i H) (e : Same H H') (r : R i y H') (hi : i < 1000)
    (hR : ∀ j z G G', R j z G → Keep G G' → R j z G') : ∃ acc, H' D = some (.lst acc) ∧ acc.length < sizeLine ∧ MapInv (fun _ => False) (fun _ => True) R D H0 (i + 1) (upd H' D (.lst (acc ++ [y]))) :=
  h.step (Same.ex e) trivial r (fun z => z) hi (fun j z G G' q x => hR j z G G' q x.kp) fun _ _ _ _ _ => trivial
theorem tyes {σ : L2.St} {H : Hp} {A B : Hp → Prop} (a : A H) : tYes σ H fun b H3 => if b = true then A H3 else B H3 := a
theorem map_of {α : Type} {f : α → L2.V} {l : List α} {ys : List L2.V} (hn : ys.length = l.length) (h : ∀ (j : Nat) (y : L2.V), ys[j]? = some y → ∃ c, l[j]? = some c ∧ y = f c) : ys = l.map f := by
  refine List.ext_getElem? fun j => ?_
  rw [List.getElem?_map]
  rcases Nat.lt_or_ge j ys.length with k | k
  · obtain ⟨c, h1, h2⟩ := h j _ (List.getElem?_eq_getElem k)
    rw [List.getElem?_eq_getElem k, h1, h2] <;> rfl
  · rw [List.getElem?_eq_none k, List.getElem?_eq_none (by omega)] <;> rfl
theorem flat_strs {α : Type} (f : α → Str) : ∀ l : List α, (l.map fun c => V.str (f c)).all flatV = true
  | [] => rfl
  | _ :: l => by
    rw [List.map_cons, List.all_cons, flat_strs f l] <;> rfl
theorem eqv_str (x y : Str) : eqV (.str x) (.str y) = decide (x = y) := by
  show (x == y) = decide (x = y)
  by_cases h : x = y
  · subst h
    simp
  · rw [decide_eq_false h]
    exact beq_eq_false_iff_ne.mpr h
section
variable {X : Cx}
def rInDT (K : PySem.W.Frag) : R2 := fun x y H Q => ∃ d ds, Dp K H x d ∧ Dp K H y (.tuple ds) ∧ SeqAt.shaped d = true ∧ SeqAt.shaped (.tuple ds) = true ∧ Q (.bl (ds.any fun z => PyData.eqv z d)) H
theorem op_inDT (hu : X.A.units + 65 < cLine) : OpR X (compareOp .In) (rInDT X.K) := by
  intro pins s σ H x y v u Q I rx ry h
  obtain ⟨d, ds, hd, he, sd, se, q⟩ := h
  obtain ⟨as, r1⟩ := Dp.reads I d x v hd rx
  obtain ⟨bs, r2⟩ := Dp.reads I (.tuple ds) y u he ry
  exact SeqAt.in_tuple_reads r2 r1 (SeqAt.canLay_of_shaped se) (SeqAt.canLay_of_shaped sd) (room_in_shaped sd hu) ⟨.bl _, H, I, rfl, q⟩
end
theorem hu65 {k : Nat} {A : Around} (r : Room k A) : A.units + 65 < cLine := by
  have := r.un
  omega
section
variable {P : Program} {w : World} {K : PySem.W.Frag} {mg : Str → Option Value} {base : Heap}
def spPos (K : PySem.W.Frag) : Sp := fun vs H Q _ => ∃ (ca : Addr) (x : Str) (cols : Cols) (i : Nat), vs = [.ref ca, .str x] ∧ IsCols K H ca cols ∧ posIn cols x = some i ∧ ∀ H', Same H H' → Q (.int i) H'
abbrev N_position : List Str := ["columns", "name", "column"]
theorem sc_position : FnScope N_position ["columns", "name"] (defScope (topS 23)) := ⟨rfl, rfl, rfl, by decide +kernel, rfl, by decide +kernel, by decide +kernel⟩
theorem ok_position (E : Ev K w mg) : FnOk P w K mg base CX0 1 E.d_position.f E.d_position.fd ["columns", "name"] (spPos K) := by
  refine E.d_position.F.ok sc_position (fun vs H Q X h => ?_) (fun cdv A outer s H vs Q X hr h => ?_)
  · obtain ⟨ca, x, cols, i, rfl, _⟩ := h
    rfl
  · obtain ⟨ca, x, cols, i, rfl, ⟨us, hu, hp, hn⟩, hi, q⟩ := h
    refine ⟨_, PSs.nox (pss_one (ps_ret (pe_bm PySem.F.plainAttrs_list PySem.F.slot_list_index PySem.F.type_list_index mt_index (pe_lc (own := [("column", 2)]) (g := gName 2) rfl sc_position.nd (pi_tup (pv 0)) (blkOk_by (own := [("column", 2)]) (N := N_position) (sc := defScope (topS 23)) (by decide +kernel)) (fun _ _ _ _ _ => pg_name (i := 2) sc_position.nd rfl (Or.inl rfl)) (fun _ _ _ _ _ => pts_nil) (fun _ _ _ _ _ => (pe_ix (show IxR _ (rIxT K) from ix_tup) (pv 2) pe_int (fun _ _ => rfl)))) (pa_cons (pv 1) pa_nil)))), ?_⟩
    refine ⟨_, rfl, ca, rfl, ⟨_, hu⟩, fun D nD => lc_tup (K := K) (a := ca) (xs := us) (fun i H' => MapInv (fun _ => False) (fun _ => True) (fun j y _ => ∃ c, cols[j]? = some c ∧ y = .str c.1) D (upd H D (.lst [])) i H') (MapInv.zero nD trivial) (fun i H' _ hw => ((keep_new nD).trans hw.ex.kp).tup hu) (fun i v H' hv hw => ?_) (fun H' hw => ?_)⟩
    · obtain ⟨c, hc, b, rfl, hb⟩ := Paired.get hp hv
      refine ⟨rfl, tyes ?_⟩
      exact ⟨_, rfl, _, _, _, _, rfl, rfl, ((keep_new nD).trans hw.ex.kp).tup hb, atI_nat (j := 0) rfl, hw.stepK (Same.refl _) ⟨c, hc, rfl⟩ (by have := (List.getElem?_eq_some_iff.mp hc).1; omega) fun _ _ _ _ q _ => q⟩
    · obtain ⟨ys, hl, hn', hy⟩ := hw.l
      have el := Paired.length hp
      have ey : ys = cols.map fun c => V.str c.1 := map_of (by omega) hy
      subst ey
      unfold posIn at hi
      rw [List.findIdx?_eq_some_iff_getElem] at hi
      obtain ⟨i1, i2, i3⟩ := hi
      refine ⟨.inl ⟨rfl, _, SqL.of hl⟩, _, rfl, D, _, .str x, i, .str cols[i].1, rfl, rfl, SqL.of hl, rfl, flat_strs _ _, by simp [i1], ?_, fun m z hm hz => ?_, q _ (hw.same nD)⟩
      · rw [eqv_str]
        exact i2
      · have m1 : m < cols.length := by omega
        have ez : z = .str cols[m].1 := by
          rw [List.getElem?_map, List.getElem?_eq_getElem m1] at hz
          exact (Option.some.inj hz).symm
        subst ez
        rw [eqv_str]
        exact Bool.eq_false_iff.mpr (i3 m hm)
/-! ### the parts of an expression -/
theorem cut1 (x : V) (us : List V) : cutV (x :: us) (some 1) none = us := by
  unfold cutV
  have e : HT.sIx (x :: us).length 0 (some ((1 : Nat) : Int)) = 1 := by
    rw [HT.sIx_nat]
    simp
  rw [show HT.sIx (x :: us).length 0 (some 1) = 1 from e, HT.sIx_none]
  simp
theorem cut12 (x y : V) (us : List V) : cutV (x :: y :: us) (some 1) (some 2) = [y] := by
  unfold cutV
  have e : HT.sIx (x :: y :: us).length 0 (some ((1 : Nat) : Int)) = 1 := by
    rw [HT.sIx_nat]
    simp
  have e2 : HT.sIx (x :: y :: us).length (x :: y :: us).length (some ((2 : Nat) : Int)) = 2 := by
    rw [HT.sIx_nat]
    simp
  rw [show HT.sIx (x :: y :: us).length 0 (some 1) = 1 from e, show HT.sIx (x :: y :: us).length (x :: y :: us).length (some 2) = 2 from e2]
  rfl
theorem IsTree.np {v : V} {t : Tree} {H : Hp} (h : IsTree K H v t) (l : t.leaf = false) : ∃ a us r, v = .ref a ∧ SqT K H a (.str t.word :: (us ++ r)) ∧ Trees K H us t.parts ∧ (t.word = "in" → r.length = 1 ∧ us.length = 1) ∧ (t.word ≠ "in" → r = []) := by
  cases t with
  | cell c => cases l
  | nothing c => cases l
  | column c => cases l
  | one o t =>
    obtain ⟨a, u, rfl, hs, h1⟩ := h
    exact ⟨a, [u], [], rfl, hs, .cons h1 .nil, fun z => absurd z (by show ¬ o.s = ("in" : Str); cases o <;> decide +kernel), fun _ => rfl⟩
  | two o s t =>
    obtain ⟨a, u, u', rfl, hs, h1, h2⟩ := h
    exact ⟨a, [u, u'], [], rfl, hs, .cons h1 (.cons h2 .nil), fun z => absurd z (by show ¬ o.s = ("in" : Str); cases o <;> decide +kernel), fun _ => rfl⟩
  | cond c s t =>
    obtain ⟨a, u, u', u'', rfl, hs, h1, h2, h3⟩ := h
    exact ⟨a, [u, u', u''], [], rfl, hs, .cons h1 (.cons h2 (.cons h3 .nil)), fun z => absurd z (by show ¬ ("if" : Str) = "in"; decide +kernel), fun _ => rfl⟩
  | isin t cs =>
    obtain ⟨a, u, b, us, rfl, hs, h1, _⟩ := h
    exact ⟨a, [u], [.ref b], rfl, hs, .cons h1 .nil, fun _ => ⟨rfl, rfl⟩, fun z => absurd rfl z⟩
abbrev lvL : List V := [.str "cell", .str "nothing", .str "column"]
theorem leaf_in (t : Tree) : inV (.str t.word) [.str "cell", .str "nothing", .str "column"] = t.leaf := by
  cases t with
  | one o t =>
    show inV (.str o.s) lvL = false
    cases o <;> decide +kernel
  | two o s t =>
    show inV (.str o.s) lvL = false
    cases o <;> decide +kernel
  | cell _ => exact (by decide +kernel : inV (.str "cell") lvL = true)
  | nothing _ => exact (by decide +kernel : inV (.str "nothing") lvL = true)
  | column _ => exact (by decide +kernel : inV (.str "column") lvL = true)
  | cond _ _ _ => exact (by decide +kernel : inV (.str "if") lvL = false)
  | isin _ _ => exact (by decide +kernel : inV (.str "in") lvL = false)
theorem leaf_parts {t : Tree} (h : t.leaf = true) : t.parts = [] := by
  cases t <;> first | rfl | cases h
theorem parts_len (t : Tree) : t.parts.length ≤ 3 := by
  cases t <;> simp [Tree.parts]
theorem word_eq {t : Tree} {x : Str} (k : decide (V.str t.word = V.str x) = true) : t.word = x := V.str.inj (of_decide_eq_true k)
def spParts (K : PySem.W.Frag) : Sp := fun vs H Q _ => ∃ (v : V) (t : Tree), vs = [v] ∧ IsTree K H v t ∧ ∀ p us H', Same H H' → SqT K H' p us → Trees K H' us t.parts → Q (.ref p) H'
abbrev N_parts_of : List Str := ["expression"]
theorem sc_parts_of : FnScope N_parts_of ["expression"] (defScope (topS 28)) := ⟨rfl, rfl, rfl, by decide +kernel, rfl, by decide +kernel, by decide +kernel⟩
theorem ok_parts_of (E : Ev K w mg) : FnOk P w K mg base CX0 1 E.d_parts_of.f E.d_parts_of.fd ["expression"] (spParts K) := by
  refine E.d_parts_of.F.ok sc_parts_of (fun vs H Q X h => ?_) (fun cdv A outer s H vs Q X hr h => ?_)
  · obtain ⟨v, t, rfl, _⟩ := h
    rfl
  · obtain ⟨v, t, rfl, ht, q⟩ := h
    refine ⟨_, PSs.nox (pss_cons (ps_if (pt_cmpR op_in_seq (pe_ix ix_tup (pv 0) pe_int (fun _ _ => rfl)) (pe_glob rfl E.gLv (v := .ref E.aLv) rfl) (by rfl)) (pss_one (ps_ret (pe_tup pa_nil))) pss_nil)
      (pss_cons (ps_if (pt_cmpR op_eq (pe_ix ix_tup (pv 0) pe_int (fun _ _ => rfl)) pe_str (nomark _)) (pss_one (ps_ret (pe_slice sl_tup (pv 0) (po_some pe_int) (po_some pe_int)))) pss_nil)
      (pss_one (ps_ret (pe_slice sl_tup (pv 0) (po_some pe_int) po_none))))), ?_⟩
    obtain ⟨a, r, rfl, hs, hr0⟩ := ht.head
    refine ⟨_, rfl, _, _, _, _, rfl, rfl, hs, atI_nat (j := 0) rfl, _, _, rfl, .inr (E.leaves H), rfl, rfl, _, rfl, ite2 (fun c => ?_) (fun c => ?_)⟩
    · have c' : inV (.str t.word) [.str "cell", .str "nothing", .str "column"] = true := c
      rw [leaf_in] at c'
      refine ⟨(by show 0 ≤ sizeLine; decide), fun p1 n1 => q p1 [] _ (same_new n1) (.inl (.inl upd_same)) ?_⟩
      rw [leaf_parts c']
      exact .nil
    · have c' : ¬ inV (.str t.word) [.str "cell", .str "nothing", .str "column"] = true := c
      rw [leaf_in] at c'
      obtain ⟨b, us, r', e, hs', hp, h1, h2⟩ := ht.np (Bool.eq_false_iff.mpr c')
      cases e
      refine ⟨_, rfl, _, _, _, _, rfl, rfl, hs', atI_nat (j := 0) rfl, rfl, _, rfl, ite2 (fun k => ?_) (fun k => ?_)⟩
      · have k' : t.word = "in" := V.str.inj (of_decide_eq_true k)
        obtain ⟨l1, l2⟩ := h1 k'
        obtain ⟨y, rfl⟩ : ∃ y, r' = [y] := by
          match r', l1 with
          | [y], _ => exact ⟨y, rfl⟩
        obtain ⟨u, rfl⟩ : ∃ y, us = [y] := by
          match us, l2 with
          | [y], _ => exact ⟨y, rfl⟩
        refine ⟨_, rfl, _, rfl, _, rfl, a, _, rfl, hs', (by show ¬ (1 = 0 ∧ 2 = 3); decide), fun p1 n1 => q p1 [u] _ (same_new n1) (.inl (.inl ?_)) (hp.keep (keep_new n1))⟩
        rw [upd_same]
        rfl
      · have k' : ¬ t.word = "in" := fun z => of_decide_eq_false (Bool.eq_false_iff.mpr k) (congrArg V.str z)
        have e2 := h2 k'
        subst e2
        rw [List.append_nil] at hs'
        refine ⟨_, rfl, _, rfl, a, _, rfl, hs', fun z => ?_, fun p1 n1 => q p1 us _ (same_new n1) (.inl (.inl ?_)) (hp.keep (keep_new n1))⟩
        · have z1 := z.1
          rw [show HT.sIx (V.str t.word :: us).length 0 (some 1) = min 1 (V.str t.word :: us).length from HT.sIx_nat _ _ 1] at z1
          rw [List.length_cons] at z1
          omega
        · rw [upd_same, cut1]
def spParts' (K : PySem.W.Frag) : Sp := fun vs H Q _ => ∃ (v : V) (t : Tree), vs = [v] ∧ IsTree K H v t ∧ ∀ p us H', Same H H' → H' p = some (.lst us) → H p = none → Trees K H' us t.parts → Q (.ref p) H'
theorem leaf_or (t : Tree) : t.leaf = (decide (t.word = "cell") || (decide (t.word = "nothing") || decide (t.word = "column"))) := by
  have e := leaf_in t
  rw [← e]
  show (eqV (.str "cell") (.str t.word) || (eqV (.str "nothing") (.str t.word) || (eqV (.str "column") (.str t.word) || false))) = _
  rw [eqv_str, eqv_str, eqv_str, Bool.or_false]
  simp only [eq_comm]
abbrev N__law_parts : List Str := ["_law_tree_here"]
theorem sc__law_parts : FnScope N__law_parts ["_law_tree_here"] (defScope (topS 58)) := ⟨rfl, rfl, rfl, by decide +kernel, rfl, by decide +kernel, by decide +kernel⟩
theorem ok__law_parts (E : Ev K w mg) : FnOk P w K mg base CX0 1 E.d__law_parts.f E.d__law_parts.fd ["_law_tree_here"] (spParts' K) := by
  refine E.d__law_parts.F.ok sc__law_parts (fun vs H Q X h => ?_) (fun cdv A outer s H vs Q X hr h => ?_)
  · obtain ⟨v, t, rfl, _⟩ := h
    rfl
  · obtain ⟨v, t, rfl, ht, q⟩ := h
    refine ⟨_, PSs.nox (pss_cons (ps_if (PW.pt (pw_or (pt_cmpR op_eq (pe_ix ix_tup (pv 0) pe_int (fun _ _ => rfl)) pe_str (nomark _)) (pw_or (pt_cmpR op_eq (pe_ix ix_tup (pv 0) pe_int (fun _ _ => rfl)) pe_str (nomark _)) (pw_or1 (pt_cmpR op_eq (pe_ix ix_tup (pv 0) pe_int (fun _ _ => rfl)) pe_str (nomark _)))))) (pss_one (ps_ret (pe_lst pa_nil))) pss_nil)
      (pss_cons (ps_if (pt_cmpR op_eq (pe_ix ix_tup (pv 0) pe_int (fun _ _ => rfl)) pe_str (nomark _)) (pss_one (ps_ret (pe_lst (pa_cons (pe_ix ix_tup (pv 0) pe_int (fun _ _ => rfl)) pa_nil)))) pss_nil)
      (pss_one (ps_ret (pe_callTy call_list_of (by rfl) E.n_list (by decide +kernel) (pa_cons (pe_slice sl_tup (pv 0) (po_some pe_int) po_none) pa_nil)))))), ?_⟩
    obtain ⟨a, r, rfl, hs, hr0⟩ := ht.head
    have leaf : t.leaf = true → ∀ p1, H p1 = none → Q (.ref p1) (upd H p1 (.lst [])) := fun c p1 n1 => q p1 [] _ (same_new n1) upd_same n1 (by
      rw [leaf_parts c]
      exact .nil)
    have lo := leaf_or t
    refine ⟨_, rfl, _, _, _, _, rfl, rfl, hs, atI_nat (j := 0) rfl, rfl, _, rfl, ite2 (fun c => ?_) (fun c => ?_)⟩
    · have k : t.leaf = true := by
        have k1 : t.word = "cell" := word_eq c
        rw [lo, decide_eq_true k1]
        simp
      exact ifT rfl ⟨(by show 0 ≤ sizeLine; decide), fun p1 n1 => leaf k p1 n1⟩
    have c1 : ¬ t.word = "cell" := fun z => c (decide_eq_true (congrArg V.str z))
    refine ⟨_, rfl, _, _, _, _, rfl, rfl, hs, atI_nat (j := 0) rfl, rfl, _, rfl, ite2 (fun c => ?_) (fun c => ?_)⟩
    · have k : t.leaf = true := by
        have k1 : t.word = "nothing" := word_eq c
        rw [lo, decide_eq_true k1]
        simp
      exact ifT rfl ⟨(by show 0 ≤ sizeLine; decide), fun p1 n1 => leaf k p1 n1⟩
    have c2 : ¬ t.word = "nothing" := fun z => c (decide_eq_true (congrArg V.str z))
    refine ⟨_, rfl, _, _, _, _, rfl, rfl, hs, atI_nat (j := 0) rfl, rfl, _, rfl, ite2 (fun c => ?_) (fun c => ?_)⟩
    · have k : t.leaf = true := by
        have k1 : t.word = "column" := word_eq c
        rw [lo, decide_eq_true k1]
        simp
      exact ⟨(by show 0 ≤ sizeLine; decide), fun p1 n1 => leaf k p1 n1⟩
    have c3 : ¬ t.word = "column" := fun z => c (decide_eq_true (congrArg V.str z))
    have k : t.leaf = false := by
      rw [lo, decide_eq_false c1, decide_eq_false c2, decide_eq_false c3] <;> rfl
    obtain ⟨b, us, r', e, hs', hp, h1, h2⟩ := ht.np k
    cases e
    refine ⟨_, rfl, _, _, _, _, rfl, rfl, hs', atI_nat (j := 0) rfl, rfl, _, rfl, ite2 (fun k => ?_) (fun k => ?_)⟩
    · obtain ⟨l1, l2⟩ := h1 (word_eq k)
      obtain ⟨u, rfl⟩ : ∃ y, us = [y] := by
        match us, l2 with
        | [y], _ => exact ⟨y, rfl⟩
      exact ⟨_, rfl, _, _, _, _, rfl, rfl, hs', atI_nat (j := 1) rfl, (by show 1 ≤ sizeLine; decide), fun p1 n1 => q p1 [u] _ (same_new n1) upd_same n1 (hp.keep (keep_new n1))⟩
    · have k' : ¬ t.word = "in" := fun z => k (decide_eq_true (congrArg V.str z))
      have e2 := h2 k'
      subst e2
      rw [List.append_nil] at hs'
      refine ⟨_, rfl, _, rfl, a, _, rfl, hs', fun z => ?_, fun p1 n1 => ?_⟩
      · have z1 := z.1
        rw [show HT.sIx (V.str t.word :: us).length 0 (some 1) = min 1 (V.str t.word :: us).length from HT.sIx_nat _ _ 1] at z1
        rw [List.length_cons] at z1
        omega
      · rw [cut1]
        have s1 := same_new (o := .tup us) n1
        exact ⟨_, _, rfl, .inr (.inl (.inl upd_same)), fun p2 n2 => q p2 us _ (s1.trans (same_new n2)) upd_same (Option.eq_none_iff_forall_ne_some.mpr fun o z => by
          have := s1 _ _ z
          rw [this] at n2
          cases n2) (hp.keep ((keep_new n1).trans (keep_new n2)))⟩
end
end K7
/-! W7 -/
namespace K7
open PySem PySem.Spec PyProof.Rows L2 TL
/-! ### kinds -/
def O1.tab : O1 → Option (Kd × Kd)
  | .minus => some (.num, .num)
  | .abs => some (.num, .num)
  | .floor => some (.num, .num)
  | .ceil => some (.num, .num)
  | .round => some (.num, .num)
  | .length => some (.txt, .num)
  | .not => some (.boo, .boo)
  | .text => none
  | .missing => none
def O2.tab : O2 → Option (Kd × Kd)
  | .add => some (.num, .num)
  | .sub => some (.num, .num)
  | .mul => some (.num, .num)
  | .div => some (.num, .num)
  | .join => some (.txt, .txt)
  | .and => some (.boo, .boo)
  | .or => some (.boo, .boo)
  | _ => none
def Tree.tab : Tree → Option (List Kd × Kd)
  | .one o _ => o.tab.map fun q => ([q.1], q.2)
  | .two o _ _ => o.tab.map fun q => ([q.1, q.1], q.2)
  | _ => none
def O2.least? : O2 → Bool
  | .least => true
  | .greatest => true
  | _ => false
def otherK : Tree → List Kd → Option Kd
  | .one .text _, _ => some .txt
  | .one .missing _, _ => some .boo
  | .isin _ cs, k :: _ => if cs.all (fun c => decide (c.kind = some k)) = true then some .boo else none
  | .cond _ _ _, [a, b, c] => if b = c then (if a = .boo then some b else none) else none
  | .two o _ _, [a, b] => if a = b then (if o.least? = true then some a else some .boo) else none
  | _, _ => none
def kfin (t : Tree) (ks : List Kd) : Option Kd := match t.tab with
  | some q => if ks = q.1 then some q.2 else none
  | none => otherK t ks
def allK : List (Option Kd) → Option (List Kd)
  | [] => some []
  | none :: _ => none
  | some k :: l => (allK l).map (k :: ·)
def kindT (cols : Cols) : Tree → Option Kd
  | .cell c => c.kind
  | .nothing k => some k
  | .column x => kindIn cols x
  | .one o t => (allK [kindT cols t]).bind (kfin (.one o t))
  | .two o s t => (allK [kindT cols s, kindT cols t]).bind (kfin (.two o s t))
  | .cond c s t => (allK [kindT cols c, kindT cols s, kindT cols t]).bind (kfin (.cond c s t))
  | .isin t cs => (allK [kindT cols t]).bind (kfin (.isin t cs))
theorem kindT_np {cols : Cols} {t : Tree} (h : t.leaf = false) : kindT cols t = (allK (t.parts.map (kindT cols))).bind (kfin t) := by
  cases t <;> first | rfl | cases h
theorem allK_none : ∀ {l : List (Option Kd)}, none ∈ l → allK l = none
  | none :: _, _ => rfl
  | some k :: l, h => by
    have h' : none ∈ l := by simpa using h
    show (allK l).map _ = none
    rw [allK_none h'] <;> rfl
theorem allK_some : ∀ {l : List (Option Kd)}, none ∉ l → ∃ ks, allK l = some ks ∧ l = ks.map some
  | [], _ => ⟨[], rfl, rfl⟩
  | none :: l, h => absurd (by simp) h
  | some k :: l, h => by
    obtain ⟨ks, e1, e2⟩ := allK_some (l := l) fun z => h (List.mem_cons_of_mem _ z)
    refine ⟨k :: ks, ?_, by rw [e2] <;> rfl⟩
    show (allK l).map _ = _
    rw [e1] <;> rfl
theorem kd_inj {a b : Kd} (h : a.s = b.s) : a = b := by
  cases a <;> cases b <;> first | rfl | exact absurd h (by decide +kernel)
theorem kds_inj : ∀ {a b : List Kd}, a.map Kd.s = b.map Kd.s → a = b
  | [], [], _ => rfl
  | [], _ :: _, h => by simp at h
  | _ :: _, [], h => by simp at h
  | x :: a, y :: b, h => by
    rw [List.map_cons, List.map_cons] at h
    rw [kd_inj (List.cons.inj h).1, kds_inj (List.cons.inj h).2]
/-! ### tuples of texts as data -/
theorem eqv_strs : ∀ l m : List Str, PyData.eqvAll (l.map .str) (m.map .str) = decide (l = m)
  | [], [] => by simp [PyData.eqvAll]
  | [], _ :: _ => by simp [PyData.eqvAll]
  | _ :: _, [] => by simp [PyData.eqvAll]
  | x :: l, y :: m => by
    simp only [List.map_cons, PyData.eqvAll, PyData.eqv]
    rw [eqv_strs l m]
    by_cases e : x = y
    · subst e
      by_cases e2 : l = m
      · subst e2
        simp
      · simp [e2]
    · rw [show (x == y) = false from beq_eq_false_iff_ne.mpr e, decide_eq_false (fun z => e (List.cons.inj z).1)] <;> rfl
theorem lay_strs : ∀ {l : List Str}, (∀ x ∈ l, PyData.strOk x = true) → PyData.canLayAll0 (l.map .str) = true ∧ PyData.depthAll (l.map .str) ≤ 1
  | [], _ => by simp [PyData.canLayAll0, PyData.depthAll]
  | x :: l, h => by
    obtain ⟨h1, h2⟩ := lay_strs (l := l) fun y hy => h y (List.mem_cons_of_mem _ hy)
    simp only [List.map_cons, PyData.canLayAll0, PyData.depthAll, PyData.canLay0, PyData.depth]
    rw [h1, h x List.mem_cons_self]
    exact ⟨rfl, by omega⟩
theorem shaped_strs {l : List Str} (h : ∀ x ∈ l, PyData.strOk x = true) : SeqAt.shaped (.tuple (l.map .str)) = true ∧ SeqAt.shaped (.list (l.map .str)) = true := by
  obtain ⟨h1, h2⟩ := lay_strs h
  constructor
  · unfold SeqAt.shaped
    simp only [PyData.canLay0, PyData.depth]
    rw [h1, Bool.true_and]
    exact decide_eq_true (by omega)
  · unfold SeqAt.shaped
    simp only [PyData.canLay0, PyData.depth]
    rw [h1, Bool.true_and]
    exact decide_eq_true (by omega)
theorem dp_strs {K : PySem.W.Frag} {H : Hp} : ∀ l : List Str, DpAll K H (l.map V.str) (l.map .str)
  | [] => .nil
  | x :: l => .cons (.str x) (dp_strs l)
theorem kd_ok (k : Kd) : PyData.strOk k.s = true := by
  cases k <;> decide +kernel
theorem kds_ok (ks : List Kd) : ∀ x ∈ ks.map Kd.s, PyData.strOk x = true := fun x hx => by
  obtain ⟨k, _, rfl⟩ := List.mem_map.mp hx
  exact kd_ok k
theorem kdv_eq (o : Option Kd) (k : Kd) : decide (kdV o = .str k.s) = decide (o = some k) := by
  cases o with
  | none =>
    show decide (V.non = .str k.s) = decide ((none : Option Kd) = some k)
    rw [decide_eq_false (fun z => by cases z), decide_eq_false (fun z => by cases z)]
  | some j => cases j <;> cases k <;> decide +kernel
section
variable {P : Program} {w : World} {K : PySem.W.Frag} {mg : Str → Option Value} {base : Heap}
abbrev kV (k : Kd) : V := .str k.s
theorem scal_kd (o : Option Kd) (k : Kd) : scal (kdV o) (kV k) = true := by
  cases o <;> rfl
def spOk (K : PySem.W.Frag) : Sp := fun vs H Q _ => ∃ (v : V) (t : Tree) (ka : Addr) (ks : List Kd), vs = [v, .ref ka] ∧ IsTree K H v t ∧ SqT K H ka (ks.map kV) ∧ ks.length = t.parts.length ∧ t.leaf = false ∧ t.tab = none ∧ t.Ok ∧ ∀ H', Same H H' → Q (kdV (otherK t ks)) H'
abbrev N_other_kind : List Str := ["expression", "kinds", "word", "cell"]
theorem sc_other_kind : FnScope N_other_kind ["expression", "kinds"] (defScope (topS 30)) := ⟨rfl, rfl, rfl, by decide +kernel, rfl, by decide +kernel, by decide +kernel⟩
theorem ok_other_kind (E : Ev K w mg) : FnOk P w K mg base CX0 2 E.d_other_kind.f E.d_other_kind.fd ["expression", "kinds"] (spOk K) := by
  refine E.d_other_kind.F.ok sc_other_kind (fun vs H Q X h => ?_) (fun cdv A outer s H vs Q X hr h => ?_)
  · obtain ⟨v, t, ka, ks, rfl, _⟩ := h
    rfl
  · obtain ⟨v, t, ka, ks, rfl, ht, hk, hn, hl, hb, ho, q⟩ := h
    refine ⟨_, PSs.nox (pss_cons (ps_set (i := 2) sc_other_kind.nd rfl (.inl rfl) (pe_ix ix_tup (pv 0) pe_int (fun _ _ => rfl)))
      (pss_cons (ps_if (pt_cmpR op_eq (pv 2) pe_str (nomark _)) (pss_one (ps_ret pe_str)) pss_nil)
      (pss_cons (ps_if (pt_cmpR op_eq (pv 2) pe_str (nomark _)) (pss_one (ps_ret pe_str)) pss_nil)
      (pss_cons (ps_if (pt_cmpR op_eq (pv 2) pe_str (nomark _)) (pss_cons (ps_if (pt_val (pe_callB (cr_all rfl) (by rfl) E.n_all (by decide +kernel) (pa_cons (pe_lc (own := [("cell", 3)]) (g := gName 3) rfl sc_other_kind.nd (pi_tup (pe_ix ix_tup (pv 0) pe_int (fun _ _ => rfl))) (blkOk_by (own := [("cell", 3)]) (N := N_other_kind) (sc := defScope (topS 30)) (by decide +kernel)) (fun _ _ _ _ _ => pg_name (i := 3) sc_other_kind.nd rfl (Or.inl rfl)) (fun _ _ _ _ _ => pts_nil) (fun _ _ _ _ _ => (pe_cmpR op_eq (pe_call (ok_cell_kind E) (hr.mono (by omega)) (by rfl) E.d_cell_kind.g E.d_cell_kind.F.kp E.d_cell_kind.b .nil pass0 (pa_cons (pv 3) pa_nil)) (pe_ix (show IxR _ (rIxT K) from ix_tup) (pv 1) pe_int (fun _ _ => rfl)) (nomark _)))) pa_nil))) (pss_one (ps_ret pe_str)) pss_nil)
        (pss_one (ps_ret pe_non))) pss_nil)
      (pss_cons (ps_if (pt_cmpR op_ne (pe_ix ix_tup (pv 1) (pe_un un_neg pe_int) (fun _ _ => rfl)) (pe_ix ix_tup (pv 1) (pe_un un_neg pe_int) (fun _ _ => rfl)) (nomark _)) (pss_one (ps_ret pe_non)) pss_nil)
      (pss_cons (ps_if (pt_cmpR op_eq (pv 2) pe_str (nomark _)) (pss_cons (ps_if (pt_cmpR op_eq (pe_ix ix_tup (pv 1) pe_int (fun _ _ => rfl)) pe_str (nomark _)) (pss_one (ps_ret (pe_ix ix_tup (pv 1) pe_int (fun _ _ => rfl)))) pss_nil)
        (pss_one (ps_ret pe_non))) pss_nil)
      (pss_cons (ps_if (pt_cmpR op_in_seq (pv 2) (pe_tup (pa_cons pe_str (pa_cons pe_str pa_nil))) (by rfl)) (pss_one (ps_ret (pe_ix ix_tup (pv 1) pe_int (fun _ _ => rfl)))) pss_nil)
      (pss_one (ps_ret pe_str))))))))), ?_⟩
    cases t with
    | cell c => cases hl
    | nothing c => cases hl
    | column c => cases hl
    | one o t =>
      obtain ⟨a, u, rfl, hs, h1⟩ := ht
      cases o with
      | text => exact ⟨_, rfl, _, _, _, _, rfl, rfl, hs, atI_nat (j := 0) rfl, _, rfl, rfl, _, rfl, ifT (by decide +kernel) (q H (Same.refl H))⟩
      | missing => exact ⟨_, rfl, _, _, _, _, rfl, rfl, hs, atI_nat (j := 0) rfl, _, rfl, rfl, _, rfl, ifF (by decide +kernel) ⟨_, rfl, rfl, _, rfl, ifT (by decide +kernel) (q H (Same.refl H))⟩⟩
      | _ => cases hb
    | two o s t =>
      obtain ⟨a, u, u', rfl, hs, h1, h2⟩ := ht
      obtain ⟨k1, k2, rfl⟩ : ∃ k1 k2, ks = [k1, k2] := by
        match ks, hn with
        | [x, y], _ => exact ⟨x, y, rfl⟩
      have w1 : ∀ x : Str, (x = "text" ∨ x = "missing" ∨ x = "in" ∨ x = "if") → decide (V.str o.s = V.str x) = false := fun x hx => by
        rcases hx with rfl | rfl | rfl | rfl <;> cases o <;> decide +kernel
      refine ⟨_, rfl, _, _, _, _, rfl, rfl, hs, atI_nat (j := 0) rfl, ?_⟩
      refine ⟨_, rfl, rfl, _, rfl, ifF (w1 _ (.inl rfl)) ?_⟩
      refine ⟨_, rfl, rfl, _, rfl, ifF (w1 _ (.inr (.inl rfl))) ?_⟩
      refine ⟨_, rfl, rfl, _, rfl, ifF (w1 _ (.inr (.inr (.inl rfl)))) ?_⟩
      refine ⟨_, rfl, _, rfl, _, _, _, _, rfl, rfl, hk, rfl, _, rfl, _, rfl, _, _, _, _, rfl, rfl, hk, rfl, rfl, _, rfl, ite2 (fun c => ?_) (fun c => ?_)⟩
      · have ne : ¬ k1 = k2 := fun z => by
          subst z
          have c' : (!decide (V.str k1.s = V.str k1.s)) = true := c
          rw [decide_eq_true rfl] at c'
          cases c'
        have e : otherK (.two o s t) [k1, k2] = none := if_neg ne
        rw [e] at q
        exact q H (Same.refl H)
      · have c' : ¬ (!decide (V.str k1.s = V.str k2.s)) = true := c
        have eq : k1 = k2 := Decidable.byContradiction fun z => c' (by
          rw [decide_eq_false (fun y => z (kd_inj (V.str.inj y)))] <;> rfl)
        subst eq
        have e : otherK (.two o s t) [k1, k1] = (if o.least? = true then some k1 else some .boo) := if_pos rfl
        rw [e] at q
        refine ⟨_, rfl, rfl, _, rfl, ifF (w1 _ (.inr (.inr (.inr rfl)))) ?_⟩
        refine ⟨_, rfl, (by show 2 ≤ sizeLine; decide), fun p1 n1 => ?_⟩
        refine ⟨_, _, rfl, .inr (.inl (.inl upd_same)), rfl, rfl, _, rfl, ?_⟩
        have sm := same_new (o := .tup [.str "least", .str "greatest"]) n1
        have wl : inV (.str o.s) [.str "least", .str "greatest"] = o.least? := by cases o <;> decide +kernel
        cases ol : o.least? with
        | true =>
          rw [ol] at q wl
          exact ifT wl ⟨_, rfl, _, _, _, _, rfl, rfl, same_tup sm hk, atI_nat (j := 0) rfl, q _ sm⟩
        | false =>
          rw [ol] at q wl
          exact ifF wl (q _ sm)
    | cond c0 s t =>
      obtain ⟨a, u, u', u'', rfl, hs, h1, h2, h3⟩ := ht
      obtain ⟨k0, k1, k2, rfl⟩ : ∃ k0 k1 k2, ks = [k0, k1, k2] := by
        match ks, hn with
        | [x, y, z], _ => exact ⟨x, y, z, rfl⟩
      refine ⟨_, rfl, _, _, _, _, rfl, rfl, hs, atI_nat (j := 0) rfl, ?_⟩
      refine ⟨_, rfl, rfl, _, rfl, ifF (by decide +kernel) ?_⟩
      refine ⟨_, rfl, rfl, _, rfl, ifF (by decide +kernel) ?_⟩
      refine ⟨_, rfl, rfl, _, rfl, ifF (by decide +kernel) ?_⟩
      refine ⟨_, rfl, _, rfl, _, _, _, _, rfl, rfl, hk, rfl, _, rfl, _, rfl, _, _, _, _, rfl, rfl, hk, rfl, rfl, _, rfl, ite2 (fun c => ?_) (fun c => ?_)⟩
      · have ne : ¬ k1 = k2 := fun z => by
          subst z
          have c' : (!decide (V.str k1.s = V.str k1.s)) = true := c
          rw [decide_eq_true rfl] at c'
          cases c'
        have e : otherK (.cond c0 s t) [k0, k1, k2] = none := if_neg ne
        rw [e] at q
        exact q H (Same.refl H)
      · have c' : ¬ (!decide (V.str k1.s = V.str k2.s)) = true := c
        have eq : k1 = k2 := Decidable.byContradiction fun z => c' (by
          rw [decide_eq_false (fun y => z (kd_inj (V.str.inj y)))] <;> rfl)
        subst eq
        have e : otherK (.cond c0 s t) [k0, k1, k1] = (if k0 = .boo then some k1 else none) := if_pos rfl
        rw [e] at q
        refine ⟨_, rfl, rfl, _, rfl, ifT (by decide +kernel) ?_⟩
        refine ⟨_, rfl, _, _, _, _, rfl, rfl, hk, atI_nat (j := 0) rfl, rfl, _, rfl, ite2 (fun m => ?_) (fun m => ?_)⟩
        · have m' : k0 = .boo := kd_inj (V.str.inj (of_decide_eq_true m))
          rw [if_pos m'] at q
          exact ⟨_, rfl, _, _, _, _, rfl, rfl, hk, atI_nat (j := 1) rfl, q H (Same.refl H)⟩
        · have m' : ¬ k0 = .boo := fun z => m (decide_eq_true (by rw [z] <;> rfl))
          rw [if_neg m'] at q
          exact q H (Same.refl H)
    | isin t cs =>
      obtain ⟨a, u, b, us, rfl, hs, h1, hb', hc⟩ := ht
      obtain ⟨k, rfl⟩ : ∃ k, ks = [k] := by
        match ks, hn with
        | [x], _ => exact ⟨x, rfl⟩
      refine ⟨_, rfl, _, _, _, _, rfl, rfl, hs, atI_nat (j := 0) rfl, ?_⟩
      refine ⟨_, rfl, rfl, _, rfl, ifF (by decide +kernel) ?_⟩
      refine ⟨_, rfl, rfl, _, rfl, ifF (by decide +kernel) ?_⟩
      refine ⟨_, rfl, rfl, _, rfl, ifT (by decide +kernel) ?_⟩
      refine ⟨_, rfl, _, _, _, _, rfl, rfl, hs, atI_nat (j := 2) rfl, b, rfl, ⟨_, hb'⟩, fun D nD => lc_tup (K := K) (a := b) (xs := us) (fun i H' => MapInv (fun _ => False) (fun _ => True) (fun j y _ => ∃ c, cs[j]? = some c ∧ y = .bl (decide (c.kind = some k))) D (upd H D (.lst [])) i H') (MapInv.zero nD trivial) (fun i H' _ hw => ((keep_new nD).trans hw.ex.kp).tup hb') (fun i v H' hv hw => ?_) (fun H' hw => ?_)⟩
      · obtain ⟨c, hc1, hc2⟩ := Paired.get hc hv
        have kp := (keep_new (o := .lst []) nD).trans hw.ex.kp
        have li : i < 8 := Nat.lt_of_lt_of_le (List.getElem?_eq_some_iff.mp hc1).1 ho.2.2
        refine ⟨rfl, tyes ?_⟩
        refine ⟨_, rfl, v, c, rfl, hc2.keep kp, _, rfl, _, _, _, _, rfl, rfl, kp.tup hk, atI_nat (j := 0) rfl, scal_kd _ _, hw.stepK (Same.refl _) ⟨c, hc1, congrArg V.bl (kdv_eq c.kind k)⟩ (by omega) fun _ _ _ _ q _ => q⟩
      · obtain ⟨ys, hl', hn', hy⟩ := hw.l
        have el := Paired.length hc
        have ey : ys = cs.map fun c => V.bl (decide (c.kind = some k)) := map_of (by omega) hy
        rw [show (cs.map fun c => V.bl (decide (c.kind = some k))) = (cs.map fun c => decide (c.kind = some k)).map V.bl by rw [List.map_map] <;> rfl] at ey
        subst ey
        have sm := hw.same nD
        refine ⟨D, _, rfl, SqL.of hl', _, rfl, ?_⟩
        have ea : (cs.map fun c => decide (c.kind = some k)).all id = cs.all fun c => decide (c.kind = some k) := by
          rw [List.all_map] <;> rfl
        rw [ea]
        have eo : otherK (.isin t cs) [k] = (if cs.all (fun c => decide (c.kind = some k)) = true then some .boo else none) := rfl
        rw [eo] at q
        cases eb : cs.all fun c => decide (c.kind = some k) with
        | true =>
          rw [eb] at q
          exact ifT rfl (q _ sm)
        | false =>
          rw [eb] at q
          exact ifF rfl (q _ sm)
def Tree.tabS (t : Tree) : List Str × Str := match t.tab with
  | some q => (q.1.map Kd.s, q.2.s)
  | none => ([], "")
theorem o1_hit (o : O1) : ∀ q, o.tab = some q → (o.s, [q.1.s], q.2.s) ∈ opT := by
  cases o <;> intro q h <;> cases h <;> decide +kernel
theorem o2_hit (o : O2) : ∀ q, o.tab = some q → (o.s, [q.1.s, q.1.s], q.2.s) ∈ opT := by
  cases o <;> intro q h <;> cases h <;> decide +kernel
theorem o1_miss (o : O1) : o.tab = none → o.s ∈ opM := by
  cases o <;> intro h <;> first | (cases h; done) | decide +kernel
theorem o2_miss (o : O2) : o.tab = none → o.s ∈ opM := by
  cases o <;> intro h <;> first | (cases h; done) | decide +kernel
theorem tab_hit {t : Tree} {q : List Kd × Kd} (h : t.tab = some q) : (t.word, q.1.map Kd.s, q.2.s) ∈ opT := by
  cases t with
  | one o t =>
    obtain ⟨r, h1, h2⟩ := Option.map_eq_some_iff.mp h
    subst h2
    exact o1_hit o r h1
  | two o s t =>
    obtain ⟨r, h1, h2⟩ := Option.map_eq_some_iff.mp h
    subst h2
    exact o2_hit o r h1
  | _ => cases h
theorem tab_miss {t : Tree} (h : t.tab = none) (l : t.leaf = false) : t.word ∈ opM := by
  cases t with
  | one o t => exact o1_miss o (Option.map_eq_none_iff.mp h)
  | two o s t => exact o2_miss o (Option.map_eq_none_iff.mp h)
  | cond _ _ _ => exact (by decide +kernel : ("if" : Str) ∈ opM)
  | isin _ _ => exact (by decide +kernel : ("in" : Str) ∈ opM)
  | _ => cases l
theorem tab_len {t : Tree} {q : List Kd × Kd} (h : t.tab = some q) : q.1.length = t.parts.length := by
  cases t with
  | one o t => cases o <;> cases h <;> rfl
  | two o s t => cases o <;> cases h <;> rfl
  | _ => cases h
theorem word_cell {t : Tree} (h : t.word = "cell") : ∃ c, t = .cell c := by
  cases t with
  | cell c => exact ⟨c, rfl⟩
  | one o t => exact absurd (show o.s = "cell" from h) (by cases o <;> decide +kernel)
  | two o s t => exact absurd (show o.s = "cell" from h) (by cases o <;> decide +kernel)
  | nothing _ => exact absurd (show ("nothing" : Str) = "cell" from h) (by decide +kernel)
  | column _ => exact absurd (show ("column" : Str) = "cell" from h) (by decide +kernel)
  | cond _ _ _ => exact absurd (show ("if" : Str) = "cell" from h) (by decide +kernel)
  | isin _ _ => exact absurd (show ("in" : Str) = "cell" from h) (by decide +kernel)
theorem word_nothing {t : Tree} (h : t.word = "nothing") : ∃ c, t = .nothing c := by
  cases t with
  | nothing c => exact ⟨c, rfl⟩
  | one o t => exact absurd (show o.s = "nothing" from h) (by cases o <;> decide +kernel)
  | two o s t => exact absurd (show o.s = "nothing" from h) (by cases o <;> decide +kernel)
  | cell _ => exact absurd (show ("cell" : Str) = "nothing" from h) (by decide +kernel)
  | column _ => exact absurd (show ("column" : Str) = "nothing" from h) (by decide +kernel)
  | cond _ _ _ => exact absurd (show ("if" : Str) = "nothing" from h) (by decide +kernel)
  | isin _ _ => exact absurd (show ("in" : Str) = "nothing" from h) (by decide +kernel)
theorem word_column {t : Tree} (h : t.word = "column") : ∃ c, t = .column c := by
  cases t with
  | column c => exact ⟨c, rfl⟩
  | one o t => exact absurd (show o.s = "column" from h) (by cases o <;> decide +kernel)
  | two o s t => exact absurd (show o.s = "column" from h) (by cases o <;> decide +kernel)
  | cell _ => exact absurd (show ("cell" : Str) = "column" from h) (by decide +kernel)
  | nothing _ => exact absurd (show ("nothing" : Str) = "column" from h) (by decide +kernel)
  | cond _ _ _ => exact absurd (show ("if" : Str) = "column" from h) (by decide +kernel)
  | isin _ _ => exact absurd (show ("in" : Str) = "column" from h) (by decide +kernel)
theorem word_if {t : Tree} (h : t.word = "if") : ∃ c s u, t = .cond c s u := by
  cases t with
  | cond c s u => exact ⟨c, s, u, rfl⟩
  | one o t => exact absurd (show o.s = "if" from h) (by cases o <;> decide +kernel)
  | two o s t => exact absurd (show o.s = "if" from h) (by cases o <;> decide +kernel)
  | cell _ => exact absurd (show ("cell" : Str) = "if" from h) (by decide +kernel)
  | column _ => exact absurd (show ("column" : Str) = "if" from h) (by decide +kernel)
  | nothing _ => exact absurd (show ("nothing" : Str) = "if" from h) (by decide +kernel)
  | isin _ _ => exact absurd (show ("in" : Str) = "if" from h) (by decide +kernel)
def spKo (K : PySem.W.Frag) (n : Nat) : Sp := fun vs H Q _ => ∃ (v : V) (t : Tree) (ca : Addr) (cols : Cols), vs = [v, .ref ca] ∧ IsTree K H v t ∧ IsCols K H ca cols ∧ t.dep < n ∧ t.Ok ∧ ∀ H', Same H H' → Q (kdV (kindT cols t)) H'
abbrev N_kind_of : List Str := ["expression", "columns", "word", "kinds", "needed", "kind", "part"]
theorem sc_kind_of : FnScope N_kind_of ["expression", "columns"] (defScope (topS 29)) := ⟨rfl, rfl, rfl, by decide +kernel, rfl, by decide +kernel, by decide +kernel⟩
theorem inV_kd (l : List (Option Kd)) : inV .non (l.map kdV) = decide (none ∈ l) := by
  induction l with
  | nil => rfl
  | cons x l ih =>
    show (eqV (kdV x) .non || inV .non (l.map kdV)) = _
    rw [ih]
    cases x with
    | none =>
      rw [decide_eq_true (p := none ∈ (none :: l)) List.mem_cons_self] <;> rfl
    | some k =>
      show (false || _) = _
      rw [Bool.false_or]
      simp
theorem flat_kd (l : List (Option Kd)) : (l.map kdV).all flatV = true := by
  induction l with
  | nil => rfl
  | cons x l ih =>
    rw [List.map_cons, List.all_cons, ih]
    cases x <;> rfl
theorem ok_kind_of (E : Ev K w mg) : ∀ n, FnOk P w K mg base CX0 (n + 2) E.d_kind_of.f E.d_kind_of.fd ["expression", "columns"] (spKo K n)
  | 0 => by
    refine E.d_kind_of.F.ok sc_kind_of (fun vs H Q X h => ?_) (fun cdv A outer s H vs Q X hr h => ?_)
    · obtain ⟨v, t, ca, cols, _, _, _, hd, _⟩ := h
      omega
    · obtain ⟨v, t, ca, cols, _, _, _, hd, _⟩ := h
      omega
  | n + 1 => by
    refine E.d_kind_of.F.ok sc_kind_of (fun vs H Q X h => ?_) (fun cdv A outer s H vs Q X hr h => ?_)
    · obtain ⟨v, t, ca, cols, rfl, _⟩ := h
      rfl
    obtain ⟨v, t, ca, cols, rfl, ht, hc, hd, ho, q⟩ := h
    refine ⟨_, PSs.nox (pss_cons (ps_set (i := 2) sc_kind_of.nd rfl (.inl rfl) (pe_ix ix_tup (pv 0) pe_int (fun _ _ => rfl)))
      (pss_cons (ps_if (pt_cmpR op_eq (pv 2) pe_str (nomark _)) (pss_one (ps_ret (pe_call (ok_cell_kind E) (hr.mono (by omega)) (by rfl) E.d_cell_kind.g E.d_cell_kind.F.kp E.d_cell_kind.b .nil pass0 (pa_cons (pe_ix ix_tup (pv 0) pe_int (fun _ _ => rfl)) pa_nil)))) pss_nil)
      (pss_cons (ps_if (pt_cmpR op_eq (pv 2) pe_str (nomark _)) (pss_one (ps_ret (pe_ix ix_tup (pv 0) pe_int (fun _ _ => rfl)))) pss_nil)
      (pss_cons (ps_if (pt_cmpR op_eq (pv 2) pe_str (nomark _)) (pss_one (ps_ret (pe_call (ok_kind_in E) (hr.mono (by omega)) (by rfl) E.d_kind_in.g E.d_kind_in.F.kp E.d_kind_in.b .nil pass0 (pa_cons (pv 1) (pa_cons (pe_ix ix_tup (pv 0) pe_int (fun _ _ => rfl)) pa_nil))))) pss_nil)
      (pss_cons (ps_set (i := 3) sc_kind_of.nd rfl (.inl rfl) (pe_callTy call_tuple_of (by rfl) E.n_tuple (by decide +kernel) (pa_cons (pe_lc (own := [("part", 6)]) (g := gName 6) rfl sc_kind_of.nd (pi_tup (pe_call (ok_parts_of E) (hr.mono (by omega)) (by rfl) E.d_parts_of.g E.d_parts_of.F.kp E.d_parts_of.b .nil pass0 (pa_cons (pv 0) pa_nil))) (blkOk_by (own := [("part", 6)]) (N := N_kind_of) (sc := defScope (topS 29)) (by decide +kernel)) (fun _ _ _ _ _ => pg_name (i := 6) sc_kind_of.nd rfl (Or.inl rfl)) (fun _ _ _ _ _ => pts_nil) (fun _ _ _ _ _ => (pe_call (ok_kind_of E n) (hr.mono (by omega)) (by rfl) E.d_kind_of.g E.d_kind_of.F.kp E.d_kind_of.b .nil pass0 (pa_cons (pv 6) (pa_cons (pv 1) pa_nil))))) pa_nil)))
      (pss_cons (ps_if (pt_cmpR op_in_seq pe_non (pv 3) (by rfl)) (pss_one (ps_ret pe_non)) pss_nil)
      (pss_cons (ps_if (pt_cmpR (op_in_kd E.dOp) (pv 2) (pe_glob rfl E.gOp (v := .ref E.aOp) rfl) (by rfl)) (pss_cons (ps_asg (pe_ix ix_kdict (pe_glob rfl E.gOp (v := .ref E.aOp) rfl) (pv 2) (fun _ _ => rfl)) (pg_tup (by rfl) (pgs_cons (pg_name (i := 4) sc_kind_of.nd rfl (.inl rfl)) (pgs_cons (pg_name (i := 5) sc_kind_of.nd rfl (.inl rfl)) pgs_nil))))
        (pss_cons (ps_if (pt_cmpR (op_eqD hr.units) (pv 3) (pv 4) (nomark _)) (pss_one (ps_ret (pv 5))) pss_nil)
        (pss_one (ps_ret pe_non)))) pss_nil)
      (pss_one (ps_ret (pe_call (ok_other_kind E) (hr.mono (by omega)) (by rfl) E.d_other_kind.g E.d_other_kind.F.kp E.d_other_kind.b .nil pass0 (pa_cons (pv 0) (pa_cons (pv 3) pa_nil)))))))))))), ?_⟩
    obtain ⟨a, r, rfl, hs, hr0⟩ := ht.head
    refine ⟨_, rfl, _, _, _, _, rfl, rfl, hs, atI_nat (j := 0) rfl, ?_⟩
    refine ⟨_, rfl, rfl, _, rfl, ite2 (fun k => ?_) (fun k => ?_)⟩
    · obtain ⟨c, rfl⟩ := word_cell (word_eq k)
      obtain ⟨b, u, e, hb, hu⟩ := ht
      cases e
      exact ⟨_, rfl, _, _, _, _, rfl, rfl, hb, atI_nat (j := 1) rfl, u, c, rfl, hu, q H (Same.refl H)⟩
    refine ⟨_, rfl, rfl, _, rfl, ite2 (fun k1 => ?_) (fun k1 => ?_)⟩
    · obtain ⟨c, rfl⟩ := word_nothing (word_eq k1)
      obtain ⟨b, e, hb⟩ := ht
      cases e
      exact ⟨_, rfl, _, _, _, _, rfl, rfl, hb, atI_nat (j := 1) rfl, q H (Same.refl H)⟩
    refine ⟨_, rfl, rfl, _, rfl, ite2 (fun k2 => ?_) (fun k2 => ?_)⟩
    · obtain ⟨c, rfl⟩ := word_column (word_eq k2)
      obtain ⟨b, e, hb⟩ := ht
      cases e
      exact ⟨_, rfl, _, rfl, _, _, _, _, rfl, rfl, hb, atI_nat (j := 1) rfl, ca, c, cols, rfl, hc, q H (Same.refl H)⟩
    have lf : t.leaf = false := by
      rw [leaf_or t, decide_eq_false (fun z => k (decide_eq_true (congrArg V.str z))), decide_eq_false (fun z => k1 (decide_eq_true (congrArg V.str z))), decide_eq_false (fun z => k2 (decide_eq_true (congrArg V.str z)))] <;> rfl
    have pl := parts_len t
    rw [kindT_np lf] at q
    refine ⟨_, rfl, _, t, rfl, ht, fun p us H1 s1 hp tr => ?_⟩
    have el := Paired.length tr
    refine ⟨p, rfl, ⟨_, hp⟩, fun D nD => lc_tup (K := K) (a := p) (xs := us) (fun i H' => MapInv (fun _ => False) (fun _ => True) (fun j y _ => ∃ c, t.parts[j]? = some c ∧ y = kdV (kindT cols c)) D (upd H1 D (.lst [])) i H') (MapInv.zero nD trivial) (fun i H' _ hw => ((keep_new nD).trans hw.ex.kp).tup hp) (fun i v H' hv hw => ?_) (fun H' hw => ?_)⟩
    · obtain ⟨c, c1, c2⟩ := Paired.get tr hv
      have kp := (keep_new (o := .lst []) nD).trans hw.ex.kp
      have li : i < t.parts.length := (List.getElem?_eq_some_iff.mp c1).1
      have cm : c ∈ t.parts := List.mem_of_getElem? c1
      have cd := dep_parts cm
      refine ⟨rfl, tyes ?_⟩
      refine ⟨_, rfl, _, rfl, v, c, ca, cols, rfl, c2.keep kp, hc.keep ((Same.keep s1).trans kp), by omega, ok_parts ho cm, fun H2 s2 => hw.stepK s2 ⟨c, c1, rfl⟩ (by omega) fun _ _ _ _ q _ => q⟩
    · obtain ⟨ys, hl', hn', hy⟩ := hw.l
      have ey : ys = t.parts.map fun c => kdV (kindT cols c) := map_of (by omega) hy
      rw [show (t.parts.map fun c => kdV (kindT cols c)) = (t.parts.map (kindT cols)).map kdV by rw [List.map_map] <;> rfl] at ey
      subst ey
      have sm := s1.trans (hw.same nD)
      refine ⟨D, _, rfl, .inl ⟨SqL.of hl', fun p2 n2 => ?_⟩⟩
      have sm2 := sm.trans (same_new (o := .tup ((t.parts.map (kindT cols)).map kdV)) n2)
      refine ⟨_, rfl, _, _, rfl, .inr (.inl (.inl upd_same)), rfl, flat_kd _, _, rfl, ite2 (fun m => ?_) (fun m => ?_)⟩
      · have m' : inV .non ((t.parts.map (kindT cols)).map kdV) = true := m
        rw [inV_kd] at m'
        rw [allK_none (of_decide_eq_true m')] at q
        exact q _ sm2
      · have m' : ¬ inV .non ((t.parts.map (kindT cols)).map kdV) = true := m
        rw [inV_kd] at m'
        obtain ⟨ks, e1, e2⟩ := allK_some fun z => m' (decide_eq_true z)
        have q2 : ∀ H', Same H H' → Q (kdV (kfin t ks)) H' := fun H' s' => by
          have z := q H' s'
          rw [e1] at z
          exact z
        have ks_l : ks.length = t.parts.length := by
          have z := congrArg List.length e2
          rw [List.length_map, List.length_map] at z
          exact z.symm
        have hk2 : ∀ H', Same (upd H' p2 (.tup ((t.parts.map (kindT cols)).map kdV))) H' → True := fun _ _ => trivial
        have ev : (t.parts.map (kindT cols)).map kdV = ks.map kV := by
          rw [e2, List.map_map] <;> rfl
        cases tb : t.tab with
        | some r =>
          have ef : kfin t ks = (if ks = r.1 then some r.2 else none) := by
            unfold kfin
            rw [tb]
          rw [ef] at q2
          obtain ⟨oa, ou, o1, o2, o3⟩ := E.hit _ (tab_hit tb)
          refine ⟨_, rfl, _, _, rfl, rfl, o1, _, rfl, ifT rfl ?_⟩
          refine ⟨_, rfl, E.aOp, t.word, .ref oa, rfl, rfl, ⟨E.esOp, E.nOp, .ref oa, E.dOp.at_, E.dOp.lit, o1, rfl⟩, oa, _, rfl, o2 _, rfl, _, _, rfl, _, _, rfl, rfl, ?_⟩
          have d1 : ∀ H' : Hp, SqT K H' p2 (ks.map kV) → Dp K H' (.ref p2) (.tuple ((ks.map Kd.s).map .str)) := fun H' z => .tup z (by
            have y := dp_strs (K := K) (H := H') (ks.map Kd.s)
            rw [List.map_map] at y
            exact y)
          refine ⟨_, rfl, _, rfl, .tuple ((ks.map Kd.s).map .str), .tuple ((r.1.map Kd.s).map .str), d1 _ (.inl (.inl ?_)), .tup (o3 _) (dp_strs _), (shaped_strs (kds_ok ks)).1, (shaped_strs (kds_ok r.1)).1, _, rfl, ?_⟩
          · rw [ev]
            exact upd_same
          have eb : PyData.eqv (.tuple ((ks.map Kd.s).map .str)) (.tuple ((r.1.map Kd.s).map .str)) = decide (ks = r.1) := by
            simp only [PyData.eqv]
            rw [eqv_strs]
            by_cases z : ks = r.1
            · rw [decide_eq_true z, decide_eq_true (congrArg (List.map Kd.s) z)]
            · rw [decide_eq_false z, decide_eq_false fun y => z (kds_inj y)]
          by_cases z : ks = r.1
          · rw [if_pos z] at q2
            rw [eb, decide_eq_true z]
            exact ifT rfl ⟨_, rfl, q2 _ sm2⟩
          · rw [if_neg z] at q2
            rw [eb, decide_eq_false z]
            exact ifF rfl (q2 _ sm2)
        | none =>
          have ef : kfin t ks = otherK t ks := by
            unfold kfin
            rw [tb]
          rw [ef] at q2
          exact ⟨_, rfl, _, _, rfl, rfl, E.miss _ (tab_miss tb lf), _, rfl, ifF rfl ⟨_, rfl, _, rfl, _, t, p2, ks, rfl, ht.keep (Same.keep sm2), .inl (.inl (by rw [ev]; exact upd_same)), ks_l, lf, tb, ho, fun H' s' => q2 _ (sm2.trans s')⟩⟩
end
end K7
/-! W8 -/
namespace K7
open PySem PySem.Spec PyProof.Rows L2 TL
/-! ### plain: the value of a typed expression -/
def evalT (cols : Cols) (cells : List Cell) : Tree → Cell
  | .cell c => c
  | .nothing _ => .non
  | .column x => match posIn cols x with
    | some i => cells.getD i .non
    | none => .non
  | .one o t => if o = .missing then .bl (decide (evalT cols cells t = .non)) else if evalT cols cells t = .non then .non else limC (one1 o (evalT cols cells t))
  | .two o s t => if o = .and then connT false (evalT cols cells s) (evalT cols cells t) else if o = .or then connT true (evalT cols cells s) (evalT cols cells t) else
    if evalT cols cells s = .non ∨ evalT cols cells t = .non then .non else limC (two2 o (evalT cols cells s) (evalT cols cells t))
  | .cond c s t => if evalT cols cells c = .bl true then evalT cols cells s else evalT cols cells t
  | .isin t cs => if evalT cols cells t = .non then .non else .bl (decide (evalT cols cells t ∈ cs))
def Fits (c : Cell) (k : Kd) : Prop := c.Ok ∧ (c = .non ∨ c.kind = some k)
def RowFit (cols : Cols) (cells : List Cell) : Prop := cells.length = cols.length ∧ ∀ (i : Nat) (c : Cell) (x : Str × Kd), cells[i]? = some c → cols[i]? = some x → Fits c x.2
def PreOk : Cell → Prop
  | .num n d => 0 < d ∧ Nat.gcd n.natAbs d.natAbs = 1
  | .txt x => Asc x
  | _ => True
theorem lim_ok {c : Cell} (h : PreOk c) : (limC c).Ok ∧ (limC c = .non ∨ (limC c).kind = c.kind) := by
  cases c with
  | non => exact ⟨trivial, .inl rfl⟩
  | bl b => exact ⟨trivial, .inr rfl⟩
  | txt x =>
    show (if x.length > 40 then Cell.non else .txt x).Ok ∧ ((if x.length > 40 then Cell.non else .txt x) = .non ∨ (if x.length > 40 then Cell.non else .txt x).kind = some .txt)
    split
    · exact ⟨trivial, .inl rfl⟩
    · exact ⟨⟨by omega, h⟩, .inr rfl⟩
  | num n d =>
    show (keepT n d).Ok ∧ (keepT n d = .non ∨ (keepT n d).kind = some .num)
    unfold keepT
    by_cases k : (if n < 0 then -n else n) < 1000000000000 ∧ d < 1000000000000
    · rw [if_pos k]
      refine ⟨⟨⟨h.1, k.2, ?_⟩, h.2⟩, .inr rfl⟩
      have k1 := k.1
      split at k1 <;> omega
    · rw [if_neg k]
      exact ⟨trivial, .inl rfl⟩
theorem lim_self {c : Cell} (h : c.Ok) : limC c = c := by
  cases c with
  | txt x =>
    show (if x.length > 40 then Cell.non else .txt x) = .txt x
    rw [if_neg (by have := h.1; omega)]
  | num n d =>
    show keepT n d = .num n d
    unfold keepT
    obtain ⟨⟨h1, h2, h3⟩, _⟩ := h
    rw [if_pos ⟨by split <;> omega, h2⟩]
  | _ => rfl
theorem div_gcd {n d : Int} (h : 0 < d) : 0 < d / ((Nat.gcd n.natAbs d.natAbs : Nat) : Int) ∧ Nat.gcd (n / ((Nat.gcd n.natAbs d.natAbs : Nat) : Int)).natAbs (d / ((Nat.gcd n.natAbs d.natAbs : Nat) : Int)).natAbs = 1 := by
  have hp : 0 < d.natAbs := by omega
  have g0 : 0 < Nat.gcd n.natAbs d.natAbs := Nat.gcd_pos_of_pos_right _ hp
  have d1 : ((Nat.gcd n.natAbs d.natAbs : Nat) : Int) ∣ n := Int.ofNat_dvd_left.mpr (Nat.gcd_dvd_left _ _)
  have d2 : ((Nat.gcd n.natAbs d.natAbs : Nat) : Int) ∣ d := Int.ofNat_dvd_left.mpr (Nat.gcd_dvd_right _ _)
  refine ⟨Int.ediv_pos_of_pos_of_dvd h (by omega) d2, ?_⟩
  rw [Int.natAbs_ediv_of_dvd d1, Int.natAbs_ediv_of_dvd d2, Int.natAbs_natCast]
  exact Nat.coprime_div_gcd_div_gcd g0
theorem low_ok {n d : Int} (h : d ≠ 0) : PreOk (cellN (lowT n d)) := by
  unfold lowT
  split
  · exact div_gcd (n := -n) (d := -d) (by omega)
  · exact div_gcd (n := n) (d := d) (by omega)
theorem gcd_one (n : Nat) : Nat.gcd n (1 : Int).natAbs = 1 := Nat.gcd_one_right n
theorem one_ok {o : O1} {c : Cell} (h : c.Ok) : PreOk (one1 o c) := by
  cases o with
  | not => cases c <;> exact trivial
  | missing => cases c <;> exact trivial
  | text =>
    have ha : Asc (textC c) := by
      cases c with
      | non => exact asc_empty
      | bl b =>
        show Asc (if b = true then ("true" : Str) else ("false" : Str))
        split
        · exact asc_lit (by decide +kernel)
        · exact asc_lit (by decide +kernel)
      | txt x => exact h.2
      | num a b => exact asc_frac a b
    cases c <;> exact ha
  | length =>
    cases c with
    | txt x => exact ⟨by decide, gcd_one _⟩
    | _ => exact trivial
  | minus =>
    cases c with
    | num n d => exact ⟨h.1.1, by rw [Int.natAbs_neg]; exact h.2⟩
    | _ => exact trivial
  | abs =>
    cases c with
    | num n d =>
      refine ⟨h.1.1, ?_⟩
      split
      · rw [Int.natAbs_neg]
        exact h.2
      · exact h.2
    | _ => exact trivial
  | floor =>
    cases c with
    | num n d => exact ⟨by decide, gcd_one _⟩
    | _ => exact trivial
  | ceil =>
    cases c with
    | num n d => exact ⟨by decide, gcd_one _⟩
    | _ => exact trivial
  | round =>
    cases c with
    | num n d => exact ⟨by decide, gcd_one _⟩
    | _ => exact trivial
theorem pre_ok {c : Cell} (h : c.Ok) : PreOk c := by
  cases c with
  | num n d => exact ⟨h.1.1, h.2⟩
  | txt x => exact h.2
  | _ => exact trivial
theorem two_ok {o : O2} {a b : Cell} (h : a.Ok) (h' : b.Ok) (f : fit2 o a b = true) : PreOk (two2 o a b) := by
  cases o with
  | add =>
    cases a <;> cases b <;> first | (cases f; done) | exact low_ok (mul_nz h.1.1 (by have := h'.1.1; omega))
  | sub =>
    cases a <;> cases b <;> first | (cases f; done) | exact low_ok (mul_nz h.1.1 (by have := h'.1.1; omega))
  | mul =>
    cases a <;> cases b <;> first | (cases f; done) | exact low_ok (mul_nz h.1.1 (by have := h'.1.1; omega))
  | div =>
    cases a with
    | num n d =>
      cases b with
      | num m e =>
        show PreOk (if m = 0 then .non else cellN (overT n d m e))
        split
        · exact trivial
        · rename_i z
          exact low_ok (mul_nz h.1.1 z)
      | _ => cases f
    | _ => cases f
  | join =>
    cases a <;> cases b <;> first | (cases f; done) | exact asc_app h.2 h'.2
  | and => cases f
  | or => cases f
  | least =>
    show PreOk (if cmpC a b = 1 then b else a)
    split
    · exact pre_ok h'
    · exact pre_ok h
  | greatest =>
    show PreOk (if cmpC a b = -1 then b else a)
    split
    · exact pre_ok h'
    · exact pre_ok h
  | _ => exact trivial
/-! ### kinds of the forms -/
def K1 (o : O1) (a : Kd) : Option Kd := match o.tab with
  | some q => if a = q.1 then some q.2 else none
  | none => if o = .text then some .txt else some .boo
def K2 (o : O2) (a b : Kd) : Option Kd := match o.tab with
  | some q => if a = q.1 ∧ b = q.1 then some q.2 else none
  | none => if a = b then (if o.least? = true then some a else some .boo) else none
theorem kfin_one (o : O1) (t : Tree) (a : Kd) : kfin (.one o t) [a] = K1 o a := by
  cases o <;> cases a <;> rfl
theorem kfin_two (o : O2) (s t : Tree) (a b : Kd) : kfin (.two o s t) [a, b] = K2 o a b := by
  cases o <;> cases a <;> cases b <;> rfl
theorem kd_one {cols : Cols} {o : O1} {t : Tree} {k : Kd} (h : kindT cols (.one o t) = some k) : ∃ a, kindT cols t = some a ∧ K1 o a = some k := by
  have h' : (allK [kindT cols t]).bind (kfin (.one o t)) = some k := h
  cases e : kindT cols t with
  | none =>
    rw [e] at h'
    cases h'
  | some a =>
    rw [e] at h'
    exact ⟨a, rfl, by rw [← kfin_one o t]; exact h'⟩
theorem kd_two {cols : Cols} {o : O2} {s t : Tree} {k : Kd} (h : kindT cols (.two o s t) = some k) : ∃ a b, kindT cols s = some a ∧ kindT cols t = some b ∧ K2 o a b = some k := by
  have h' : (allK [kindT cols s, kindT cols t]).bind (kfin (.two o s t)) = some k := h
  cases e : kindT cols s with
  | none =>
    rw [e] at h'
    cases h'
  | some a =>
    cases e2 : kindT cols t with
    | none =>
      rw [e, e2] at h'
      cases h'
    | some b =>
      rw [e, e2] at h'
      exact ⟨a, b, rfl, rfl, by rw [← kfin_two o s t]; exact h'⟩
theorem kd_cond {cols : Cols} {c s t : Tree} {k : Kd} (h : kindT cols (.cond c s t) = some k) : kindT cols c = some .boo ∧ kindT cols s = some k ∧ kindT cols t = some k := by
  have h' : (allK [kindT cols c, kindT cols s, kindT cols t]).bind (kfin (.cond c s t)) = some k := h
  cases e : kindT cols c with
  | none =>
    rw [e] at h'
    cases h'
  | some a =>
    cases e2 : kindT cols s with
    | none =>
      rw [e, e2] at h'
      cases h'
    | some b =>
      cases e3 : kindT cols t with
      | none =>
        rw [e, e2, e3] at h'
        cases h'
      | some d =>
        rw [e, e2, e3] at h'
        have h2 : (if b = d then (if a = .boo then some b else none) else none) = some k := h'
        split at h2
        · split at h2
          · rename_i x y
            subst x y
            exact ⟨rfl, h2, h2⟩
          · cases h2
        · cases h2
theorem kd_isin {cols : Cols} {t : Tree} {cs : List Cell} {k : Kd} (h : kindT cols (.isin t cs) = some k) : k = .boo ∧ ∃ a, kindT cols t = some a ∧ ∀ c ∈ cs, c.kind = some a := by
  have h' : (allK [kindT cols t]).bind (kfin (.isin t cs)) = some k := h
  cases e : kindT cols t with
  | none =>
    rw [e] at h'
    cases h'
  | some a =>
    rw [e] at h'
    have h2 : (if cs.all (fun c => decide (c.kind = some a)) = true then some Kd.boo else none) = some k := h'
    split at h2
    · rename_i x
      exact ⟨(Option.some.inj h2).symm, a, rfl, fun c hc => of_decide_eq_true (List.all_eq_true.mp x c hc)⟩
    · cases h2
theorem kin_some {cols : Cols} {x : Str} {k : Kd} (h : kindIn cols x = some k) : ∃ i, posIn cols x = some i ∧ cols[i]? = some (x, k) := by
  unfold kindIn at h
  obtain ⟨c, h1, h2⟩ := Option.map_eq_some_iff.mp h
  obtain ⟨p, i, hi, e, hm⟩ := List.find?_eq_some_iff_getElem.mp h1
  have gi : cols[i]? = some c := by rw [List.getElem?_eq_getElem hi, e]
  have ec : c.1 = x := of_decide_eq_true p
  have z := kin_step (cols := cols) (x := x) (i := i) (fun j d hj hd y => by
    have hj2 : j < cols.length := by omega
    have m := hm j hj
    rw [List.getElem?_eq_getElem hj2] at hd
    have ed := Option.some.inj hd
    rw [ed, decide_eq_true y] at m
    cases m) gi ec
  refine ⟨i, z.2, ?_⟩
  rw [gi, ← ec, ← h2]
theorem fits_non (k : Kd) : Fits .non k := ⟨trivial, .inl rfl⟩
theorem one_kind {o : O1} {c : Cell} {a k : Kd} (h : c.kind = some a) (hk : K1 o a = some k) (hm : o ≠ .missing) : fit1 o c = true ∧ (one1 o c).kind = some k := by
  cases o <;> cases c <;> cases h <;> cases hk <;> first | exact absurd rfl hm | exact ⟨rfl, rfl⟩
theorem two_kind {o : O2} {x y : Cell} {a b k : Kd} (h : x.kind = some a) (h' : y.kind = some b) (hk : K2 o a b = some k) (h1 : o ≠ .and) (h2 : o ≠ .or) : fit2 o x y = true ∧ (two2 o x y = .non ∨ (two2 o x y).kind = some k) := by
  have nx : x ≠ .non := fun z => by rw [z] at h; cases h
  cases o with
  | and => exact absurd rfl h1
  | or => exact absurd rfl h2
  | add => cases x <;> cases y <;> cases h <;> cases h' <;> cases hk <;> exact ⟨rfl, .inr rfl⟩
  | sub => cases x <;> cases y <;> cases h <;> cases h' <;> cases hk <;> exact ⟨rfl, .inr rfl⟩
  | mul => cases x <;> cases y <;> cases h <;> cases h' <;> cases hk <;> exact ⟨rfl, .inr rfl⟩
  | join => cases x <;> cases y <;> cases h <;> cases h' <;> cases hk <;> exact ⟨rfl, .inr rfl⟩
  | div =>
    cases x <;> cases y <;> cases h <;> cases h' <;> cases hk
    rename_i n d m e
    refine ⟨rfl, ?_⟩
    show (if m = 0 then Cell.non else cellN (overT n d m e)) = .non ∨ (if m = 0 then Cell.non else cellN (overT n d m e)).kind = _
    split
    · exact .inl rfl
    · exact .inr rfl
  | least =>
    have hk' : (if a = b then some a else none) = some k := hk
    split at hk'
    · rename_i e
      subst e
      refine ⟨decide_eq_true ⟨h.trans h'.symm, nx⟩, .inr ?_⟩
      show (if cmpC x y = 1 then y else x).kind = _
      split
      · rw [h', hk']
      · rw [h, hk']
    · cases hk'
  | greatest =>
    have hk' : (if a = b then some a else none) = some k := hk
    split at hk'
    · rename_i e
      subst e
      refine ⟨decide_eq_true ⟨h.trans h'.symm, nx⟩, .inr ?_⟩
      show (if cmpC x y = -1 then y else x).kind = _
      split
      · rw [h', hk']
      · rw [h, hk']
    · cases hk'
  | _ =>
    have hk' : (if a = b then some Kd.boo else none) = some k := hk
    split at hk'
    · rename_i e
      subst e
      exact ⟨decide_eq_true ⟨h.trans h'.symm, nx⟩, .inr hk'⟩
    · cases hk'
theorem conn_fits (d : Bool) (a b : Cell) : Fits (connT d a b) .boo := by
  unfold connT
  split
  · exact ⟨trivial, .inr rfl⟩
  · split
    · exact fits_non _
    · exact ⟨trivial, .inr rfl⟩
theorem fits_kind {c : Cell} {k : Kd} (h : Fits c k) (n : c ≠ .non) : c.kind = some k := h.2.resolve_left n
/-- the value of a typed expression fits its kind -/
theorem eval_fits {cols : Cols} {cells : List Cell} (hr : RowFit cols cells) : ∀ {t : Tree} {k : Kd}, t.Ok → kindT cols t = some k → Fits (evalT cols cells t) k
  | .cell c, k, ho, h => ⟨ho.1, .inr h⟩
  | .nothing k', k, ho, h => fits_non k
  | .column x, k, ho, h => by
    obtain ⟨i, e1, e2⟩ := kin_some (cols := cols) (x := x) h
    show Fits (match posIn cols x with | some i => cells.getD i .non | none => .non) k
    rw [e1]
    have hi : i < cells.length := by
      rw [hr.1]
      exact (List.getElem?_eq_some_iff.mp e2).1
    have e3 : cells[i]? = some cells[i] := List.getElem?_eq_getElem hi
    show Fits (cells.getD i .non) k
    rw [List.getD_eq_getElem?_getD, e3]
    exact hr.2 i _ _ e3 e2
  | .one o t, k, ho, h => by
    obtain ⟨a, h1, h2⟩ := kd_one h
    have f := eval_fits hr (t := t) ho h1
    show Fits (if o = .missing then .bl (decide (evalT cols cells t = .non)) else if evalT cols cells t = .non then .non else limC (one1 o (evalT cols cells t))) k
    split
    · rename_i e
      subst e
      cases a <;> cases h2 <;> exact ⟨trivial, .inr rfl⟩
    · rename_i nm
      split
      · exact fits_non k
      · rename_i nn
        obtain ⟨f1, f2⟩ := one_kind (fits_kind f nn) h2 nm
        obtain ⟨l1, l2⟩ := lim_ok (one_ok (o := o) f.1)
        exact ⟨l1, l2.imp id fun z => z.trans f2⟩
  | .two o s t, k, ho, h => by
    obtain ⟨a, b, h1, h2, h3⟩ := kd_two h
    have fa := eval_fits hr (t := s) ho.1 h1
    have fb := eval_fits hr (t := t) ho.2 h2
    show Fits (if o = .and then connT false (evalT cols cells s) (evalT cols cells t) else if o = .or then connT true (evalT cols cells s) (evalT cols cells t) else
      if evalT cols cells s = .non ∨ evalT cols cells t = .non then .non else limC (two2 o (evalT cols cells s) (evalT cols cells t))) k
    split
    · rename_i e
      subst e
      cases a <;> cases b <;> cases h3 <;> exact conn_fits _ _ _
    · split
      · rename_i e
        subst e
        cases a <;> cases b <;> cases h3 <;> exact conn_fits _ _ _
      · rename_i n1 n2
        split
        · exact fits_non k
        · rename_i nn
          obtain ⟨f1, f2⟩ := two_kind (fits_kind fa fun z => nn (.inl z)) (fits_kind fb fun z => nn (.inr z)) h3 n1 n2
          obtain ⟨l1, l2⟩ := lim_ok (two_ok fa.1 fb.1 f1)
          refine ⟨l1, ?_⟩
          rcases f2 with f2 | f2
          · rw [f2]
            exact .inl rfl
          · exact l2.imp id fun z => z.trans f2
  | .cond c s t, k, ho, h => by
    obtain ⟨_, h1, h2⟩ := kd_cond h
    have fa := eval_fits hr (t := s) ho.2.1 h1
    have fb := eval_fits hr (t := t) ho.2.2 h2
    show Fits (if evalT cols cells c = .bl true then evalT cols cells s else evalT cols cells t) k
    split
    · exact fa
    · exact fb
  | .isin t cs, k, ho, h => by
    obtain ⟨rfl, _⟩ := kd_isin h
    show Fits (if evalT cols cells t = .non then .non else .bl (decide (evalT cols cells t ∈ cs))) .boo
    split
    · exact fits_non _
    · exact ⟨trivial, .inr rfl⟩
end K7
/-! W9 -/
namespace K7
open PySem PySem.Spec PyProof.Rows L2 TL
theorem parts_kind {cols : Cols} {t p : Tree} {k : Kd} (h : kindT cols t = some k) (hp : p ∈ t.parts) : ∃ k', kindT cols p = some k' := by
  cases t with
  | one o t =>
    obtain ⟨a, h1, _⟩ := kd_one h
    have e : p = t := by simpa [Tree.parts] using hp
    exact ⟨a, e ▸ h1⟩
  | two o s t =>
    obtain ⟨a, b, h1, h2, _⟩ := kd_two h
    have e : p = s ∨ p = t := by simpa [Tree.parts] using hp
    rcases e with rfl | rfl
    · exact ⟨a, h1⟩
    · exact ⟨b, h2⟩
  | cond c s t =>
    obtain ⟨h1, h2, h3⟩ := kd_cond h
    have e : p = c ∨ p = s ∨ p = t := by simpa [Tree.parts] using hp
    rcases e with rfl | rfl | rfl
    · exact ⟨_, h1⟩
    · exact ⟨_, h2⟩
    · exact ⟨_, h3⟩
  | isin t cs =>
    obtain ⟨_, a, h1, _⟩ := kd_isin h
    have e : p = t := by simpa [Tree.parts] using hp
    exact ⟨a, e ▸ h1⟩
  | _ => simp [Tree.parts] at hp
theorem any_cells (cs : List Cell) (c : Cell) : (cs.map dataOf).any (fun z => PyData.eqv z (dataOf c)) = decide (c ∈ cs) := by
  induction cs with
  | nil => simp
  | cons x cs ih =>
    rw [List.map_cons, List.any_cons, ih, eqv_cell]
    by_cases e : x = c
    · subst e
      simp
    · rw [decide_eq_false e, Bool.false_or]
      simp [Ne.symm e]
theorem cell_non {K : PySem.W.Frag} {H : Hp} {v : V} {c : Cell} (h : IsCell K H v c) : decide (v = .non) = decide (c = .non) := by
  cases c with
  | non =>
    have e : v = .non := h
    rw [e] <;> rfl
  | bl b =>
    have e : v = .bl b := h
    rw [e] <;> rfl
  | txt b =>
    have e : v = .str b := h
    rw [e] <;> rfl
  | num n d =>
    obtain ⟨a, rfl, _⟩ := h
    rfl
theorem frac_len {a b : Int} (h : NumB a b) : (fracT a b).length ≤ 1000 := by
  obtain ⟨b1, b2, b3⟩ := h
  have e0 : Str.empty.length = 0 := rfl
  have la : (decI a).length ≤ 13 := int_len (i := a) (k := 12) (by omega) (by omega)
  have lb : (decI b).length ≤ 13 := int_len (i := b) (k := 12) (by omega) (by omega)
  have sl : (sgnT a).length ≤ 1 := by
    unfold sgnT
    split <;> decide +kernel
  have e1 : (Str.ofString "/").length = 1 := by decide +kernel
  have e2 : (Str.ofString ".").length = 1 := by decide +kernel
  unfold fracT
  split
  · rw [Str.length_append, Str.length_append, Str.length_append, e0, e1]
    omega
  · rename_i r ed
    obtain ⟨r0, r1⟩ := decT_le b1 ed
    have dl := ds_len (a := a) (p := r) b3 b1 r0 r1
    split
    · rw [Str.length_append]
      omega
    · have c1 := cutS_length (fracDs a b r) none (some (-r))
      have c2 := cutS_length (fracDs a b r) (some (-r)) none
      rw [Str.length_append, Str.length_append, Str.length_append, e2]
      omega
theorem one_len2 {o : O1} {c : Cell} (h : c.Ok) (f : fit1 o c = true) : ∀ x, one1 o c = .txt x → x.length ≤ 1000 := by
  intro x e
  cases o with
  | text =>
    cases c with
    | non => cases f
    | bl b =>
      have e2 : x = (if b = true then ("true" : Str) else ("false" : Str)) := (Cell.txt.inj e).symm
      rw [e2]
      cases b <;> decide +kernel
    | txt y =>
      have e2 : x = y := (Cell.txt.inj e).symm
      rw [e2]
      have := h.1
      omega
    | num a b =>
      have e2 : x = fracT a b := (Cell.txt.inj e).symm
      rw [e2]
      exact frac_len h.1
  | _ => cases c <;> first | (cases f; done) | cases e
theorem two_len2 {o : O2} {a b : Cell} (h : a.Ok) (h' : b.Ok) (f : fit2 o a b = true) : ∀ x, two2 o a b = .txt x → x.length ≤ 1000 := by
  intro x e
  have sm : ∀ c : Cell, c.Ok → c = .txt x → x.length ≤ 1000 := fun c hc ec => by
    rw [ec] at hc
    have := hc.1
    omega
  cases o with
  | join =>
    cases a <;> cases b <;> first | (cases f; done) | skip
    rename_i y z
    have e2 : x = y ++ z := (Cell.txt.inj e).symm
    rw [e2, Str.length_append]
    have := h.1
    have := h'.1
    omega
  | least =>
    have e2 : (if cmpC a b = 1 then b else a) = .txt x := e
    split at e2
    · exact sm _ h' e2
    · exact sm _ h e2
  | greatest =>
    have e2 : (if cmpC a b = -1 then b else a) = .txt x := e
    split at e2
    · exact sm _ h' e2
    · exact sm _ h e2
  | and => cases f
  | or => cases f
  | add => cases a <;> cases b <;> first | (cases f; done) | cases e
  | sub => cases a <;> cases b <;> first | (cases f; done) | cases e
  | mul => cases a <;> cases b <;> first | (cases f; done) | cases e
  | div =>
    cases a <;> cases b <;> first | (cases f; done) | skip
    rename_i n d m k
    have e2 : (if m = 0 then Cell.non else cellN (overT n d m k)) = .txt x := e
    split at e2 <;> cases e2
  | _ => cases e
theorem o1_w (o : O1) : decide (V.str o.s = V.str "in") = false ∧ inV (.str o.s) [.str "and", .str "or"] = false ∧ (o ≠ .missing → decide (V.str o.s = V.str "missing") = false) := by
  cases o <;> decide +kernel
theorem o2_w (o : O2) : decide (V.str o.s = V.str "in") = false ∧ decide (V.str o.s = V.str "missing") = false ∧ inV (.str o.s) [.str "and", .str "or"] = decide (o = .and ∨ o = .or) := by
  cases o <;> decide +kernel
theorem two_word {t : Tree} (h : t.parts.length = 2) : ∃ o s u, t = .two o s u := by
  cases t <;> first | exact ⟨_, _, _, rfl⟩ | (simp [Tree.parts] at h)
section
variable {X : Cx}
def rIsT : R2 := fun x y H Q => ∃ b : Bool, y = .bl b ∧ (x = .non ∨ ∃ a : Bool, x = .bl a) ∧ Q (.bl (decide (x = .bl b))) H
/-- is, of a bool or None and a bool -/
theorem op_isT : OpR X (compareOp .Is) rIsT := by
  intro pins s σ H x y v u Q I rx ry h
  obtain ⟨b, rfl, hx, q⟩ := h
  rcases hx with rfl | ⟨a, rfl⟩
  · cases (show v = Value.none from rx)
    cases (show u = Value.bool b from ry)
    exact wpAny_is_other rfl (fun z => by cases z) ⟨.bl false, H, I, rfl, by simpa using q⟩
  · refine op_isBl pins s σ H (.bl a) (.bl b) v u Q I rx ry ⟨a, b, rfl, rfl, ?_⟩
    rw [show decide (V.bl a = V.bl b) = decide (a = b) by cases a <;> cases b <;> rfl] at q
    exact q
end
theorem bool_fits {c : Cell} (h : Fits c .boo) : boolC c = true := by
  cases c with
  | txt x => rcases h.2 with z | z <;> cases z
  | num x d => rcases h.2 with z | z <;> cases z
  | _ => rfl
section
variable {P : Program} {w : World} {K : PySem.W.Frag} {mg : Str → Option Value} {base : Heap}
def spEv (K : PySem.W.Frag) (n : Nat) : Sp := fun vs H Q _ => ∃ (v : V) (t : Tree) (ca ra : Addr) (cols : Cols) (cells : List Cell) (k : Kd), vs = [v, .ref ca, .ref ra] ∧ IsTree K H v t ∧ IsCols K H ca cols ∧ IsRow K H ra cells ∧ RowFit cols cells ∧ t.Ok ∧ t.dep < n ∧ kindT cols t = some k ∧
  ∀ u H', Same H H' → IsCell K H' u (evalT cols cells t) → Q u H'
abbrev N_evaluate : List Str := ["expression", "columns", "cells", "word", "values", "part"]
theorem sc_evaluate : FnScope N_evaluate ["expression", "columns", "cells"] (defScope (topS 31)) := ⟨rfl, rfl, rfl, by decide +kernel, rfl, by decide +kernel, by decide +kernel⟩
theorem ok_evaluate (E : Ev K w mg) : ∀ n, FnOk P w K mg base CX0 (n + 5) E.d_evaluate.f E.d_evaluate.fd ["expression", "columns", "cells"] (spEv K n)
  | 0 => by
    refine E.d_evaluate.F.ok sc_evaluate (fun vs H Q X h => ?_) (fun cdv A outer s H vs Q X hr h => ?_)
    · obtain ⟨v, t, ca, ra, cols, cells, k, _, _, _, _, _, _, hd, _⟩ := h
      omega
    · obtain ⟨v, t, ca, ra, cols, cells, k, _, _, _, _, _, _, hd, _⟩ := h
      omega
  | n + 1 => by
    refine E.d_evaluate.F.ok sc_evaluate (fun vs H Q X h => ?_) (fun cdv A outer s H vs Q X hr h => ?_)
    · obtain ⟨v, t, ca, ra, cols, cells, k, rfl, _⟩ := h
      rfl
    obtain ⟨v, t, ca, ra, cols, cells, kk, rfl, ht, hc, hrow, hf, ho, hd, hk, q⟩ := h
    refine ⟨_, PSs.nox (pss_cons (ps_set (i := 3) sc_evaluate.nd rfl (.inl rfl) (pe_ix ix_tup (pv 0) pe_int (fun _ _ => rfl)))
      (pss_cons (ps_if (pt_cmpR op_eq (pv 3) pe_str (nomark _)) (pss_one (ps_ret (pe_ix ix_tup (pv 0) pe_int (fun _ _ => rfl)))) pss_nil)
      (pss_cons (ps_if (pt_cmpR op_eq (pv 3) pe_str (nomark _)) (pss_one (ps_ret pe_non)) pss_nil)
      (pss_cons (ps_if (pt_cmpR op_eq (pv 3) pe_str (nomark _)) (pss_one (ps_ret (pe_ix ix_tup (pv 2) (pe_call (ok_position E) (hr.mono (by omega)) (by rfl) E.d_position.g E.d_position.F.kp E.d_position.b .nil pass0 (pa_cons (pv 1) (pa_cons (pe_ix ix_tup (pv 0) pe_int (fun _ _ => rfl)) pa_nil))) (fun _ _ => rfl)))) pss_nil)
      (pss_cons (ps_if (pt_cmpR op_eq (pv 3) pe_str (nomark _)) (pss_cons (ps_if (pt_cmpR op_isT (pe_call (ok_evaluate E n) (hr.mono (by omega)) (by rfl) E.d_evaluate.g E.d_evaluate.F.kp E.d_evaluate.b .nil pass0 (pa_cons (pe_ix ix_tup (pv 0) pe_int (fun _ _ => rfl)) (pa_cons (pv 1) (pa_cons (pv 2) pa_nil)))) pe_bl (nomark _)) (pss_one (ps_ret (pe_call (ok_evaluate E n) (hr.mono (by omega)) (by rfl) E.d_evaluate.g E.d_evaluate.F.kp E.d_evaluate.b .nil pass0 (pa_cons (pe_ix ix_tup (pv 0) pe_int (fun _ _ => rfl)) (pa_cons (pv 1) (pa_cons (pv 2) pa_nil)))))) pss_nil)
        (pss_one (ps_ret (pe_call (ok_evaluate E n) (hr.mono (by omega)) (by rfl) E.d_evaluate.g E.d_evaluate.F.kp E.d_evaluate.b .nil pass0 (pa_cons (pe_ix ix_tup (pv 0) pe_int (fun _ _ => rfl)) (pa_cons (pv 1) (pa_cons (pv 2) pa_nil))))))) pss_nil)
      (pss_cons (ps_setLc (i := 4) (own := [("part", 5)]) (g := gName 5) rfl sc_evaluate.nd rfl rfl (sw_true rfl rfl rfl (by decide +kernel)) (pi_tup (pe_call (ok_parts_of E) (hr.mono (by omega)) (by rfl) E.d_parts_of.g E.d_parts_of.F.kp E.d_parts_of.b .nil pass0 (pa_cons (pv 0) pa_nil))) (blkOk_by (own := [("part", 5)]) (N := N_evaluate) (sc := defScope (topS 31)) (by decide +kernel)) (fun _ _ _ _ _ => pg_name (i := 5) sc_evaluate.nd rfl (Or.inl rfl)) (fun _ _ _ _ _ => pts_nil) (fun _ _ _ _ _ => (pe_call (ok_evaluate E n) (hr.mono (by omega)) (by rfl) E.d_evaluate.g E.d_evaluate.F.kp E.d_evaluate.b .nil pass0 (pa_cons (pv 5) (pa_cons (pv 1) (pa_cons (pv 2) pa_nil))))))
      (pss_cons (ps_if (pt_cmpR op_eq (pv 3) pe_str (nomark _)) (pss_one (ps_ret (pe_cmpR op_isN (pe_ix ix_list (pv 4) pe_int (fun _ _ => rfl)) pe_non (nomark _)))) pss_nil)
      (pss_cons (ps_if (pt_cmpR op_in_seq (pv 3) (pe_tup (pa_cons pe_str (pa_cons pe_str pa_nil))) (by rfl)) (pss_one (ps_ret (pe_call (ok_connected E) (hr.mono (by omega)) (by rfl) E.d_connected.g E.d_connected.F.kp E.d_connected.b .nil pass0 (pa_cons (pv 4) (pa_cons (pe_cmpR op_eq (pv 3) pe_str (nomark _)) pa_nil))))) pss_nil)
      (pss_cons (ps_if (pt_cmpR (op_inD (hu65 hr)) pe_non (pv 4) (by rfl)) (pss_one (ps_ret pe_non)) pss_nil)
      (pss_cons (ps_if (pt_cmpR op_eq (pv 3) pe_str (nomark _)) (pss_one (ps_ret (pe_cmpR (op_inDT (hu65 hr)) (pe_ix ix_list (pv 4) pe_int (fun _ _ => rfl)) (pe_ix ix_tup (pv 0) pe_int (fun _ _ => rfl)) (by rfl)))) pss_nil)
      (pss_cons (ps_if (pt_cmpR op_eq (pe_callB call_len (by rfl) E.n_len (by decide +kernel) (pa_cons (pv 4) pa_nil)) pe_int (nomark _)) (pss_one (ps_ret (pe_call (ok_limited E) (hr.mono (by omega)) (by rfl) E.d_limited.g E.d_limited.F.kp E.d_limited.b .nil pass0 (pa_cons (pe_call (ok_of_one E) (hr.mono (by omega)) (by rfl) E.d_of_one.g E.d_of_one.F.kp E.d_of_one.b .nil pass0 (pa_cons (pv 3) (pa_cons (pe_ix ix_list (pv 4) pe_int (fun _ _ => rfl)) pa_nil))) pa_nil)))) pss_nil)
      (pss_one (ps_ret (pe_call (ok_limited E) (hr.mono (by omega)) (by rfl) E.d_limited.g E.d_limited.F.kp E.d_limited.b .nil pass0 (pa_cons (pe_call (ok_of_two E) (hr.mono (by omega)) (by rfl) E.d_of_two.g E.d_of_two.F.kp E.d_of_two.b .nil pass0 (pa_cons (pv 3) (pa_cons (pe_ix ix_list (pv 4) pe_int (fun _ _ => rfl)) (pa_cons (pe_ix ix_list (pv 4) pe_int (fun _ _ => rfl)) pa_nil)))) pa_nil))))))))))))))), ?_⟩
    obtain ⟨a, r, rfl, hs, hr0⟩ := ht.head
    refine ⟨_, rfl, _, _, _, _, rfl, rfl, hs, atI_nat (j := 0) rfl, ?_⟩
    refine ⟨_, rfl, rfl, _, rfl, ite2 (fun k => ?_) (fun k => ?_)⟩
    · obtain ⟨c, rfl⟩ := word_cell (word_eq k)
      obtain ⟨b, u, e, hb, hu⟩ := ht
      cases e
      exact ⟨_, rfl, _, _, _, _, rfl, rfl, hb, atI_nat (j := 1) rfl, q _ H (Same.refl H) hu⟩
    refine ⟨_, rfl, rfl, _, rfl, ite2 (fun k1 => ?_) (fun k1 => ?_)⟩
    · obtain ⟨c, rfl⟩ := word_nothing (word_eq k1)
      exact q _ H (Same.refl H) rfl
    refine ⟨_, rfl, rfl, _, rfl, ite2 (fun k2 => ?_) (fun k2 => ?_)⟩
    · obtain ⟨x, rfl⟩ := word_column (word_eq k2)
      obtain ⟨b, e, hb⟩ := ht
      cases e
      obtain ⟨i, e1, e2⟩ := kin_some (cols := cols) (x := x) hk
      obtain ⟨us, hu, hcs⟩ := hrow
      have hi : i < cells.length := by
        rw [hf.1]
        exact (List.getElem?_eq_some_iff.mp e2).1
      obtain ⟨u, g1, g2⟩ := Paired.get2 hcs (List.getElem?_eq_getElem hi)
      have ev : evalT cols cells (.column x) = cells[i] := by
        show (match posIn cols x with | some i => cells.getD i .non | none => .non) = _
        rw [e1]
        show cells.getD i .non = _
        rw [List.getD_eq_getElem?_getD, List.getElem?_eq_getElem hi] <;> rfl
      rw [ev] at q
      exact ⟨_, rfl, _, rfl, _, rfl, _, _, _, _, rfl, rfl, hb, atI_nat (j := 1) rfl, ca, x, cols, i, rfl, hc, e1, fun H1 s1 => ⟨_, _, _, _, rfl, rfl, same_tup s1 hu, atI_nat g1, q _ H1 s1 (g2.keep (Same.keep s1))⟩⟩
    refine ⟨_, rfl, rfl, _, rfl, ite2 (fun k3 => ?_) (fun k3 => ?_)⟩
    · obtain ⟨c0, s0, t0, rfl⟩ := word_if (word_eq k3)
      obtain ⟨b, u, u', u'', e, hb, h1, h2, h3⟩ := ht
      cases e
      obtain ⟨q1, q2, q3⟩ := kd_cond hk
      have hd' : max c0.dep (max s0.dep t0.dep) + 1 < n + 1 := hd
      refine ⟨_, rfl, _, _, _, _, rfl, rfl, hb, atI_nat (j := 1) rfl, _, rfl, _, rfl, u, c0, ca, ra, cols, cells, .boo, rfl, h1, hc, hrow, hf, ho.1, by omega, q1, fun y H1 s1 hy => ?_⟩
      have fc := eval_fits hf ho.1 q1
      have kp := Same.keep s1
      have eT : evalT cols cells (.cond c0 s0 t0) = if evalT cols cells c0 = .bl true then evalT cols cells s0 else evalT cols cells t0 := rfl
      rw [eT] at q
      have ht2 : IsTree K H1 (.ref a) (.cond c0 s0 t0) := IsTree.keep kp ⟨_, _, _, _, rfl, hb, h1, h2, h3⟩
      have key : y = .bl (decide (evalT cols cells c0 = .bl true)) ∨ (y = .non ∧ evalT cols cells c0 = .non) := by
        cases ec : evalT cols cells c0 with
        | non =>
          rw [ec] at hy
          exact .inr ⟨hy, rfl⟩
        | bl b =>
          rw [ec] at hy
          have e2 : y = .bl b := hy
          subst e2
          cases b <;> exact .inl rfl
        | txt x =>
          rw [ec] at fc
          rcases fc.2 with z | z <;> cases z
        | num x d =>
          rw [ec] at fc
          rcases fc.2 with z | z <;> cases z
      have kx : y = .non ∨ ∃ a : Bool, y = .bl a := key.elim (fun z => .inr ⟨_, z⟩) fun z => .inl z.1
      have ky : decide (y = .bl true) = decide (evalT cols cells c0 = .bl true) := by
        rcases key with z | ⟨z, z2⟩
        · rw [z]
          by_cases e : evalT cols cells c0 = .bl true
          · rw [decide_eq_true e] <;> rfl
          · rw [decide_eq_false e] <;> rfl
        · rw [z, z2] <;> rfl
      refine ⟨true, rfl, kx, _, rfl, ?_⟩
      rw [ky]
      have go : ∀ (x : V) (t1 : Tree), IsTree K H x t1 → t1.Ok → t1.dep < n → kindT cols t1 = some kk → evalT cols cells (.cond c0 s0 t0) = evalT cols cells t1 → True := fun _ _ _ _ _ _ _ => trivial
      by_cases e : evalT cols cells c0 = .bl true
      · rw [decide_eq_true e]
        rw [if_pos e] at q
        exact ifT rfl ⟨_, rfl, _, _, _, _, rfl, rfl, kp.tup hb, atI_nat (j := 2) rfl, _, rfl, _, rfl, u', s0, ca, ra, cols, cells, kk, rfl, h2.keep kp, hc.keep kp, hrow.keep kp, hf, ho.2.1, by omega, q2, fun x H2 s2 hx => q x H2 (s1.trans s2) hx⟩
      · rw [decide_eq_false e]
        rw [if_neg e] at q
        exact ifF rfl ⟨_, rfl, _, _, _, _, rfl, rfl, kp.tup hb, atI_nat (j := 3) rfl, _, rfl, _, rfl, u'', t0, ca, ra, cols, cells, kk, rfl, h3.keep kp, hc.keep kp, hrow.keep kp, hf, ho.2.2, by omega, q3, fun x H2 s2 hx => q x H2 (s1.trans s2) hx⟩
    have lf : t.leaf = false := by
      rw [leaf_or t, decide_eq_false (fun z => k (decide_eq_true (congrArg V.str z))), decide_eq_false (fun z => k1 (decide_eq_true (congrArg V.str z))), decide_eq_false (fun z => k2 (decide_eq_true (congrArg V.str z)))] <;> rfl
    have pl := parts_len t
    refine ⟨_, rfl, _, t, rfl, ht, fun p us H1 s1 hp tr => ?_⟩
    have el := Paired.length tr
    refine ⟨p, rfl, ⟨_, hp⟩, fun D nD => lc_tup (K := K) (a := p) (xs := us) (fun i H' => MapInv (fun _ => False) (fun _ => True) (fun j y H => ∃ c, t.parts[j]? = some c ∧ IsCell K H y (evalT cols cells c)) D (upd H1 D (.lst [])) i H') (MapInv.zero nD trivial) (fun i H' _ hw => ((keep_new nD).trans hw.ex.kp).tup hp) (fun i v H' hv hw => ?_) (fun H' hw => ?_)⟩
    · obtain ⟨c, c1, c2⟩ := Paired.get tr hv
      have kp := (keep_new (o := .lst []) nD).trans hw.ex.kp
      have li : i < t.parts.length := (List.getElem?_eq_some_iff.mp c1).1
      have cm : c ∈ t.parts := List.mem_of_getElem? c1
      have cd := dep_parts cm
      obtain ⟨ck, hck⟩ := parts_kind hk cm
      have kp2 := (Same.keep s1).trans kp
      refine ⟨rfl, tyes ?_⟩
      refine ⟨_, rfl, _, rfl, _, rfl, v, c, ca, ra, cols, cells, ck, rfl, c2.keep kp, hc.keep kp2, hrow.keep kp2, hf, ok_parts ho cm, by omega, hck, fun y H2 s2 hy => hw.stepK s2 ⟨c, c1, hy⟩ (by omega) fun _ _ _ _ ⟨d, d1, d2⟩ kq => ⟨d, d1, d2.keep kq⟩⟩
    · obtain ⟨ys, hl', hn', hy⟩ := hw.l
      have sm := s1.trans (hw.same nD)
      have cy : Cells K H' ys (t.parts.map (evalT cols cells)) := paired_of (by rw [List.length_map]; omega) fun i x y hx hy' => by
        obtain ⟨c, c1, c2⟩ := hy i x hx
        rw [List.getElem?_map, c1] at hy'
        have e := Option.some.inj hy'
        rw [← e]
        exact c2
      cases t with
      | cell _ => cases lf
      | nothing _ => cases lf
      | column _ => cases lf
      | cond c s t => exact absurd (decide_eq_true rfl) k3
      | one o t1 =>
        obtain ⟨ka, hka, hk1⟩ := kd_one hk
        have fa := eval_fits hf (t := t1) ho hka
        have eT : evalT cols cells (.one o t1) = if o = .missing then .bl (decide (evalT cols cells t1 = .non)) else if evalT cols cells t1 = .non then .non else limC (one1 o (evalT cols cells t1)) := rfl
        rw [eT] at q
        obtain ⟨y, rfl, hy1⟩ : ∃ y, ys = [y] ∧ IsCell K H' y (evalT cols cells t1) := by
          cases cy with
          | cons a b =>
            cases b
            exact ⟨_, rfl, a⟩
        generalize evalT cols cells t1 = c at fa q hy1 cy
        refine ⟨_, rfl, rfl, _, rfl, ite2 (fun m => ?_) (fun m => ?_)⟩
        · have eo : o = .missing := Decidable.byContradiction fun z => by
            have m' : decide (V.str o.s = V.str "missing") = true := m
            rw [(o1_w o).2.2 z] at m'
            cases m'
          rw [if_pos eo] at q
          exact ⟨_, rfl, _, _, _, _, rfl, rfl, SqL.of hl', atI_nat (j := 0) rfl, rfl, q _ H' sm (congrArg V.bl (cell_non hy1))⟩
        · have eo : o ≠ .missing := fun z => m (decide_eq_true (by rw [z] <;> rfl))
          rw [if_neg eo] at q
          refine ⟨_, rfl, (by show 2 ≤ sizeLine; decide), fun p1 n1 => ?_⟩
          have s2 := same_new (o := .tup [.str "and", .str "or"]) n1
          refine ⟨_, _, rfl, .inr (.inl (.inl upd_same)), rfl, rfl, _, rfl, ifF (o1_w o).2.1 ?_⟩
          have hl2 := s2 _ _ hl'
          have sm2 := sm.trans s2
          refine ⟨_, rfl, .none, [dataOf c], .non, .lst (SqL.of hl2) (.cons (dp_cell (hy1.keep (Same.keep s2))) .nil), by decide +kernel, (shaped_cells (cs := [c]) fun x hx => by
            have e : x = c := by simpa using hx
            rw [e]
            exact fa.1).1, _, rfl, ?_⟩
          have ea := any_cells [c] .non
          have ea2 : ([dataOf c].any fun z => PyData.eqv z .none) = decide (Cell.non ∈ [c]) := ea
          rw [ea2]
          by_cases e : c = .non
          · rw [if_pos e] at q
            rw [decide_eq_true (by rw [e]; exact List.mem_cons_self)]
            exact ifT rfl (q _ _ sm2 rfl)
          · rw [if_neg e] at q
            rw [decide_eq_false (fun z => e (by simpa [eq_comm] using z))]
            refine ifF rfl ⟨_, rfl, rfl, _, rfl, ifF (o1_w o).1 ?_⟩
            obtain ⟨f1, f2⟩ := one_kind (fits_kind fa e) hk1 eo
            refine ⟨_, rfl, _, _, rfl, .inl ⟨_, SqL.of hl2, rfl⟩, rfl, _, rfl, ifT rfl ?_⟩
            refine ⟨_, rfl, _, rfl, _, _, _, _, rfl, rfl, SqL.of hl2, atI_nat (j := 0) rfl, o, y, c, rfl, hy1.keep (Same.keep s2), fa.1, f1, fun u H2 s3 hu => ⟨u, _, rfl, hu, one_len2 fa.1 f1, fun z hz => q z H2 (sm2.trans s3) hz⟩⟩
      | two o s0 t1 =>
        obtain ⟨ka, kb, hka, hkb, hk1⟩ := kd_two hk
        have fa := eval_fits hf (t := s0) ho.1 hka
        have fb := eval_fits hf (t := t1) ho.2 hkb
        have eT : evalT cols cells (.two o s0 t1) = if o = .and then connT false (evalT cols cells s0) (evalT cols cells t1) else if o = .or then connT true (evalT cols cells s0) (evalT cols cells t1) else
          if evalT cols cells s0 = .non ∨ evalT cols cells t1 = .non then .non else limC (two2 o (evalT cols cells s0) (evalT cols cells t1)) := rfl
        rw [eT] at q
        obtain ⟨y, z, rfl, hy1, hz1⟩ : ∃ y z, ys = [y, z] ∧ IsCell K H' y (evalT cols cells s0) ∧ IsCell K H' z (evalT cols cells t1) := by
          cases cy with
          | cons a b =>
            cases b with
            | cons c d =>
              cases d
              exact ⟨_, _, rfl, a, c⟩
        generalize evalT cols cells s0 = c at fa q hy1 cy
        generalize evalT cols cells t1 = d at fb q hz1 cy
        obtain ⟨w1, w2, w3⟩ := o2_w o
        refine ⟨_, rfl, rfl, _, rfl, ifF w2 ?_⟩
        refine ⟨_, rfl, (by show 2 ≤ sizeLine; decide), fun p1 n1 => ?_⟩
        have s2 := same_new (o := .tup [.str "and", .str "or"]) n1
        have hl2 := s2 _ _ hl'
        have sm2 := sm.trans s2
        have hy2 := hy1.keep (Same.keep s2)
        have hz2 := hz1.keep (Same.keep s2)
        refine ⟨_, _, rfl, .inr (.inl (.inl upd_same)), rfl, rfl, _, rfl, ?_⟩
        by_cases eao : o = .and ∨ o = .or
        · rw [decide_eq_true eao] at w3
          refine ifT w3 ?_
          rcases eao with rfl | rfl
          · cases ka <;> cases kb <;> first | (cases hk1; done) | skip
            exact ⟨_, rfl, _, rfl, rfl, D, y, z, c, d, false, rfl, SqL.of hl2, hy2, hz2, bool_fits fa, bool_fits fb, fun u hu => q u _ sm2 hu⟩
          · cases ka <;> cases kb <;> first | (cases hk1; done) | skip
            exact ⟨_, rfl, _, rfl, rfl, D, y, z, c, d, true, rfl, SqL.of hl2, hy2, hz2, bool_fits fa, bool_fits fb, fun u hu => q u _ sm2 hu⟩
        · rw [decide_eq_false eao] at w3
          refine ifF w3 ?_
          have na : o ≠ .and := fun z => eao (.inl z)
          have no : o ≠ .or := fun z => eao (.inr z)
          rw [if_neg na, if_neg no] at q
          refine ⟨_, rfl, .none, [c, d].map dataOf, .non, .lst (SqL.of hl2) (dp_cells (cs := [c, d]) (.cons hy2 (.cons hz2 .nil))), by decide +kernel, (shaped_cells (cs := [c, d]) fun x hx => by
            have e : x = c ∨ x = d := by simpa using hx
            rcases e with rfl | rfl
            · exact fa.1
            · exact fb.1).1, _, rfl, ?_⟩
          have ea2 : (([c, d].map dataOf).any fun z => PyData.eqv z .none) = decide (Cell.non ∈ [c, d]) := any_cells [c, d] .non
          rw [ea2]
          by_cases e : c = .non ∨ d = .non
          · rw [if_pos e] at q
            rw [decide_eq_true (by rcases e with e | e <;> rw [e] <;> simp)]
            exact ifT rfl (q _ _ sm2 rfl)
          · rw [if_neg e] at q
            rw [decide_eq_false (fun z => e (by simpa [eq_comm] using z))]
            refine ifF rfl ⟨_, rfl, rfl, _, rfl, ifF w1 ?_⟩
            obtain ⟨f1, f2⟩ := two_kind (fits_kind fa fun z => e (.inl z)) (fits_kind fb fun z => e (.inr z)) hk1 na no
            refine ⟨_, rfl, _, _, rfl, .inl ⟨_, SqL.of hl2, rfl⟩, rfl, _, rfl, ifF (by show decide (V.int 2 = V.int 1) = false; decide +kernel) ?_⟩
            refine ⟨_, rfl, _, rfl, _, _, _, _, rfl, rfl, SqL.of hl2, atI_nat (j := 0) rfl, _, rfl, _, _, _, _, rfl, rfl, SqL.of hl2, atI_nat (j := 1) rfl, o, y, z, c, d, rfl, hy2, hz2, fa.1, fb.1, f1, fun u H2 s3 hu => ⟨u, _, rfl, hu, two_len2 fa.1 fb.1 f1, fun z hz => q z H2 (sm2.trans s3) hz⟩⟩
      | isin t1 cs =>
        obtain ⟨rfl, ka, hka, hk1⟩ := kd_isin hk
        have fa := eval_fits hf (t := t1) ho.1 hka
        have eT : evalT cols cells (.isin t1 cs) = if evalT cols cells t1 = .non then .non else .bl (decide (evalT cols cells t1 ∈ cs)) := rfl
        rw [eT] at q
        obtain ⟨y, rfl, hy1⟩ : ∃ y, ys = [y] ∧ IsCell K H' y (evalT cols cells t1) := by
          cases cy with
          | cons a b =>
            cases b
            exact ⟨_, rfl, a⟩
        generalize evalT cols cells t1 = c at fa q hy1 cy
        obtain ⟨b, u, b2, us2, e, hb, h1, hb2, hcs⟩ := ht
        cases e
        refine ⟨_, rfl, rfl, _, rfl, ifF (by show decide (V.str "in" = V.str "missing") = false; decide +kernel) ?_⟩
        refine ⟨_, rfl, (by show 2 ≤ sizeLine; decide), fun p1 n1 => ?_⟩
        have s2 := same_new (o := .tup [.str "and", .str "or"]) n1
        have hl2 := s2 _ _ hl'
        have sm2 := sm.trans s2
        have hy2 := hy1.keep (Same.keep s2)
        refine ⟨_, _, rfl, .inr (.inl (.inl upd_same)), rfl, rfl, _, rfl, ifF (by show inV (V.str "in") [.str "and", .str "or"] = false; decide +kernel) ?_⟩
        refine ⟨_, rfl, .none, [c].map dataOf, .non, .lst (SqL.of hl2) (dp_cells (cs := [c]) (.cons hy2 .nil)), by decide +kernel, (shaped_cells (cs := [c]) fun x hx => by
          have e : x = c := by simpa using hx
          rw [e]
          exact fa.1).1, _, rfl, ?_⟩
        have ea2 : (([c].map dataOf).any fun z => PyData.eqv z .none) = decide (Cell.non ∈ [c]) := any_cells [c] .non
        rw [ea2]
        by_cases e : c = .non
        · rw [if_pos e] at q
          rw [decide_eq_true (by rw [e]; exact List.mem_cons_self)]
          exact ifT rfl (q _ _ sm2 rfl)
        · rw [if_neg e] at q
          rw [decide_eq_false (fun z => e (by simpa [eq_comm] using z))]
          refine ifF rfl ⟨_, rfl, rfl, _, rfl, ifT (by show decide (V.str "in" = V.str "in") = true; decide +kernel) ?_⟩
          have kp := Same.keep sm2
          refine ⟨_, rfl, _, _, _, _, rfl, rfl, SqL.of hl2, atI_nat (j := 0) rfl, _, rfl, _, _, _, _, rfl, rfl, kp.tup hb, atI_nat (j := 2) rfl, dataOf c, cs.map dataOf, dp_cell hy2, .tup (kp.tup hb2) (dp_cells (hcs.keep kp)), shaped_cell fa.1, (shaped_cells fun x hx => (ho.2.1 x hx).1).2, ?_⟩
          rw [any_cells]
          exact q _ _ sm2 rfl
end
end K7
/-! W10 -/
namespace K7
open PySem PySem.Spec PyProof.Rows L2 TL
/-! ### the tape -/
structure TapeAt (H : Hp) (s t : Addr) (ns : List Int) (p m q : Int) : Prop where
  at_ : H t = some (.lst [.ref s, .int p, .int m, .int q])
  ne : s ≠ t
  sc : H s = some (.lst (ns.map V.int))
  p0 : 0 ≤ p
  m0 : 0 ≤ m
  q0 : 0 ≤ q
def Tape (H : Hp) (s t : Addr) : Prop := ∃ ns p m q, TapeAt H s t ns p m q
theorem TapeAt.set {H : Hp} {s t : Addr} {ns : List Int} {p m q p' m' q' : Int} (h : TapeAt H s t ns p m q) (a : 0 ≤ p') (b : 0 ≤ m') (c : 0 ≤ q') : TapeAt (upd H t (.lst [.ref s, .int p', .int m', .int q'])) s t ns p' m' q' :=
  ⟨upd_same, h.ne, by rw [upd_ne h.ne]; exact h.sc, a, b, c⟩
theorem TapeAt.ex {H : Hp} {s t : Addr} {ns : List Int} {p m q : Int} (h : TapeAt H s t ns p m q) (o : HO) : Ex (· = t) H (upd H t o) := ex_lst h.at_ rfl
theorem Tape.ex {V : Addr → Prop} {H H' : Hp} {s t : Addr} (h : Tape H s t) (e : Ex V H H') (hs : ¬ V s) (ht : ¬ V t) : Tape H' s t := by
  obtain ⟨ns, p, m, q, h⟩ := h
  exact ⟨ns, p, m, q, e.at_ _ _ ht h.at_, h.ne, e.at_ _ _ hs h.sc, h.p0, h.m0, h.q0⟩
theorem Tape.same {H H' : Hp} {s t : Addr} (h : Tape H s t) (e : Same H H') : Tape H' s t := h.ex (V := fun _ => False) (Same.ex e) id id
theorem Tape.nt {H : Hp} {s t D : Addr} (h : Tape H s t) (n : H D = none) : D ≠ t ∧ D ≠ s := by
  obtain ⟨ns, p, m, q, h⟩ := h
  refine ⟨fun e => ?_, fun e => ?_⟩
  · rw [e, h.at_] at n
    cases n
  · rw [e, h.sc] at n
    cases n
theorem Tape.upd {H : Hp} {s t D : Addr} (h : Tape H s t) (n : D ≠ t ∧ D ≠ s) (o : HO) : Tape (L2.upd H D o) s t := by
  obtain ⟨ns, p, m, q, h⟩ := h
  exact ⟨ns, p, m, q, by rw [upd_ne (Ne.symm n.1)]; exact h.at_, h.ne, by rw [upd_ne (Ne.symm n.2)]; exact h.sc, h.p0, h.m0, h.q0⟩
theorem mod_rng (a : Int) {m : Int} (h : 0 < m) : 0 ≤ a % m ∧ a % m < m := ⟨Int.emod_nonneg _ (by omega), Int.emod_lt_of_pos _ h⟩
section
variable {P : Program} {w : World} {K : PySem.W.Frag} {mg : Str → Option Value} {base : Heap}
def spTape (K : PySem.W.Frag) : Sp := fun vs H Q _ => ∃ (a : Addr) (ns : List Int), vs = [.ref a] ∧ SqL K H a (ns.map V.int) ∧ ∀ s t H', Same H H' → Tape H' s t → Q (.ref t) H'
abbrev N__law_tape : List Str := ["_law_script", "_law_total", "_law_cell_here"]
theorem sc__law_tape : FnScope N__law_tape ["_law_script"] (defScope (topS 37)) := ⟨rfl, rfl, rfl, by decide +kernel, rfl, by decide +kernel, by decide +kernel⟩
theorem ok__law_tape (E : Ev K w mg) : FnOk P w K mg base CX0 1 E.d__law_tape.f E.d__law_tape.fd ["_law_script"] (spTape K) := by
  refine E.d__law_tape.F.ok sc__law_tape (fun vs H Q X h => ?_) (fun cdv A outer s H vs Q X hr h => ?_)
  · obtain ⟨a, ns, rfl, _⟩ := h
    rfl
  · obtain ⟨a, ns, rfl, ha, q⟩ := h
    refine ⟨_, PSs.nox (pss_cons (ps_set (i := 1) sc__law_tape.nd rfl (.inl rfl) pe_int)
      (pss_cons (ps_for PassesOwn.never rfl (pi_list (pv 0)) (pg_name (i := 2) sc__law_tape.nd rfl (.inl rfl))
        (pss_one (ps_set (i := 1) sc__law_tape.nd rfl (.inl rfl) (pe_op op_mod (pe_callTy call_int1 (by rfl) E.n_int (by decide +kernel) (pa_cons (pe_op op_add (pe_op op_mul (pv 1) pe_int) (pe_callB call_abs (by rfl) E.n_abs (by decide +kernel) (pa_cons (pe_callTy call_int1 (by rfl) E.n_int (by decide +kernel) (pa_cons (pv 2) pa_nil)) pa_nil))) pa_nil)) pe_int))))
      (pss_one (ps_ret (pe_lst (pa_cons (pe_callTy call_list_of (by rfl) E.n_list (by decide +kernel) (pa_cons (pv 0) pa_nil)) (pa_cons pe_int (pa_cons pe_int (pa_cons (pv 1) pa_nil))))))))), ?_⟩
    refine ⟨_, rfl, a, rfl, ⟨_, ha⟩, for_list (K := K) (a := a) (xs := ns.map V.int) (fun i σ H' => ∃ (z : Int) (y : Option V), σ = [some (.ref a), some (.int z), y] ∧ H' = H ∧ 0 ≤ z) ⟨7, _, rfl, rfl, by omega⟩ (fun i σ H' _ hw => ?_) (fun i v σ H' hv hw => ?_) (fun σ H' hw => ?_)⟩
    · obtain ⟨z, y, rfl, rfl, h0⟩ := hw
      exact ha
    · obtain ⟨z, y, rfl, rfl, h0⟩ := hw
      rw [List.getElem?_map] at hv
      obtain ⟨n, hn, rfl⟩ := Option.map_eq_some_iff.mp hv
      refine ⟨_, rfl, _, _, rfl, rfl, .inr ⟨by omega, by omega⟩, _, rfl, .inl ⟨_, rfl, _, rfl, _, _, rfl, rfl, .inl ⟨_, rfl, _, _, rfl, rfl, (by show (0 : Int) < _; omega), _, _, rfl, rfl, (mod_rng _ (by omega)).1⟩⟩⟩
    · obtain ⟨z, y, rfl, rfl, h0⟩ := hw
      refine ⟨_, rfl, a, _, rfl, .inl ha, fun s0 ns0 => ⟨_, rfl, (by show 4 ≤ sizeLine; decide), fun t0 nt0 => ?_⟩⟩
      have s1 := same_new (o := .lst (ns.map V.int)) ns0
      have s2 := s1.trans (same_new (o := .lst [.ref s0, .int 0, .int 0, .int z]) nt0)
      have ne : s0 ≠ t0 := fun e => by
        rw [← e, upd_same] at nt0
        cases nt0
      exact q s0 t0 _ s2 ⟨ns, 0, 0, z, upd_same, ne, by rw [upd_ne ne]; exact upd_same, by omega, by omega, h0⟩
def spDraw : Sp := fun vs H Q _ => ∃ (s t : Addr) (many : Int), vs = [.ref t, .int many] ∧ Tape H s t ∧ 1 ≤ many ∧ many < 1073741824 ∧ ∀ r H', 0 ≤ r → r < many → Ex (· = t) H H' → Tape H' s t → Q (.int r) H'
abbrev N__law_draw : List Str := ["_law_tape_here", "_law_many", "_law_place", "_law_number_here"]
theorem sc__law_draw : FnScope N__law_draw ["_law_tape_here", "_law_many"] (defScope (topS 38)) := ⟨rfl, rfl, rfl, by decide +kernel, rfl, by decide +kernel, by decide +kernel⟩
theorem ok__law_draw (E : Ev K w mg) : FnOk P w K mg base CX0 1 E.d__law_draw.f E.d__law_draw.fd ["_law_tape_here", "_law_many"] spDraw := by
  refine E.d__law_draw.F.ok sc__law_draw (fun vs H Q X h => ?_) (fun cdv A outer s H vs Q X hr h => ?_)
  · obtain ⟨s, t, many, rfl, _⟩ := h
    rfl
  · obtain ⟨s, t, many, rfl, ⟨ns, p, m, q0, hT⟩, h1, h2, q⟩ := h
    refine ⟨_, PSs.nox (pss_cons (ps_if (pt_cmpR op_eq (pe_ix ix_list (pv 0) pe_int (fun _ _ => rfl)) pe_int (nomark _)) (pss_cons (ps_set (i := 2) sc__law_draw.nd rfl (.inl rfl) (pe_ix ix_list (pv 0) pe_int (fun _ _ => rfl)))
        (pss_cons (ps_set (i := 3) sc__law_draw.nd rfl (.inl rfl) pe_int)
        (pss_cons (ps_if (pt_cmpR op_lt (pv 2) (pe_callB call_len (by rfl) E.n_len (by decide +kernel) (pa_cons (pe_ix ix_list (pv 0) pe_int (fun _ _ => rfl)) pa_nil)) (nomark _)) (pss_one (ps_set (i := 3) sc__law_draw.nd rfl (.inl rfl) (pe_callB call_abs (by rfl) E.n_abs (by decide +kernel) (pa_cons (pe_callTy call_int1 (by rfl) E.n_int (by decide +kernel) (pa_cons (pe_ix ix_list (pe_ix ix_list (pv 0) pe_int (fun _ _ => rfl)) (pv 2) (fun _ _ => rfl)) pa_nil)) pa_nil)))) (pss_cons (ps_asg (pe_op op_mod (pe_callTy call_int1 (by rfl) E.n_int (by decide +kernel) (pa_cons (pe_op op_add (pe_op op_add (pe_op op_mul (pe_ix ix_list (pv 0) pe_int (fun _ _ => rfl)) pe_int) (pv 2)) pe_int) pa_nil)) pe_int) (pg_sub (pv 0) pe_int set_list))
          (pss_one (ps_set (i := 3) sc__law_draw.nd rfl (.inl rfl) (pe_ix ix_list (pv 0) pe_int (fun _ _ => rfl))))))
        (pss_cons (ps_asg (pe_op op_add (pv 2) pe_int) (pg_sub (pv 0) pe_int set_list))
        (pss_cons (ps_if (pt_cmpR op_lt (pv 3) (pe_op op_pow pe_int pe_int) (nomark _)) (pss_cons (ps_set (i := 3) sc__law_draw.nd rfl (.inl rfl) (pe_op op_mod (pe_callTy call_int1 (by rfl) E.n_int (by decide +kernel) (pa_cons (pe_op op_add (pe_op op_add (pe_op op_mul (pv 3) pe_int) (pe_op op_mul (pv 2) pe_int)) pe_int) pa_nil)) pe_int))
          (pss_cons (ps_set (i := 3) sc__law_draw.nd rfl (.inl rfl) (pe_op op_mod (pe_callTy call_int1 (by rfl) E.n_int (by decide +kernel) (pa_cons (pe_op op_mul (pv 3) pe_int) pa_nil)) pe_int))
          (pss_one (ps_ret (pe_op op_mod (pe_callTy call_int1 (by rfl) E.n_int (by decide +kernel) (pa_cons (pv 3) pa_nil)) (pe_callB (call_max2 rfl) (by rfl) E.n_max (by decide +kernel) (pa_cons (pv 1) (pa_cons pe_int pa_nil)))))))) pss_nil)
        (pss_one (ps_asg (pv 3) (pg_sub (pv 0) pe_int set_list)))))))) pss_nil)
      (pss_cons (ps_set (i := 3) sc__law_draw.nd rfl (.inl rfl) (pe_ix ix_list (pv 0) pe_int (fun _ _ => rfl)))
      (pss_cons (ps_asg (pe_op op_fdiv (pv 3) (pe_callB (call_max2 rfl) (by rfl) E.n_max (by decide +kernel) (pa_cons (pv 1) (pa_cons pe_int pa_nil)))) (pg_sub (pv 0) pe_int set_list))
      (pss_one (ps_ret (pe_op op_mod (pe_callTy call_int1 (by rfl) E.n_int (by decide +kernel) (pa_cons (pv 3) pa_nil)) (pe_callB (call_max2 rfl) (by rfl) E.n_max (by decide +kernel) (pa_cons (pv 1) (pa_cons pe_int pa_nil))))))))), ?_⟩
    have fin : ∀ (n : Int) (G : Hp), Ex (· = t) H G → Tape G s t → Q (.int (n % (if 1 > many then 1 else many))) G := fun n G e T => by
      have z := mod_rng n (m := if 1 > many then 1 else many) (by split <;> omega)
      exact q _ G z.1 (by have z2 := z.2; split at z2 <;> omega) e T
    have small : ∀ (n pl : Int) (G : Hp) (y z : Option V), Ex (· = t) H G → Tape G s t → True := fun _ _ _ _ _ _ _ => trivial
    refine ⟨_, rfl, _, _, _, _, rfl, rfl, SqL.of hT.at_, atI_nat (j := 2) rfl, rfl, _, rfl, ite2 (fun c => ?_) (fun c => ?_)⟩
    · refine ⟨_, rfl, _, _, _, _, rfl, rfl, SqL.of hT.at_, atI_nat (j := 1) rfl, ?_⟩
      refine ⟨_, rfl, _, rfl, _, _, _, _, rfl, rfl, SqL.of hT.at_, atI_nat (j := 0) rfl, _, _, rfl, .inl ⟨_, SqL.of hT.sc, rfl⟩, _, _, rfl, rfl, _, rfl, ite2 (fun k => ?_) (fun k => ?_)⟩
      · have k' : p < ((ns.map V.int).length : Nat) := of_decide_eq_true k
        rw [List.length_map] at k'
        have hp0 := hT.p0
        obtain ⟨j, ej⟩ : ∃ j : Nat, p = (j : Int) := ⟨p.toNat, by omega⟩
        have hj : j < ns.length := by omega
        have hv : atI (ns.map V.int) p = some (.int ns[j]) := by
          rw [ej]
          exact atI_nat (by rw [List.getElem?_map, List.getElem?_eq_getElem hj] <;> rfl)
        refine ⟨_, rfl, _, _, _, _, rfl, rfl, SqL.of hT.at_, atI_nat (j := 0) rfl, _, rfl, _, _, _, _, rfl, rfl, SqL.of hT.sc, hv, .inl ⟨_, rfl, _, rfl, ?_⟩⟩
        have n0 : 0 ≤ (if ns[j] < 0 then -ns[j] else ns[j]) := by split <;> omega
        generalize (if ns[j] < 0 then -ns[j] else ns[j]) = n at n0 ⊢
        refine ⟨_, rfl, _, _, rfl, rfl, _, rfl, _, _, _, _, rfl, rfl, hT.at_, rfl, ?_⟩
        have T1 := hT.set (p' := p + 1) (by omega) hT.m0 hT.q0
        have E1 := hT.ex (.lst [.ref s, .int (p + 1), .int m, .int q0])
        refine ⟨_, rfl, _, _, rfl, rfl, ⟨by decide, by decide, by decide⟩, _, _, rfl, rfl, _, rfl, ite2 (fun l => ?_) (fun l => ?_)⟩
        · refine ⟨_, rfl, _, _, rfl, rfl, .inr ⟨by omega, by omega⟩, _, rfl, _, _, rfl, rfl, .inr ⟨by omega, by omega⟩, _, _, rfl, rfl, _, _, rfl, rfl, .inl ⟨_, rfl, ?_⟩⟩
          refine ⟨_, _, rfl, rfl, (by show (0 : Int) < _; omega), ?_⟩
          refine ⟨_, rfl, _, _, rfl, rfl, .inr ⟨by omega, by omega⟩, .inl ⟨_, rfl, ?_⟩⟩
          refine ⟨_, _, rfl, rfl, (by show (0 : Int) < _; omega), ?_⟩
          exact ⟨_, rfl, .inl ⟨_, rfl, _, rfl, _, _, rfl, _, _, rfl, rfl, (by show (0 : Int) < _; split <;> omega), fin _ _ E1 ⟨_, _, _, _, T1⟩⟩⟩
        · refine ⟨_, rfl, _, rfl, _, _, _, _, rfl, rfl, T1.at_, rfl, ?_⟩
          have T2 := T1.set (m' := n) T1.p0 n0 T1.q0
          have E2 := E1.trans (T1.ex (.lst [.ref s, .int (p + 1), .int n, .int q0]))
          refine ⟨_, rfl, _, _, _, _, rfl, rfl, SqL.of T2.at_, atI_nat (j := 2) rfl, ?_⟩
          refine ⟨_, rfl, _, rfl, _, _, rfl, _, _, rfl, rfl, ⟨by split <;> omega, by split <;> omega⟩, _, rfl, _, _, _, _, rfl, rfl, T2.at_, rfl, ?_⟩
          have T3 := T2.set (m' := n / (if 2 > many then 2 else many)) T2.p0 (Int.ediv_nonneg n0 (by split <;> omega)) T2.q0
          have E3 := E2.trans (T2.ex (.lst [.ref s, .int (p + 1), .int (n / (if 2 > many then 2 else many)), .int q0]))
          exact ⟨_, rfl, .inl ⟨_, rfl, _, rfl, _, _, rfl, _, _, rfl, rfl, (by show (0 : Int) < _; split <;> omega), fin _ _ E3 ⟨_, _, _, _, T3⟩⟩⟩
      · refine ⟨_, rfl, _, _, _, _, rfl, rfl, SqL.of hT.at_, atI_nat (j := 3) rfl, _, _, rfl, rfl, .inr ⟨by omega, by omega⟩, _, rfl, _, _, rfl, rfl, _, _, rfl, rfl, .inl ⟨_, rfl, ?_⟩⟩
        have n0 := (mod_rng (q0 * 48271 + p + 1) (m := 2147483647) (by omega)).1
        refine ⟨_, _, rfl, rfl, (by show (0 : Int) < _; omega), _, rfl, _, _, _, _, rfl, rfl, hT.at_, rfl, ?_⟩
        have T0 := hT.set (q' := (q0 * 48271 + p + 1) % 2147483647) hT.p0 hT.m0 n0
        have E0 := hT.ex (.lst [.ref s, .int p, .int m, .int ((q0 * 48271 + p + 1) % 2147483647)])
        refine ⟨_, rfl, _, _, _, _, rfl, rfl, SqL.of T0.at_, atI_nat (j := 3) rfl, ?_⟩
        refine ⟨_, rfl, _, _, rfl, rfl, _, rfl, _, _, _, _, rfl, rfl, T0.at_, rfl, ?_⟩
        have hp0 := hT.p0
        have T1 := T0.set (p' := p + 1) (by omega) T0.m0 T0.q0
        have E1 := E0.trans (T0.ex (.lst [.ref s, .int (p + 1), .int m, .int ((q0 * 48271 + p + 1) % 2147483647)]))
        refine ⟨_, rfl, _, _, rfl, rfl, ⟨by decide, by decide, by decide⟩, _, _, rfl, rfl, _, rfl, ite2 (fun l => ?_) (fun l => ?_)⟩
        · refine ⟨_, rfl, _, _, rfl, rfl, .inr ⟨by omega, by omega⟩, _, rfl, _, _, rfl, rfl, .inr ⟨by omega, by omega⟩, _, _, rfl, rfl, _, _, rfl, rfl, .inl ⟨_, rfl, ?_⟩⟩
          refine ⟨_, _, rfl, rfl, (by show (0 : Int) < _; omega), ?_⟩
          refine ⟨_, rfl, _, _, rfl, rfl, .inr ⟨by omega, by omega⟩, .inl ⟨_, rfl, ?_⟩⟩
          refine ⟨_, _, rfl, rfl, (by show (0 : Int) < _; omega), ?_⟩
          exact ⟨_, rfl, .inl ⟨_, rfl, _, rfl, _, _, rfl, _, _, rfl, rfl, (by show (0 : Int) < _; split <;> omega), fin _ _ E1 ⟨_, _, _, _, T1⟩⟩⟩
        · refine ⟨_, rfl, _, rfl, _, _, _, _, rfl, rfl, T1.at_, rfl, ?_⟩
          have T2 := T1.set (m' := (q0 * 48271 + p + 1) % 2147483647) T1.p0 n0 T1.q0
          have E2 := E1.trans (T1.ex (.lst [.ref s, .int (p + 1), .int ((q0 * 48271 + p + 1) % 2147483647), .int ((q0 * 48271 + p + 1) % 2147483647)]))
          refine ⟨_, rfl, _, _, _, _, rfl, rfl, SqL.of T2.at_, atI_nat (j := 2) rfl, ?_⟩
          refine ⟨_, rfl, _, rfl, _, _, rfl, _, _, rfl, rfl, ⟨by split <;> omega, by split <;> omega⟩, _, rfl, _, _, _, _, rfl, rfl, T2.at_, rfl, ?_⟩
          have T3 := T2.set (m' := (q0 * 48271 + p + 1) % 2147483647 / (if 2 > many then 2 else many)) T2.p0 (Int.ediv_nonneg n0 (by split <;> omega)) T2.q0
          have E3 := E2.trans (T2.ex (.lst [.ref s, .int (p + 1), .int ((q0 * 48271 + p + 1) % 2147483647 / (if 2 > many then 2 else many)), .int ((q0 * 48271 + p + 1) % 2147483647)]))
          exact ⟨_, rfl, .inl ⟨_, rfl, _, rfl, _, _, rfl, _, _, rfl, rfl, (by show (0 : Int) < _; split <;> omega), fin _ _ E3 ⟨_, _, _, _, T3⟩⟩⟩
    · refine ⟨_, rfl, _, _, _, _, rfl, rfl, SqL.of hT.at_, atI_nat (j := 2) rfl, ?_⟩
      refine ⟨_, rfl, _, rfl, _, _, rfl, _, _, rfl, rfl, ⟨by split <;> omega, by split <;> omega⟩, _, rfl, _, _, _, _, rfl, rfl, hT.at_, rfl, ?_⟩
      have T3 := hT.set (m' := m / (if 2 > many then 2 else many)) hT.p0 (Int.ediv_nonneg hT.m0 (by split <;> omega)) hT.q0
      have E3 := hT.ex (.lst [.ref s, .int p, .int (m / (if 2 > many then 2 else many)), .int q0])
      exact ⟨_, rfl, .inl ⟨_, rfl, _, rfl, _, _, rfl, _, _, rfl, rfl, (by show (0 : Int) < _; split <;> omega), fin _ _ E3 ⟨_, _, _, _, T3⟩⟩⟩
end
end K7
/-! W11 -/
namespace K7
open PySem PySem.Spec PyProof.Rows L2 TL
/-- only the tape has moved -/
structure Dr (s t : Addr) (H H' : Hp) : Prop where
  ex : Ex (· = t) H H'
  tp : Tape H' s t
theorem Dr.new {s t p : Addr} {H H' : Hp} (d : Dr s t H H') (n : H' p = none) (o : HO) : Dr s t H (upd H' p o) := ⟨d.ex.trans (Same.ex (same_new n)), d.tp.upd (d.tp.nt n) o⟩
theorem Dr.go {s t : Addr} {H H1 H2 : Hp} (d : Dr s t H H1) (e : Ex (· = t) H1 H2) (T : Tape H2 s t) : Dr s t H H2 := ⟨d.ex.trans e, T⟩
theorem Dr.trans {s t : Addr} {H H1 H2 : Hp} (d : Dr s t H H1) (e : Dr s t H1 H2) : Dr s t H H2 := ⟨d.ex.trans e.ex, e.tp⟩
theorem Dr.same {s t : Addr} {H H1 H2 : Hp} (d : Dr s t H H1) (e : Same H1 H2) : Dr s t H H2 := ⟨d.ex.trans (Same.ex e), d.tp.same e⟩
theorem Dr.zero {s t : Addr} {H : Hp} (T : Tape H s t) : Dr s t H H := ⟨Ex.refl _ _, T⟩
/-- what is not the tape stays -/
theorem Dr.at {s t p : Addr} {H H' : Hp} {o : HO} (d : Dr s t H H') (h : H p = some o) (n : p ≠ t) : H' p = some o := d.ex.at_ _ _ n h
/-- statements that meet behind a test -/
theorem joinSeq {a b : TS} {D : Ends} {σ : L2.St} {H : Hp} (M : L2.St → Hp → Prop) (h : ∀ nx, (∀ σ G, M σ G → nx σ G) → a { D with nx := nx } σ H) (r : ∀ σ G, M σ G → b D σ G) : tSeq a b D σ H := h (b D) r
theorem joinIf {c : TT} {x y b : TS} {D : Ends} {σ : L2.St} {H : Hp} (M : L2.St → Hp → Prop) (h : ∀ nx, (∀ σ G, M σ G → nx σ G) → tIfS c x y { D with nx := nx } σ H) (r : ∀ σ G, M σ G → b D σ G) : tSeq (tIfS c x y) b D σ H := h (b D) r
/-! ### items of written lists -/
theorem atI_get {α : Type} {xs : List α} {i : Int} (h0 : 0 ≤ i) (h : i < (xs.length : Nat)) : ∃ v ∈ xs, atI xs i = some v := by
  obtain ⟨j, rfl⟩ : ∃ j : Nat, i = (j : Int) := ⟨i.toNat, by omega⟩
  have hj : j < xs.length := by omega
  exact ⟨xs[j], List.getElem_mem hj, atI_nat (List.getElem?_eq_getElem hj)⟩
theorem atI_ints {ns : List Int} {i : Int} {p : Int → Bool} (a : ns.all p = true) (h0 : 0 ≤ i) (h : i < (ns.length : Nat)) : ∃ n, p n = true ∧ atI (ns.map V.int) i = some (.int n) := by
  obtain ⟨v, hv, e⟩ := atI_get (xs := ns.map V.int) h0 (by rw [List.length_map]; exact h)
  obtain ⟨n, hn, rfl⟩ := List.mem_map.mp hv
  exact ⟨n, List.all_eq_true.mp a n hn, e⟩
theorem atI_strs {ns : List Str} {i : Int} {p : Str → Bool} (a : ns.all p = true) (h0 : 0 ≤ i) (h : i < (ns.length : Nat)) : ∃ n, p n = true ∧ atI (ns.map V.str) i = some (.str n) := by
  obtain ⟨v, hv, e⟩ := atI_get (xs := ns.map V.str) h0 (by rw [List.length_map]; exact h)
  obtain ⟨n, hn, rfl⟩ := List.mem_map.mp hv
  exact ⟨n, List.all_eq_true.mp a n hn, e⟩
def inR (lo hi : Int) (n : Int) : Bool := decide (lo ≤ n ∧ n ≤ hi)
theorem inR_of {lo hi n : Int} (h : inR lo hi n = true) : lo ≤ n ∧ n ≤ hi := of_decide_eq_true h
theorem gcd_step {a b : Int} (ha : 0 ≤ a) (hb : 0 < b) : Nat.gcd b.natAbs (a % b).natAbs = Nat.gcd a.natAbs b.natAbs := by
  have e : (a % b).natAbs = a.natAbs % b.natAbs := by
    obtain ⟨x, rfl⟩ : ∃ x : Nat, a = (x : Int) := ⟨a.toNat, by omega⟩
    obtain ⟨y, rfl⟩ : ∃ x : Nat, b = (x : Int) := ⟨b.toNat, by omega⟩
    rw [← Int.natCast_emod, Int.natAbs_natCast, Int.natAbs_natCast, Int.natAbs_natCast]
  rw [e, Nat.gcd_comm a.natAbs, Nat.gcd_rec b.natAbs a.natAbs, Nat.gcd_comm]
section
variable {P : Program} {w : World} {K : PySem.W.Frag} {mg : Str → Option Value} {base : Heap}
def spGcd : Sp := fun vs H Q _ => ∃ a b : Int, vs = [.int a, .int b] ∧ Q (.int (Nat.gcd a.natAbs b.natAbs : Nat)) H
abbrev N__law_gcd : List Str := ["_law_first", "_law_second", "_law_rest"]
theorem sc__law_gcd : FnScope N__law_gcd ["_law_first", "_law_second"] (defScope (topS 40)) := ⟨rfl, rfl, rfl, by decide +kernel, rfl, by decide +kernel, by decide +kernel⟩
theorem ok__law_gcd (E : Ev K w mg) : FnOk P w K mg base CX0 1 E.d__law_gcd.f E.d__law_gcd.fd ["_law_first", "_law_second"] spGcd := by
  refine E.d__law_gcd.F.ok sc__law_gcd (fun vs H Q X h => ?_) (fun cdv A outer s H vs Q X hr h => ?_)
  · obtain ⟨a, b, rfl, _⟩ := h
    rfl
  · obtain ⟨a, b, rfl, q⟩ := h
    refine ⟨_, PSs.nox (pss_cons (ps_set (i := 0) sc__law_gcd.nd rfl (.inl rfl) (pe_callB call_abs (by rfl) E.n_abs (by decide +kernel) (pa_cons (pv 0) pa_nil)))
      (pss_cons (ps_set (i := 1) sc__law_gcd.nd rfl (.inl rfl) (pe_callB call_abs (by rfl) E.n_abs (by decide +kernel) (pa_cons (pv 1) pa_nil)))
      (pss_cons (ps_while PassesOwn.never (pt_cmpR op_gt (pv 1) pe_int (nomark _)) (pss_cons (ps_set (i := 2) sc__law_gcd.nd rfl (.inl rfl) (pe_op op_mod (pe_callTy call_int1 (by rfl) E.n_int (by decide +kernel) (pa_cons (pv 0) pa_nil)) (pv 1)))
        (pss_cons (ps_set (i := 0) sc__law_gcd.nd rfl (.inl rfl) (pv 1))
        (pss_one (ps_set (i := 1) sc__law_gcd.nd rfl (.inl rfl) (pv 2))))))
      (pss_one (ps_ret (pv 0)))))), ?_⟩
    have na : ∀ x : Int, 0 ≤ (if x < 0 then -x else x) ∧ (if x < 0 then -x else x).natAbs = x.natAbs := fun x => by split <;> omega
    refine ⟨_, rfl, _, rfl, _, rfl, _, rfl, ?_⟩
    refine ⟨fun m σ H' => ∃ (x y : Int) (r : Option V), σ = [some (.int x), some (.int y), r] ∧ H' = H ∧ 0 ≤ x ∧ 0 ≤ y ∧ Nat.gcd x.natAbs y.natAbs = Nat.gcd a.natAbs b.natAbs ∧ m = y.toNat,
      ⟨_, _, _, _, rfl, rfl, (na a).1, (na b).1, by rw [(na a).2, (na b).2], rfl⟩, fun m σ H' hW => ?_⟩
    obtain ⟨x, y, r, rfl, rfl, x0, y0, hg, rfl⟩ := hW
    refine ⟨_, rfl, _, _, rfl, rfl, _, rfl, ite2 (fun c => ?_) (fun c => ?_)⟩
    · have c' : 0 < y := of_decide_eq_true c
      have m0 := mod_rng x c'
      refine ⟨fun σ H2 => σ = [some (.int y), some (.int (x % y)), some (.int (x % y))] ∧ H2 = H', fun σ H2 hN => ⟨_, ?_, y, x % y, _, hN.1, hN.2, by omega, m0.1, by rw [gcd_step x0 c', hg], rfl⟩, ?_⟩
      · omega
      · exact ⟨_, rfl, .inl ⟨_, rfl, _, rfl, _, _, rfl, rfl, c', _, rfl, _, rfl, rfl, rfl⟩⟩
    · have c' : y = 0 := by
        have z : ¬ 0 < y := fun z => c (decide_eq_true z)
        omega
      subst c'
      have e : x = (Nat.gcd a.natAbs b.natAbs : Nat) := by
        have z := hg
        rw [show (0 : Int).natAbs = 0 from rfl, Nat.gcd_zero_right] at z
        omega
      rw [← e] at q
      exact ⟨_, rfl, q⟩
def spRatio (K : PySem.W.Frag) : Sp := fun vs H Q _ => ∃ a b : Int, vs = [.int a, .int b] ∧ 0 < b ∧ b < 1000000000000 ∧ a.natAbs < 1000000000000 ∧ ∀ v n d H', Same H H' → NumOk n d → IsCell K H' v (.num n d) → Q v H'
theorem ediv_abs (a : Int) {g : Int} (h : 0 < g) (hd : g ∣ a) : (a / g).natAbs ≤ a.natAbs := by
  rw [Int.natAbs_ediv_of_dvd hd]
  exact Nat.div_le_self _ _
abbrev N__law_ratio : List Str := ["_law_top", "_law_bottom", "_law_shared"]
theorem sc__law_ratio : FnScope N__law_ratio ["_law_top", "_law_bottom"] (defScope (topS 41)) := ⟨rfl, rfl, rfl, by decide +kernel, rfl, by decide +kernel, by decide +kernel⟩
theorem ok__law_ratio (E : Ev K w mg) : FnOk P w K mg base CX0 2 E.d__law_ratio.f E.d__law_ratio.fd ["_law_top", "_law_bottom"] (spRatio K) := by
  refine E.d__law_ratio.F.ok sc__law_ratio (fun vs H Q X h => ?_) (fun cdv A outer s H vs Q X hr h => ?_)
  · obtain ⟨a, b, rfl, _⟩ := h
    rfl
  · obtain ⟨a, b, rfl, b0, b1, a1, q⟩ := h
    refine ⟨_, PSs.nox (pss_cons (ps_set (i := 2) sc__law_ratio.nd rfl (.inl rfl) (pe_call (ok__law_gcd E) (hr.mono (by omega)) (by rfl) E.d__law_gcd.g E.d__law_gcd.F.kp E.d__law_gcd.b .nil pass0 (pa_cons (pv 0) (pa_cons (pv 1) pa_nil))))
      (pss_cons (ps_if (pt_cmpR op_lt (pv 1) pe_int (nomark _)) (pss_one (ps_set (i := 2) sc__law_ratio.nd rfl (.inl rfl) (pe_un un_neg (pv 2)))) pss_nil)
      (pss_one (ps_ret (pe_tup (pa_cons (pe_op op_fdivW (pv 0) (pv 2)) (pa_cons (pe_op op_fdivW (pv 1) (pv 2)) pa_nil))))))), ?_⟩
    refine ⟨_, rfl, _, rfl, a, b, rfl, ?_⟩
    refine ⟨_, rfl, _, _, rfl, rfl, _, rfl, ifF (decide_eq_false (by omega)) ?_⟩
    refine ⟨_, rfl, _, rfl, _, _, rfl, rfl, gcd_wide (b := 50) (by omega) (by omega) (by omega) (by omega) _, _, rfl, _, rfl, _, _, rfl, rfl, gcd_wide (b := 50) (by omega) (by omega) (by omega) (by omega) _, (by show 2 ≤ sizeLine; decide), fun p1 n1 => ?_⟩
    have g0 : 0 < Nat.gcd a.natAbs b.natAbs := Nat.gcd_pos_of_pos_right _ (by omega)
    obtain ⟨z1, z2⟩ := div_gcd (n := a) b0
    have y1 := ediv_abs a (g := (Nat.gcd a.natAbs b.natAbs : Nat)) (by omega) (Int.ofNat_dvd_left.mpr (Nat.gcd_dvd_left _ _))
    have y2 := ediv_abs b (g := (Nat.gcd a.natAbs b.natAbs : Nat)) (by omega) (Int.ofNat_dvd_left.mpr (Nat.gcd_dvd_right _ _))
    refine q _ _ _ _ (same_new n1) ⟨⟨z1, ?_, ?_⟩, z2⟩ isCell_new
    · generalize b / ((Nat.gcd a.natAbs b.natAbs : Nat) : Int) = x at y2 z1 ⊢
      omega
    · generalize a / ((Nat.gcd a.natAbs b.natAbs : Nat) : Int) = x at y1 ⊢
      omega
def spKept (K : PySem.W.Frag) : Sp := fun vs H Q _ => ∃ v n d, vs = [v] ∧ IsCell K H v (.num n d) ∧ NumB n d ∧ Q v H
abbrev N__law_kept : List Str := ["_law_fraction"]
theorem sc__law_kept : FnScope N__law_kept ["_law_fraction"] (defScope (topS 42)) := ⟨rfl, rfl, rfl, by decide +kernel, rfl, by decide +kernel, by decide +kernel⟩
theorem ok__law_kept (E : Ev K w mg) : FnOk P w K mg base CX0 1 E.d__law_kept.f E.d__law_kept.fd ["_law_fraction"] (spKept K) := by
  refine E.d__law_kept.F.ok sc__law_kept (fun vs H Q X h => ?_) (fun cdv A outer s H vs Q X hr h => ?_)
  · obtain ⟨v, n, d, rfl, _⟩ := h
    rfl
  · obtain ⟨v, n, d, rfl, ⟨a, rfl, ha⟩, ⟨b1, b2, b3⟩, q⟩ := h
    refine ⟨_, PSs.nox (pss_cons (ps_if (PW.pt (pw_and (pt_cmpR op_lt (pe_callB call_abs (by rfl) E.n_abs (by decide +kernel) (pa_cons (pe_ix ix_tup (pv 0) pe_int (fun _ _ => rfl)) pa_nil)) (pe_op op_pow pe_int pe_int) (nomark _)) (pw_and1 (pt_cmpR op_lt (pe_ix ix_tup (pv 0) pe_int (fun _ _ => rfl)) (pe_op op_pow pe_int pe_int) (nomark _))))) (pss_one (ps_ret (pv 0))) pss_nil)
      (pss_one (ps_ret pe_non))), ?_⟩
    have ab : (if n < 0 then -n else n) < (10 : Int) ^ (12 : Int).toNat := by
      have e : (10 : Int) ^ (12 : Int).toNat = 1000000000000 := by decide +kernel
      rw [e]
      split <;> omega
    have ad : d < (10 : Int) ^ (12 : Int).toNat := by
      have e : (10 : Int) ^ (12 : Int).toNat = 1000000000000 := by decide +kernel
      rw [e]
      omega
    refine ⟨_, rfl, _, _, _, _, rfl, rfl, ha, atI_nat (j := 0) rfl, _, rfl, _, _, rfl, rfl, ⟨by decide, by decide, by decide⟩, _, _, rfl, rfl, _, rfl, ifT (decide_eq_true ab) ?_⟩
    refine ⟨_, rfl, _, _, _, _, rfl, rfl, ha, atI_nat (j := 1) rfl, _, _, rfl, rfl, ⟨by decide, by decide, by decide⟩, _, _, rfl, rfl, _, rfl, ifT (decide_eq_true ad) ?_⟩
    exact ⟨_, rfl, q⟩
def spIsI : Sp := fun vs H Q _ => ∃ n : Int, vs = [.int n] ∧ Q (.bl true) H
abbrev N__law_is_integer : List Str := ["_law_value"]
theorem sc__law_is_integer : FnScope N__law_is_integer ["_law_value"] (defScope (topS 39)) := ⟨rfl, rfl, rfl, by decide +kernel, rfl, by decide +kernel, by decide +kernel⟩
theorem ok__law_is_integer (E : Ev K w mg) : FnOk P w K mg base CX0 1 E.d__law_is_integer.f E.d__law_is_integer.fd ["_law_value"] spIsI := by
  refine E.d__law_is_integer.F.ok sc__law_is_integer (fun vs H Q X h => ?_) (fun cdv A outer s H vs Q X hr h => ?_)
  · obtain ⟨n, rfl, _⟩ := h
    rfl
  · obtain ⟨n, rfl, q⟩ := h
    refine ⟨_, PSs.nox (pss_one (ps_ret (pe_and (pe_callB call_isi (by rfl) E.n_isinstance (by decide +kernel) (pa_cons (pv 0) (pa_cons (pe_bltn (v := .ty "int") (by rfl) E.n_int (by decide +kernel) rfl) pa_nil))) (pe_one (pe_not (pe_callB call_isi (by rfl) E.n_isinstance (by decide +kernel) (pa_cons (pv 0) (pa_cons (pe_bltn (v := .ty "bool") (by rfl) E.n_bool (by decide +kernel) rfl) pa_nil)))))))), ?_⟩
    refine ⟨_, rfl, _, _, .type "int", _, true, rfl, .ty _, .base (.int _), kit_ty (by decide +kernel), ?_⟩
    refine ⟨_, rfl, ifT rfl ?_⟩
    exact ⟨_, rfl, _, _, .type "int", _, false, rfl, .ty _, .base (.int _), kit_ty (by decide +kernel), _, rfl, q⟩
end
end K7
/-! W12 -/
namespace K7
open PySem PySem.Spec PyProof.Rows L2 TL
section
variable {P : Program} {w : World} {K : PySem.W.Frag} {mg : Str → Option Value} {base : Heap}
def spNum (K : PySem.W.Frag) : Sp := fun vs H Q _ => ∃ (s t : Addr), vs = [.ref t] ∧ Tape H s t ∧ ∀ v n d H', Dr s t H H' → NumOk n d → IsCell K H' v (.num n d) → Q v H'
abbrev N__law_number : List Str := ["_law_tape_here", "_law_shape", "_law_top", "_law_bottoms", "_law_bottom"]
theorem sc__law_number : FnScope N__law_number ["_law_tape_here"] (defScope (topS 43)) := ⟨rfl, rfl, rfl, by decide +kernel, rfl, by decide +kernel, by decide +kernel⟩
theorem ok__law_number (E : Ev K w mg) : FnOk P w K mg base CX0 3 E.d__law_number.f E.d__law_number.fd ["_law_tape_here"] (spNum K) := by
  refine E.d__law_number.F.ok sc__law_number (fun vs H Q X h => ?_) (fun cdv A outer s H vs Q X hr h => ?_)
  · obtain ⟨s, t, rfl, _⟩ := h
    rfl
  · obtain ⟨s, t, rfl, hT, q⟩ := h
    refine ⟨_, PSs.nox (pss_cons (ps_set (i := 1) sc__law_number.nd rfl (.inl rfl) (pe_call (ok__law_draw E) (hr.mono (by omega)) (by rfl) E.d__law_draw.g E.d__law_draw.F.kp E.d__law_draw.b .nil pass0 (pa_cons (pv 0) (pa_cons pe_int pa_nil))))
      (pss_cons (ps_set (i := 2) sc__law_number.nd rfl (.inl rfl) (pe_call (ok__law_draw E) (hr.mono (by omega)) (by rfl) E.d__law_draw.g E.d__law_draw.F.kp E.d__law_draw.b .nil pass0 (pa_cons (pv 0) (pa_cons (pe_ix ix_list (pe_lst (pa_cons pe_int (pa_cons pe_int (pa_cons pe_int (pa_cons pe_int (pa_cons pe_int (pa_cons pe_int (pa_cons (pe_op op_pow pe_int pe_int) (pa_cons pe_int (pa_cons (pe_op op_pow pe_int pe_int) pa_nil)))))))))) (pv 1) (fun _ _ => rfl)) pa_nil))))
      (pss_cons (ps_if (pt_cmpR op_eq (pv 1) pe_int (nomark _)) (pss_one (ps_set (i := 2) sc__law_number.nd rfl (.inl rfl) (pe_op op_sub (pe_op op_sub (pe_op op_pow pe_int pe_int) pe_int) (pv 2)))) pss_nil)
      (pss_cons (ps_if (pt_cmpR op_eq (pv 1) pe_int (nomark _)) (pss_one (ps_set (i := 2) sc__law_number.nd rfl (.inl rfl) (pe_op op_add (pe_op op_mul (pv 2) (pe_op op_pow pe_int pe_int)) (pe_call (ok__law_draw E) (hr.mono (by omega)) (by rfl) E.d__law_draw.g E.d__law_draw.F.kp E.d__law_draw.b .nil pass0 (pa_cons (pv 0) (pa_cons (pe_op op_pow pe_int pe_int) pa_nil)))))) pss_nil)
      (pss_cons (ps_set (i := 3) sc__law_number.nd rfl (.inl rfl) (pe_lst (pa_cons pe_int (pa_cons pe_int (pa_cons pe_int (pa_cons pe_int (pa_cons pe_int (pa_cons pe_int (pa_cons pe_int (pa_cons pe_int (pa_cons pe_int (pa_cons pe_int (pa_cons pe_int (pa_cons pe_int (pa_cons pe_int (pa_cons pe_int (pa_cons pe_int (pa_cons pe_int (pa_cons (pe_op op_pow pe_int pe_int) (pa_cons (pe_op op_pow pe_int pe_int) (pa_cons (pe_op op_sub (pe_op op_pow pe_int pe_int) pe_int) (pa_cons pe_int pa_nil))))))))))))))))))))))
      (pss_cons (ps_set (i := 4) sc__law_number.nd rfl (.inl rfl) (pe_ix ix_list (pv 3) (pe_call (ok__law_draw E) (hr.mono (by omega)) (by rfl) E.d__law_draw.g E.d__law_draw.F.kp E.d__law_draw.b .nil pass0 (pa_cons (pv 0) (pa_cons pe_int pa_nil))) (fun _ _ => rfl)))
      (pss_cons (ps_if (pt_cmpR op_eq (pe_call (ok__law_draw E) (hr.mono (by omega)) (by rfl) E.d__law_draw.g E.d__law_draw.F.kp E.d__law_draw.b .nil pass0 (pa_cons (pv 0) (pa_cons pe_int pa_nil))) pe_int (nomark _)) (pss_one (ps_set (i := 4) sc__law_number.nd rfl (.inl rfl) (pe_op op_add pe_int (pe_call (ok__law_draw E) (hr.mono (by omega)) (by rfl) E.d__law_draw.g E.d__law_draw.F.kp E.d__law_draw.b .nil pass0 (pa_cons (pv 0) (pa_cons (pe_ix ix_list (pe_lst (pa_cons pe_int (pa_cons (pe_op op_pow pe_int pe_int) pa_nil))) (pe_call (ok__law_draw E) (hr.mono (by omega)) (by rfl) E.d__law_draw.g E.d__law_draw.F.kp E.d__law_draw.b .nil pass0 (pa_cons (pv 0) (pa_cons pe_int pa_nil))) (fun _ _ => rfl)) pa_nil)))))) pss_nil)
      (pss_cons (ps_if (pt_cmpR op_eq (pe_call (ok__law_draw E) (hr.mono (by omega)) (by rfl) E.d__law_draw.g E.d__law_draw.F.kp E.d__law_draw.b .nil pass0 (pa_cons (pv 0) (pa_cons pe_int pa_nil))) pe_int (nomark _)) (pss_one (ps_set (i := 2) sc__law_number.nd rfl (.inl rfl) (pe_un un_neg (pv 2)))) pss_nil)
      (pss_one (ps_ret (pe_call (ok__law_ratio E) (hr.mono (by omega)) (by rfl) E.d__law_ratio.g E.d__law_ratio.F.kp E.d__law_ratio.b .nil pass0 (pa_cons (pv 2) (pa_cons (pv 4) pa_nil))))))))))))), ?_⟩
    have p6 : (10 : Int) ^ (6 : Int).toNat = 1000000 := by decide +kernel
    have p12 : (10 : Int) ^ (12 : Int).toNat = 1000000000000 := by decide +kernel
    refine ⟨_, rfl, s, t, 9, rfl, hT, by omega, by omega, fun sh H1 s0 s1 e1 T1 => ?_⟩
    have d1 : Dr s t H H1 := ⟨e1, T1⟩
    refine ⟨_, rfl, _, _, rfl, rfl, ⟨by decide, by decide, by decide⟩, _, _, rfl, rfl, ⟨by decide, by decide, by decide⟩, (by show 9 ≤ sizeLine; decide), fun p1 n1 => ?_⟩
    have d2 := d1.new n1 (.lst [.int 2, .int 4, .int 12, .int 13, .int 101, .int 1001, .int (10 ^ (6 : Int).toNat), .int 50, .int (10 ^ (6 : Int).toNat)])
    obtain ⟨m, hm, em⟩ := atI_ints (ns := [2, 4, 12, 13, 101, 1001, 10 ^ (6 : Int).toNat, 50, 10 ^ (6 : Int).toNat]) (p := inR 1 1000000) (by decide +kernel) s0 (by show sh < 9; omega)
    have m7 : sh = 7 → m = 50 := fun e => by
      rw [e] at em
      exact (V.int.inj (Option.some.inj em)).symm
    have m8 := inR_of hm
    refine ⟨_, rfl, _, _, _, _, rfl, rfl, SqL.of upd_same, em, s, t, m, rfl, d2.tp, by omega, by omega, fun top H3 t0 t1 e3 T3 => ?_⟩
    have d3 := d2.go e3 T3
    try dsimp only [gName]
    refine joinIf (fun σ G => ∃ top, σ = [some (.ref t), some (.int sh), some (.int top), none, none] ∧ Dr s t H G ∧ 0 ≤ top ∧ top < 1000000000000 ∧ (sh = 8 → top < 1000000)) (fun nx hnx => ?_) (fun σ G hM => ?_)
    · refine ⟨_, rfl, rfl, _, rfl, ite2 (fun c => ?_) (fun c => ?_)⟩
      · have c' : sh = 7 := V.int.inj (of_decide_eq_true c)
        have := m7 c'
        refine ⟨_, _, rfl, rfl, ⟨by decide, by decide, by decide⟩, _, _, rfl, rfl, _, rfl, _, _, rfl, rfl, hnx _ _ ⟨_, rfl, d3, ?_, ?_, fun z => by omega⟩⟩
        · show 0 ≤ (10 : Int) ^ (12 : Int).toNat - 1 - top
          rw [p12]
          omega
        · show (10 : Int) ^ (12 : Int).toNat - 1 - top < 1000000000000
          rw [p12]
          omega
      · exact hnx _ _ ⟨_, rfl, d3, t0, by omega, fun _ => by omega⟩
    obtain ⟨top2, rfl, d4, u0, u1, u2⟩ := hM
    try dsimp only [gName]
    refine joinIf (fun σ G => ∃ top, σ = [some (.ref t), some (.int sh), some (.int top), none, none] ∧ Dr s t H G ∧ 0 ≤ top ∧ top < 1000000000000) (fun nx hnx => ?_) (fun σ G hM => ?_)
    · refine ⟨_, rfl, rfl, _, rfl, ite2 (fun c => ?_) (fun c => ?_)⟩
      · have c' : sh = 8 := V.int.inj (of_decide_eq_true c)
        have := u2 c'
        refine ⟨_, rfl, _, _, rfl, rfl, ⟨by decide, by decide, by decide⟩, _, _, rfl, rfl, .inl ⟨by omega, by omega⟩, _, rfl, _, _, rfl, rfl, ⟨by decide, by decide, by decide⟩, s, t, _, rfl, d4.tp, (by show 1 ≤ (10 : Int) ^ (6 : Int).toNat; rw [p6]; omega), (by show (10 : Int) ^ (6 : Int).toNat < 1073741824; rw [p6]; omega), fun x H5 x0 x1 e5 T5 => ?_⟩
        have x1' : x < (10 : Int) ^ (6 : Int).toNat := x1
        rw [p6] at x1'
        refine ⟨_, _, rfl, rfl, hnx _ _ ⟨_, rfl, d4.go e5 T5, ?_, ?_⟩⟩
        · show 0 ≤ top2 * (10 : Int) ^ (6 : Int).toNat + x
          rw [p6]
          omega
        · show top2 * (10 : Int) ^ (6 : Int).toNat + x < 1000000000000
          rw [p6]
          omega
      · exact hnx _ _ ⟨_, rfl, d4, u0, u1⟩
    obtain ⟨top3, rfl, d5, v0, v1⟩ := hM
    refine ⟨_, _, rfl, rfl, ⟨by decide, by decide, by decide⟩, _, _, rfl, rfl, ⟨by decide, by decide, by decide⟩, _, _, rfl, rfl, ⟨by decide, by decide, by decide⟩, _, _, rfl, rfl, (by show 20 ≤ sizeLine; decide), fun p2 n2 => ?_⟩
    have d6 := d5.new n2 (.lst ([1, 1, 1, 1, 1, 2, 3, 4, 5, 7, 8, 10, 12, 25, 100, 1000, 2 ^ (39 : Int).toNat, 5 ^ (17 : Int).toNat, 10 ^ (12 : Int).toNat - 1, 999999].map V.int))
    have nt := d5.tp.nt n2
    refine ⟨_, rfl, _, rfl, s, t, 20, rfl, d6.tp, by omega, by omega, fun x H7 x0 x1 e7 T7 => ?_⟩
    have d7 := d6.go e7 T7
    obtain ⟨b, hb, eb⟩ := atI_ints (ns := [1, 1, 1, 1, 1, 2, 3, 4, 5, 7, 8, 10, 12, 25, 100, 1000, 2 ^ (39 : Int).toNat, 5 ^ (17 : Int).toNat, 10 ^ (12 : Int).toNat - 1, 999999]) (p := inR 1 999999999999) (by decide +kernel) x0 (by show x < 20; omega)
    have b8 := inR_of hb
    refine ⟨_, _, _, _, rfl, rfl, SqL.of (e7.at_ _ _ nt.1 upd_same), eb, ?_⟩
    try dsimp only [gName]
    refine joinIf (fun σ G => ∃ y z bo, σ = [some (.ref t), y, some (.int top3), z, some (.int bo)] ∧ Dr s t H G ∧ 0 < bo ∧ bo < 1000000000000) (fun nx hnx => ?_) (fun σ G hM => ?_)
    · refine ⟨_, rfl, s, t, 5, rfl, d7.tp, by omega, by omega, fun y H8 y0 y1 e8 T8 => ?_⟩
      have d8 := d7.go e8 T8
      refine ⟨rfl, _, rfl, ite2 (fun c => ?_) (fun c => ?_)⟩
      · refine ⟨_, rfl, _, _, rfl, rfl, ⟨by decide, by decide, by decide⟩, (by show 2 ≤ sizeLine; decide), fun p3 n3 => ?_⟩
        have d9 := d8.new n3 (.lst ([40, 10 ^ (6 : Int).toNat].map V.int))
        have nt3 := d8.tp.nt n3
        refine ⟨_, rfl, s, t, 2, rfl, d9.tp, by omega, by omega, fun y H10 y0 y1 e10 T10 => ?_⟩
        obtain ⟨k, hk, ek⟩ := atI_ints (ns := [40, 10 ^ (6 : Int).toNat]) (p := inR 1 1000000) (by decide +kernel) y0 (by show y < 2; omega)
        have k8 := inR_of hk
        refine ⟨_, _, _, _, rfl, rfl, SqL.of (e10.at_ _ _ nt3.1 upd_same), ek, s, t, k, rfl, T10, by omega, by omega, fun z H11 z0 z1 e11 T11 => ?_⟩
        exact ⟨_, _, rfl, rfl, hnx _ _ ⟨_, _, _, rfl, (d9.go e10 T10).go e11 T11, by omega, by omega⟩⟩
      · exact hnx _ _ ⟨_, _, _, rfl, d8, by omega, by omega⟩
    obtain ⟨y, z, bo, rfl, d8, b0, b1⟩ := hM
    try dsimp only [gName]
    refine joinIf (fun σ G => ∃ y z tp, σ = [some (.ref t), y, some (.int tp), z, some (.int bo)] ∧ Dr s t H G ∧ tp.natAbs < 1000000000000) (fun nx hnx => ?_) (fun σ G hM => ?_)
    · refine ⟨_, rfl, s, t, 3, rfl, d8.tp, by omega, by omega, fun y H8 y0 y1 e8 T8 => ?_⟩
      have d9 := d8.go e8 T8
      refine ⟨rfl, _, rfl, ite2 (fun c => ?_) (fun c => ?_)⟩
      · exact ⟨_, rfl, _, rfl, hnx _ _ ⟨_, _, _, rfl, d9, by omega⟩⟩
      · exact hnx _ _ ⟨_, _, _, rfl, d9, by omega⟩
    obtain ⟨y, z, tp, rfl, d10, c1⟩ := hM
    exact ⟨_, rfl, _, rfl, tp, bo, rfl, b0, b1, c1, fun v n d H' sm ok ic => q v n d H' (d10.same sm) ok ic⟩
abbrev N__law_small : List Str := ["_law_tape_here", "_law_top"]
theorem sc__law_small : FnScope N__law_small ["_law_tape_here"] (defScope (topS 44)) := ⟨rfl, rfl, rfl, by decide +kernel, rfl, by decide +kernel, by decide +kernel⟩
theorem ok__law_small (E : Ev K w mg) : FnOk P w K mg base CX0 3 E.d__law_small.f E.d__law_small.fd ["_law_tape_here"] (spNum K) := by
  refine E.d__law_small.F.ok sc__law_small (fun vs H Q X h => ?_) (fun cdv A outer s H vs Q X hr h => ?_)
  · obtain ⟨s, t, rfl, _⟩ := h
    rfl
  · obtain ⟨s, t, rfl, hT, q⟩ := h
    refine ⟨_, PSs.nox (pss_cons (ps_set (i := 1) sc__law_small.nd rfl (.inl rfl) (pe_op op_sub (pe_call (ok__law_draw E) (hr.mono (by omega)) (by rfl) E.d__law_draw.g E.d__law_draw.F.kp E.d__law_draw.b .nil pass0 (pa_cons (pv 0) (pa_cons pe_int pa_nil))) pe_int))
      (pss_one (ps_ret (pe_call (ok__law_ratio E) (hr.mono (by omega)) (by rfl) E.d__law_ratio.g E.d__law_ratio.F.kp E.d__law_ratio.b .nil pass0 (pa_cons (pv 1) (pa_cons (pe_ix ix_list (pe_lst (pa_cons pe_int (pa_cons pe_int (pa_cons pe_int (pa_cons pe_int (pa_cons pe_int (pa_cons pe_int (pa_cons pe_int (pa_cons pe_int pa_nil))))))))) (pe_call (ok__law_draw E) (hr.mono (by omega)) (by rfl) E.d__law_draw.g E.d__law_draw.F.kp E.d__law_draw.b .nil pass0 (pa_cons (pv 0) (pa_cons pe_int pa_nil))) (fun _ _ => rfl)) pa_nil)))))), ?_⟩
    refine ⟨_, rfl, s, t, 41, rfl, hT, by omega, by omega, fun x H1 s0 s1 e1 T1 => ?_⟩
    have d1 : Dr s t H H1 := ⟨e1, T1⟩
    refine ⟨_, _, rfl, rfl, ?_⟩
    refine ⟨_, rfl, (by show 8 ≤ sizeLine; decide), fun p1 n1 => ?_⟩
    have d2 := d1.new n1 (.lst ([1, 1, 1, 1, 2, 3, 4, 10].map V.int))
    have nt := d1.tp.nt n1
    refine ⟨_, rfl, s, t, 8, rfl, d2.tp, by omega, by omega, fun y H3 y0 y1 e3 T3 => ?_⟩
    obtain ⟨b, hb, eb⟩ := atI_ints (ns := [1, 1, 1, 1, 2, 3, 4, 10]) (p := inR 1 10) (by decide +kernel) y0 (by show y < 8; omega)
    have b8 := inR_of hb
    exact ⟨_, _, _, _, rfl, rfl, SqL.of (e3.at_ _ _ nt.1 upd_same), eb, x - 20, b, rfl, by omega, by omega, by omega, fun v n d H' sm ok ic => q v n d H' ((d2.go e3 T3).same sm) ok ic⟩
end
end K7
/-! W13 -/
namespace K7
open PySem PySem.Spec PyProof.Rows L2 TL
theorem atI_all {xs : List V} {p : V → Bool} {i : Int} (a : xs.all p = true) (h0 : 0 ≤ i) (h : i < (xs.length : Nat)) : ∃ v, p v = true ∧ atI xs i = some v := by
  obtain ⟨v, hv, e⟩ := atI_get h0 h
  exact ⟨v, List.all_eq_true.mp a v hv, e⟩
theorem ixl_of {K : PySem.W.Frag} {H : Hp} {a : Addr} {xs : List V} {i : Int} {Q : VK} (p : V → Bool) (h : H a = some (.lst xs)) (al : xs.all p = true) (h0 : 0 ≤ i) (h1 : i < (xs.length : Nat)) (q : ∀ v, p v = true → Q v H) : rIxL K (.ref a) (.int i) H Q := by
  obtain ⟨v, pv, e⟩ := atI_all al h0 h1
  exact ⟨a, xs, i, v, rfl, rfl, SqL.of h, e, q v pv⟩
def lowS (z : Str) : Bool := (tl z).all fun c => decide (c < 128)
theorem ixs_of {H : Hp} {z : Str} {i : Int} {Q : VK} (n : Nat) (al : (lowS z && decide (z.cps.toList.length = n) && decide (n ≤ 1000)) = true) (h0 : 0 ≤ i) (h1 : i < (n : Nat)) (q : ∀ c, c < 128 → Q (.str ⟨#[c]⟩) H) : rIxS (.str z) (.int i) H Q := by
  obtain ⟨a1, a2⟩ := Bool.and_eq_true_iff.mp al
  obtain ⟨a3, a4⟩ := Bool.and_eq_true_iff.mp a1
  have e4 : z.cps.toList.length = n := of_decide_eq_true a4
  have e5 := of_decide_eq_true a2
  obtain ⟨c, hc, e⟩ := atI_get (xs := z.cps.toList) h0 (by omega)
  have lc : z.length ≤ sizeLine := small (by rw [show z.length = z.cps.toList.length by rw [Array.length_toList] <;> rfl]; omega)
  exact ⟨z, i, c, rfl, rfl, lc, e, q c (asc_lit a3 c hc)⟩
theorem asc_one {c : Nat} (h : c < 128) : Asc ⟨#[c]⟩ := fun d hd => by
  have e : d = c := by
    have z : d ∈ [c] := hd
    simpa using z
  rw [e]
  exact h
theorem cut_hi (z : Str) {h : Int} (h0 : 0 ≤ h) : (cutS z none (some h)).length ≤ h.toNat := by
  show (((z.cps.toList.drop (HT.sIx z.length 0 none)).take (HT.sIx z.length z.length (some h) - HT.sIx z.length 0 none)).toArray).size ≤ h.toNat
  rw [List.size_toArray, List.length_take]
  obtain ⟨n, rfl⟩ : ∃ n : Nat, h = (n : Int) := ⟨h.toNat, by omega⟩
  rw [HT.sIx_nat, HT.sIx_none]
  omega
theorem cut_lo (z : Str) {l : Int} (h0 : 0 ≤ l) (h1 : l ≤ (z.length : Nat)) : (cutS z (some l) none).length = z.length - l.toNat := by
  show (((z.cps.toList.drop (HT.sIx z.length 0 (some l))).take (HT.sIx z.length z.length none - HT.sIx z.length 0 (some l))).toArray).size = z.length - l.toNat
  rw [List.size_toArray, List.length_take, List.length_drop, Array.length_toList]
  obtain ⟨n, rfl⟩ : ∃ n : Nat, l = (n : Int) := ⟨l.toNat, by omega⟩
  rw [HT.sIx_nat, HT.sIx_none]
  show min (z.length - min n z.length) (z.length - min n z.length) = _
  have e : (n : Int).toNat = n := rfl
  rw [e]
  omega
section
variable {P : Program} {w : World} {K : PySem.W.Frag} {mg : Str → Option Value} {base : Heap}
def spSign : Sp := fun vs H Q _ => ∃ (s t : Addr), vs = [.ref t] ∧ Tape H s t ∧ ∀ c H', Dr s t H H' → c < 128 → Q (.str ⟨#[c]⟩) H'
abbrev N__law_sign : List Str := ["_law_tape_here", "_law_signs"]
theorem sc__law_sign : FnScope N__law_sign ["_law_tape_here"] (defScope (topS 45)) := ⟨rfl, rfl, rfl, by decide +kernel, rfl, by decide +kernel, by decide +kernel⟩
theorem ok__law_sign (E : Ev K w mg) : FnOk P w K mg base CX0 2 E.d__law_sign.f E.d__law_sign.fd ["_law_tape_here"] spSign := by
  refine E.d__law_sign.F.ok sc__law_sign (fun vs H Q X h => ?_) (fun cdv A outer s H vs Q X hr h => ?_)
  · obtain ⟨s, t, rfl, _⟩ := h
    rfl
  · obtain ⟨s, t, rfl, hT, q⟩ := h
    refine ⟨_, PSs.nox (pss_cons (ps_set (i := 1) sc__law_sign.nd rfl (.inl rfl) pe_str)
      (pss_one (ps_ret (pe_ix ix_str (pv 1) (pe_call (ok__law_draw E) (hr.mono (by omega)) (by rfl) E.d__law_draw.g E.d__law_draw.F.kp E.d__law_draw.b .nil pass0 (pa_cons (pv 0) (pa_cons pe_int pa_nil))) (fun _ _ => rfl))))), ?_⟩
    refine ⟨_, rfl, _, rfl, s, t, 94, rfl, hT, by omega, by omega, fun x H1 s0 s1 e1 T1 => ?_⟩
    exact ixs_of 94 (by decide +kernel) s0 s1 fun c hc => q c H1 ⟨e1, T1⟩ hc
def shortT : V → Bool
  | .str x => decide (x.length ≤ 40) && lowS x
  | _ => false
def spTxt : Sp := fun vs H Q _ => ∃ (s t : Addr), vs = [.ref t, .int 40] ∧ Tape H s t ∧ ∀ x H', Dr s t H H' → x.length ≤ 40 → Asc x → Q (.str x) H'
abbrev N__law_text : List Str := ["_law_tape_here", "_law_longest", "_law_choice", "_law_words", "_law_stem", "_law_place", "_law_text_here", "_law_k"]
theorem sc__law_text : FnScope N__law_text ["_law_tape_here", "_law_longest"] (defScope (topS 46)) := ⟨rfl, rfl, rfl, by decide +kernel, rfl, by decide +kernel, by decide +kernel⟩
theorem ok__law_text (E : Ev K w mg) : FnOk P w K mg base CX0 3 E.d__law_text.f E.d__law_text.fd ["_law_tape_here", "_law_longest"] spTxt := by
  refine E.d__law_text.F.ok sc__law_text (fun vs H Q X h => ?_) (fun cdv A outer s H vs Q X hr h => ?_)
  · obtain ⟨s, t, rfl, _⟩ := h
    rfl
  · obtain ⟨s, t, rfl, hT, q⟩ := h
    refine ⟨_, PSs.nox (pss_cons (ps_set (i := 2) sc__law_text.nd rfl (.inl rfl) (pe_call (ok__law_draw E) (hr.mono (by omega)) (by rfl) E.d__law_draw.g E.d__law_draw.F.kp E.d__law_draw.b .nil pass0 (pa_cons (pv 0) (pa_cons pe_int pa_nil))))
      (pss_cons (ps_if (pt_cmpR op_eq (pv 2) pe_int (nomark _)) (pss_cons (ps_set (i := 3) sc__law_text.nd rfl (.inl rfl) (pe_lst (pa_cons pe_str (pa_cons pe_str (pa_cons pe_str (pa_cons pe_str (pa_cons pe_str (pa_cons pe_str (pa_cons pe_str (pa_cons pe_str (pa_cons pe_str (pa_cons pe_str (pa_cons pe_str (pa_cons pe_str (pa_cons pe_str (pa_cons pe_str pa_nil))))))))))))))))
        (pss_one (ps_ret (pe_ix ix_list (pv 3) (pe_call (ok__law_draw E) (hr.mono (by omega)) (by rfl) E.d__law_draw.g E.d__law_draw.F.kp E.d__law_draw.b .nil pass0 (pa_cons (pv 0) (pa_cons pe_int pa_nil))) (fun _ _ => rfl))))) pss_nil)
      (pss_cons (ps_if (pt_cmpR op_eq (pv 2) pe_int (nomark _)) (pss_cons (ps_set (i := 4) sc__law_text.nd rfl (.inl rfl) (pe_slice sl_str pe_str po_none (po_some (pe_op op_sub (pv 1) pe_int))))
        (pss_cons (ps_set (i := 5) sc__law_text.nd rfl (.inl rfl) (pe_call (ok__law_draw E) (hr.mono (by omega)) (by rfl) E.d__law_draw.g E.d__law_draw.F.kp E.d__law_draw.b .nil pass0 (pa_cons (pv 0) (pa_cons (pe_op op_add (pe_callB call_len (by rfl) E.n_len (by decide +kernel) (pa_cons (pv 4) pa_nil)) pe_int) pa_nil))))
        (pss_one (ps_ret (pe_op op_add_str (pe_op op_add_str (pe_slice sl_str (pv 4) po_none (po_some (pv 5))) (pe_call (ok__law_sign E) (hr.mono (by omega)) (by rfl) E.d__law_sign.g E.d__law_sign.F.kp E.d__law_sign.b .nil pass0 (pa_cons (pv 0) pa_nil))) (pe_slice sl_str (pe_slice sl_str (pv 4) (po_some (pv 5)) po_none) po_none (po_some (pe_call (ok__law_draw E) (hr.mono (by omega)) (by rfl) E.d__law_draw.g E.d__law_draw.F.kp E.d__law_draw.b .nil pass0 (pa_cons (pv 0) (pa_cons pe_int pa_nil)))))))))) pss_nil)
      (pss_cons (ps_set (i := 6) sc__law_text.nd rfl (.inl rfl) pe_str)
      (pss_cons (ps_for PassesOwn.never rfl (pi_range1 rfl E.n_range (pa_cons (pe_callB (call_min2 rfl) (by rfl) E.n_min (by decide +kernel) (pa_cons (pv 1) (pa_cons (pe_ix ix_list (pe_lst (pa_cons pe_int (pa_cons pe_int (pa_cons pe_int (pa_cons pe_int (pa_cons pe_int (pa_cons pe_int (pa_cons (pv 1) pa_nil)))))))) (pe_call (ok__law_draw E) (hr.mono (by omega)) (by rfl) E.d__law_draw.g E.d__law_draw.F.kp E.d__law_draw.b .nil pass0 (pa_cons (pv 0) (pa_cons pe_int pa_nil))) (fun _ _ => rfl)) pa_nil))) pa_nil)) (pg_name (i := 7) sc__law_text.nd rfl (.inl rfl))
        (pss_one (ps_set (i := 6) sc__law_text.nd rfl (.inl rfl) (pe_op op_add_str (pv 6) (pe_call (ok__law_sign E) (hr.mono (by omega)) (by rfl) E.d__law_sign.g E.d__law_sign.F.kp E.d__law_sign.b .nil pass0 (pa_cons (pv 0) pa_nil))))))
      (pss_one (ps_ret (pv 6)))))))), ?_⟩
    refine ⟨_, rfl, s, t, 6, rfl, hT, by omega, by omega, fun ch H1 s0 s1 e1 T1 => ?_⟩
    have d1 : Dr s t H H1 := ⟨e1, T1⟩
    refine ⟨_, rfl, rfl, _, rfl, ite2 (fun c => ?_) (fun c => ?_)⟩
    · refine ⟨(by show 14 ≤ sizeLine; decide), fun p1 n1 => ?_⟩
      have nt := d1.tp.nt n1
      refine ⟨_, rfl, _, rfl, s, t, 14, rfl, (d1.new n1 _).tp, by omega, by omega, fun x H2 x0 x1 e2 T2 => ?_⟩
      refine ixl_of shortT (e2.at_ _ _ nt.1 upd_same) (by decide +kernel) x0 x1 fun v pv => ?_
      cases v with
      | str z =>
        obtain ⟨a, b⟩ := Bool.and_eq_true_iff.mp (show (decide (z.length ≤ 40) && lowS z) = true from pv)
        exact q z H2 ((d1.new n1 _).go e2 T2) (of_decide_eq_true a) (asc_lit b)
      | _ => cases pv
    refine ⟨_, rfl, rfl, _, rfl, ite2 (fun k => ?_) (fun k => ?_)⟩
    · refine ⟨_, rfl, _, _, rfl, rfl, _, rfl, _, rfl, small (by decide +kernel), ?_⟩
      generalize hst : cutS _ none (some _) = st
      have l1 : st.length ≤ 38 := by
        rw [← hst]
        exact cut_hi _ (h := 38) (by omega)
      have a1 : Asc st := by
        rw [← hst]
        exact asc_cut (asc_lit (by decide +kernel)) _ _
      refine ⟨_, rfl, _, rfl, _, _, rfl, ⟨small (by omega), rfl⟩, _, _, rfl, rfl, s, t, _, rfl, T1, by omega, by omega, fun pl H2 x0 x1 e2 T2 => ?_⟩
      have d2 := d1.go e2 T2
      refine ⟨_, rfl, _, rfl, _, rfl, _, rfl, small (by omega), ?_⟩
      have l2 := cut_hi st (h := pl) x0
      have a2 := asc_cut a1 none (some pl)
      generalize cutS st none (some pl) = y at l2 a2 ⊢
      refine ⟨_, rfl, s, t, rfl, T2, fun c H3 d3 c3 => ?_⟩
      have lc : (⟨#[c]⟩ : Str).length = 1 := rfl
      refine ⟨_, _, rfl, rfl, small (by rw [lc]; omega), _, rfl, _, rfl, _, rfl, _, rfl, small (by omega), ?_⟩
      have l3 := cut_lo st (l := pl) x0 (by omega)
      have a3 := asc_cut a1 (some pl) none
      generalize cutS st (some pl) none = z at l3 a3 ⊢
      refine ⟨_, rfl, s, t, 40, rfl, d3.tp, by omega, by omega, fun r H4 r0 r1 e4 T4 => ?_⟩
      refine ⟨_, rfl, _, rfl, small (by omega), ?_⟩
      have l4 := cutS_length z none (some r)
      have a4 := asc_cut a3 none (some r)
      generalize cutS z none (some r) = u at l4 a4 ⊢
      refine ⟨_, _, rfl, rfl, small (by rw [Str.length_append, lc]; omega), q _ H4 ((d2.trans d3).go e4 T4) ?_ (asc_app (asc_app a2 (asc_one c3)) a4)⟩
      rw [Str.length_append, Str.length_append, lc]
      omega
    · refine ⟨_, rfl, _, rfl, (by show 7 ≤ sizeLine; decide), fun p1 n1 => ?_⟩
      have nt := d1.tp.nt n1
      have d2 := d1.new n1 (.lst ([1, 1, 2, 3, 5, 9, 40].map V.int))
      refine ⟨_, rfl, s, t, 7, rfl, d2.tp, by omega, by omega, fun x H2 x0 x1 e2 T2 => ?_⟩
      obtain ⟨m, hm, em⟩ := atI_ints (ns := [1, 1, 2, 3, 5, 9, 40]) (p := inR 1 40) (by decide +kernel) x0 (by show x < 7; omega)
      have m8 := inR_of hm
      have d3 := d2.go e2 T2
      refine ⟨_, _, _, _, rfl, rfl, SqL.of (e2.at_ _ _ nt.1 upd_same), em, 40, m, rfl, ?_⟩
      refine ⟨_, rfl, by split <;> omega, by split <;> omega, for_range (n := (if m < 40 then m else 40).toNat) (fun i σ G => ∃ x z, σ = [some (.ref t), some (.int 40), some (.int ch), none, none, none, some (.str x), z] ∧ Dr s t H G ∧ x.length ≤ i ∧ Asc x) ⟨_, _, rfl, d3, Nat.le_refl _, asc_lit (by decide +kernel)⟩ (fun i σ G hi hw => ?_) (fun σ G hw => ?_)⟩
      · obtain ⟨x, z, rfl, d4, lx, ax⟩ := hw
        refine ⟨_, rfl, _, rfl, s, t, rfl, d4.tp, fun c H3 d5 c3 => ?_⟩
        have lc : (⟨#[c]⟩ : Str).length = 1 := rfl
        refine ⟨_, _, rfl, rfl, small ?_, _, _, rfl, d4.trans d5, ?_, asc_app ax (asc_one c3)⟩
        · rw [lc]
          split at hi <;> omega
        · rw [Str.length_append, lc]
          omega
      · obtain ⟨x, z, rfl, d4, lx, ax⟩ := hw
        exact ⟨_, rfl, q x G d4 (by split at lx <;> omega) ax⟩
def spName : Sp := fun vs H Q _ => ∃ (s t : Addr), vs = [.ref t] ∧ Tape H s t ∧ ∀ x H', Dr s t H H' → Q (.str x) H'
def shortN : V → Bool
  | .str x => decide (x.length ≤ 10)
  | _ => false
abbrev N__law_name : List Str := ["_law_tape_here", "_law_letters", "_law_name_here", "_law_k"]
theorem sc__law_name : FnScope N__law_name ["_law_tape_here"] (defScope (topS 47)) := ⟨rfl, rfl, rfl, by decide +kernel, rfl, by decide +kernel, by decide +kernel⟩
theorem ok__law_name (E : Ev K w mg) : FnOk P w K mg base CX0 2 E.d__law_name.f E.d__law_name.fd ["_law_tape_here"] spName := by
  refine E.d__law_name.F.ok sc__law_name (fun vs H Q X h => ?_) (fun cdv A outer s H vs Q X hr h => ?_)
  · obtain ⟨s, t, rfl, _⟩ := h
    rfl
  · obtain ⟨s, t, rfl, hT, q⟩ := h
    refine ⟨_, PSs.nox (pss_cons (ps_set (i := 1) sc__law_name.nd rfl (.inl rfl) pe_str)
      (pss_cons (ps_set (i := 2) sc__law_name.nd rfl (.inl rfl) (pe_op op_add_str (pe_ix ix_list (pe_lst (pa_cons pe_str (pa_cons pe_str (pa_cons pe_str (pa_cons pe_str pa_nil))))) (pe_call (ok__law_draw E) (hr.mono (by omega)) (by rfl) E.d__law_draw.g E.d__law_draw.F.kp E.d__law_draw.b .nil pass0 (pa_cons (pv 0) (pa_cons pe_int pa_nil))) (fun _ _ => rfl)) (pe_ix ix_str (pv 1) (pe_call (ok__law_draw E) (hr.mono (by omega)) (by rfl) E.d__law_draw.g E.d__law_draw.F.kp E.d__law_draw.b .nil pass0 (pa_cons (pv 0) (pa_cons pe_int pa_nil))) (fun _ _ => rfl))))
      (pss_cons (ps_for PassesOwn.never rfl (pi_range1 rfl E.n_range (pa_cons (pe_ix ix_list (pe_lst (pa_cons pe_int (pa_cons pe_int (pa_cons pe_int (pa_cons pe_int pa_nil))))) (pe_call (ok__law_draw E) (hr.mono (by omega)) (by rfl) E.d__law_draw.g E.d__law_draw.F.kp E.d__law_draw.b .nil pass0 (pa_cons (pv 0) (pa_cons pe_int pa_nil))) (fun _ _ => rfl)) pa_nil)) (pg_name (i := 3) sc__law_name.nd rfl (.inl rfl))
        (pss_one (ps_set (i := 2) sc__law_name.nd rfl (.inl rfl) (pe_op op_add_str (pv 2) (pe_ix ix_str (pv 1) (pe_call (ok__law_draw E) (hr.mono (by omega)) (by rfl) E.d__law_draw.g E.d__law_draw.F.kp E.d__law_draw.b .nil pass0 (pa_cons (pv 0) (pa_cons pe_int pa_nil))) (fun _ _ => rfl))))))
      (pss_one (ps_ret (pv 2)))))), ?_⟩
    refine ⟨(by show 4 ≤ sizeLine; decide), fun p1 n1 => ?_⟩
    have d0 := Dr.zero hT
    have nt := d0.tp.nt n1
    refine ⟨_, rfl, s, t, 4, rfl, (d0.new n1 _).tp, by omega, by omega, fun x H2 x0 x1 e2 T2 => ?_⟩
    have d2 := (d0.new n1 _).go e2 T2
    refine ixl_of shortN (e2.at_ _ _ nt.1 upd_same) (by decide +kernel) x0 x1 fun v pv => ?_
    cases v with
    | str z =>
      have lz : z.length ≤ 10 := of_decide_eq_true (show decide (z.length ≤ 10) = true from pv)
      refine ⟨_, rfl, _, rfl, s, t, 52, rfl, T2, by omega, by omega, fun y H3 y0 y1 e3 T3 => ?_⟩
      have d3 := d2.go e3 T3
      refine ixs_of 63 (by decide +kernel) y0 (by omega) fun c hc => ?_
      have lc : (⟨#[c]⟩ : Str).length = 1 := rfl
      refine ⟨_, _, rfl, rfl, small (by rw [lc]; omega), ?_⟩
      refine ⟨(by show 4 ≤ sizeLine; decide), fun p4 n4 => ?_⟩
      have nt4 := d3.tp.nt n4
      have d4 := d3.new n4 (.lst ([0, 0, 1, 3].map V.int))
      refine ⟨_, rfl, s, t, 4, rfl, d4.tp, by omega, by omega, fun x H5 x0 x1 e5 T5 => ?_⟩
      obtain ⟨m, hm, em⟩ := atI_ints (ns := [0, 0, 1, 3]) (p := inR 0 3) (by decide +kernel) x0 (by show x < 4; omega)
      have m8 := inR_of hm
      have d5 := d4.go e5 T5
      refine ⟨_, _, _, _, rfl, rfl, SqL.of (e5.at_ _ _ nt4.1 upd_same), em, ?_⟩
      refine ⟨_, rfl, by omega, by omega, for_range (n := m.toNat) (fun i σ G => ∃ (x ls : Str) (z : Option V), σ = [some (.ref t), some (.str ls), some (.str x), z] ∧ (lowS ls && decide (ls.cps.toList.length = 63) && decide (63 ≤ 1000)) = true ∧ Dr s t H G ∧ x.length ≤ 11 + i) ⟨_, _, _, rfl, by decide +kernel, d5, by rw [Str.length_append, lc]; omega⟩ (fun i σ G hi hw => ?_) (fun σ G hw => ?_)⟩
      · obtain ⟨x, ls, z, rfl, al, d6, lx⟩ := hw
        refine ⟨_, rfl, _, rfl, _, rfl, s, t, 63, rfl, d6.tp, by omega, by omega, fun y H7 y0 y1 e7 T7 => ?_⟩
        refine ixs_of 63 al y0 y1 fun c hc => ?_
        have lc : (⟨#[c]⟩ : Str).length = 1 := rfl
        refine ⟨_, _, rfl, rfl, small ?_, _, _, _, rfl, al, d6.go e7 T7, ?_⟩
        · rw [lc]
          omega
        · rw [Str.length_append, lc]
          omega
      · obtain ⟨x, ls, z, rfl, al, d6, lx⟩ := hw
        exact ⟨_, rfl, q x G d6⟩
    | _ => cases pv
/-- a cell of a kind -/
def spFull (K : PySem.W.Frag) : Sp := fun vs H Q _ => ∃ (s t : Addr) (k : Kd), vs = [.ref t, .str k.s] ∧ Tape H s t ∧ ∀ v c H', Dr s t H H' → c.Ok → c.kind = some k → IsCell K H' v c → Q v H'
abbrev N__law_full : List Str := ["_law_tape_here", "_law_kind_here"]
theorem sc__law_full : FnScope N__law_full ["_law_tape_here", "_law_kind_here"] (defScope (topS 48)) := ⟨rfl, rfl, rfl, by decide +kernel, rfl, by decide +kernel, by decide +kernel⟩
theorem ok__law_full (E : Ev K w mg) : FnOk P w K mg base CX0 4 E.d__law_full.f E.d__law_full.fd ["_law_tape_here", "_law_kind_here"] (spFull K) := by
  refine E.d__law_full.F.ok sc__law_full (fun vs H Q X h => ?_) (fun cdv A outer s H vs Q X hr h => ?_)
  · obtain ⟨s, t, k, rfl, _⟩ := h
    rfl
  · obtain ⟨s, t, k, rfl, hT, q⟩ := h
    refine ⟨_, PSs.nox (pss_cons (ps_if (pt_cmpR op_eq (pv 1) pe_str (nomark _)) (pss_one (ps_ret (pe_cmpR op_eq (pe_call (ok__law_draw E) (hr.mono (by omega)) (by rfl) E.d__law_draw.g E.d__law_draw.F.kp E.d__law_draw.b .nil pass0 (pa_cons (pv 0) (pa_cons pe_int pa_nil))) pe_int (nomark _)))) pss_nil)
      (pss_cons (ps_if (pt_cmpR op_eq (pv 1) pe_str (nomark _)) (pss_one (ps_ret (pe_call (ok__law_text E) (hr.mono (by omega)) (by rfl) E.d__law_text.g E.d__law_text.F.kp E.d__law_text.b .nil pass0 (pa_cons (pv 0) (pa_cons pe_int pa_nil))))) pss_nil)
      (pss_cons (ps_if (pt_cmpR op_eq (pe_call (ok__law_draw E) (hr.mono (by omega)) (by rfl) E.d__law_draw.g E.d__law_draw.F.kp E.d__law_draw.b .nil pass0 (pa_cons (pv 0) (pa_cons pe_int pa_nil))) pe_int (nomark _)) (pss_one (ps_ret (pe_call (ok__law_small E) (hr.mono (by omega)) (by rfl) E.d__law_small.g E.d__law_small.F.kp E.d__law_small.b .nil pass0 (pa_cons (pv 0) pa_nil)))) pss_nil)
      (pss_one (ps_ret (pe_call (ok__law_number E) (hr.mono (by omega)) (by rfl) E.d__law_number.g E.d__law_number.F.kp E.d__law_number.b .nil pass0 (pa_cons (pv 0) pa_nil))))))), ?_⟩
    cases k with
    | boo =>
      refine ⟨_, rfl, rfl, _, rfl, ifT (by decide +kernel) ?_⟩
      exact ⟨_, rfl, s, t, 2, rfl, hT, by omega, by omega, fun x H1 x0 x1 e1 T1 => ⟨rfl, q _ (.bl (decide (V.int x = .int 0))) H1 ⟨e1, T1⟩ trivial rfl rfl⟩⟩
    | txt =>
      refine ⟨_, rfl, rfl, _, rfl, ifF (by decide +kernel) ?_⟩
      refine ⟨_, rfl, rfl, _, rfl, ifT (by decide +kernel) ?_⟩
      exact ⟨_, rfl, s, t, rfl, hT, fun x H1 d1 l1 a1 => q _ (.txt x) H1 d1 ⟨l1, a1⟩ rfl rfl⟩
    | num =>
      refine ⟨_, rfl, rfl, _, rfl, ifF (by decide +kernel) ?_⟩
      refine ⟨_, rfl, rfl, _, rfl, ifF (by decide +kernel) ?_⟩
      refine ⟨_, rfl, s, t, 2, rfl, hT, by omega, by omega, fun x H1 x0 x1 e1 T1 => ⟨rfl, _, rfl, ite2 (fun _ => ?_) (fun _ => ?_)⟩⟩
      · exact ⟨_, rfl, s, t, rfl, T1, fun v n d H2 d2 ok ic => q v (.num n d) H2 ((Dr.zero hT).go e1 T1 |>.trans d2) ok rfl ic⟩
      · exact ⟨_, rfl, s, t, rfl, T1, fun v n d H2 d2 ok ic => q v (.num n d) H2 ((Dr.zero hT).go e1 T1 |>.trans d2) ok rfl ic⟩
def spCell (K : PySem.W.Frag) : Sp := fun vs H Q _ => ∃ (s t : Addr) (k : Kd), vs = [.ref t, .str k.s] ∧ Tape H s t ∧ ∀ v c H', Dr s t H H' → Fits c k → IsCell K H' v c → Q v H'
abbrev N__law_cell : List Str := ["_law_tape_here", "_law_kind_here"]
theorem sc__law_cell : FnScope N__law_cell ["_law_tape_here", "_law_kind_here"] (defScope (topS 49)) := ⟨rfl, rfl, rfl, by decide +kernel, rfl, by decide +kernel, by decide +kernel⟩
theorem ok__law_cell (E : Ev K w mg) : FnOk P w K mg base CX0 5 E.d__law_cell.f E.d__law_cell.fd ["_law_tape_here", "_law_kind_here"] (spCell K) := by
  refine E.d__law_cell.F.ok sc__law_cell (fun vs H Q X h => ?_) (fun cdv A outer s H vs Q X hr h => ?_)
  · obtain ⟨s, t, k, rfl, _⟩ := h
    rfl
  · obtain ⟨s, t, k, rfl, hT, q⟩ := h
    refine ⟨_, PSs.nox (pss_cons (ps_if (pt_cmpR op_eq (pe_call (ok__law_draw E) (hr.mono (by omega)) (by rfl) E.d__law_draw.g E.d__law_draw.F.kp E.d__law_draw.b .nil pass0 (pa_cons (pv 0) (pa_cons pe_int pa_nil))) pe_int (nomark _)) (pss_one (ps_ret pe_non)) pss_nil)
      (pss_one (ps_ret (pe_call (ok__law_full E) (hr.mono (by omega)) (by rfl) E.d__law_full.g E.d__law_full.F.kp E.d__law_full.b .nil pass0 (pa_cons (pv 0) (pa_cons (pv 1) pa_nil)))))), ?_⟩
    refine ⟨_, rfl, s, t, 6, rfl, hT, by omega, by omega, fun x H1 x0 x1 e1 T1 => ⟨rfl, _, rfl, ite2 (fun _ => ?_) (fun _ => ?_)⟩⟩
    · exact q _ .non H1 ⟨e1, T1⟩ (fits_non k) rfl
    · exact ⟨_, rfl, _, rfl, s, t, k, rfl, T1, fun v c H2 d2 ok ck ic => q v c H2 ((Dr.zero hT).go e1 T1 |>.trans d2) ⟨ok, .inr ck⟩ ic⟩
def kdOf : V → Bool
  | .str x => decide (x = "number" ∨ x = "text" ∨ x = "boolean")
  | _ => false
theorem kdOf_s {v : V} (h : kdOf v = true) : ∃ k : Kd, v = .str k.s := by
  cases v with
  | str x =>
    rcases of_decide_eq_true (show decide (x = "number" ∨ x = "text" ∨ x = "boolean") = true from h) with rfl | rfl | rfl
    · exact ⟨.num, rfl⟩
    · exact ⟨.txt, rfl⟩
    · exact ⟨.boo, rfl⟩
  | _ => cases h
def spKd : Sp := fun vs H Q _ => ∃ (s t : Addr), vs = [.ref t] ∧ Tape H s t ∧ ∀ (k : Kd) H', Dr s t H H' → Q (.str k.s) H'
abbrev N__law_kind_drawn : List Str := ["_law_tape_here"]
theorem sc__law_kind_drawn : FnScope N__law_kind_drawn ["_law_tape_here"] (defScope (topS 50)) := ⟨rfl, rfl, rfl, by decide +kernel, rfl, by decide +kernel, by decide +kernel⟩
theorem ok__law_kind_drawn (E : Ev K w mg) : FnOk P w K mg base CX0 2 E.d__law_kind_drawn.f E.d__law_kind_drawn.fd ["_law_tape_here"] spKd := by
  refine E.d__law_kind_drawn.F.ok sc__law_kind_drawn (fun vs H Q X h => ?_) (fun cdv A outer s H vs Q X hr h => ?_)
  · obtain ⟨s, t, rfl, _⟩ := h
    rfl
  · obtain ⟨s, t, rfl, hT, q⟩ := h
    refine ⟨_, PSs.nox (pss_one (ps_ret (pe_ix ix_list (pe_lst (pa_cons pe_str (pa_cons pe_str (pa_cons pe_str pa_nil)))) (pe_call (ok__law_draw E) (hr.mono (by omega)) (by rfl) E.d__law_draw.g E.d__law_draw.F.kp E.d__law_draw.b .nil pass0 (pa_cons (pv 0) (pa_cons pe_int pa_nil))) (fun _ _ => rfl)))), ?_⟩
    refine ⟨(by show 3 ≤ sizeLine; decide), fun p1 n1 => ?_⟩
    have d0 := Dr.zero hT
    have nt := d0.tp.nt n1
    refine ⟨_, rfl, s, t, 3, rfl, (d0.new n1 _).tp, by omega, by omega, fun x H2 x0 x1 e2 T2 => ?_⟩
    refine ixl_of kdOf (e2.at_ _ _ nt.1 upd_same) (by decide +kernel) x0 x1 fun v pv => ?_
    obtain ⟨k, rfl⟩ := kdOf_s pv
    exact q k H2 ((d0.new n1 _).go e2 T2)
end
end K7
/-! W14 -/
namespace K7
open PySem PySem.Spec PyProof.Rows L2 TL
theorem Dr.own {s t D : Addr} {H G : Hp} {ys : List V} (d : Dr s t H G) (n : H D = none) (ht : D ≠ t ∧ D ≠ s) (h : G D = some (.lst ys)) (o : HO) : Dr s t H (upd G D o) :=
  ⟨⟨fun b u nb q => by rw [upd_ne (ne_of_none q n)]; exact d.ex.at_ b u nb q, d.ex.kp.trans (keep_lst h)⟩, d.tp.upd ht o⟩
theorem Dr.kp {s t : Addr} {H G : Hp} (d : Dr s t H G) : Keep H G := d.ex.kp
/-- the mapping turn over the tape -/
theorem MapInv.stepT {s t D : Addr} {R : Nat → V → Hp → Prop} {H0 H H' : Hp} {i : Nat} {y : V} (h : MapInv (· = t) (fun G => Tape G s t) R D H0 i H) (e : Dr s t H H') (r : R i y H') (hD : D ≠ t ∧ D ≠ s) (hi : i < 1000)
    (hR : ∀ j z G G', R j z G → Keep G G' → R j z G') : ∃ acc, H' D = some (.lst acc) ∧ acc.length < sizeLine ∧ MapInv (· = t) (fun G => Tape G s t) R D H0 (i + 1) (upd H' D (.lst (acc ++ [y]))) :=
  h.step e.ex e.tp r hD.1 hi (fun j z G G' q x => hR j z G G' q x.kp) fun G ys o _ q => q.upd hD o
theorem MapInv.dr {s t D : Addr} {R : Nat → V → Hp → Prop} {H H' : Hp} {i : Nat} (h : MapInv (· = t) (fun G => Tape G s t) R D (upd H D (.lst [])) i H') (n : H D = none) : Dr s t H H' := ⟨h.fr n, h.p⟩
theorem choose_list {α : Type} {R : Nat → V → α → Prop} : ∀ {ys : List V} {i : Nat}, (∀ j y, ys[j]? = some y → ∃ c, R (i + j) y c) → ∃ cs : List α, cs.length = ys.length ∧ ∀ j y c, ys[j]? = some y → cs[j]? = some c → R (i + j) y c
  | [], i, h => ⟨[], rfl, fun j y c h => by simp at h⟩
  | y :: ys, i, h => by
    obtain ⟨c, hc⟩ := h 0 y rfl
    obtain ⟨cs, h1, h2⟩ := choose_list (R := R) (ys := ys) (i := i + 1) fun j z hz => by
      have q := h (j + 1) z (by simpa using hz)
      rw [show i + (j + 1) = i + 1 + j by omega] at q
      exact q
    refine ⟨c :: cs, by simp [h1], fun j z d hz hd => ?_⟩
    cases j with
    | zero =>
      have e1 : y = z := Option.some.inj hz
      have e2 : c = d := Option.some.inj hd
      rw [← e1, ← e2]
      exact hc
    | succ j =>
      have q := h2 j z d (by simpa using hz) (by simpa using hd)
      rw [show i + (j + 1) = i + 1 + j by omega]
      exact q
theorem inV_strs (x : Str) (l : List Str) : inV (.str x) (l.map V.str) = decide (x ∈ l) := by
  induction l with
  | nil => rfl
  | cons y l ih =>
    show (eqV (.str y) (.str x) || inV (.str x) (l.map V.str)) = _
    rw [ih, eqv_str]
    by_cases e : y = x
    · subst e
      simp
    · rw [decide_eq_false e, Bool.false_or]
      simp [Ne.symm e]
theorem flat_strL (l : List Str) : (l.map V.str).all flatV = true := flat_strs id l |> fun h => by simpa using h
section
variable {P : Program} {w : World} {K : PySem.W.Frag} {mg : Str → Option Value} {base : Heap}
def spColumns (K : PySem.W.Frag) : Sp := fun vs H Q _ => ∃ (s t : Addr), vs = [.ref t, .int 6] ∧ Tape H s t ∧ ∀ ca (cols : Cols) H', Dr s t H H' → IsCols K H' ca cols → (cols.map (·.1)).Nodup → Q (.ref ca) H'
abbrev N__law_columns : List Str := ["_law_tape_here", "_law_most", "_law_columns_here", "_law_k", "_law_name_here", "_law_kind_here", "_law_column"]
theorem sc__law_columns : FnScope N__law_columns ["_law_tape_here", "_law_most"] (defScope (topS 52)) := ⟨rfl, rfl, rfl, by decide +kernel, rfl, by decide +kernel, by decide +kernel⟩
theorem ok__law_columns (E : Ev K w mg) : FnOk P w K mg base CX0 3 E.d__law_columns.f E.d__law_columns.fd ["_law_tape_here", "_law_most"] (spColumns K) := by
  refine E.d__law_columns.F.ok sc__law_columns (fun vs H Q X h => ?_) (fun cdv A outer s H vs Q X hr h => ?_)
  · obtain ⟨s, t, rfl, _⟩ := h
    rfl
  · obtain ⟨s, t, rfl, hT, q⟩ := h
    refine ⟨_, PSs.nox (pss_cons (ps_set (i := 2) sc__law_columns.nd rfl (.inl rfl) (pe_lst pa_nil))
      (pss_cons (ps_for PassesOwn.never rfl (pi_range1 rfl E.n_range (pa_cons (pe_op op_add pe_int (pe_call (ok__law_draw E) (hr.mono (by omega)) (by rfl) E.d__law_draw.g E.d__law_draw.F.kp E.d__law_draw.b .nil pass0 (pa_cons (pv 0) (pa_cons (pv 1) pa_nil)))) pa_nil)) (pg_name (i := 3) sc__law_columns.nd rfl (.inl rfl))
        (pss_cons (ps_set (i := 4) sc__law_columns.nd rfl (.inl rfl) (pe_call (ok__law_name E) (hr.mono (by omega)) (by rfl) E.d__law_name.g E.d__law_name.F.kp E.d__law_name.b .nil pass0 (pa_cons (pv 0) pa_nil)))
          (pss_cons (ps_set (i := 5) sc__law_columns.nd rfl (.inl rfl) (pe_ix ix_list (pe_lst (pa_cons pe_str (pa_cons pe_str (pa_cons pe_str (pa_cons pe_str pa_nil))))) (pe_call (ok__law_draw E) (hr.mono (by omega)) (by rfl) E.d__law_draw.g E.d__law_draw.F.kp E.d__law_draw.b .nil pass0 (pa_cons (pv 0) (pa_cons pe_int pa_nil))) (fun _ _ => rfl)))
          (pss_one (ps_if (pt_cmpR op_notIn_seq (pv 4) (pe_lc (own := [("_law_column", 6)]) (g := gName 6) rfl sc__law_columns.nd (pi_list (pv 2)) (blkOk_by (own := [("_law_column", 6)]) (N := N__law_columns) (sc := defScope (topS 52)) (by decide +kernel)) (fun _ _ _ _ _ => pg_name (i := 6) sc__law_columns.nd rfl (Or.inl rfl)) (fun _ _ _ _ _ => pts_nil) (fun _ _ _ _ _ => (pe_ix (show IxR _ (rIxT K) from ix_tup) (pv 6) pe_int (fun _ _ => rfl)))) (by rfl)) (pss_one (ps_expr (pe_bm PySem.F.plainAttrs_list PySem.F.slot_list_append PySem.F.type_list_append mt_append (pv 2) (pa_cons (pe_tup (pa_cons (pv 4) (pa_cons (pv 5) pa_nil))) pa_nil)))) pss_nil)))))
      (pss_one (ps_ret (pe_callTy call_tuple_of (by rfl) E.n_tuple (by decide +kernel) (pa_cons (pv 2) pa_nil)))))), ?_⟩
    refine ⟨(by show 0 ≤ sizeLine; decide), fun D nD => ?_⟩
    have d0 := Dr.zero hT
    have nt := d0.tp.nt nD
    have d1 := d0.new nD (.lst [])
    refine ⟨_, rfl, _, rfl, s, t, 6, rfl, d1.tp, by omega, by omega, fun x H2 x0 x1 e2 T2 => ?_⟩
    refine ⟨_, _, rfl, rfl, ?_⟩
    refine ⟨_, rfl, by omega, by omega, for_range (n := (1 + x).toNat) (fun i σ G => ∃ (us : List V) (cols : Cols) (y1 y2 y3 y4 : Option V), σ = [some (.ref t), some (.int 6), some (.ref D), y1, y2, y3, y4] ∧ Dr s t H G ∧ G D = some (.lst us) ∧ Paired (IsCol K G) us cols ∧ cols.length ≤ i ∧ (cols.map (·.1)).Nodup) ⟨[], [], _, _, _, _, rfl, d1.go e2 T2, e2.at_ _ _ nt.1 upd_same, .nil, Nat.le_refl _, List.nodup_nil⟩ (fun i σ G hi hw => ?_) (fun σ G hw => ?_)⟩
    · obtain ⟨us, cols, y1, y2, y3, y4, rfl, d3, hD, hp, ln, nd⟩ := hw
      have el := Paired.length hp
      refine ⟨_, rfl, s, t, rfl, d3.tp, fun nm H4 d4 => ?_⟩
      have d5 := d3.trans d4
      have hD4 := d4.at hD nt.1
      refine ⟨(by show 4 ≤ sizeLine; decide), fun p4 n4 => ?_⟩
      have nt4 := d5.tp.nt n4
      have dn4 := (Dr.zero d5.tp).new n4 (.lst [.str "number", .str "number", .str "text", .str "boolean"])
      refine ⟨_, rfl, s, t, 4, rfl, dn4.tp, by omega, by omega, fun z H6 z0 z1 e6 T6 => ?_⟩
      refine ixl_of kdOf (e6.at_ _ _ nt4.1 upd_same) (by decide +kernel) z0 z1 fun v pv => ?_
      obtain ⟨k, rfl⟩ := kdOf_s pv
      have d46 := dn4.go e6 T6
      have d6 := d5.trans d46
      have hD6 := d46.at hD4 nt.1
      have hp6 : Paired (IsCol K H6) us cols := Paired.mapP hp fun _ _ q => q.keep (d4.kp.trans d46.kp)
      refine ⟨_, rfl, _, rfl, D, rfl, ⟨_, SqL.of hD6⟩, fun F nF => lc_list (K := K) (a := D) (xs := us) (fun i H' => MapInv (fun _ => False) (fun _ => True) (fun j y _ => ∃ c, cols[j]? = some c ∧ y = .str c.1) F (upd H6 F (.lst [])) i H') (MapInv.zero nF trivial) (fun i H' _ hw => SqL.of ((hw.same nF) _ _ hD6)) (fun i v H' hv hw => ?_) (fun H' hw => ?_)⟩
      · obtain ⟨c, hc, b, rfl, hb⟩ := Paired.get hp6 hv
        refine ⟨rfl, tyes ?_⟩
        exact ⟨_, rfl, _, _, _, _, rfl, rfl, (Same.keep (hw.same nF)).tup hb, atI_nat (j := 0) rfl, hw.stepK (Same.refl _) ⟨c, hc, rfl⟩ (by have := (List.getElem?_eq_some_iff.mp hc).1; omega) fun _ _ _ _ q _ => q⟩
      · obtain ⟨ys, hl, hn', hy⟩ := hw.l
        have ey : ys = cols.map fun c => V.str c.1 := map_of (by omega) hy
        have ey2 : ys = (cols.map (·.1)).map V.str := by rw [ey, List.map_map] <;> rfl
        subst ey2
        have sm := hw.same nF
        have d7 := d6.same sm
        have hD7 := sm _ _ hD6
        have hp7 : Paired (IsCol K H') us cols := Paired.mapP hp6 fun _ _ q => q.keep (Same.keep sm)
        refine ⟨F, _, rfl, .inl (SqL.of hl), rfl, flat_strL _, _, rfl, ite2 (fun c => ?_) (fun c => ?_)⟩
        · have c' : (!inV (.str nm) ((cols.map (·.1)).map V.str)) = true := c
          rw [inV_strs] at c'
          have nin : nm ∉ cols.map (·.1) := fun z => by
            rw [decide_eq_true z] at c'
            cases c'
          refine ⟨_, rfl, .inl ⟨rfl, _, SqL.of hD7⟩, _, rfl, _, rfl, (by show 2 ≤ sizeLine; decide), fun p8 n8 => ?_⟩
          have d8 := d7.new n8 (.tup [.str nm, .str k.s])
          have hD8 : upd H' p8 (.tup [.str nm, .str k.s]) D = some (.lst us) := same_new n8 _ _ hD7
          refine ⟨D, us, _, rfl, rfl, hD8, small1000 (by omega), ?_⟩
          refine ⟨_, cols ++ [(nm, k)], _, _, _, _, rfl, d8.own nD nt hD8 _, upd_same, ?_, by rw [List.length_append]; simp; omega, ?_⟩
          · have kp8 := (keep_new (o := .tup [.str nm, .str k.s]) n8).trans (keep_lst (o := .lst (us ++ [.ref p8])) hD8)
            refine paired_of (by rw [List.length_append, List.length_append, el] <;> rfl) fun j u c hu hc => ?_
            by_cases jl : j < cols.length
            · rw [List.getElem?_append_left (by omega)] at hu
              rw [List.getElem?_append_left jl] at hc
              obtain ⟨c2, e2, q2⟩ := Paired.get hp7 hu
              rw [e2] at hc
              rw [← Option.some.inj hc]
              exact q2.keep kp8
            · have hj := (List.getElem?_eq_some_iff.mp hc).1
              rw [List.length_append, List.length_singleton] at hj
              have ej : j = cols.length := by omega
              subst ej
              rw [List.getElem?_append_right (by omega), el, Nat.sub_self] at hu
              rw [List.getElem?_append_right (by omega), Nat.sub_self] at hc
              have u1 : V.ref p8 = u := Option.some.inj hu
              have c1 : (nm, k) = c := Option.some.inj hc
              subst u1 c1
              exact ⟨p8, rfl, .inl (.inl (by rw [upd_ne (fun z => by rw [z] at n8; rw [hD7] at n8; cases n8), upd_same]))⟩
          · rw [List.map_append]
            exact List.nodup_append.mpr ⟨nd, by simp, fun a ha b hb e => nin (by
              have eb : b = nm := by simpa using hb
              rw [← eb, ← e]
              exact ha)⟩
        · exact ⟨us, cols, _, _, _, _, rfl, d7, hD7, hp7, by omega, nd⟩
    · obtain ⟨us, cols, y1, y2, y3, y4, rfl, d3, hD, hp, ln, nd⟩ := hw
      refine ⟨_, rfl, D, _, rfl, .inl ⟨SqL.of hD, fun l nl => ?_⟩⟩
      exact q l cols _ (d3.new nl _) ⟨us, .inl (.inl upd_same), Paired.mapP hp fun _ _ z => z.keep (keep_new nl), by omega⟩ nd
def spCells (K : PySem.W.Frag) : Sp := fun vs H Q _ => ∃ (s t ca : Addr) (cols : Cols), vs = [.ref t, .ref ca] ∧ Tape H s t ∧ IsCols K H ca cols ∧ ∀ ra (cells : List Cell) H', Dr s t H H' → IsRow K H' ra cells → RowFit cols cells → Q (.ref ra) H'
abbrev N__law_cells : List Str := ["_law_tape_here", "_law_columns_here", "_law_column"]
theorem sc__law_cells : FnScope N__law_cells ["_law_tape_here", "_law_columns_here"] (defScope (topS 53)) := ⟨rfl, rfl, rfl, by decide +kernel, rfl, by decide +kernel, by decide +kernel⟩
theorem ok__law_cells (E : Ev K w mg) : FnOk P w K mg base CX0 6 E.d__law_cells.f E.d__law_cells.fd ["_law_tape_here", "_law_columns_here"] (spCells K) := by
  refine E.d__law_cells.F.ok sc__law_cells (fun vs H Q X h => ?_) (fun cdv A outer s H vs Q X hr h => ?_)
  · obtain ⟨s, t, ca, cols, rfl, _⟩ := h
    rfl
  · obtain ⟨s, t, ca, cols, rfl, hT, ⟨us, hu, hp, hn⟩, q⟩ := h
    refine ⟨_, PSs.nox (pss_one (ps_ret (pe_callTy call_tuple_of (by rfl) E.n_tuple (by decide +kernel) (pa_cons (pe_lc (own := [("_law_column", 2)]) (g := gName 2) rfl sc__law_cells.nd (pi_tup (pv 1)) (blkOk_by (own := [("_law_column", 2)]) (N := N__law_cells) (sc := defScope (topS 53)) (by decide +kernel)) (fun _ _ _ _ _ => pg_name (i := 2) sc__law_cells.nd rfl (Or.inl rfl)) (fun _ _ _ _ _ => pts_nil) (fun _ _ _ _ _ => (pe_call (ok__law_cell E) (hr.mono (by omega)) (by rfl) E.d__law_cell.g E.d__law_cell.F.kp E.d__law_cell.b .nil pass0 (pa_cons (pv 0) (pa_cons (pe_ix (show IxR _ (rIxT K) from ix_tup) (pv 2) pe_int (fun _ _ => rfl)) pa_nil))))) pa_nil)))), ?_⟩
    have el := Paired.length hp
    refine ⟨_, rfl, ca, rfl, ⟨_, hu⟩, fun D nD => lc_tup (K := K) (a := ca) (xs := us) (fun i H' => MapInv (· = t) (fun G => Tape G s t) (fun j y G => ∃ c x, cols[j]? = some x ∧ IsCell K G y c ∧ Fits c x.2) D (upd H D (.lst [])) i H') (MapInv.zero nD (hT.upd (hT.nt nD) _)) (fun i H' _ hw => (hw.fr nD).kp.tup hu) (fun i v H' hv hw => ?_) (fun H' hw => ?_)⟩
    · obtain ⟨x, hx, b, rfl, hb⟩ := Paired.get hp hv
      refine ⟨rfl, tyes ?_⟩
      refine ⟨_, rfl, _, rfl, _, _, _, _, rfl, rfl, (hw.fr nD).kp.tup hb, atI_nat (j := 1) rfl, s, t, x.2, rfl, hw.p, fun v c H2 d2 fc ic => hw.stepT d2 ⟨c, x, hx, ic, fc⟩ (hT.nt nD) (by have := (List.getElem?_eq_some_iff.mp hx).1; omega) fun _ _ _ _ ⟨c, x, q1, q2, q3⟩ kq => ⟨c, x, q1, q2.keep kq, q3⟩⟩
    · obtain ⟨ys, hl, hn', hy⟩ := hw.l
      have hy' : ∀ j y, ys[j]? = some y → ∃ c, ∃ x, cols[0 + j]? = some x ∧ IsCell K H' y c ∧ Fits c x.2 := fun j y h => by
        rw [Nat.zero_add]
        exact hy j y h
      obtain ⟨cs, c1, c2⟩ := choose_list (R := fun j y c => ∃ x, cols[j]? = some x ∧ IsCell K H' y c ∧ Fits c x.2) (i := 0) hy'
      have d1 := hw.dr nD
      refine ⟨D, _, rfl, .inl ⟨SqL.of hl, fun l nl => q l cs _ (d1.new nl _) ⟨ys, .inl (.inl upd_same), paired_of c1.symm fun j y c h1 h2 => ?_⟩ ⟨by omega, fun j c x h1 h2 => ?_⟩⟩⟩
      · obtain ⟨x, _, z, _⟩ := c2 j y c h1 h2
        exact z.keep (keep_new nl)
      · have hj : j < ys.length := by
          have := (List.getElem?_eq_some_iff.mp h1).1
          omega
        obtain ⟨x', e, _, z⟩ := c2 j _ c (List.getElem?_eq_getElem hj) h1
        rw [Nat.zero_add, h2] at e
        rw [Option.some.inj e]
        exact z
end
end K7
/-! W15 -/
namespace K7
open PySem PySem.Spec PyProof.Rows L2 TL
def qn (i : Int) : Str := "q" ++ decI i
theorem qn_inj {a b : Nat} (h : qn (a : Int) = qn (b : Int)) : a = b := by
  have e : tl (qn (a : Int)) = tl (qn (b : Int)) := congrArg tl h
  have ap : ∀ n : Nat, tl (qn (n : Int)) = tl "q" ++ numL n := fun n => by
    show tl ("q" ++ decI (n : Int)) = _
    rw [show tl ("q" ++ decI (n : Int)) = tl "q" ++ tl (decI (n : Int)) from Array.toList_append]
    rw [show tl (decI (n : Int)) = numL n from tl_num n]
  rw [ap, ap] at e
  exact numL_inj (List.append_cancel_left e)
theorem rows_nodup (st n : Nat) : ((List.range n).map fun k => qn ((st + k : Nat) : Int)).Nodup := by
  have h : (List.range n).Nodup := List.nodup_range
  unfold List.Nodup at h ⊢
  rw [List.pairwise_map]
  exact h.imp fun {a b} ne e => ne (by have := qn_inj e; omega)
theorem some_row {rows names : List Str} (nd : rows.Nodup) (h : names.length < rows.length) : ∃ x l, (rows.filter fun x => decide (x ∉ names)) = x :: l := by
  cases e : rows.filter fun x => decide (x ∉ names) with
  | cons x l => exact ⟨x, l, rfl⟩
  | nil =>
    exfalso
    have sub : rows ⊆ names := fun x hx => Decidable.byContradiction fun z => by
      have : x ∈ rows.filter fun x => decide (x ∉ names) := List.mem_filter.mpr ⟨hx, decide_eq_true z⟩
      rw [e] at this
      cases this
    have := nd.length_le_of_subset sub
    omega
section
variable {P : Program} {w : World} {K : PySem.W.Frag} {mg : Str → Option Value} {base : Heap}
def spStranger (K : PySem.W.Frag) : Sp := fun vs H Q _ => ∃ (s t ca : Addr) (cols : Cols), vs = [.ref t, .ref ca] ∧ Tape H s t ∧ IsCols K H ca cols ∧ ∀ x H', Dr s t H H' → Q (.str x) H'
abbrev N__law_stranger : List Str := ["_law_tape_here", "_law_columns_here", "_law_names", "_law_start", "_law_rows", "_law_column", "_law_k", "_law_name_here"]
theorem sc__law_stranger : FnScope N__law_stranger ["_law_tape_here", "_law_columns_here"] (defScope (topS 54)) := ⟨rfl, rfl, rfl, by decide +kernel, rfl, by decide +kernel, by decide +kernel⟩
theorem ok__law_stranger (E : Ev K w mg) : FnOk P w K mg base CX0 2 E.d__law_stranger.f E.d__law_stranger.fd ["_law_tape_here", "_law_columns_here"] (spStranger K) := by
  refine E.d__law_stranger.F.ok sc__law_stranger (fun vs H Q X h => ?_) (fun cdv A outer s H vs Q X hr h => ?_)
  · obtain ⟨s, t, ca, cols, rfl, _⟩ := h
    rfl
  · obtain ⟨s, t, ca, cols, rfl, hT, ⟨us, hu, hp, hn⟩, q⟩ := h
    refine ⟨_, PSs.nox (pss_cons (ps_set (i := 2) sc__law_stranger.nd rfl (.inr rfl) (pe_lc (own := [("_law_column", 5)]) (g := gName 5) rfl sc__law_stranger.nd (pi_tup (pv 1)) (blkOk_by (own := [("_law_column", 5)]) (N := N__law_stranger) (sc := defScope (topS 54)) (by decide +kernel)) (fun _ _ _ _ _ => pg_name (i := 5) sc__law_stranger.nd rfl (Or.inl rfl)) (fun _ _ _ _ _ => pts_nil) (fun _ _ _ _ _ => (pe_ix (show IxR _ (rIxT K) from ix_tup) (pv 5) pe_int (fun _ _ => rfl)))))
      (pss_cons (ps_set (i := 3) sc__law_stranger.nd rfl (.inr rfl) (pe_call (ok__law_draw E) (hr.mono (by omega)) (by rfl) E.d__law_draw.g E.d__law_draw.F.kp E.d__law_draw.b .nil pass0 (pa_cons (pv 0) (pa_cons pe_int pa_nil))))
      (pss_cons (ps_setLc (i := 4) (own := [("_law_k", 6)]) (g := gName 6) rfl sc__law_stranger.nd rfl rfl (sw_true rfl rfl rfl (by decide +kernel)) (pi_range1 rfl E.n_range (pa_cons (pe_op op_add (pe_callB call_len (by rfl) E.n_len (by decide +kernel) (pa_cons (pv 2) pa_nil)) pe_int) pa_nil)) (blkOk_by (own := [("_law_k", 6)]) (N := N__law_stranger) (sc := defScope (topS 54)) (by decide +kernel)) (fun _ _ _ _ _ => pg_name (i := 6) sc__law_stranger.nd rfl (Or.inl rfl)) (fun _ _ _ _ _ => pts_nil) (fun _ _ _ _ _ => (pe_op op_add_str pe_str (pe_callTy call_str_int (by rfl) E.n_str (by decide +kernel) (pa_cons (pe_op op_add (pv 3) (pv 6)) pa_nil)))))
      (pss_one (ps_ret (pe_ix ix_list (pe_lc (own := [("_law_name_here", 7)]) (g := gName 7) rfl sc__law_stranger.nd (pi_list (pv 4)) (blkOk_by (own := [("_law_name_here", 7)]) (N := N__law_stranger) (sc := defScope (topS 54)) (by decide +kernel)) (fun _ _ _ _ _ => pg_name (i := 7) sc__law_stranger.nd rfl (Or.inl rfl)) (fun _ _ _ _ _ => (pts_one (pt_cmpR (show OpR _ _ (rIn K true) from op_notIn_seq) (pv 7) (pv 2) (by rfl)))) (fun _ _ _ _ _ => (pv 7))) pe_int (fun _ _ => rfl))))))), ?_⟩
    have el := Paired.length hp
    refine ⟨_, rfl, ca, rfl, ⟨_, hu⟩, fun D nD => lc_tup (K := K) (a := ca) (xs := us) (fun i H' => MapInv (fun _ => False) (fun _ => True) (fun j y _ => ∃ c, cols[j]? = some c ∧ y = .str c.1) D (upd H D (.lst [])) i H') (MapInv.zero nD trivial) (fun i H' _ hw => ((keep_new nD).trans hw.ex.kp).tup hu) (fun i v H' hv hw => ?_) (fun H1 hw => ?_)⟩
    · obtain ⟨c, hc, b, rfl, hb⟩ := Paired.get hp hv
      refine ⟨rfl, tyes ?_⟩
      exact ⟨_, rfl, _, _, _, _, rfl, rfl, ((keep_new nD).trans hw.ex.kp).tup hb, atI_nat (j := 0) rfl, hw.stepK (Same.refl _) ⟨c, hc, rfl⟩ (by have := (List.getElem?_eq_some_iff.mp hc).1; omega) fun _ _ _ _ q _ => q⟩
    obtain ⟨ys, hl, hn', hy⟩ := hw.l
    have ey : ys = (cols.map (·.1)).map V.str := by
      have z : ys = cols.map fun c => V.str c.1 := map_of (by omega) hy
      rw [z, List.map_map] <;> rfl
    subst ey
    have d1 := (Dr.zero hT).same (hw.same nD)
    have nt := hT.nt nD
    have nl : (cols.map (·.1)).length = cols.length := List.length_map _
    generalize cols.map (·.1) = names at hl nl hn' hy
    refine ⟨_, rfl, s, t, 90, rfl, d1.tp, by omega, by omega, fun x H2 x0 x1 e2 T2 => ?_⟩
    have d2 := d1.go e2 T2
    have hl2 : H2 D = some (.lst (names.map V.str)) := e2.at_ _ _ nt.1 hl
    obtain ⟨st, rfl⟩ : ∃ n : Nat, x = (n : Int) := ⟨x.toNat, by omega⟩
    refine ⟨_, rfl, _, _, rfl, .inl ⟨_, SqL.of hl2, rfl⟩, _, _, rfl, rfl, ?_⟩
    refine ⟨_, rfl, by rw [List.length_map]; omega, by rw [List.length_map]; omega, fun F nF => ?_⟩
    have eN : ((((names.map V.str).length : Nat) : Int) + 1).toNat = names.length + 1 := by
      rw [List.length_map]
      omega
    refine lc_range (lo := 0) (n := ((((names.map V.str).length : Nat) : Int) + 1).toNat) (fun i H' => MapInv (fun _ => False) (fun _ => True) (fun j y _ => ∃ k, (List.range (names.length + 1))[j]? = some k ∧ y = V.str (qn ((st + k : Nat) : Int))) F (upd H2 F (.lst [])) i H') (MapInv.zero nF trivial) (fun i H' hi hw => ?_) (fun H3 hw3 => ?_)
    · rw [eN] at hi
      refine ⟨rfl, tyes ?_⟩
      have eI : ((st : Nat) : Int) + (0 + (i : Nat)) = ((st + i : Nat) : Int) := by omega
      refine ⟨_, rfl, _, rfl, _, _, rfl, rfl, _, rfl, ?_⟩
      have l1 : (((st : Nat) : Int) + (0 + (i : Nat))).natAbs < 2 ^ 10 := by omega
      refine ⟨log_small (k := 10) l1 (by omega) (by omega), ?_⟩
      have l2 := int_len (i := ((st : Nat) : Int) + (0 + (i : Nat))) (k := 3) (by omega) (by omega)
      have l3 : (Str.ofString "q").length = 1 := by decide +kernel
      refine ⟨_, _, rfl, rfl, small (by rw [l3]; omega), ?_⟩
      refine hw.stepK (Same.refl _) ⟨i, by rw [List.getElem?_range hi], ?_⟩ (by omega) fun _ _ _ _ q _ => q
      show V.str ("q" ++ Str.ofString (toString (((st : Nat) : Int) + (0 + (i : Nat))))) = V.str ("q" ++ decI ((st + i : Nat) : Int))
      rw [eI] <;> rfl
    obtain ⟨ys, hl3, hn3, hy3⟩ := hw3.l
    rw [eN] at hn3
    have ey : ys = ((List.range (names.length + 1)).map fun k => qn ((st + k : Nat) : Int)).map V.str := by
      have z : ys = (List.range (names.length + 1)).map fun k => V.str (qn ((st + k : Nat) : Int)) := map_of (by rw [List.length_range]; exact hn3) hy3
      rw [z, List.map_map] <;> rfl
    subst ey
    have nd := rows_nodup st (names.length + 1)
    have ln : ((List.range (names.length + 1)).map fun k => qn ((st + k : Nat) : Int)).length = names.length + 1 := by rw [List.length_map, List.length_range]
    generalize (List.range (names.length + 1)).map (fun k => qn ((st + k : Nat) : Int)) = rows at hl3 hn3 hy3 nd ln
    have sm3 := hw3.same nF
    have d3 := d2.same sm3
    have hD3 : H3 D = some (.lst (names.map V.str)) := sm3 _ _ hl2
    obtain ⟨x, l, ex⟩ := some_row (names := names) nd (by omega)
    refine ⟨_, rfl, F, rfl, ⟨_, SqL.of hl3⟩, fun G nG => ?_⟩
    refine lc_list (K := K) (a := F) (xs := rows.map V.str) (fun i H' => Ex (fun b => b = G) (upd H3 G (.lst [])) H' ∧ H' G = some (.lst (((rows.take i).filter fun x => decide (x ∉ names)).map V.str))) ⟨Ex.refl _ _, upd_same⟩ (fun i H' _ hw => SqL.of (hw.1.at_ _ _ (fun z => by rw [z, nG] at hl3; cases hl3) (same_new nG _ _ hl3))) (fun i v H' hv hw => ?_) (fun H' hw => ?_)
    · obtain ⟨e4, hG⟩ := hw
      rw [List.getElem?_map] at hv
      obtain ⟨r, hr0, rfl⟩ := Option.map_eq_some_iff.mp hv
      have ir : i < rows.length := (List.getElem?_eq_some_iff.mp hr0).1
      have hD4 : H' D = some (.lst (names.map V.str)) := e4.at_ _ _ (fun z => by rw [z, nG] at hD3; cases hD3) (same_new nG _ _ hD3)
      have et : (rows.take (i + 1)).filter (fun x => decide (x ∉ names)) = (rows.take i).filter (fun x => decide (x ∉ names)) ++ (if r ∈ names then [] else [r]) := by
        rw [List.take_add_one, List.filter_append, hr0]
        show _ ++ [r].filter _ = _
        by_cases m : r ∈ names
        · rw [if_pos m]
          simp [m]
        · rw [if_neg m]
          simp [m]
      refine ⟨rfl, _, rfl, _, rfl, D, _, rfl, .inl (SqL.of hD4), rfl, flat_strL _, _, rfl, ?_⟩
      have iv : inV (.str r) (names.map V.str) = decide (r ∈ names) := inV_strs r names
      refine ite2 (fun c => ?_) (fun c => ?_)
      · have c' : (!inV (.str r) (names.map V.str)) = true := c
        have m : r ∉ names := fun z => by
          rw [iv, decide_eq_true z] at c'
          cases c'
        refine ⟨_, rfl, _, hG, small1000 ?_, e4.trans (ex_lst hG rfl), ?_⟩
        · rw [List.length_map]
          have := List.length_filter_le (fun x => decide (x ∉ names)) (rows.take i)
          rw [List.length_take] at this
          omega
        · rw [upd_same, et, if_neg m, List.map_append] <;> rfl
      · have c' : ¬ (!inV (.str r) (names.map V.str)) = true := c
        have m : r ∈ names := Decidable.byContradiction fun z => c' (by
          rw [iv, decide_eq_false z] <;> rfl)
        rw [et, if_pos m, List.append_nil]
        exact ⟨e4, hG⟩
    · obtain ⟨e4, hG⟩ := hw
      rw [List.length_map, List.take_length, ex] at hG
      have sm4 : Same H3 H' := fun b o h => e4.at_ b o (fun z => by rw [z, nG] at h; cases h) (same_new nG _ _ h)
      exact ⟨_, _, _, _, rfl, rfl, SqL.of hG, atI_nat (j := 0) rfl, q x H' (d3.same sm4)⟩
end
end K7
/-! W16 -/
namespace K7
open PySem PySem.Spec PyProof.Rows L2 TL
/-! ### forms -/
inductive Form where
  | one (o : O1)
  | two (o : O2)
  | cond
  | isin
  deriving DecidableEq
inductive Want where
  | any
  | kd (k : Kd)
  deriving DecidableEq
def Want.s : Want → Str
  | .any => "any"
  | .kd k => k.s
def Want.res (c : Kd) : Want → Kd
  | .any => c
  | .kd k => k
def Form.word : Form → Str
  | .one o => o.s
  | .two o => o.s
  | .cond => "if"
  | .isin => "in"
def Form.wants (k : Kd) : Form → List Want
  | .one o => match o.tab with
    | some q => [.kd q.1]
    | none => [.any]
  | .two o => match o.tab with
    | some q => [.kd q.1, .kd q.1]
    | none => if o.least? = true then [.kd k, .kd k] else [.any, .any]
  | .cond => [.kd .boo, .kd k, .kd k]
  | .isin => [.any]
def formsF : Kd → List Form
  | .txt => [.two .least, .two .greatest, .cond] ++ [.two .join, .two .join, .one .text, .one .text]
  | .num => (([.two .least, .two .greatest, .cond] ++ [.one .minus, .one .abs, .one .floor, .one .ceil, .one .round]) ++ [.two .add, .two .sub, .two .mul, .two .div]) ++ [.one .length]
  | .boo => (([.two .least, .two .greatest, .cond] ++ [.two .eq, .two .ne, .two .lt, .two .le, .two .gt, .two .ge]) ++ [.isin, .one .missing, .one .not]) ++ [.two .and, .two .or, .two .and, .two .or]
def formS (k : Kd) (f : Form) : List V := .str f.word :: (f.wants k).map fun w => .str w.s
def IsForm (K : PySem.W.Frag) (H : Hp) (k : Kd) (v : V) (f : Form) : Prop := ∃ a, v = .ref a ∧ SqT K H a (formS k f)
theorem IsForm.keep {K : PySem.W.Frag} {H H' : Hp} {k : Kd} {v : V} {f : Form} (h : IsForm K H k v f) (e : Keep H H') : IsForm K H' k v f := by
  obtain ⟨a, e1, h⟩ := h
  exact ⟨a, e1, e.tup h⟩
abbrev Forms (K : PySem.W.Frag) (H : Hp) (k : Kd) : List V → List Form → Prop := Paired (IsForm K H k)
theorem Forms.keep {K : PySem.W.Frag} {H H' : Hp} {k : Kd} {vs : List V} {fs : List Form} (h : Forms K H k vs fs) (e : Keep H H') : Forms K H' k vs fs := Paired.mapP h fun _ _ z => z.keep e
theorem Paired.app {α β : Type} {F : α → β → Prop} : ∀ {a c : List α} {b d : List β}, Paired F a b → Paired F c d → Paired F (a ++ c) (b ++ d)
  | _, _, _, _, .nil, h => h
  | _, _, _, _, .cons r t, h => .cons r (Paired.app t h)
theorem form_new {K : PySem.W.Frag} {H : Hp} {k : Kd} {p : Addr} {f : Form} {xs : List V} (e : xs = formS k f) : IsForm K (upd H p (.tup xs)) k (.ref p) f := ⟨p, rfl, .inl (.inl (by rw [upd_same, e]))⟩
section
variable {P : Program} {w : World} {K : PySem.W.Frag} {mg : Str → Option Value} {base : Heap}
def spForms (K : PySem.W.Frag) : Sp := fun vs H Q _ => ∃ k : Kd, vs = [.str k.s] ∧ ∀ l us H', Same H H' → H' l = some (.lst us) → H l = none → Forms K H' k us (formsF k) → Q (.ref l) H'
abbrev N__law_forms : List Str := ["_law_kind_here", "_law_one", "_law_forms_here", "_law_word"]
theorem sc__law_forms : FnScope N__law_forms ["_law_kind_here"] (defScope (topS 55)) := ⟨rfl, rfl, rfl, by decide +kernel, rfl, by decide +kernel, by decide +kernel⟩
theorem ok__law_forms (E : Ev K w mg) : FnOk P w K mg base CX0 1 E.d__law_forms.f E.d__law_forms.fd ["_law_kind_here"] (spForms K) := by
  refine E.d__law_forms.F.ok sc__law_forms (fun vs H Q X h => ?_) (fun cdv A outer s H vs Q X hr h => ?_)
  · obtain ⟨k, rfl, _⟩ := h
    rfl
  · obtain ⟨k, rfl, q⟩ := h
    refine ⟨_, PSs.nox (pss_cons (ps_set (i := 1) sc__law_forms.nd rfl (.inl rfl) (pe_tup (pa_cons pe_str (pa_cons (pv 0) (pa_cons (pv 0) pa_nil)))))
      (pss_cons (ps_set (i := 2) sc__law_forms.nd rfl (.inl rfl) (pe_lst (pa_cons (pv 1) (pa_cons (pe_tup (pa_cons pe_str (pa_cons (pv 0) (pa_cons (pv 0) pa_nil)))) (pa_cons (pe_tup (pa_cons pe_str (pa_cons pe_str (pa_cons (pv 0) (pa_cons (pv 0) pa_nil))))) pa_nil)))))
      (pss_cons (ps_if (pt_cmpR op_eq (pv 0) pe_str (nomark _)) (pss_one (ps_ret (pe_op op_cat (pv 2) (pe_lst (pa_cons (pe_tup (pa_cons pe_str (pa_cons (pv 0) (pa_cons (pv 0) pa_nil)))) (pa_cons (pe_tup (pa_cons pe_str (pa_cons (pv 0) (pa_cons (pv 0) pa_nil)))) (pa_cons (pe_tup (pa_cons pe_str (pa_cons pe_str pa_nil))) (pa_cons (pe_tup (pa_cons pe_str (pa_cons pe_str pa_nil))) pa_nil)))))))) pss_nil)
      (pss_cons (ps_if (pt_cmpR op_eq (pv 0) pe_str (nomark _)) (pss_cons (ps_set (i := 2) sc__law_forms.nd rfl (.inl rfl) (pe_op op_cat (pv 2) (pe_lc (own := [("_law_word", 3)]) (g := gName 3) rfl sc__law_forms.nd (pi_list (pe_lst (pa_cons pe_str (pa_cons pe_str (pa_cons pe_str (pa_cons pe_str (pa_cons pe_str pa_nil))))))) (blkOk_by (own := [("_law_word", 3)]) (N := N__law_forms) (sc := defScope (topS 55)) (by decide +kernel)) (fun _ _ _ _ _ => pg_name (i := 3) sc__law_forms.nd rfl (Or.inl rfl)) (fun _ _ _ _ _ => pts_nil) (fun _ _ _ _ _ => (pe_tup (pa_cons (pv 3) (pa_cons (pv 0) pa_nil)))))))
        (pss_one (ps_ret (pe_op op_cat (pe_op op_cat (pv 2) (pe_lc (own := [("_law_word", 3)]) (g := gName 3) rfl sc__law_forms.nd (pi_list (pe_lst (pa_cons pe_str (pa_cons pe_str (pa_cons pe_str (pa_cons pe_str pa_nil)))))) (blkOk_by (own := [("_law_word", 3)]) (N := N__law_forms) (sc := defScope (topS 55)) (by decide +kernel)) (fun _ _ _ _ _ => pg_name (i := 3) sc__law_forms.nd rfl (Or.inl rfl)) (fun _ _ _ _ _ => pts_nil) (fun _ _ _ _ _ => (pe_tup (pa_cons (pv 3) (pa_cons (pv 0) (pa_cons (pv 0) pa_nil))))))) (pe_lst (pa_cons (pe_tup (pa_cons pe_str (pa_cons pe_str pa_nil))) pa_nil)))))) pss_nil)
      (pss_cons (ps_set (i := 2) sc__law_forms.nd rfl (.inl rfl) (pe_op op_cat (pv 2) (pe_lc (own := [("_law_word", 3)]) (g := gName 3) rfl sc__law_forms.nd (pi_list (pe_lst (pa_cons pe_str (pa_cons pe_str (pa_cons pe_str (pa_cons pe_str (pa_cons pe_str (pa_cons pe_str pa_nil)))))))) (blkOk_by (own := [("_law_word", 3)]) (N := N__law_forms) (sc := defScope (topS 55)) (by decide +kernel)) (fun _ _ _ _ _ => pg_name (i := 3) sc__law_forms.nd rfl (Or.inl rfl)) (fun _ _ _ _ _ => pts_nil) (fun _ _ _ _ _ => (pe_tup (pa_cons (pv 3) (pa_cons pe_str (pa_cons pe_str pa_nil))))))))
      (pss_cons (ps_set (i := 2) sc__law_forms.nd rfl (.inl rfl) (pe_op op_cat (pv 2) (pe_lst (pa_cons (pe_tup (pa_cons pe_str (pa_cons pe_str pa_nil))) (pa_cons (pe_tup (pa_cons pe_str (pa_cons pe_str pa_nil))) (pa_cons (pe_tup (pa_cons pe_str (pa_cons (pv 0) pa_nil))) pa_nil))))))
      (pss_one (ps_ret (pe_op op_cat (pv 2) (pe_lst (pa_cons (pe_tup (pa_cons pe_str (pa_cons (pv 0) (pa_cons (pv 0) pa_nil)))) (pa_cons (pe_tup (pa_cons pe_str (pa_cons (pv 0) (pa_cons (pv 0) pa_nil)))) (pa_cons (pe_tup (pa_cons pe_str (pa_cons (pv 0) (pa_cons (pv 0) pa_nil)))) (pa_cons (pe_tup (pa_cons pe_str (pa_cons (pv 0) (pa_cons (pv 0) pa_nil)))) pa_nil)))))))))))))), ?_⟩
    have back : ∀ {G : Hp} {p : Addr}, Same H G → G p = none → H p = none := fun s n => Option.eq_none_iff_forall_ne_some.mpr fun o z => by
      rw [s _ _ z] at n
      cases n
    refine ⟨_, rfl, _, rfl, (by show 3 ≤ sizeLine; decide), fun p1 n1 => ?_⟩
    refine ⟨_, rfl, _, rfl, _, rfl, (by show 3 ≤ sizeLine; decide), fun p2 n2 => ?_⟩
    refine ⟨_, rfl, _, rfl, (by show 4 ≤ sizeLine; decide), fun p3 n3 => ?_⟩
    refine ⟨(by show 3 ≤ sizeLine; decide), fun p4 n4 => ?_⟩
    have f1 : IsForm K (upd H p1 (.tup [.str "least", .str k.s, .str k.s])) k (.ref p1) (.two .least) := form_new rfl
    have f2 := f1.keep (keep_new (o := .tup [.str "greatest", .str k.s, .str k.s]) n2)
    have g2 : IsForm K (upd (upd H p1 (.tup [.str "least", .str k.s, .str k.s])) p2 (.tup [.str "greatest", .str k.s, .str k.s])) k (.ref p2) (.two .greatest) := form_new rfl
    have kp3 := keep_new (o := .tup [.str "if", .str "boolean", .str k.s, .str k.s]) n3
    have h3 : IsForm K (upd (upd (upd H p1 (.tup [.str "least", .str k.s, .str k.s])) p2 (.tup [.str "greatest", .str k.s, .str k.s])) p3 (.tup [.str "if", .str "boolean", .str k.s, .str k.s])) k (.ref p3) .cond := form_new rfl
    have F3 : Forms K _ k [.ref p1, .ref p2, .ref p3] [.two .least, .two .greatest, .cond] := .cons (f2.keep kp3) (.cons (g2.keep kp3) (.cons h3 .nil))
    have F4 := F3.keep (keep_new (o := .lst [.ref p1, .ref p2, .ref p3]) n4)
    have s4 := (((same_new (o := .tup [.str "least", .str k.s, .str k.s]) n1).trans (same_new (o := .tup [.str "greatest", .str k.s, .str k.s]) n2)).trans (same_new (o := .tup [.str "if", .str "boolean", .str k.s, .str k.s]) n3)).trans (same_new (o := .lst [.ref p1, .ref p2, .ref p3]) n4)
    have l4 := upd_same (H := upd (upd (upd H p1 (.tup [.str "least", .str k.s, .str k.s])) p2 (.tup [.str "greatest", .str k.s, .str k.s])) p3 (.tup [.str "if", .str "boolean", .str k.s, .str k.s])) (a := p4) (o := .lst [.ref p1, .ref p2, .ref p3])
    clear f1 f2 g2 kp3 h3 F3
    generalize upd (upd (upd (upd H p1 (.tup [.str "least", .str k.s, .str k.s])) p2 (.tup [.str "greatest", .str k.s, .str k.s])) p3 (.tup [.str "if", .str "boolean", .str k.s, .str k.s])) p4 (.lst [.ref p1, .ref p2, .ref p3]) = G4 at F4 s4 l4 ⊢
    cases k with
    | txt =>
      refine ⟨_, rfl, rfl, _, rfl, ifT (by decide +kernel) ?_⟩
      refine ⟨_, rfl, _, rfl, _, rfl, (by show 3 ≤ sizeLine; decide), fun p5 n5 => ?_⟩
      have k5 := keep_new (o := .tup [.str "join", .str Kd.txt.s, .str Kd.txt.s]) n5
      have t5 := same_new (o := .tup [.str "join", .str Kd.txt.s, .str Kd.txt.s]) n5
      replace s4 := s4.trans t5
      replace l4 := t5 _ _ l4
      replace F4 := F4.keep k5
      have e5 : IsForm K (upd G4 p5 (.tup [.str "join", .str Kd.txt.s, .str Kd.txt.s])) .txt (.ref p5) (.two .join) := form_new rfl
      generalize upd G4 p5 (.tup [.str "join", .str Kd.txt.s, .str Kd.txt.s]) = G5 at s4 l4 F4 e5 ⊢
      clear k5 t5
      refine ⟨_, rfl, _, rfl, (by show 3 ≤ sizeLine; decide), fun p6 n6 => ?_⟩
      have k6 := keep_new (o := .tup [.str "join", .str Kd.txt.s, .str Kd.txt.s]) n6
      have t6 := same_new (o := .tup [.str "join", .str Kd.txt.s, .str Kd.txt.s]) n6
      replace s4 := s4.trans t6
      replace l4 := t6 _ _ l4
      replace F4 := F4.keep k6
      replace e5 := e5.keep k6
      have e6 : IsForm K (upd G5 p6 (.tup [.str "join", .str Kd.txt.s, .str Kd.txt.s])) .txt (.ref p6) (.two .join) := form_new rfl
      generalize upd G5 p6 (.tup [.str "join", .str Kd.txt.s, .str Kd.txt.s]) = G6 at s4 l4 F4 e5 e6 ⊢
      clear k6 t6
      refine ⟨(by show 2 ≤ sizeLine; decide), fun p7 n7 => ?_⟩
      have k7 := keep_new (o := .tup [.str "text", .str "any"]) n7
      have t7 := same_new (o := .tup [.str "text", .str "any"]) n7
      replace s4 := s4.trans t7
      replace l4 := t7 _ _ l4
      replace F4 := F4.keep k7
      replace e5 := e5.keep k7
      replace e6 := e6.keep k7
      have e7 : IsForm K (upd G6 p7 (.tup [.str "text", .str "any"])) .txt (.ref p7) (.one .text) := form_new rfl
      generalize upd G6 p7 (.tup [.str "text", .str "any"]) = G7 at s4 l4 F4 e5 e6 e7 ⊢
      clear k7 t7
      refine ⟨(by show 2 ≤ sizeLine; decide), fun p8 n8 => ?_⟩
      have k8 := keep_new (o := .tup [.str "text", .str "any"]) n8
      have t8 := same_new (o := .tup [.str "text", .str "any"]) n8
      replace s4 := s4.trans t8
      replace l4 := t8 _ _ l4
      replace F4 := F4.keep k8
      replace e5 := e5.keep k8
      replace e6 := e6.keep k8
      replace e7 := e7.keep k8
      have e8 : IsForm K (upd G7 p8 (.tup [.str "text", .str "any"])) .txt (.ref p8) (.one .text) := form_new rfl
      generalize upd G7 p8 (.tup [.str "text", .str "any"]) = G8 at s4 l4 F4 e5 e6 e7 e8 ⊢
      clear k8 t8
      refine ⟨(by show 4 ≤ sizeLine; decide), fun p9 n9 => ?_⟩
      have k9 := keep_new (o := .lst [.ref p5, .ref p6, .ref p7, .ref p8]) n9
      have t9 := same_new (o := .lst [.ref p5, .ref p6, .ref p7, .ref p8]) n9
      replace s4 := s4.trans t9
      replace l4 := t9 _ _ l4
      replace F4 := F4.keep k9
      replace e5 := e5.keep k9
      replace e6 := e6.keep k9
      replace e7 := e7.keep k9
      replace e8 := e8.keep k9
      have l9 := upd_same (H := G8) (a := p9) (o := .lst [.ref p5, .ref p6, .ref p7, .ref p8])
      have F9 : Forms K (upd G8 p9 (.lst [.ref p5, .ref p6, .ref p7, .ref p8])) .txt _ [.two .join, .two .join, .one .text, .one .text] := (.cons e5 (.cons e6 (.cons e7 (.cons e8 .nil))))
      generalize upd G8 p9 (.lst [.ref p5, .ref p6, .ref p7, .ref p8]) = G9 at s4 l4 F4 l9 F9 ⊢
      clear k9 t9
      refine ⟨_, _, _, _, rfl, rfl, l4, l9, small (by rw [Paired.length F4, Paired.length F9]; decide), fun p10 n10 => ?_⟩
      exact q p10 _ _ (s4.trans (same_new n10)) upd_same (back s4 n10) (Forms.keep (Paired.app F4 F9) (keep_new n10))
    | num =>
      refine ⟨_, rfl, rfl, _, rfl, ifF (by decide +kernel) ?_⟩
      refine ⟨_, rfl, rfl, _, rfl, ifT (by decide +kernel) ?_⟩
      refine ⟨_, rfl, (by show 5 ≤ sizeLine; decide), fun p5 n5 => ?_⟩
      have k5 := keep_new (o := .lst [.str "minus", .str "abs", .str "floor", .str "ceil", .str "round"]) n5
      have t5 := same_new (o := .lst [.str "minus", .str "abs", .str "floor", .str "ceil", .str "round"]) n5
      replace s4 := s4.trans t5
      replace l4 := t5 _ _ l4
      replace F4 := F4.keep k5
      have l5 : upd G4 p5 (.lst [.str "minus", .str "abs", .str "floor", .str "ceil", .str "round"]) p5 = some (.lst (([.one .minus, .one .abs, .one .floor, .one .ceil, .one .round] : List Form).map fun f => V.str f.word)) := upd_same
      refine ⟨p5, rfl, ⟨_, SqL.of l5⟩, fun p6 n6 => lc_list (K := K) (a := p5) (xs := ([.one .minus, .one .abs, .one .floor, .one .ceil, .one .round] : List Form).map fun f => V.str f.word) (fun i H' => MapInv (fun _ => False) (fun _ => True) (fun j y G => ∃ f, ([.one .minus, .one .abs, .one .floor, .one .ceil, .one .round] : List Form)[j]? = some f ∧ IsForm K G .num y f) p6 (upd (upd G4 p5 (.lst [.str "minus", .str "abs", .str "floor", .str "ceil", .str "round"])) p6 (.lst [])) i H') (MapInv.zero n6 trivial) (fun i H' _ hw => SqL.of (hw.same n6 _ _ l5)) (fun i v H' hv hw => ?_) (fun G6 hw => ?_)⟩
      · rw [List.getElem?_map] at hv
        obtain ⟨f, hf, rfl⟩ := Option.map_eq_some_iff.mp hv
        have fs := (by decide +kernel : ∀ f ∈ ([.one .minus, .one .abs, .one .floor, .one .ceil, .one .round] : List Form), [V.str f.word, V.str "number"] = formS .num f) f (List.mem_of_getElem? hf)
        have li := (List.getElem?_eq_some_iff.mp hf).1
        have lj : i < 8 := Nat.lt_of_lt_of_le li (by decide)
        refine ⟨rfl, tyes ?_⟩
        exact ⟨_, rfl, _, rfl, (by show 2 ≤ sizeLine; decide), fun p n => hw.stepK (same_new n) ⟨f, hf, form_new fs⟩ (by omega) fun _ _ _ _ ⟨f, a, b⟩ kq => ⟨f, a, b.keep kq⟩⟩
      obtain ⟨ys6, l6, hn6, hy6⟩ := hw.l
      have F6 : Forms K G6 .num ys6 [.one .minus, .one .abs, .one .floor, .one .ceil, .one .round] := paired_of hn6 fun i x y hx hy' => by
        obtain ⟨f, f1, f2⟩ := hy6 i x hx
        rw [hy'] at f1
        rw [Option.some.inj f1]
        exact f2
      have t6 := hw.same n6
      replace s4 := s4.trans t6
      replace l4 := t6 _ _ l4
      replace F4 := F4.keep (Same.keep t6)
      refine ⟨_, _, _, _, rfl, rfl, l4, l6, small (by rw [Paired.length F4, Paired.length F6]; decide), fun p7 n7 => ?_⟩
      have F7 : Forms K (upd G6 p7 (.lst ([V.ref p1, V.ref p2, V.ref p3] ++ ys6))) .num _ _ := Forms.keep (Paired.app F4 F6) (keep_new n7)
      replace s4 := s4.trans (same_new (o := .lst ([V.ref p1, V.ref p2, V.ref p3] ++ ys6)) n7)
      have l7 := upd_same (H := G6) (a := p7) (o := .lst ([V.ref p1, V.ref p2, V.ref p3] ++ ys6))
      generalize upd G6 p7 (.lst ([V.ref p1, V.ref p2, V.ref p3] ++ ys6)) = G7 at s4 F7 l7 ⊢
      refine ⟨_, rfl, (by show 4 ≤ sizeLine; decide), fun p8 n8 => ?_⟩
      have k8 := keep_new (o := .lst [.str "+", .str "-", .str "*", .str "/"]) n8
      have t8 := same_new (o := .lst [.str "+", .str "-", .str "*", .str "/"]) n8
      replace s4 := s4.trans t8
      replace l7 := t8 _ _ l7
      replace F7 := F7.keep k8
      have l8 : upd G7 p8 (.lst [.str "+", .str "-", .str "*", .str "/"]) p8 = some (.lst (([.two .add, .two .sub, .two .mul, .two .div] : List Form).map fun f => V.str f.word)) := upd_same
      refine ⟨p8, rfl, ⟨_, SqL.of l8⟩, fun p9 n9 => lc_list (K := K) (a := p8) (xs := ([.two .add, .two .sub, .two .mul, .two .div] : List Form).map fun f => V.str f.word) (fun i H' => MapInv (fun _ => False) (fun _ => True) (fun j y G => ∃ f, ([.two .add, .two .sub, .two .mul, .two .div] : List Form)[j]? = some f ∧ IsForm K G .num y f) p9 (upd (upd G7 p8 (.lst [.str "+", .str "-", .str "*", .str "/"])) p9 (.lst [])) i H') (MapInv.zero n9 trivial) (fun i H' _ hw => SqL.of (hw.same n9 _ _ l8)) (fun i v H' hv hw => ?_) (fun G9 hw => ?_)⟩
      · rw [List.getElem?_map] at hv
        obtain ⟨f, hf, rfl⟩ := Option.map_eq_some_iff.mp hv
        have fs := (by decide +kernel : ∀ f ∈ ([.two .add, .two .sub, .two .mul, .two .div] : List Form), [V.str f.word, V.str "number", V.str "number"] = formS .num f) f (List.mem_of_getElem? hf)
        have li := (List.getElem?_eq_some_iff.mp hf).1
        have lj : i < 8 := Nat.lt_of_lt_of_le li (by decide)
        refine ⟨rfl, tyes ?_⟩
        exact ⟨_, rfl, _, rfl, _, rfl, (by show 3 ≤ sizeLine; decide), fun p n => hw.stepK (same_new n) ⟨f, hf, form_new fs⟩ (by omega) fun _ _ _ _ ⟨f, a, b⟩ kq => ⟨f, a, b.keep kq⟩⟩
      obtain ⟨ys9, l9, hn9, hy9⟩ := hw.l
      have F9 : Forms K G9 .num ys9 [.two .add, .two .sub, .two .mul, .two .div] := paired_of hn9 fun i x y hx hy' => by
        obtain ⟨f, f1, f2⟩ := hy9 i x hx
        rw [hy'] at f1
        rw [Option.some.inj f1]
        exact f2
      have t9 := hw.same n9
      replace s4 := s4.trans t9
      replace l7 := t9 _ _ l7
      replace F7 := F7.keep (Same.keep t9)
      refine ⟨_, _, _, _, rfl, rfl, l7, l9, small (by rw [Paired.length F7, Paired.length F9]; decide), fun p10 n10 => ?_⟩
      have F10 : Forms K (upd G9 p10 (.lst (([V.ref p1, V.ref p2, V.ref p3] ++ ys6) ++ ys9))) .num _ _ := Forms.keep (Paired.app F7 F9) (keep_new n10)
      replace s4 := s4.trans (same_new (o := .lst (([V.ref p1, V.ref p2, V.ref p3] ++ ys6) ++ ys9)) n10)
      have l10 := upd_same (H := G9) (a := p10) (o := .lst (([V.ref p1, V.ref p2, V.ref p3] ++ ys6) ++ ys9))
      generalize upd G9 p10 (.lst (([V.ref p1, V.ref p2, V.ref p3] ++ ys6) ++ ys9)) = G10 at s4 F10 l10 ⊢
      refine ⟨(by show 2 ≤ sizeLine; decide), fun p11 n11 => ?_⟩
      have k11 := keep_new (o := .tup [.str "length", .str "text"]) n11
      have t11 := same_new (o := .tup [.str "length", .str "text"]) n11
      replace s4 := s4.trans t11
      replace l10 := t11 _ _ l10
      replace F10 := F10.keep k11
      have e11 : IsForm K (upd G10 p11 (.tup [.str "length", .str "text"])) .num (.ref p11) (.one .length) := form_new rfl
      generalize upd G10 p11 (.tup [.str "length", .str "text"]) = G11 at s4 l10 F10 e11 ⊢
      clear k11 t11
      refine ⟨(by show 1 ≤ sizeLine; decide), fun p12 n12 => ?_⟩
      have k12 := keep_new (o := .lst [.ref p11]) n12
      have t12 := same_new (o := .lst [.ref p11]) n12
      replace s4 := s4.trans t12
      replace l10 := t12 _ _ l10
      replace F10 := F10.keep k12
      replace e11 := e11.keep k12
      have l12 := upd_same (H := G11) (a := p12) (o := .lst [.ref p11])
      have F12 : Forms K (upd G11 p12 (.lst [.ref p11])) .num _ [.one .length] := (.cons e11 .nil)
      generalize upd G11 p12 (.lst [.ref p11]) = G12 at s4 l10 F10 l12 F12 ⊢
      clear k12 t12
      refine ⟨_, _, _, _, rfl, rfl, l10, l12, small (by rw [Paired.length F10, Paired.length F12]; decide), fun p13 n13 => ?_⟩
      exact q p13 _ _ (s4.trans (same_new n13)) upd_same (back s4 n13) (Forms.keep (Paired.app F10 F12) (keep_new n13))
    | boo =>
      refine ⟨_, rfl, rfl, _, rfl, ifF (by decide +kernel) ?_⟩
      refine ⟨_, rfl, rfl, _, rfl, ifF (by decide +kernel) ?_⟩
      refine ⟨_, rfl, (by show 6 ≤ sizeLine; decide), fun p5 n5 => ?_⟩
      have k5 := keep_new (o := .lst [.str "=", .str "<>", .str "<", .str "<=", .str ">", .str ">="]) n5
      have t5 := same_new (o := .lst [.str "=", .str "<>", .str "<", .str "<=", .str ">", .str ">="]) n5
      replace s4 := s4.trans t5
      replace l4 := t5 _ _ l4
      replace F4 := F4.keep k5
      have l5 : upd G4 p5 (.lst [.str "=", .str "<>", .str "<", .str "<=", .str ">", .str ">="]) p5 = some (.lst (([.two .eq, .two .ne, .two .lt, .two .le, .two .gt, .two .ge] : List Form).map fun f => V.str f.word)) := upd_same
      refine ⟨p5, rfl, ⟨_, SqL.of l5⟩, fun p6 n6 => lc_list (K := K) (a := p5) (xs := ([.two .eq, .two .ne, .two .lt, .two .le, .two .gt, .two .ge] : List Form).map fun f => V.str f.word) (fun i H' => MapInv (fun _ => False) (fun _ => True) (fun j y G => ∃ f, ([.two .eq, .two .ne, .two .lt, .two .le, .two .gt, .two .ge] : List Form)[j]? = some f ∧ IsForm K G .boo y f) p6 (upd (upd G4 p5 (.lst [.str "=", .str "<>", .str "<", .str "<=", .str ">", .str ">="])) p6 (.lst [])) i H') (MapInv.zero n6 trivial) (fun i H' _ hw => SqL.of (hw.same n6 _ _ l5)) (fun i v H' hv hw => ?_) (fun G6 hw => ?_)⟩
      · rw [List.getElem?_map] at hv
        obtain ⟨f, hf, rfl⟩ := Option.map_eq_some_iff.mp hv
        have fs := (by decide +kernel : ∀ f ∈ ([.two .eq, .two .ne, .two .lt, .two .le, .two .gt, .two .ge] : List Form), [V.str f.word, V.str "any", V.str "any"] = formS .boo f) f (List.mem_of_getElem? hf)
        have li := (List.getElem?_eq_some_iff.mp hf).1
        have lj : i < 8 := Nat.lt_of_lt_of_le li (by decide)
        refine ⟨rfl, tyes ?_⟩
        exact ⟨_, rfl, (by show 3 ≤ sizeLine; decide), fun p n => hw.stepK (same_new n) ⟨f, hf, form_new fs⟩ (by omega) fun _ _ _ _ ⟨f, a, b⟩ kq => ⟨f, a, b.keep kq⟩⟩
      obtain ⟨ys6, l6, hn6, hy6⟩ := hw.l
      have F6 : Forms K G6 .boo ys6 [.two .eq, .two .ne, .two .lt, .two .le, .two .gt, .two .ge] := paired_of hn6 fun i x y hx hy' => by
        obtain ⟨f, f1, f2⟩ := hy6 i x hx
        rw [hy'] at f1
        rw [Option.some.inj f1]
        exact f2
      have t6 := hw.same n6
      replace s4 := s4.trans t6
      replace l4 := t6 _ _ l4
      replace F4 := F4.keep (Same.keep t6)
      refine ⟨_, _, _, _, rfl, rfl, l4, l6, small (by rw [Paired.length F4, Paired.length F6]; decide), fun p7 n7 => ?_⟩
      have F7 : Forms K (upd G6 p7 (.lst ([V.ref p1, V.ref p2, V.ref p3] ++ ys6))) .boo _ _ := Forms.keep (Paired.app F4 F6) (keep_new n7)
      replace s4 := s4.trans (same_new (o := .lst ([V.ref p1, V.ref p2, V.ref p3] ++ ys6)) n7)
      have l7 := upd_same (H := G6) (a := p7) (o := .lst ([V.ref p1, V.ref p2, V.ref p3] ++ ys6))
      generalize upd G6 p7 (.lst ([V.ref p1, V.ref p2, V.ref p3] ++ ys6)) = G7 at s4 F7 l7 ⊢
      refine ⟨_, rfl, (by show 2 ≤ sizeLine; decide), fun p8 n8 => ?_⟩
      have k8 := keep_new (o := .tup [.str "in", .str "any"]) n8
      have t8 := same_new (o := .tup [.str "in", .str "any"]) n8
      replace s4 := s4.trans t8
      replace l7 := t8 _ _ l7
      replace F7 := F7.keep k8
      have e8 : IsForm K (upd G7 p8 (.tup [.str "in", .str "any"])) .boo (.ref p8) .isin := form_new rfl
      generalize upd G7 p8 (.tup [.str "in", .str "any"]) = G8 at s4 l7 F7 e8 ⊢
      clear k8 t8
      refine ⟨(by show 2 ≤ sizeLine; decide), fun p9 n9 => ?_⟩
      have k9 := keep_new (o := .tup [.str "missing", .str "any"]) n9
      have t9 := same_new (o := .tup [.str "missing", .str "any"]) n9
      replace s4 := s4.trans t9
      replace l7 := t9 _ _ l7
      replace F7 := F7.keep k9
      replace e8 := e8.keep k9
      have e9 : IsForm K (upd G8 p9 (.tup [.str "missing", .str "any"])) .boo (.ref p9) (.one .missing) := form_new rfl
      generalize upd G8 p9 (.tup [.str "missing", .str "any"]) = G9 at s4 l7 F7 e8 e9 ⊢
      clear k9 t9
      refine ⟨_, rfl, (by show 2 ≤ sizeLine; decide), fun p10 n10 => ?_⟩
      have k10 := keep_new (o := .tup [.str "not", .str Kd.boo.s]) n10
      have t10 := same_new (o := .tup [.str "not", .str Kd.boo.s]) n10
      replace s4 := s4.trans t10
      replace l7 := t10 _ _ l7
      replace F7 := F7.keep k10
      replace e8 := e8.keep k10
      replace e9 := e9.keep k10
      have e10 : IsForm K (upd G9 p10 (.tup [.str "not", .str Kd.boo.s])) .boo (.ref p10) (.one .not) := form_new rfl
      generalize upd G9 p10 (.tup [.str "not", .str Kd.boo.s]) = G10 at s4 l7 F7 e8 e9 e10 ⊢
      clear k10 t10
      refine ⟨(by show 3 ≤ sizeLine; decide), fun p11 n11 => ?_⟩
      have k11 := keep_new (o := .lst [.ref p8, .ref p9, .ref p10]) n11
      have t11 := same_new (o := .lst [.ref p8, .ref p9, .ref p10]) n11
      replace s4 := s4.trans t11
      replace l7 := t11 _ _ l7
      replace F7 := F7.keep k11
      replace e8 := e8.keep k11
      replace e9 := e9.keep k11
      replace e10 := e10.keep k11
      have l11 := upd_same (H := G10) (a := p11) (o := .lst [.ref p8, .ref p9, .ref p10])
      have F11 : Forms K (upd G10 p11 (.lst [.ref p8, .ref p9, .ref p10])) .boo _ [.isin, .one .missing, .one .not] := (.cons e8 (.cons e9 (.cons e10 .nil)))
      generalize upd G10 p11 (.lst [.ref p8, .ref p9, .ref p10]) = G11 at s4 l7 F7 l11 F11 ⊢
      clear k11 t11
      refine ⟨_, _, _, _, rfl, rfl, l7, l11, small (by rw [Paired.length F7, Paired.length F11]; decide), fun p12 n12 => ?_⟩
      have F12 : Forms K (upd G11 p12 (.lst (([V.ref p1, V.ref p2, V.ref p3] ++ ys6) ++ [V.ref p8, V.ref p9, V.ref p10]))) .boo _ _ := Forms.keep (Paired.app F7 F11) (keep_new n12)
      replace s4 := s4.trans (same_new (o := .lst (([V.ref p1, V.ref p2, V.ref p3] ++ ys6) ++ [V.ref p8, V.ref p9, V.ref p10])) n12)
      have l12 := upd_same (H := G11) (a := p12) (o := .lst (([V.ref p1, V.ref p2, V.ref p3] ++ ys6) ++ [V.ref p8, V.ref p9, V.ref p10]))
      generalize upd G11 p12 (.lst (([V.ref p1, V.ref p2, V.ref p3] ++ ys6) ++ [V.ref p8, V.ref p9, V.ref p10])) = G12 at s4 F12 l12 ⊢
      refine ⟨_, rfl, _, rfl, _, rfl, (by show 3 ≤ sizeLine; decide), fun p13 n13 => ?_⟩
      have k13 := keep_new (o := .tup [.str "and", .str Kd.boo.s, .str Kd.boo.s]) n13
      have t13 := same_new (o := .tup [.str "and", .str Kd.boo.s, .str Kd.boo.s]) n13
      replace s4 := s4.trans t13
      replace l12 := t13 _ _ l12
      replace F12 := F12.keep k13
      have e13 : IsForm K (upd G12 p13 (.tup [.str "and", .str Kd.boo.s, .str Kd.boo.s])) .boo (.ref p13) (.two .and) := form_new rfl
      generalize upd G12 p13 (.tup [.str "and", .str Kd.boo.s, .str Kd.boo.s]) = G13 at s4 l12 F12 e13 ⊢
      clear k13 t13
      refine ⟨_, rfl, _, rfl, (by show 3 ≤ sizeLine; decide), fun p14 n14 => ?_⟩
      have k14 := keep_new (o := .tup [.str "or", .str Kd.boo.s, .str Kd.boo.s]) n14
      have t14 := same_new (o := .tup [.str "or", .str Kd.boo.s, .str Kd.boo.s]) n14
      replace s4 := s4.trans t14
      replace l12 := t14 _ _ l12
      replace F12 := F12.keep k14
      replace e13 := e13.keep k14
      have e14 : IsForm K (upd G13 p14 (.tup [.str "or", .str Kd.boo.s, .str Kd.boo.s])) .boo (.ref p14) (.two .or) := form_new rfl
      generalize upd G13 p14 (.tup [.str "or", .str Kd.boo.s, .str Kd.boo.s]) = G14 at s4 l12 F12 e13 e14 ⊢
      clear k14 t14
      refine ⟨_, rfl, _, rfl, (by show 3 ≤ sizeLine; decide), fun p15 n15 => ?_⟩
      have k15 := keep_new (o := .tup [.str "and", .str Kd.boo.s, .str Kd.boo.s]) n15
      have t15 := same_new (o := .tup [.str "and", .str Kd.boo.s, .str Kd.boo.s]) n15
      replace s4 := s4.trans t15
      replace l12 := t15 _ _ l12
      replace F12 := F12.keep k15
      replace e13 := e13.keep k15
      replace e14 := e14.keep k15
      have e15 : IsForm K (upd G14 p15 (.tup [.str "and", .str Kd.boo.s, .str Kd.boo.s])) .boo (.ref p15) (.two .and) := form_new rfl
      generalize upd G14 p15 (.tup [.str "and", .str Kd.boo.s, .str Kd.boo.s]) = G15 at s4 l12 F12 e13 e14 e15 ⊢
      clear k15 t15
      refine ⟨_, rfl, _, rfl, (by show 3 ≤ sizeLine; decide), fun p16 n16 => ?_⟩
      have k16 := keep_new (o := .tup [.str "or", .str Kd.boo.s, .str Kd.boo.s]) n16
      have t16 := same_new (o := .tup [.str "or", .str Kd.boo.s, .str Kd.boo.s]) n16
      replace s4 := s4.trans t16
      replace l12 := t16 _ _ l12
      replace F12 := F12.keep k16
      replace e13 := e13.keep k16
      replace e14 := e14.keep k16
      replace e15 := e15.keep k16
      have e16 : IsForm K (upd G15 p16 (.tup [.str "or", .str Kd.boo.s, .str Kd.boo.s])) .boo (.ref p16) (.two .or) := form_new rfl
      generalize upd G15 p16 (.tup [.str "or", .str Kd.boo.s, .str Kd.boo.s]) = G16 at s4 l12 F12 e13 e14 e15 e16 ⊢
      clear k16 t16
      refine ⟨(by show 4 ≤ sizeLine; decide), fun p17 n17 => ?_⟩
      have k17 := keep_new (o := .lst [.ref p13, .ref p14, .ref p15, .ref p16]) n17
      have t17 := same_new (o := .lst [.ref p13, .ref p14, .ref p15, .ref p16]) n17
      replace s4 := s4.trans t17
      replace l12 := t17 _ _ l12
      replace F12 := F12.keep k17
      replace e13 := e13.keep k17
      replace e14 := e14.keep k17
      replace e15 := e15.keep k17
      replace e16 := e16.keep k17
      have l17 := upd_same (H := G16) (a := p17) (o := .lst [.ref p13, .ref p14, .ref p15, .ref p16])
      have F17 : Forms K (upd G16 p17 (.lst [.ref p13, .ref p14, .ref p15, .ref p16])) .boo _ [.two .and, .two .or, .two .and, .two .or] := (.cons e13 (.cons e14 (.cons e15 (.cons e16 .nil))))
      generalize upd G16 p17 (.lst [.ref p13, .ref p14, .ref p15, .ref p16]) = G17 at s4 l12 F12 l17 F17 ⊢
      clear k17 t17
      refine ⟨_, _, _, _, rfl, rfl, l12, l17, small (by rw [Paired.length F12, Paired.length F17]; decide), fun p18 n18 => ?_⟩
      exact q p18 _ _ (s4.trans (same_new n18)) upd_same (back s4 n18) (Forms.keep (Paired.app F12 F17) (keep_new n18))
end
end K7
/-! W17 -/
namespace K7
open PySem PySem.Spec PyProof.Rows L2 TL
theorem kin_mem {cols : Cols} {x : Str} {k : Kd} (nd : (cols.map (·.1)).Nodup) (h : (x, k) ∈ cols) : kindIn cols x = some k := by
  obtain ⟨i, hi, e⟩ := List.mem_iff_getElem.mp h
  have gi : cols[i]? = some (x, k) := by rw [List.getElem?_eq_getElem hi, e]
  refine (kin_step (cols := cols) (x := x) (i := i) (fun j c hj hc ec => ?_) gi rfl).1
  have hj2 : j < cols.length := by omega
  have e1 : (cols.map (·.1))[j]'(by rw [List.length_map]; exact hj2) = (cols.map (·.1))[i]'(by rw [List.length_map]; exact hi) := by
    rw [List.getElem_map, List.getElem_map, e]
    rw [List.getElem?_eq_getElem hj2] at hc
    rw [Option.some.inj hc]
    exact ec
  exact List.pairwise_iff_getElem.mp nd j i _ _ hj e1
section
variable {P : Program} {w : World} {K : PySem.W.Frag} {mg : Str → Option Value} {base : Heap}
/-- an expression of a kind is drawn -/
def Drawn (K : PySem.W.Frag) (cols : Cols) (k : Kd) (m : Nat) (dr : Int) (v : V) (H : Hp) : Prop := ∃ T : Tree, IsTree K H v T ∧ T.Ok ∧ T.dep < m ∧ (dr = 0 → kindT cols T = some k)
theorem pair_vals {K : PySem.W.Frag} {H : Hp} {us : List V} {cols : Cols} {i : Nat} {v : V} (h : Paired (IsCol K H) us cols) (e : us[i]? = some v) : ∃ c b, cols[i]? = some c ∧ v = .ref b ∧ SqT K H b [.str c.1, .str c.2.s] := by
  obtain ⟨c, hc, b, hb, hs⟩ := Paired.get h e
  exact ⟨c, b, hc, hb, hs⟩
def spLeaf (K : PySem.W.Frag) : Sp := fun vs H Q _ => ∃ (s t ca : Addr) (cols : Cols) (k : Kd) (dr : Int), vs = [.ref t, .ref ca, .str k.s, .int dr] ∧ Tape H s t ∧ IsCols K H ca cols ∧ (cols.map (·.1)).Nodup ∧ 0 ≤ dr ∧ ∀ v H', Dr s t H H' → Drawn K cols k 1 dr v H' → Q v H'
abbrev N__law_leaf : List Str := ["_law_tape_here", "_law_columns_here", "_law_kind_here", "_law_drift", "_law_names", "_law_choice", "_law_column"]
theorem sc__law_leaf : FnScope N__law_leaf ["_law_tape_here", "_law_columns_here", "_law_kind_here", "_law_drift"] (defScope (topS 56)) := ⟨rfl, rfl, rfl, by decide +kernel, rfl, by decide +kernel, by decide +kernel⟩
theorem ok__law_leaf (E : Ev K w mg) : FnOk P w K mg base CX0 5 E.d__law_leaf.f E.d__law_leaf.fd ["_law_tape_here", "_law_columns_here", "_law_kind_here", "_law_drift"] (spLeaf K) := by
  refine E.d__law_leaf.F.ok sc__law_leaf (fun vs H Q X h => ?_) (fun cdv A outer s H vs Q X hr h => ?_)
  · obtain ⟨s, t, ca, cols, k, dr, rfl, _⟩ := h
    rfl
  · obtain ⟨s, t, ca, cols, k, dr, rfl, hT, hc, nd, dr0, q⟩ := h
    refine ⟨_, PSs.nox (pss_cons (ps_setLc (i := 4) (own := [("_law_column", 6)]) (g := gName 6) rfl sc__law_leaf.nd rfl rfl (sw_true rfl rfl rfl (by decide +kernel)) (pi_tup (pv 1)) (blkOk_by (own := [("_law_column", 6)]) (N := N__law_leaf) (sc := defScope (topS 56)) (by decide +kernel)) (fun _ _ _ _ _ => pg_name (i := 6) sc__law_leaf.nd rfl (Or.inl rfl)) (fun _ _ _ _ _ => (pts_one (pt_cmpR op_eq (pe_ix (show IxR _ (rIxT K) from ix_tup) (pv 6) pe_int (fun _ _ => rfl)) (pv 2) (nomark _)))) (fun _ _ _ _ _ => (pe_ix (show IxR _ (rIxT K) from ix_tup) (pv 6) pe_int (fun _ _ => rfl))))
      (pss_cons (ps_set (i := 5) sc__law_leaf.nd rfl (.inl rfl) (pe_call (ok__law_draw E) (hr.mono (by omega)) (by rfl) E.d__law_draw.g E.d__law_draw.F.kp E.d__law_draw.b .nil pass0 (pa_cons (pv 0) (pa_cons pe_int pa_nil))))
      (pss_cons (ps_if (PW.pt (pw_and (pt_cmpR op_gt (pv 3) pe_int (nomark _)) (pw_and1 (pt_cmpR op_eq (pe_call (ok__law_draw E) (hr.mono (by omega)) (by rfl) E.d__law_draw.g E.d__law_draw.F.kp E.d__law_draw.b .nil pass0 (pa_cons (pv 0) (pa_cons pe_int pa_nil))) pe_int (nomark _))))) (pss_one (ps_ret (pe_tup (pa_cons pe_str (pa_cons (pe_call (ok__law_stranger E) (hr.mono (by omega)) (by rfl) E.d__law_stranger.g E.d__law_stranger.F.kp E.d__law_stranger.b .nil pass0 (pa_cons (pv 0) (pa_cons (pv 1) pa_nil))) pa_nil))))) pss_nil)
      (pss_cons (ps_if (pt_cmpR op_eq (pv 5) pe_int (nomark _)) (pss_one (ps_ret (pe_tup (pa_cons pe_str (pa_cons (pv 2) pa_nil))))) pss_nil)
      (pss_cons (ps_if (PW.pt (pw_and (pt_truth (pv 4) (by intro _; rfl)) (pw_and1 (pt_cmpR op_gt (pv 5) pe_int (nomark _))))) (pss_one (ps_ret (pe_tup (pa_cons pe_str (pa_cons (pe_ix ix_list (pv 4) (pe_call (ok__law_draw E) (hr.mono (by omega)) (by rfl) E.d__law_draw.g E.d__law_draw.F.kp E.d__law_draw.b .nil pass0 (pa_cons (pv 0) (pa_cons (pe_callB call_len (by rfl) E.n_len (by decide +kernel) (pa_cons (pv 4) pa_nil)) pa_nil))) (fun _ _ => rfl)) pa_nil))))) pss_nil)
      (pss_one (ps_ret (pe_tup (pa_cons pe_str (pa_cons (pe_call (ok__law_full E) (hr.mono (by omega)) (by rfl) E.d__law_full.g E.d__law_full.F.kp E.d__law_full.b .nil pass0 (pa_cons (pv 0) (pa_cons (pv 2) pa_nil))) pa_nil)))))))))), ?_⟩
    have hc0 := hc
    obtain ⟨us, hu, hp, hn⟩ := hc0
    have el := Paired.length hp
    refine ⟨_, rfl, ca, rfl, ⟨_, hu⟩, fun D nD => lc_tup (K := K) (a := ca) (xs := us) (fun i H' => Ex (fun b => b = D) (upd H D (.lst [])) H' ∧ H' D = some (.lst ((((cols.take i).filter fun c => decide (c.2 = k)).map (·.1)).map V.str))) ⟨Ex.refl _ _, upd_same⟩ (fun i H' _ hw => ((keep_new nD).trans hw.1.kp).tup hu) (fun i v H' hv hw => ?_) (fun H1 hw => ?_)⟩
    · obtain ⟨e4, hG⟩ := hw
      obtain ⟨c, b, hc1, rfl, hb⟩ := pair_vals hp hv
      have ir : i < cols.length := (List.getElem?_eq_some_iff.mp hc1).1
      have hb' := ((keep_new (o := .lst []) nD).trans e4.kp).tup hb
      have et : (cols.take (i + 1)).filter (fun c => decide (c.2 = k)) = (cols.take i).filter (fun c => decide (c.2 = k)) ++ (if c.2 = k then [c] else []) := by
        rw [List.take_add_one, List.filter_append, hc1]
        show _ ++ [c].filter _ = _
        by_cases m : c.2 = k
        · rw [if_pos m]
          simp [m]
        · rw [if_neg m]
          simp [m]
      refine ⟨rfl, _, rfl, _, _, _, _, rfl, rfl, hb', atI_nat (j := 1) rfl, _, rfl, rfl, _, rfl, ite2 (fun m => ?_) (fun m => ?_)⟩
      · have m' : c.2 = k := kd_inj (V.str.inj (of_decide_eq_true m))
        refine ⟨_, rfl, _, _, _, _, rfl, rfl, hb', atI_nat (j := 0) rfl, _, hG, small1000 ?_, e4.trans (ex_lst hG rfl), ?_⟩
        · rw [List.length_map, List.length_map]
          have := List.length_filter_le (fun c => decide (c.2 = k)) (cols.take i)
          rw [List.length_take] at this
          omega
        · rw [upd_same, et, if_pos m', List.map_append, List.map_append] <;> rfl
      · have m' : ¬ c.2 = k := fun z => m (decide_eq_true (by rw [z]))
        refine ⟨e4, ?_⟩
        rw [et, if_neg m', List.append_nil]
        exact hG
    obtain ⟨e4, hG⟩ := hw
    rw [← el] at hn
    rw [el, List.take_length] at hG
    have sm : Same H H1 := fun b o h => e4.at_ b o (fun z => by rw [z, nD] at h; cases h) (same_new nD _ _ h)
    have nt := hT.nt nD
    have mem : ∀ x ∈ (cols.filter fun c => decide (c.2 = k)).map (·.1), kindIn cols x = some k := fun x hx => by
      obtain ⟨c, hc1, rfl⟩ := List.mem_map.mp hx
      obtain ⟨h1, h2⟩ := List.mem_filter.mp hc1
      have h3 : c.2 = k := of_decide_eq_true h2
      exact kin_mem nd (by rw [← h3]; exact h1)
    have nl : ((cols.filter fun c => decide (c.2 = k)).map (·.1)).length ≤ 6 := by
      rw [List.length_map]
      have := List.length_filter_le (fun c => decide (c.2 = k)) cols
      omega
    generalize (cols.filter fun c => decide (c.2 = k)).map (·.1) = names at hG mem nl
    have d1 := (Dr.zero hT).same sm
    refine ⟨_, rfl, s, t, 8, rfl, d1.tp, by omega, by omega, fun ch H2 x0 x1 e2 T2 => ?_⟩
    have d2 := d1.go e2 T2
    have hD2 : H2 D = some (.lst (names.map V.str)) := e2.at_ _ _ nt.1 hG
    try dsimp only [gName]
    refine joinIf (fun σ G => σ = [some (.ref t), some (.ref ca), some (.str k.s), some (.int dr), some (.ref D), some (.int ch), none] ∧ Dr s t H G ∧ G D = some (.lst (names.map V.str))) (fun nx hnx => ?_) (fun σ G hM => ?_)
    · refine ⟨_, rfl, _, _, rfl, rfl, _, rfl, ite2 (fun c => ?_) (fun c => ?_)⟩
      · have c' : 0 < dr := of_decide_eq_true c
        refine ⟨_, rfl, s, t, 12, rfl, d2.tp, by omega, by omega, fun z H3 z0 z1 e3 T3 => ⟨rfl, _, rfl, ite2 (fun m => ?_) (fun m => ?_)⟩⟩
        · have d3 := d2.go e3 T3
          refine ⟨_, rfl, _, rfl, s, t, ca, cols, rfl, T3, hc.keep d3.kp, fun x H4 d4 => ?_⟩
          refine ⟨(by show 2 ≤ sizeLine; decide), fun p5 n5 => ?_⟩
          exact q _ _ ((d3.trans d4).new n5 _) ⟨.column x, ⟨p5, rfl, .inl (.inl upd_same)⟩, trivial, Nat.zero_lt_one, fun z => absurd z (by omega)⟩
        · exact hnx _ _ ⟨rfl, d2.go e3 T3, e3.at_ _ _ nt.1 hD2⟩
      · exact hnx _ _ ⟨rfl, d2, hD2⟩
    obtain ⟨rfl, d3, hD3⟩ := hM
    refine ⟨_, rfl, rfl, _, rfl, ite2 (fun c => ?_) (fun c => ?_)⟩
    · refine ⟨_, rfl, (by show 2 ≤ sizeLine; decide), fun p5 n5 => ?_⟩
      exact q _ _ (d3.new n5 _) ⟨.nothing k, ⟨p5, rfl, .inl (.inl upd_same)⟩, trivial, Nat.zero_lt_one, fun _ => rfl⟩
    have cell : ∀ v c H', Dr s t G H' → c.Ok → c.kind = some k → IsCell K H' v c → ∀ p, H' p = none → Q (.ref p) (upd H' p (.tup [.str "cell", v])) := fun v c H' d ok ck ic p n => q _ _ ((d3.trans d).new n _) ⟨.cell c, ⟨p, v, rfl, .inl (.inl upd_same), ic.keep (keep_new n)⟩, ⟨ok, fun z => by rw [z] at ck; cases ck⟩, Nat.zero_lt_one, fun _ => ck⟩
    refine ⟨_, rfl, _, .inl ⟨_, SqL.of hD3, rfl⟩, ite2 (fun m => ?_) (fun m => ?_)⟩
    · refine ⟨_, rfl, _, _, rfl, rfl, _, rfl, ite2 (fun l => ?_) (fun l => ?_)⟩
      · have ne : names.length ≠ 0 := fun z => by
          have : names = [] := List.length_eq_zero_iff.mp z
          rw [this] at m
          cases m
        refine ⟨_, rfl, _, rfl, _, rfl, _, _, rfl, .inl ⟨_, SqL.of hD3, rfl⟩, s, t, _, rfl, d3.tp, by rw [List.length_map]; omega, by rw [List.length_map]; omega, fun z H4 z0 z1 e4 T4 => ?_⟩
        rw [List.length_map] at z1
        obtain ⟨x, hx, ex⟩ := atI_get (xs := names.map V.str) z0 (by rw [List.length_map]; exact z1)
        obtain ⟨x', hx', rfl⟩ := List.mem_map.mp hx
        refine ⟨_, _, _, _, rfl, rfl, SqL.of (e4.at_ _ _ nt.1 hD3), ex, (by show 2 ≤ sizeLine; decide), fun p5 n5 => ?_⟩
        exact q _ _ ((d3.go e4 T4).new n5 _) ⟨.column x', ⟨p5, rfl, .inl (.inl upd_same)⟩, trivial, Nat.zero_lt_one, fun _ => mem x' hx'⟩
      · exact ⟨_, rfl, _, rfl, s, t, k, rfl, d3.tp, fun v c H' d ok ck ic => ⟨(by show 2 ≤ sizeLine; decide), fun p n => cell v c H' d ok ck ic p n⟩⟩
    · exact ifF rfl ⟨_, rfl, _, rfl, s, t, k, rfl, d3.tp, fun v c H' d ok ck ic => ⟨(by show 2 ≤ sizeLine; decide), fun p n => cell v c H' d ok ck ic p n⟩⟩
end
end K7
/-! W18 -/
namespace K7
open PySem PySem.Spec PyProof.Rows L2 TL
/-! ### the expression of a form -/
def Form.mk : Form → List Tree → List Cell → Tree
  | .one o, t :: _, _ => .one o t
  | .two o, s :: t :: _, _ => .two o s t
  | .cond, c :: s :: t :: _, _ => .cond c s t
  | .isin, t :: _, cs => .isin t cs
  | _, _, _ => .nothing .num
def Form.ar : Form → Nat
  | .one _ => 1
  | .two _ => 2
  | .cond => 3
  | .isin => 1
theorem wants_len (k : Kd) (f : Form) : (f.wants k).length = f.ar := by
  cases f with
  | one o => cases o <;> rfl
  | two o => cases o <;> rfl
  | cond => rfl
  | isin => rfl
def okF (k c : Kd) (f : Form) : Bool := match f with
  | .one o => match (f.wants k).map (Want.res c) with
    | [a] => decide (K1 o a = some k)
    | _ => false
  | .two o => match (f.wants k).map (Want.res c) with
    | [a, b] => decide (K2 o a b = some k)
    | _ => false
  | .cond => true
  | .isin => decide (k = .boo)
theorem okF_all (k c : Kd) : ∀ f ∈ formsF k, okF k c f = true := by
  cases k <;> cases c <;> decide +kernel
theorem form_ar (f : Form) : 1 ≤ f.ar ∧ f.ar ≤ 3 := by
  cases f <;> simp [Form.ar]
theorem len1 {α : Type} {l : List α} (h : l.length = 1) : ∃ a, l = [a] := by
  match l, h with
  | [a], _ => exact ⟨a, rfl⟩
theorem len2 {α : Type} {l : List α} (h : l.length = 2) : ∃ a b, l = [a, b] := by
  match l, h with
  | [a, b], _ => exact ⟨a, b, rfl⟩
theorem len3 {α : Type} {l : List α} (h : l.length = 3) : ∃ a b c, l = [a, b, c] := by
  match l, h with
  | [a, b, c], _ => exact ⟨a, b, c, rfl⟩
theorem mk_tree {K : PySem.W.Frag} {H : Hp} {a : Addr} {f : Form} {us : List V} {ts : List Tree} (n : f ≠ .isin) (h : SqT K H a (.str f.word :: us)) (tr : Trees K H us ts) (l : ts.length = f.ar) (cs : List Cell) : IsTree K H (.ref a) (f.mk ts cs) := by
  have lu := Paired.length tr
  cases f with
  | one o =>
    obtain ⟨t, rfl⟩ := len1 (show ts.length = 1 from l)
    obtain ⟨u, rfl⟩ := len1 lu
    cases tr with
    | cons h1 _ => exact ⟨a, u, rfl, h, h1⟩
  | two o =>
    obtain ⟨s, t, rfl⟩ := len2 (show ts.length = 2 from l)
    obtain ⟨u, v, rfl⟩ := len2 lu
    cases tr with
    | cons h1 r =>
      cases r with
      | cons h2 _ => exact ⟨a, u, v, rfl, h, h1, h2⟩
  | cond =>
    obtain ⟨c, s, t, rfl⟩ := len3 (show ts.length = 3 from l)
    obtain ⟨u, v, w, rfl⟩ := len3 lu
    cases tr with
    | cons h1 r =>
      cases r with
      | cons h2 r =>
        cases r with
        | cons h3 _ => exact ⟨a, u, v, w, rfl, h, h1, h2, h3⟩
  | isin => exact absurd rfl n
theorem mk_in {K : PySem.W.Frag} {H : Hp} {a b : Addr} {us vs : List V} {ts : List Tree} {cs : List Cell} (h : SqT K H a (.str "in" :: (us ++ [.ref b]))) (tr : Trees K H us ts) (l : ts.length = 1) (h2 : SqT K H b vs) (hc : Cells K H vs cs) : IsTree K H (.ref a) (Form.isin.mk ts cs) := by
  have lu := Paired.length tr
  obtain ⟨t, rfl⟩ := len1 l
  obtain ⟨u, rfl⟩ := len1 lu
  cases tr with
  | cons h1 _ => exact ⟨a, u, b, vs, rfl, h, h1, h2, hc⟩
theorem mk_ok {f : Form} {ts : List Tree} {cs : List Cell} (l : ts.length = f.ar) (ho : ∀ t ∈ ts, t.Ok) (hc : ∀ c ∈ cs, c.Ok ∧ c ≠ .non) (hn : cs.length ≤ 8) : (f.mk ts cs).Ok := by
  cases f with
  | one o =>
    match ts, l with
    | [t], _ => exact ho t (by simp)
  | two o =>
    match ts, l with
    | [s, t], _ => exact ⟨ho s (by simp), ho t (by simp)⟩
  | cond =>
    match ts, l with
    | [c, s, t], _ => exact ⟨ho c (by simp), ho s (by simp), ho t (by simp)⟩
  | isin =>
    match ts, l with
    | [t], _ => exact ⟨ho t (by simp), hc, hn⟩
theorem mk_dep {f : Form} {ts : List Tree} {cs : List Cell} {m : Nat} (l : ts.length = f.ar) (ho : ∀ t ∈ ts, t.dep < m) : (f.mk ts cs).dep < m + 1 := by
  cases f with
  | one o =>
    match ts, l with
    | [t], _ =>
      have := ho t (by simp)
      show t.dep + 1 < m + 1
      omega
  | two o =>
    match ts, l with
    | [s, t], _ =>
      have := ho s (by simp)
      have := ho t (by simp)
      show max s.dep t.dep + 1 < m + 1
      omega
  | cond =>
    match ts, l with
    | [c, s, t], _ =>
      have := ho c (by simp)
      have := ho s (by simp)
      have := ho t (by simp)
      show max c.dep (max s.dep t.dep) + 1 < m + 1
      omega
  | isin =>
    match ts, l with
    | [t], _ =>
      have := ho t (by simp)
      show t.dep + 1 < m + 1
      omega
theorem mk_kind {cols : Cols} {k c : Kd} {f : Form} {ts : List Tree} {cs : List Cell} (hf : f ∈ formsF k) (h : ts.map (kindT cols) = (f.wants k).map fun w => some (w.res c)) (hc : f = .isin → ∀ x ∈ cs, x.kind = some c) : kindT cols (f.mk ts cs) = some k := by
  have ok := okF_all k c f hf
  have hl := wants_len k f
  have lt : ts.length = f.ar := by
    have := congrArg List.length h
    rw [List.length_map, List.length_map, hl] at this
    exact this
  cases f with
  | one o =>
    obtain ⟨w, hw⟩ := len1 (show ((Form.one o).wants k).length = 1 from hl)
    obtain ⟨t, rfl⟩ := len1 (show ts.length = 1 from lt)
    rw [hw] at h
    have h1 : kindT cols t = some (w.res c) := by simpa using h
    have ok2 : (match ((Form.one o).wants k).map (Want.res c) with | [a] => decide (K1 o a = some k) | _ => false) = true := ok
    rw [hw] at ok2
    show (allK [kindT cols t]).bind (kfin (.one o t)) = some k
    rw [h1]
    show kfin (.one o t) [w.res c] = some k
    rw [kfin_one]
    exact of_decide_eq_true ok2
  | two o =>
    obtain ⟨w, w2, hw⟩ := len2 (show ((Form.two o).wants k).length = 2 from hl)
    obtain ⟨s, t, rfl⟩ := len2 (show ts.length = 2 from lt)
    rw [hw] at h
    have h1 : kindT cols s = some (w.res c) ∧ kindT cols t = some (w2.res c) := by simpa using h
    have ok2 : (match ((Form.two o).wants k).map (Want.res c) with | [a, b] => decide (K2 o a b = some k) | _ => false) = true := ok
    rw [hw] at ok2
    show (allK [kindT cols s, kindT cols t]).bind (kfin (.two o s t)) = some k
    rw [h1.1, h1.2]
    show kfin (.two o s t) [w.res c, w2.res c] = some k
    rw [kfin_two]
    exact of_decide_eq_true ok2
  | cond =>
    obtain ⟨a, s, t, rfl⟩ := len3 (show ts.length = 3 from lt)
    have h' : [a, s, t].map (kindT cols) = [some .boo, some k, some k] := h
    have h1 : kindT cols a = some .boo ∧ kindT cols s = some k ∧ kindT cols t = some k := by simpa using h'
    show (allK [kindT cols a, kindT cols s, kindT cols t]).bind (kfin (.cond a s t)) = some k
    rw [h1.1, h1.2.1, h1.2.2]
    show (if k = k then (if Kd.boo = .boo then some k else none) else none) = some k
    rw [if_pos rfl, if_pos rfl]
  | isin =>
    have hk : k = .boo := of_decide_eq_true ok
    subst hk
    obtain ⟨t, rfl⟩ := len1 (show ts.length = 1 from lt)
    have h' : [t].map (kindT cols) = [some c] := h
    have h1 : kindT cols t = some c := by simpa using h'
    show (allK [kindT cols t]).bind (kfin (.isin t cs)) = some .boo
    rw [h1]
    show (if cs.all (fun x => decide (x.kind = some c)) = true then some Kd.boo else none) = some .boo
    rw [if_pos (List.all_eq_true.mpr fun x hx => decide_eq_true (hc rfl x hx))]
theorem want_any (w : Want) : decide (V.str w.s = V.str "any") = decide (w = .any) := by
  cases w with
  | any => decide +kernel
  | kd k => cases k <;> decide +kernel
theorem ixN_nat {n j : Nat} (h : j < n) : ixN n (j : Int) = some j := by
  unfold ixN
  rw [if_pos (by omega), if_pos (by omega)]
  simp
theorem Paired.set {α β : Type} {F : α → β → Prop} : ∀ {l : List α} {r : List β} {j : Nat} {x : α} {y : β}, Paired F l r → F x y → Paired F (l.set j x) (r.set j y)
  | _, _, _, _, _, .nil, _ => .nil
  | _, _, 0, _, _, .cons _ t, h => .cons h t
  | _, _, _ + 1, _, _, .cons a t, h => .cons a (Paired.set t h)
section
variable {P : Program} {w : World} {K : PySem.W.Frag} {mg : Str → Option Value} {base : Heap}
def spTr (K : PySem.W.Frag) (n : Nat) : Sp := fun vs H Q _ => ∃ (s t ca : Addr) (cols : Cols) (k : Kd) (m : Nat) (dr : Int), vs = [.ref t, .ref ca, .str k.s, .int m, .int dr] ∧ Tape H s t ∧ IsCols K H ca cols ∧ (cols.map (·.1)).Nodup ∧ 1 ≤ m ∧ m ≤ n ∧ n ≤ 100 ∧ 0 ≤ dr ∧ dr ≤ 9 ∧
  ∀ v H', Dr s t H H' → Drawn K cols k m dr v H' → Q v H'
abbrev N__law_tree : List Str := ["_law_tape_here", "_law_columns_here", "_law_kind_here", "_law_most", "_law_drift", "_law_forms_here", "_law_form", "_law_chosen", "_law_room", "_law_tree_here", "_law_wanted", "_law_more", "_law_cells_here", "_law_k"]
theorem sc__law_tree : FnScope N__law_tree ["_law_tape_here", "_law_columns_here", "_law_kind_here", "_law_most", "_law_drift"] (defScope (topS 57)) := ⟨rfl, rfl, rfl, by decide +kernel, rfl, by decide +kernel, by decide +kernel⟩
theorem ok__law_tree (E : Ev K w mg) : ∀ n, FnOk P w K mg base CX0 (n + 5) E.d__law_tree.f E.d__law_tree.fd ["_law_tape_here", "_law_columns_here", "_law_kind_here", "_law_most", "_law_drift"] (spTr K n)
  | 0 => by
    refine E.d__law_tree.F.ok sc__law_tree (fun vs H Q X h => ?_) (fun cdv A outer s H vs Q X hr h => ?_)
    · obtain ⟨s, t, ca, cols, k, m, dr, _, _, _, _, h1, h2, _⟩ := h
      omega
    · obtain ⟨s, t, ca, cols, k, m, dr, _, _, _, _, h1, h2, _⟩ := h
      omega
  | n + 1 => by
    refine E.d__law_tree.F.ok sc__law_tree (fun vs H Q X h => ?_) (fun cdv A outer s H vs Q X hr h => ?_)
    · obtain ⟨s, t, ca, cols, k, m, dr, rfl, _⟩ := h
      rfl
    obtain ⟨s, t, ca, cols, k0, m, dr, rfl, hT, hc, nd, m1, m2, n100, dr0, dr9, q⟩ := h
    refine ⟨_, PSs.nox (pss_cons (ps_if (PW.pt (pw_and (pt_cmpR op_gt (pv 4) pe_int (nomark _)) (pw_and1 (pt_cmpR op_eq (pe_call (ok__law_draw E) (hr.mono (by omega)) (by rfl) E.d__law_draw.g E.d__law_draw.F.kp E.d__law_draw.b .nil pass0 (pa_cons (pv 0) (pa_cons (pv 4) pa_nil))) pe_int (nomark _))))) (pss_one (ps_set (i := 2) sc__law_tree.nd rfl (.inl rfl) (pe_call (ok__law_kind_drawn E) (hr.mono (by omega)) (by rfl) E.d__law_kind_drawn.g E.d__law_kind_drawn.F.kp E.d__law_kind_drawn.b .nil pass0 (pa_cons (pv 0) pa_nil)))) pss_nil)
      (pss_cons (ps_setLc (i := 5) (own := [("_law_form", 6)]) (g := gName 6) rfl sc__law_tree.nd rfl rfl (sw_true rfl rfl rfl (by decide +kernel)) (pi_list (pe_call (ok__law_forms E) (hr.mono (by omega)) (by rfl) E.d__law_forms.g E.d__law_forms.F.kp E.d__law_forms.b .nil pass0 (pa_cons (pv 2) pa_nil))) (blkOk_by (own := [("_law_form", 6)]) (N := N__law_tree) (sc := defScope (topS 57)) (by decide +kernel)) (fun _ _ _ _ _ => pg_name (i := 6) sc__law_tree.nd rfl (Or.inl rfl)) (fun _ _ _ _ _ => (pts_one (pt_cmpR op_le (pe_callB (show CallR _ (.builtin "len") (rLen K) from call_len) (by rfl) E.n_len (by decide +kernel) (pa_cons (pv 6) pa_nil)) (pv 3) (nomark _)))) (fun _ _ _ _ _ => (pv 6)))
      (pss_cons (ps_if (PW.pt (pw_or (pt_not (pt_truth (pv 5) (by intro _; rfl))) (pw_or1 (pt_cmpR op_eq (pe_call (ok__law_draw E) (hr.mono (by omega)) (by rfl) E.d__law_draw.g E.d__law_draw.F.kp E.d__law_draw.b .nil pass0 (pa_cons (pv 0) (pa_cons pe_int pa_nil))) pe_int (nomark _))))) (pss_one (ps_ret (pe_call (ok__law_leaf E) (hr.mono (by omega)) (by rfl) E.d__law_leaf.g E.d__law_leaf.F.kp E.d__law_leaf.b .nil pass0 (pa_cons (pv 0) (pa_cons (pv 1) (pa_cons (pv 2) (pa_cons (pv 4) pa_nil))))))) pss_nil)
      (pss_cons (ps_set (i := 6) sc__law_tree.nd rfl (.inl rfl) (pe_ix ix_list (pv 5) (pe_call (ok__law_draw E) (hr.mono (by omega)) (by rfl) E.d__law_draw.g E.d__law_draw.F.kp E.d__law_draw.b .nil pass0 (pa_cons (pv 0) (pa_cons (pe_callB call_len (by rfl) E.n_len (by decide +kernel) (pa_cons (pv 5) pa_nil)) pa_nil))) (fun _ _ => rfl)))
      (pss_cons (ps_set (i := 7) sc__law_tree.nd rfl (.inr rfl) (pe_call (ok__law_kind_drawn E) (hr.mono (by omega)) (by rfl) E.d__law_kind_drawn.g E.d__law_kind_drawn.F.kp E.d__law_kind_drawn.b .nil pass0 (pa_cons (pv 0) pa_nil)))
      (pss_cons (ps_set (i := 8) sc__law_tree.nd rfl (.inl rfl) (pe_op op_sub (pv 3) (pe_callB call_len (by rfl) E.n_len (by decide +kernel) (pa_cons (pv 6) pa_nil))))
      (pss_cons (ps_set (i := 9) sc__law_tree.nd rfl (.inl rfl) (pe_lst (pa_cons (pe_ix ix_tup (pv 6) pe_int (fun _ _ => rfl)) pa_nil)))
      (pss_cons (ps_for PassesOwn.never rfl (pi_tup (pe_slice sl_tup (pv 6) (po_some pe_int) po_none)) (pg_name (i := 10) sc__law_tree.nd rfl (.inl rfl))
        (pss_cons (ps_set (i := 11) sc__law_tree.nd rfl (.inl rfl) (pe_call (ok__law_draw E) (hr.mono (by omega)) (by rfl) E.d__law_draw.g E.d__law_draw.F.kp E.d__law_draw.b .nil pass0 (pa_cons (pv 0) (pa_cons (pe_op op_add (pv 8) pe_int) pa_nil))))
          (pss_cons (ps_set (i := 8) sc__law_tree.nd rfl (.inl rfl) (pe_op op_sub (pv 8) (pv 11)))
          (pss_cons (ps_if (pt_cmpR op_eq (pv 10) pe_str (nomark _)) (pss_one (ps_set (i := 10) sc__law_tree.nd rfl (.inl rfl) (pv 7))) pss_nil)
          (pss_one (ps_expr (pe_bm PySem.F.plainAttrs_list PySem.F.slot_list_append PySem.F.type_list_append mt_append (pv 9) (pa_cons (pe_call (ok__law_tree E n) (hr.mono (by omega)) (by rfl) E.d__law_tree.g E.d__law_tree.F.kp E.d__law_tree.b .nil pass0 (pa_cons (pv 0) (pa_cons (pv 1) (pa_cons (pv 10) (pa_cons (pe_op op_add pe_int (pv 11)) (pa_cons (pv 4) pa_nil)))))) pa_nil))))))))
      (pss_cons (ps_if (pt_cmpR op_eq (pe_ix ix_tup (pv 6) pe_int (fun _ _ => rfl)) pe_str (nomark _)) (pss_cons (ps_setLc (i := 12) (own := [("_law_k", 13)]) (g := gName 13) rfl sc__law_tree.nd rfl rfl (sw_true rfl rfl rfl (by decide +kernel)) (pi_range1 rfl E.n_range (pa_cons (pe_ix ix_list (pe_lst (pa_cons pe_int (pa_cons pe_int (pa_cons pe_int (pa_cons pe_int pa_nil))))) (pe_call (ok__law_draw E) (hr.mono (by omega)) (by rfl) E.d__law_draw.g E.d__law_draw.F.kp E.d__law_draw.b .nil pass0 (pa_cons (pv 0) (pa_cons pe_int pa_nil))) (fun _ _ => rfl)) pa_nil)) (blkOk_by (own := [("_law_k", 13)]) (N := N__law_tree) (sc := defScope (topS 57)) (by decide +kernel)) (fun _ _ _ _ _ => pg_name (i := 13) sc__law_tree.nd rfl (Or.inl rfl)) (fun _ _ _ _ _ => pts_nil) (fun _ _ _ _ _ => (pe_call (ok__law_full E) (hr.mono (by omega)) (by rfl) E.d__law_full.g E.d__law_full.F.kp E.d__law_full.b .nil pass0 (pa_cons (pv 0) (pa_cons (pv 7) pa_nil)))))
        (pss_cons (ps_if (PW.pt (pw_and (pt_cmpR op_gt (pv 4) pe_int (nomark _)) (pw_and1 (pt_cmpR op_eq (pe_call (ok__law_draw E) (hr.mono (by omega)) (by rfl) E.d__law_draw.g E.d__law_draw.F.kp E.d__law_draw.b .nil pass0 (pa_cons (pv 0) (pa_cons pe_int pa_nil))) pe_int (nomark _))))) (pss_one (ps_asg (pe_call (ok__law_full E) (hr.mono (by omega)) (by rfl) E.d__law_full.g E.d__law_full.F.kp E.d__law_full.b .nil pass0 (pa_cons (pv 0) (pa_cons (pe_call (ok__law_kind_drawn E) (hr.mono (by omega)) (by rfl) E.d__law_kind_drawn.g E.d__law_kind_drawn.F.kp E.d__law_kind_drawn.b .nil pass0 (pa_cons (pv 0) pa_nil)) pa_nil))) (pg_sub (pv 12) (pe_call (ok__law_draw E) (hr.mono (by omega)) (by rfl) E.d__law_draw.g E.d__law_draw.F.kp E.d__law_draw.b .nil pass0 (pa_cons (pv 0) (pa_cons (pe_callB call_len (by rfl) E.n_len (by decide +kernel) (pa_cons (pv 12) pa_nil)) pa_nil))) set_list))) pss_nil)
        (pss_one (ps_expr (pe_bm PySem.F.plainAttrs_list PySem.F.slot_list_append PySem.F.type_list_append mt_append (pv 9) (pa_cons (pe_callTy call_tuple_of (by rfl) E.n_tuple (by decide +kernel) (pa_cons (pv 12) pa_nil)) pa_nil)))))) pss_nil)
      (pss_one (ps_ret (pe_callTy call_tuple_of (by rfl) E.n_tuple (by decide +kernel) (pa_cons (pv 9) pa_nil))))))))))))), ?_⟩
    refine joinIf (fun σ G => ∃ k : Kd, σ = [some (.ref t), some (.ref ca), some (.str k.s), some (.int m), some (.int dr), none, none, none, none, none, none, none, none, none] ∧ Dr s t H G ∧ (dr = 0 → k = k0)) (fun nx hnx => ?_) (fun σ G hM => ?_)
    · refine ⟨_, rfl, _, _, rfl, rfl, _, rfl, ite2 (fun c => ?_) (fun c => ?_)⟩
      · have c' : 0 < dr := of_decide_eq_true c
        refine ⟨_, rfl, _, rfl, s, t, dr, rfl, hT, by omega, by omega, fun z H3 z0 z1 e3 T3 => ⟨rfl, _, rfl, ite2 (fun m => ?_) (fun m => ?_)⟩⟩
        · have d3 := (Dr.zero hT).go e3 T3
          exact ⟨_, rfl, s, t, rfl, T3, fun k H4 d4 => hnx _ _ ⟨k, rfl, d3.trans d4, fun z => by omega⟩⟩
        · exact hnx _ _ ⟨k0, rfl, (Dr.zero hT).go e3 T3, fun _ => rfl⟩
      · exact hnx _ _ ⟨k0, rfl, Dr.zero hT, fun _ => rfl⟩
    obtain ⟨k, rfl, d1, ek⟩ := hM
    refine ⟨_, rfl, k, rfl, fun l us H2 s2 hl nl fm => ?_⟩
    have d2 := d1.same s2
    refine ⟨l, rfl, ⟨_, SqL.of hl⟩, fun D nD => lc_list (K := K) (a := l) (xs := us) (fun i H' => Ex (fun b => b = D) (upd H2 D (.lst [])) H' ∧ ∃ ys fs, H' D = some (.lst ys) ∧ ys.length ≤ i ∧ Forms K H' k ys fs ∧ ∀ f ∈ fs, f ∈ formsF k ∧ f.ar + 1 ≤ m) ⟨Ex.refl _ _, [], [], upd_same, Nat.le_refl _, .nil, fun f hf => by cases hf⟩ (fun i H' _ hw => SqL.of (hw.1.at_ _ _ (fun z => by rw [z, nD] at hl; cases hl) (same_new nD _ _ hl))) (fun i v H' hv hw => ?_) (fun H3 hw => ?_)⟩
    · obtain ⟨e4, ys, fs, hG, ly, fy, hfs⟩ := hw
      obtain ⟨f, hf, b, rfl, hb⟩ := Paired.get fm hv
      have hb' := ((keep_new (o := .lst []) nD).trans e4.kp).tup hb
      have fl : (formS k f).length = f.ar + 1 := by
        show ((f.wants k).map _).length + 1 = _
        rw [List.length_map, wants_len]
      have fin : f ∈ formsF k := List.mem_of_getElem? hf
      have il : i < 20 := Nat.lt_of_lt_of_le (List.getElem?_eq_some_iff.mp hf).1 (by cases k <;> decide)
      refine ⟨rfl, _, rfl, _, _, rfl, .inr ⟨_, hb', rfl⟩, _, rfl, _, _, rfl, rfl, _, rfl, ite2 (fun c => ?_) (fun c => ?_)⟩
      · have c' : (((formS k f).length : Nat) : Int) ≤ (m : Nat) := of_decide_eq_true c
        rw [fl] at c'
        have kx := keep_lst (o := .lst (ys ++ [.ref b])) hG
        refine ⟨_, rfl, ys, hG, small1000 (by omega), e4.trans (ex_lst hG rfl), ys ++ [.ref b], fs ++ [f], upd_same, by rw [List.length_append]; simp; omega, Paired.app (Forms.keep fy kx) (.cons ⟨b, rfl, kx.tup hb'⟩ .nil), fun g hg => ?_⟩
        rcases List.mem_append.mp hg with z | z
        · exact hfs g z
        · have eg : g = f := by simpa using z
          rw [eg]
          exact ⟨fin, by omega⟩
      · exact ⟨e4, ys, fs, hG, by omega, fy, hfs⟩
    obtain ⟨e4, ys, fs, hG, ly, fy, hfs⟩ := hw
    have sm : Same H2 H3 := fun b o h => e4.at_ b o (fun z => by rw [z, nD] at h; cases h) (same_new nD _ _ h)
    have nt := d2.tp.nt nD
    have d3 := d2.same sm
    have yl := Paired.length fy
    have ul : us.length ≤ 20 := by
      rw [Paired.length fm]
      cases k <;> decide
    have leaf : ∀ G, Dr s t H G → ∀ v H', Dr s t G H' → Drawn K cols k 1 dr v H' → Q v H' := fun G d v H' d' ⟨T, t1, t2, t3, t4⟩ => q v H' (d.trans d') ⟨T, t1, t2, by omega, fun z => by rw [t4 z, ek z]⟩
    try dsimp only [gName]
    refine joinIf (fun σ G => σ = [some (.ref t), some (.ref ca), some (.str k.s), some (.int m), some (.int dr), some (.ref D), none, none, none, none, none, none, none, none] ∧ Dr s t H G ∧ Dr s t H3 G ∧ ys.length ≠ 0) (fun nx hnx => ?_) (fun σ G hM => ?_)
    · refine ⟨_, rfl, _, .inl ⟨_, SqL.of hG, rfl⟩, ?_⟩
      refine ite2 (fun c => ?_) (fun c => ?_)
      · exact ifT rfl ⟨_, rfl, _, rfl, _, rfl, _, rfl, s, t, ca, cols, k, dr, rfl, d3.tp, hc.keep d3.kp, nd, dr0, leaf H3 d3⟩
      · have ne : ys.length ≠ 0 := fun z => c (by
          have : ys = [] := List.length_eq_zero_iff.mp z
          rw [this] <;> rfl)
        refine ⟨_, rfl, s, t, 6, rfl, d3.tp, by omega, by omega, fun z H4 z0 z1 e4 T4 => ⟨rfl, _, rfl, ite2 (fun m => ?_) (fun m => ?_)⟩⟩
        · have d4 := d3.go e4 T4
          exact ⟨_, rfl, _, rfl, _, rfl, _, rfl, s, t, ca, cols, k, dr, rfl, d4.tp, hc.keep d4.kp, nd, dr0, leaf H4 d4⟩
        · exact hnx _ _ ⟨rfl, d3.go e4 T4, ⟨e4, T4⟩, ne⟩
    obtain ⟨rfl, d4, d34, ne⟩ := hM
    have hG4 := d34.at hG nt.1
    refine ⟨_, rfl, _, rfl, _, rfl, _, _, rfl, .inl ⟨_, SqL.of hG4, rfl⟩, s, t, _, rfl, d4.tp, by omega, by omega, fun z H5 z0 z1 e5 T5 => ?_⟩
    have d5 := d4.go e5 T5
    obtain ⟨j, rfl⟩ : ∃ j : Nat, z = (j : Int) := ⟨z.toNat, by omega⟩
    have jl : j < ys.length := by omega
    obtain ⟨f, hf, b, eb, hb⟩ := Paired.get (Forms.keep fy (d34.kp.trans e5.kp)) (List.getElem?_eq_getElem jl)
    obtain ⟨ff, fa⟩ := hfs f (List.mem_of_getElem? hf)
    refine ⟨_, _, _, _, rfl, rfl, SqL.of (e5.at_ _ _ nt.1 hG4), atI_nat (List.getElem?_eq_getElem jl), ?_⟩
    rw [eb]
    refine ⟨_, rfl, s, t, rfl, T5, fun ch H6 d6 => ?_⟩
    have d56 := d5.trans d6
    have hb6 := d6.kp.tup hb
    have fl : (formS k f).length = f.ar + 1 := by
      show ((f.wants k).map _).length + 1 = _
      rw [List.length_map, wants_len]
    refine ⟨_, rfl, _, rfl, _, _, rfl, .inr ⟨_, hb6, rfl⟩, _, _, rfl, rfl, ?_⟩
    rw [fl]
    refine ⟨_, rfl, _, _, _, _, rfl, rfl, hb6, atI_nat (j := 0) rfl, (by show 1 ≤ sizeLine; decide), fun L nL => ?_⟩
    have ntL := d56.tp.nt nL
    have nLH : H L = none := Option.eq_none_iff_forall_ne_some.mpr fun o z => by
      have := d56.at z (fun e => by rw [e] at nL; obtain ⟨_, _, _, _, h⟩ := d56.tp; rw [h.at_] at nL; cases nL)
      rw [this] at nL
      cases nL
    have d7 := d56.new nL (.lst [.str f.word])
    have hb7 := (keep_new (o := .lst [.str f.word]) nL).tup hb6
    refine ⟨_, rfl, _, rfl, b, _, rfl, hb7, fun z => ?_, fun p n8 => ?_⟩
    · have z1 := z.1
      rw [show HT.sIx (formS k f).length 0 (some 1) = min 1 (formS k f).length from HT.sIx_nat _ _ 1] at z1
      omega
    rw [show cutV (formS k f) (some 1) none = (f.wants k).map fun w => V.str w.s from cut1 _ _]
    have d8 := d7.new n8 (.tup ((f.wants k).map fun w => V.str w.s))
    have hL8 : upd (upd H6 L (.lst [.str f.word])) p (.tup ((f.wants k).map fun w => V.str w.s)) L = some (.lst [.str f.word]) := same_new n8 _ _ upd_same
    have hp8 : SqT K (upd (upd H6 L (.lst [.str f.word])) p (.tup ((f.wants k).map fun w => V.str w.s))) p ((f.wants k).map fun w => V.str w.s) := .inl (.inl upd_same)
    have hb8 := (keep_new (o := .tup ((f.wants k).map fun w => V.str w.s)) n8).tup hb7
    have wl := wants_len k f
    generalize upd (upd H6 L (.lst [.str f.word])) p (.tup ((f.wants k).map fun w => V.str w.s)) = H8 at d8 hL8 hp8 hb8 ⊢
    refine ⟨p, rfl, ⟨_, hp8⟩, for_tup (K := K) (a := p) (xs := (f.wants k).map fun w => V.str w.s) (fun i σ G => ∃ (room : Int) (y10 y11 : Option V) (us : List V) (ts : List Tree), σ = [some (.ref t), some (.ref ca), some (.str k.s), some (.int m), some (.int dr), some (.ref D), some (.ref b), some (.str ch.s), some (.int room), some (.ref L), y10, y11, none, none] ∧ Dr s t H G ∧ Keep H8 G ∧ G L = some (.lst (.str f.word :: us)) ∧ Trees K G us ts ∧ ts.length = i ∧ 0 ≤ room ∧ room + (f.ar + 1) ≤ m ∧ (∀ T ∈ ts, T.Ok ∧ T.dep < m - 1) ∧ (dr = 0 → ts.map (kindT cols) = ((f.wants k).take i).map fun w => some (w.res ch)))
      ⟨(m : Int) - ((f.ar + 1 : Nat) : Int), _, _, [], [], rfl, d8, Keep.refl _, hL8, .nil, rfl, by omega, by omega, (fun T hT => by cases hT), fun _ => rfl⟩ (fun i σ G _ hw => ?_) (fun i v σ G hv hw => ?_) (fun σ G hw => ?_)⟩
    · obtain ⟨room, y10, y11, us, ts, rfl, d9, k9, _⟩ := hw
      exact k9.tup hp8
    · obtain ⟨room, y10, y11, us, ts, rfl, d9, k9, hL, tr, tl, r0, r1, hts, hk⟩ := hw
      rw [List.getElem?_map] at hv
      obtain ⟨w, hw1, rfl⟩ := Option.map_eq_some_iff.mp hv
      have lu := Paired.length tr
      have fa3 := (form_ar f).2
      have il : i < f.ar := by
        rw [← wl]
        exact (List.getElem?_eq_some_iff.mp hw1).1
      refine ⟨_, rfl, _, rfl, _, _, rfl, rfl, s, t, _, rfl, d9.tp, by omega, by omega, fun more G1 z0 z1 e1 T1 => ?_⟩
      refine ⟨_, rfl, _, rfl, _, _, rfl, rfl, ?_⟩
      have d10 := d9.go e1 T1
      have hL1 := e1.at_ _ _ ntL.1 hL
      obtain ⟨j, rfl⟩ : ∃ j : Nat, more = (j : Int) := ⟨more.toNat, by omega⟩
      have fin : ∀ v (H' : Hp), Dr s t G1 H' → Drawn K cols (w.res ch) (1 + j) dr v H' → ∃ (us2 : List V) (ts2 : List Tree), H' L = some (.lst (.str f.word :: us)) ∧ us2 = us ++ [v] ∧ Dr s t H (upd H' L (.lst (.str f.word :: us2))) ∧ Keep H8 (upd H' L (.lst (.str f.word :: us2))) ∧ upd H' L (.lst (.str f.word :: us2)) L = some (.lst (.str f.word :: us2)) ∧ Trees K (upd H' L (.lst (.str f.word :: us2))) us2 ts2 ∧ ts2.length = i + 1 ∧ (∀ T ∈ ts2, T.Ok ∧ T.dep < m - 1) ∧ (dr = 0 → ts2.map (kindT cols) = ((f.wants k).take (i + 1)).map fun w => some (w.res ch)) := fun v H' dv ⟨T, t1, t2, t3, t4⟩ => by
        have hL2 := dv.at hL1 ntL.1
        have kx := keep_lst (o := .lst (.str f.word :: (us ++ [v]))) hL2
        have kk := (e1.kp.trans dv.kp).trans kx
        refine ⟨us ++ [v], ts ++ [T], hL2, rfl, (d10.trans dv).own nLH ntL hL2 _, k9.trans kk, upd_same, Paired.app (tr.keep kk) (.cons (t1.keep kx) .nil), by rw [List.length_append, tl] <;> rfl, fun S hS => ?_, fun z => ?_⟩
        · rcases List.mem_append.mp hS with y | y
          · exact hts S y
          · have e : S = T := by simpa using y
            rw [e]
            exact ⟨t2, by omega⟩
        · rw [List.map_append, hk z, List.take_add_one, hw1, List.map_append]
          show _ ++ [kindT cols T] = _ ++ [some (w.res ch)]
          rw [t4 z]
      refine ⟨_, rfl, rfl, _, rfl, ?_⟩
      cases w with
      | any =>
        refine ifT (by decide +kernel) ⟨_, rfl, ?_⟩
        refine ⟨_, rfl, .inl ⟨rfl, _, SqL.of hL1⟩, _, rfl, _, rfl, _, rfl, _, rfl, _, _, rfl, rfl, _, rfl, s, t, ca, cols, ch, 1 + j, dr, rfl, T1, hc.keep d10.kp, nd, by omega, by omega, by omega, dr0, dr9, fun v H' dv hd => ?_⟩
        obtain ⟨us2, ts2, g1, rfl, g2, g3, g4, g5, g6, g7, g8⟩ := fin v H' dv hd
        exact ⟨L, _, v, rfl, rfl, g1, small1000 (by simp; omega), _, _, _, us ++ [v], ts2, rfl, g2, g3, g4, g5, g6, by omega, by omega, g7, g8⟩
      | kd kw =>
        refine ifF (by cases kw <;> decide +kernel) ?_
        refine ⟨_, rfl, .inl ⟨rfl, _, SqL.of hL1⟩, _, rfl, _, rfl, _, rfl, _, rfl, _, _, rfl, rfl, _, rfl, s, t, ca, cols, kw, 1 + j, dr, rfl, T1, hc.keep d10.kp, nd, by omega, by omega, by omega, dr0, dr9, fun v H' dv hd => ?_⟩
        obtain ⟨us2, ts2, g1, rfl, g2, g3, g4, g5, g6, g7, g8⟩ := fin v H' dv hd
        exact ⟨L, _, v, rfl, rfl, g1, small1000 (by simp; omega), _, _, _, us ++ [v], ts2, rfl, g2, g3, g4, g5, g6, by omega, by omega, g7, g8⟩
    · obtain ⟨room, y10, y11, us, ts, rfl, d9, k9, hL, tr, tl, r0, r1, hts, hk⟩ := hw
      rw [List.length_map, wl] at tl
      have hk' : dr = 0 → ts.map (kindT cols) = (f.wants k).map fun w => some (w.res ch) := fun z => by
        have y := hk z
        rw [List.length_map, List.take_length] at y
        exact y
      have lu := Paired.length tr
      have fa3 := form_ar f
      have fw : decide (V.str f.word = V.str "in") = decide (f = .isin) := by
        cases f with
        | one o => cases o <;> decide +kernel
        | two o => cases o <;> decide +kernel
        | cond => decide +kernel
        | isin => decide +kernel
      refine ⟨_, rfl, _, _, _, _, rfl, rfl, k9.tup hb8, atI_nat (j := 0) rfl, rfl, _, rfl, ?_⟩
      rw [fw]
      by_cases fi : f = .isin
      · rw [decide_eq_true fi]
        refine ifT rfl ?_
        refine ⟨(by show 4 ≤ sizeLine; decide), fun p2 n2 => ?_⟩
        have nt2 := d9.tp.nt n2
        have e10 := (Dr.zero d9.tp).new n2 (.lst [.int 1, .int 2, .int 3, .int 8])
        refine ⟨_, rfl, s, t, 4, rfl, e10.tp, by omega, by omega, fun x G1 x0 x1 e1 T1 => ?_⟩
        obtain ⟨c8, hc8, ec8⟩ := atI_ints (ns := [1, 2, 3, 8]) (p := inR 1 8) (by decide +kernel) x0 (by show x < 4; omega)
        have c88 := inR_of hc8
        have e11 := e10.go e1 T1
        have d11 := d9.trans e11
        have hL11 := e11.at hL ntL.1
        have tr11 := tr.keep e11.kp
        refine ⟨_, _, _, _, rfl, rfl, SqL.of (e1.at_ _ _ nt2.1 upd_same), ec8, ?_⟩
        refine ⟨_, rfl, by omega, by omega, fun F nF => ?_⟩
        have ntF := d11.tp.nt nF
        have nFL : F ≠ L := fun e => by rw [e, hL11] at nF; cases nF
        have nFH : H F = none := Option.eq_none_iff_forall_ne_some.mpr fun o z => by
          have := d11.at z (fun e => by rw [e] at nF; obtain ⟨_, _, _, _, h⟩ := d11.tp; rw [h.at_] at nF; cases nF)
          rw [this] at nF
          cases nF
        refine lc_range (lo := 0) (n := c8.toNat) (fun i H' => MapInv (· = t) (fun G => Tape G s t) (fun j y G => ∃ c, IsCell K G y c ∧ c.Ok ∧ c.kind = some ch) F (upd G1 F (.lst [])) i H') (MapInv.zero nF (d11.tp.upd ntF _)) (fun i H' hi hw => ?_) (fun G2 hw => ?_)
        · refine ⟨rfl, tyes ?_⟩
          exact ⟨_, rfl, _, rfl, s, t, ch, rfl, hw.p, fun v c H2 d2 oc ck ic => hw.stepT d2 ⟨c, ic, oc, ck⟩ ntF (by omega) fun _ _ _ _ ⟨c, q1, q2, q3⟩ kq => ⟨c, q1.keep kq, q2, q3⟩⟩
        obtain ⟨vs, hl2, hn2, hy2⟩ := hw.l
        obtain ⟨cs, cl, hcs⟩ := choose_list (R := fun _ y c => IsCell K G2 y c ∧ c.Ok ∧ c.kind = some ch) (i := 0) hy2
        have d12' := hw.dr nF
        have d12 := d11.trans d12'
        have hL12 := d12'.at hL11 ntL.1
        have tr12 := tr11.keep d12'.kp
        have pc : Cells K G2 vs cs := paired_of cl.symm fun j y c h1 h2 => (hcs j y c h1 h2).1
        have oc : ∀ c ∈ cs, c.Ok ∧ c.kind = some ch := fun c hc => by
          obtain ⟨j, hj, e⟩ := List.mem_iff_getElem.mp hc
          have hj2 : j < vs.length := by omega
          have z := hcs j _ c (List.getElem?_eq_getElem hj2) (by rw [List.getElem?_eq_getElem hj, e])
          exact ⟨z.2.1, z.2.2⟩
        have non : ∀ {c : Cell} {k : Kd}, c.kind = some k → c ≠ .non := fun h e => by rw [e] at h; cases h
        try dsimp only [gName]
        refine joinIf (fun σ G => ∃ (vs : List V) (cs : List Cell), σ = [some (.ref t), some (.ref ca), some (.str k.s), some (.int m), some (.int dr), some (.ref D), some (.ref b), some (.str ch.s), some (.int room), some (.ref L), y10, y11, some (.ref F), none] ∧ Dr s t H G ∧ G L = some (.lst (.str f.word :: us)) ∧ Trees K G us ts ∧ G F = some (.lst vs) ∧ Cells K G vs cs ∧ cs.length ≤ 8 ∧ (∀ c ∈ cs, c.Ok ∧ c ≠ .non) ∧ (dr = 0 → ∀ c ∈ cs, c.kind = some ch)) (fun nx hnx => ?_) (fun σ G hM => ?_)
        · refine ⟨_, rfl, _, _, rfl, rfl, _, rfl, ite2 (fun c => ?_) (fun c => ?_)⟩
          · have c' : 0 < dr := of_decide_eq_true c
            refine ⟨_, rfl, s, t, 4, rfl, d12.tp, by omega, by omega, fun z G3 z0 z1 e3 T3 => ⟨rfl, _, rfl, ite2 (fun m => ?_) (fun m => ?_)⟩⟩
            · have d13 := d12.go e3 T3
              refine ⟨_, rfl, _, rfl, s, t, rfl, T3, fun kc G4 d4 => ?_⟩
              refine ⟨s, t, kc, rfl, d4.tp, fun v c G5 d5 okc ckc icc => ?_⟩
              have d35 := d4.trans d5
              have d25 : Dr s t G2 G5 := (Dr.zero d12.tp).go e3 T3 |>.trans d35
              have hF5 := d25.at hl2 ntF.1
              refine ⟨_, rfl, _, rfl, _, rfl, _, _, rfl, .inl ⟨_, SqL.of hF5, rfl⟩, s, t, _, rfl, d5.tp, by omega, by omega, fun x G6 x0 x1 e6 T6 => ?_⟩
              obtain ⟨j, rfl⟩ : ∃ j : Nat, x = (j : Int) := ⟨x.toNat, by omega⟩
              have jl : j < vs.length := by omega
              have d26 := d25.go e6 T6
              have hF6 := d26.at hl2 ntF.1
              have kx := keep_lst (o := .lst (vs.set j v)) hF6
              refine ⟨_, _, _, _, rfl, rfl, hF6, ixN_nat jl, hnx _ _ ⟨vs.set j v, cs.set j c, rfl, (d12.trans d26).own nFH ntF hF6 _, ?_, ?_, upd_same, ?_, by rw [List.length_set]; omega, fun c' hc' => ?_, fun z => by omega⟩⟩
              · rw [upd_ne (Ne.symm nFL)]
                exact d26.at hL12 ntL.1
              · exact tr12.keep (d26.kp.trans kx)
              · exact Paired.set (pc.keep (d26.kp.trans kx)) (icc.keep ((⟨e6, T6⟩ : Dr s t G5 G6).kp.trans kx))
              · rcases List.mem_or_eq_of_mem_set hc' with y | y
                · exact ⟨(oc _ y).1, non (oc _ y).2⟩
                · rw [y]
                  exact ⟨okc, non ckc⟩
            · have d23 : Dr s t G2 G3 := ⟨e3, T3⟩
              exact hnx _ _ ⟨vs, cs, rfl, d12.go e3 T3, d23.at hL12 ntL.1, tr12.keep d23.kp, d23.at hl2 ntF.1, pc.keep d23.kp, by omega, fun c hc => ⟨(oc c hc).1, non (oc c hc).2⟩, fun _ c hc => (oc c hc).2⟩
          · exact hnx _ _ ⟨vs, cs, rfl, d12, hL12, tr12, hl2, pc, by omega, fun c hc => ⟨(oc c hc).1, non (oc c hc).2⟩, fun _ c hc => (oc c hc).2⟩
        obtain ⟨vs, cs, rfl, d13, hL13, tr13, hF13, pc13, cl13, oc13, kc13⟩ := hM
        refine ⟨_, rfl, .inl ⟨rfl, _, SqL.of hL13⟩, _, rfl, F, _, rfl, .inl ⟨SqL.of hF13, fun r nr => ?_⟩⟩
        have d14 := d13.new nr (.tup vs)
        have kr := keep_new (o := .tup vs) nr
        have hL14 : upd G r (.tup vs) L = some (.lst (.str f.word :: us)) := same_new nr _ _ hL13
        have rL : r ≠ L := fun e => by rw [e, hL13] at nr; cases nr
        refine ⟨L, _, .ref r, rfl, rfl, hL14, small1000 (by simp; omega), ?_⟩
        have kx := keep_lst (o := .lst ((.str f.word :: us) ++ [.ref r])) hL14
        have d15 := d14.own nLH ntL hL14 (.lst ((.str f.word :: us) ++ [.ref r]))
        refine ⟨_, rfl, L, _, rfl, .inl ⟨SqL.of upd_same, fun z nz => ?_⟩⟩
        have kz := keep_new (o := .tup ((.str f.word :: us) ++ [.ref r])) nz
        refine q _ _ (d15.new nz _) ⟨f.mk ts cs, ?_, mk_ok tl (fun T hT => (hts T hT).1) oc13 cl13, ?_, fun z => by rw [mk_kind ff (hk' z) fun _ => kc13 z, ek z]⟩
        · subst fi
          exact mk_in (us := us) (.inl (.inl upd_same)) (tr13.keep ((kr.trans kx).trans kz)) tl ((kx.trans kz).tup (.inl (.inl upd_same))) (pc13.keep ((kr.trans kx).trans kz))
        · have := mk_dep (cs := cs) tl fun T hT => (hts T hT).2
          omega
      · rw [decide_eq_false fi]
        refine ifF rfl ?_
        refine ⟨_, rfl, L, _, rfl, .inl ⟨SqL.of hL, fun z nz => ?_⟩⟩
        have kz := keep_new (o := .tup (.str f.word :: us)) nz
        refine q _ _ (d9.new nz _) ⟨f.mk ts [], mk_tree fi (.inl (.inl upd_same)) (tr.keep kz) tl [], mk_ok tl (fun T hT => (hts T hT).1) (fun c hc => by cases hc) (by simp), ?_, fun z => by rw [mk_kind ff (hk' z) fun y => absurd y fi, ek z]⟩
        have := mk_dep (cs := []) tl fun T hT => (hts T hT).2
        omega
end
end K7
/-! W19 -/
namespace K7
open PySem PySem.Spec PyProof.Rows L2 TL
section
variable {X : Cx}
theorem count_eqU {x : V} : ∀ {xs : List V} {us : List Value}, Vals xs us → xs.all flatV = true → us.countP (eqU x) = xs.countP fun y => eqV y x
  | _, _, .nil, _ => rfl
  | y :: xs, u :: us, .cons r t, f => by
    rw [List.all_cons, Bool.and_eq_true] at f
    rw [List.countP_cons, List.countP_cons, eqU_of r f.1, count_eqU t f.2]
def rCntF (K : PySem.W.Frag) : V → List V → Hp → VK → Prop := fun x xs H Q => ∃ (p : Addr) (ys : List V) (y : V), x = V.ref p ∧ xs = [y] ∧ SqL K H p ys ∧ flatV y = true ∧ ys.all flatV = true ∧ Q (.int (ys.countP fun z => eqV z y : Nat)) H
/-- l.count(x), flat items -/
theorem mt_countF : MtR X "list.count" (rCntF X.K) := by
  intro pins s σ H x xs v us Q I rx rxs h
  obtain ⟨p, ys, y, rfl, rfl, hs, fy, fys, q⟩ := h
  cases rx
  obtain ⟨u, rfl, ru⟩ := rxs.one
  obtain ⟨its, rv, ⟨⟨cls, dd, data, sl⟩, n, ho, hc, hdn, hd⟩, hlen⟩ := I.list hs
  simp only at hc hd
  subst hc hd
  refine call_meets PySem.F.slot_list_count ⟨_, ho, rfl⟩ PySem.F.entry_list_count (PySem.F.args_list_count_2 _ _)
    (SeqAt.list_countAt p its.toArray n dd sl u (eqU y)) ⟨ho, fun u' hu' => mem_eqAt ru fy rv fys u' (by simpa using hu'), ?_⟩
  have ec : its.toArray.toList.countP (eqU y) = ys.countP fun z => eqV z y := count_eqU rv fys
  refine ⟨.int (ys.countP fun z => eqV z y : Nat), H, I.tok _, ⟨s.toks, ?_⟩, q⟩
  show Value.int ((its.toArray.toList.countP (eqU y) : Nat) : Int) s.toks = Value.int ((ys.countP fun z => eqV z y : Nat) : Int) s.toks
  rw [ec]
end
/-! ### the law's kinds -/
theorem word_in {t : Tree} (h : t.word = "in") : ∃ s cs, t = .isin s cs := by
  cases t with
  | isin s cs => exact ⟨s, cs, rfl⟩
  | one o t => exact absurd (show o.s = "in" from h) (by cases o <;> decide +kernel)
  | two o s t => exact absurd (show o.s = "in" from h) (by cases o <;> decide +kernel)
  | cell _ => exact absurd (show ("cell" : Str) = "in" from h) (by decide +kernel)
  | column _ => exact absurd (show ("column" : Str) = "in" from h) (by decide +kernel)
  | nothing _ => exact absurd (show ("nothing" : Str) = "in" from h) (by decide +kernel)
  | cond _ _ _ => exact absurd (show ("if" : Str) = "in" from h) (by decide +kernel)
def mF (k : Kd) (w : Str) (ks : List Kd) (f : Form) : Bool :=
  decide (f.word = w) && (decide ((f.wants k).map Want.s = ks.map Kd.s) || (decide (((f.wants k).map Want.s)[0]? = some ("any" : Str)) && decide (((ks.map kV).countP fun z => eqV z (kV (ks.headD .num))) = (f.wants k).length)))
theorem m1_ok (o : O1) (a k : Kd) : ((formsF k).any (mF k o.s [a])) = decide (K1 o a = some k) := by
  cases o <;> cases a <;> cases k <;> decide +kernel
theorem m2_ok (o : O2) (a b k : Kd) : ((formsF k).any (mF k o.s [a, b])) = decide (K2 o a b = some k) := by
  cases o <;> cases a <;> cases b <;> cases k <;> decide +kernel
theorem mc_ok (a b c k : Kd) : ((formsF k).any (mF k "if" [a, b, c])) = decide ((if b = c then (if a = .boo then some b else none) else none) = some k) := by
  cases a <;> cases b <;> cases c <;> cases k <;> decide +kernel
theorem mi_ok (a k : Kd) : ((formsF k).any (mF k "in" [a])) = decide (k = .boo) := by
  cases a <;> cases k <;> decide +kernel
theorem m_ok {t : Tree} {ks : List Kd} (l : t.leaf = false) (n : ks.length = t.parts.length) (hi : ∀ s cs, t = .isin s cs → ∀ c ∈ cs, c.kind = some (ks.headD .num)) (k : Kd) : ((formsF k).any (mF k t.word ks)) = decide (kfin t ks = some k) := by
  cases t with
  | cell _ => cases l
  | nothing _ => cases l
  | column _ => cases l
  | one o t =>
    obtain ⟨a, rfl⟩ := len1 (show ks.length = 1 from n)
    rw [kfin_one]
    exact m1_ok o a k
  | two o s t =>
    obtain ⟨a, b, rfl⟩ := len2 (show ks.length = 2 from n)
    rw [kfin_two]
    exact m2_ok o a b k
  | cond c s t =>
    obtain ⟨a, b, c', rfl⟩ := len3 (show ks.length = 3 from n)
    exact mc_ok a b c' k
  | isin s cs =>
    obtain ⟨a, rfl⟩ := len1 (show ks.length = 1 from n)
    have e : kfin (.isin s cs) [a] = some .boo := by
      show (if cs.all (fun x => decide (x.kind = some a)) = true then some Kd.boo else none) = some .boo
      have al : (cs.all fun x => decide (x.kind = some a)) = true := List.all_eq_true.mpr fun x hx => decide_eq_true (hi s cs rfl x hx)
      rw [if_pos al]
    rw [e]
    have z := mi_ok a k
    rw [show ((formsF k).any (mF k (Tree.isin s cs).word [a])) = ((formsF k).any (mF k "in" [a])) from rfl, z]
    cases k <;> rfl
theorem wants_s (k : Kd) (f : Form) : (f.wants k).map (fun w => V.str w.s) = ((f.wants k).map Want.s).map V.str := by
  rw [List.map_map] <;> rfl
theorem parts_pos {t : Tree} (h : t.leaf = false) : 1 ≤ t.parts.length := by
  cases t <;> first | (cases h; done) | simp [Tree.parts]
theorem kd3 (k : Kd) : ∃ i : Nat, ([Kd.num, Kd.txt, Kd.boo])[i]? = some k := by
  cases k with
  | num => exact ⟨0, rfl⟩
  | txt => exact ⟨1, rfl⟩
  | boo => exact ⟨2, rfl⟩
theorem want_ok (w : Want) : PyData.strOk w.s = true := by
  cases w with
  | any => decide +kernel
  | kd k => exact kd_ok k
section
variable {P : Program} {w : World} {K : PySem.W.Frag} {mg : Str → Option Value} {base : Heap}
abbrev N__law_kind : List Str := ["_law_tree_here", "_law_columns_here", "_law_column", "_law_kinds", "_law_kind_here", "_law_form", "_law_part", "_law_cell_here"]
theorem sc__law_kind : FnScope N__law_kind ["_law_tree_here", "_law_columns_here"] (defScope (topS 59)) := ⟨rfl, rfl, rfl, by decide +kernel, rfl, by decide +kernel, by decide +kernel⟩
theorem ok__law_kind (E : Ev K w mg) : ∀ n, FnOk P w K mg base CX0 (n + 1) E.d__law_kind.f E.d__law_kind.fd ["_law_tree_here", "_law_columns_here"] (spKo K n)
  | 0 => by
    refine E.d__law_kind.F.ok sc__law_kind (fun vs H Q X h => ?_) (fun cdv A outer s H vs Q X hr h => ?_)
    · obtain ⟨v, t, ca, cols, _, _, _, hd, _⟩ := h
      omega
    · obtain ⟨v, t, ca, cols, _, _, _, hd, _⟩ := h
      omega
  | n + 1 => by
    refine E.d__law_kind.F.ok sc__law_kind (fun vs H Q X h => ?_) (fun cdv A outer s H vs Q X hr h => ?_)
    · obtain ⟨v, t, ca, cols, rfl, _⟩ := h
      rfl
    obtain ⟨v, t, ca, cols, rfl, ht, hc, hd, ho, q⟩ := h
    refine ⟨_, PSs.nox (pss_cons (ps_if (pt_cmpR op_eq (pe_ix ix_tup (pv 0) pe_int (fun _ _ => rfl)) pe_str (nomark _)) (pss_one (ps_ret (pe_call (ok__law_cell_kind E) (hr.mono (by omega)) (by rfl) E.d__law_cell_kind.g E.d__law_cell_kind.F.kp E.d__law_cell_kind.b .nil pass0 (pa_cons (pe_ix ix_tup (pv 0) pe_int (fun _ _ => rfl)) pa_nil)))) pss_nil)
      (pss_cons (ps_if (pt_cmpR op_eq (pe_ix ix_tup (pv 0) pe_int (fun _ _ => rfl)) pe_str (nomark _)) (pss_one (ps_ret (pe_ix ix_tup (pv 0) pe_int (fun _ _ => rfl)))) pss_nil)
      (pss_cons (ps_if (pt_cmpR op_eq (pe_ix ix_tup (pv 0) pe_int (fun _ _ => rfl)) pe_str (nomark _)) (pss_cons (ps_for PassesOwn.never rfl (pi_tup (pv 1)) (pg_name (i := 2) sc__law_kind.nd rfl (.inl rfl))
          (pss_one (ps_if (pt_cmpR op_eq (pe_ix ix_tup (pv 2) pe_int (fun _ _ => rfl)) (pe_ix ix_tup (pv 0) pe_int (fun _ _ => rfl)) (nomark _)) (pss_one (ps_ret (pe_ix ix_tup (pv 2) pe_int (fun _ _ => rfl)))) pss_nil)))
        (pss_one (ps_ret pe_non))) pss_nil)
      (pss_cons (ps_set (i := 3) sc__law_kind.nd rfl (.inr rfl) (pe_lc (own := [("_law_part", 6)]) (g := gName 6) rfl sc__law_kind.nd (pi_list (pe_call (ok__law_parts E) (hr.mono (by omega)) (by rfl) E.d__law_parts.g E.d__law_parts.F.kp E.d__law_parts.b .nil pass0 (pa_cons (pv 0) pa_nil))) (blkOk_by (own := [("_law_part", 6)]) (N := N__law_kind) (sc := defScope (topS 59)) (by decide +kernel)) (fun _ _ _ _ _ => pg_name (i := 6) sc__law_kind.nd rfl (Or.inl rfl)) (fun _ _ _ _ _ => pts_nil) (fun _ _ _ _ _ => (pe_call (ok__law_kind E n) (hr.mono (by omega)) (by rfl) E.d__law_kind.g E.d__law_kind.F.kp E.d__law_kind.b .nil pass0 (pa_cons (pv 6) (pa_cons (pv 1) pa_nil))))))
      (pss_cons (ps_if (pt_cmpR op_in_seq pe_non (pv 3) (by rfl)) (pss_one (ps_ret pe_non)) pss_nil)
      (pss_cons (ps_if (PW.pt (pw_and (pt_cmpR op_eq (pe_ix ix_tup (pv 0) pe_int (fun _ _ => rfl)) pe_str (nomark _)) (pw_and1 (pt_cmpR op_gt (pe_callB call_len (by rfl) E.n_len (by decide +kernel) (pa_cons (pe_lc (own := [("_law_cell_here", 7)]) (g := gName 7) rfl sc__law_kind.nd (pi_tup (pe_ix ix_tup (pv 0) pe_int (fun _ _ => rfl))) (blkOk_by (own := [("_law_cell_here", 7)]) (N := N__law_kind) (sc := defScope (topS 59)) (by decide +kernel)) (fun _ _ _ _ _ => pg_name (i := 7) sc__law_kind.nd rfl (Or.inl rfl)) (fun _ _ _ _ _ => (pts_one (pt_cmpR op_ne (pe_call (ok__law_cell_kind E) (hr.mono (by omega)) (by rfl) E.d__law_cell_kind.g E.d__law_cell_kind.F.kp E.d__law_cell_kind.b .nil pass0 (pa_cons (pv 7) pa_nil)) (pe_ix (show IxR _ (rIxL K) from ix_list) (pv 3) pe_int (fun _ _ => rfl)) (nomark _)))) (fun _ _ _ _ _ => (pv 7))) pa_nil)) pe_int (nomark _))))) (pss_one (ps_ret pe_non)) pss_nil)
      (pss_cons (ps_for PassesOwn.never rfl (pi_list (pe_lst (pa_cons pe_str (pa_cons pe_str (pa_cons pe_str pa_nil))))) (pg_name (i := 4) sc__law_kind.nd rfl (.inl rfl))
        (pss_one (ps_for PassesOwn.never rfl (pi_list (pe_call (ok__law_forms E) (hr.mono (by omega)) (by rfl) E.d__law_forms.g E.d__law_forms.F.kp E.d__law_forms.b .nil pass0 (pa_cons (pv 4) pa_nil))) (pg_name (i := 5) sc__law_kind.nd rfl (.inl rfl))
            (pss_cons (ps_if (PW.pt (pw_and (pt_cmpR op_eq (pe_ix ix_tup (pv 5) pe_int (fun _ _ => rfl)) (pe_ix ix_tup (pv 0) pe_int (fun _ _ => rfl)) (nomark _)) (pw_and1 (pt_cmpR (op_eqD hr.units) (pe_callTy call_list_of (by rfl) E.n_list (by decide +kernel) (pa_cons (pe_slice sl_tup (pv 5) (po_some pe_int) po_none) pa_nil)) (pv 3) (nomark _))))) (pss_one (ps_ret (pv 4))) pss_nil)
              (pss_one (ps_if (PW.pt (pw_and (pt_cmpR op_eq (pe_ix ix_tup (pv 5) pe_int (fun _ _ => rfl)) (pe_ix ix_tup (pv 0) pe_int (fun _ _ => rfl)) (nomark _)) (pw_and (pt_cmpR op_eq (pe_ix ix_tup (pv 5) pe_int (fun _ _ => rfl)) pe_str (nomark _)) (pw_and1 (pt_cmpR op_eq (pe_bm PySem.F.plainAttrs_list PySem.F.slot_list_count PySem.F.type_list_count mt_countF (pv 3) (pa_cons (pe_ix ix_list (pv 3) pe_int (fun _ _ => rfl)) pa_nil)) (pe_op op_sub (pe_callB call_len (by rfl) E.n_len (by decide +kernel) (pa_cons (pv 5) pa_nil)) pe_int) (nomark _)))))) (pss_one (ps_ret (pv 4))) pss_nil))))))
      (pss_one (ps_ret pe_non))))))))), ?_⟩
    obtain ⟨a, r, rfl, hs, hr0⟩ := ht.head
    refine ⟨_, rfl, _, _, _, _, rfl, rfl, hs, atI_nat (j := 0) rfl, rfl, _, rfl, ite2 (fun k => ?_) (fun k => ?_)⟩
    · obtain ⟨c, rfl⟩ := word_cell (word_eq k)
      obtain ⟨b, u, e, hb, hu⟩ := ht
      cases e
      exact ⟨_, rfl, _, _, _, _, rfl, rfl, hb, atI_nat (j := 1) rfl, u, c, rfl, hu, q H (Same.refl H)⟩
    refine ⟨_, rfl, _, _, _, _, rfl, rfl, hs, atI_nat (j := 0) rfl, rfl, _, rfl, ite2 (fun k1 => ?_) (fun k1 => ?_)⟩
    · obtain ⟨c, rfl⟩ := word_nothing (word_eq k1)
      obtain ⟨b, e, hb⟩ := ht
      cases e
      exact ⟨_, rfl, _, _, _, _, rfl, rfl, hb, atI_nat (j := 1) rfl, q H (Same.refl H)⟩
    refine ⟨_, rfl, _, _, _, _, rfl, rfl, hs, atI_nat (j := 0) rfl, rfl, _, rfl, ite2 (fun k2 => ?_) (fun k2 => ?_)⟩
    · obtain ⟨x, rfl⟩ := word_column (word_eq k2)
      obtain ⟨b, e, hb⟩ := ht
      cases e
      obtain ⟨us, hu, hp, hn⟩ := hc
      have el := Paired.length hp
      refine ⟨_, rfl, ca, rfl, ⟨_, hu⟩, for_tup (K := K) (a := ca) (xs := us) (fun i σ H' => (∃ y, σ = [some (.ref a), some (.ref ca), y, none, none, none, none, none]) ∧ H' = H ∧ ∀ j c, j < i → cols[j]? = some c → c.1 ≠ x) ⟨⟨_, rfl⟩, rfl, fun j c hj => by omega⟩ (fun i σ H' _ hw => by rw [hw.2.1]; exact hu) (fun i v σ H' hv hw => ?_) (fun σ H' hw => ?_)⟩
      · obtain ⟨⟨y, rfl⟩, rfl, hw⟩ := hw
        obtain ⟨c, b2, hc2, rfl, hb2⟩ := pair_vals hp hv
        refine ⟨_, rfl, _, _, _, _, rfl, rfl, hb2, atI_nat (j := 0) rfl, _, rfl, _, _, _, _, rfl, rfl, hb, atI_nat (j := 1) rfl, rfl, _, rfl, ite2 (fun k => ?_) (fun k => ?_)⟩
        · have k' : c.1 = x := V.str.inj (of_decide_eq_true k)
          have e := (kin_step hw hc2 k').1
          have q2 := q _ (Same.refl _)
          rw [show kindT cols (.column x) = some c.2 from e] at q2
          exact ⟨_, rfl, _, _, _, _, rfl, rfl, hb2, atI_nat (j := 1) rfl, q2⟩
        · have k' : ¬ c.1 = x := fun z => k (decide_eq_true (congrArg V.str z))
          refine ⟨⟨_, rfl⟩, rfl, fun j d hj hd => ?_⟩
          by_cases e : j = i
          · subst e
            rw [hc2] at hd
            cases hd
            exact k'
          · exact hw j d (by omega) hd
      · obtain ⟨⟨y, rfl⟩, rfl, hw⟩ := hw
        have q2 := q _ (Same.refl _)
        rw [show kindT cols (.column x) = none from kin_none fun j c hj => hw j c (by omega)] at q2
        exact q2
    have lf : t.leaf = false := by
      rw [leaf_or t, decide_eq_false (fun z => k (decide_eq_true (congrArg V.str z))), decide_eq_false (fun z => k1 (decide_eq_true (congrArg V.str z))), decide_eq_false (fun z => k2 (decide_eq_true (congrArg V.str z)))] <;> rfl
    have pl := parts_len t
    rw [kindT_np lf] at q
    refine ⟨_, rfl, _, t, rfl, ht, fun p us H1 s1 hp np tr => ?_⟩
    have el := Paired.length tr
    refine ⟨p, rfl, ⟨_, SqL.of hp⟩, fun D nD => lc_list (K := K) (a := p) (xs := us) (fun i H' => MapInv (fun _ => False) (fun _ => True) (fun j y _ => ∃ c, t.parts[j]? = some c ∧ y = kdV (kindT cols c)) D (upd H1 D (.lst [])) i H') (MapInv.zero nD trivial) (fun i H' _ hw => SqL.of (hw.same nD _ _ hp)) (fun i v H' hv hw => ?_) (fun H' hw => ?_)⟩
    · obtain ⟨c, c1, c2⟩ := Paired.get tr hv
      have kp := (keep_new (o := .lst []) nD).trans hw.ex.kp
      have li : i < t.parts.length := (List.getElem?_eq_some_iff.mp c1).1
      have cm : c ∈ t.parts := List.mem_of_getElem? c1
      have cd := dep_parts cm
      refine ⟨rfl, tyes ?_⟩
      refine ⟨_, rfl, _, rfl, v, c, ca, cols, rfl, c2.keep kp, hc.keep ((Same.keep s1).trans kp), by omega, ok_parts ho cm, fun H2 s2 => hw.stepK s2 ⟨c, c1, rfl⟩ (by omega) fun _ _ _ _ q _ => q⟩
    obtain ⟨ys, hl', hn', hy⟩ := hw.l
    have ey : ys = t.parts.map fun c => kdV (kindT cols c) := map_of (by omega) hy
    rw [show (t.parts.map fun c => kdV (kindT cols c)) = (t.parts.map (kindT cols)).map kdV by rw [List.map_map] <;> rfl] at ey
    subst ey
    have sm := s1.trans (hw.same nD)
    refine ⟨_, rfl, _, _, rfl, .inl (SqL.of hl'), rfl, flat_kd _, _, rfl, ite2 (fun m => ?_) (fun m => ?_)⟩
    · have m' : inV .non ((t.parts.map (kindT cols)).map kdV) = true := m
      rw [inV_kd] at m'
      rw [allK_none (of_decide_eq_true m')] at q
      exact q _ sm
    have m' : ¬ inV .non ((t.parts.map (kindT cols)).map kdV) = true := m
    rw [inV_kd] at m'
    obtain ⟨ks, e1, e2⟩ := allK_some fun z => m' (decide_eq_true z)
    have q2 : ∀ H', Same H H' → Q (kdV (kfin t ks)) H' := fun H' s' => by
      have z := q H' s'
      rw [e1] at z
      exact z
    have ks_l : ks.length = t.parts.length := by
      have z := congrArg List.length e2
      rw [List.length_map, List.length_map] at z
      exact z.symm
    have ev : (t.parts.map (kindT cols)).map kdV = ks.map kV := by
      rw [e2, List.map_map] <;> rfl
    rw [ev] at hl'
    clear q e1 e2 ev m m' hy hn' hw
    dsimp only [tNext]
    refine joinIf (fun σ G => σ = [some (.ref a), some (.ref ca), none, some (.ref D), none, none, none, none] ∧ Same H G ∧ G D = some (.lst (ks.map kV)) ∧ ∀ s cs, t = .isin s cs → ∀ c ∈ cs, c.kind = some (ks.headD .num)) (fun nx hnx => ?_) (fun σ G hM => ?_)
    · refine ⟨_, rfl, _, _, _, _, rfl, rfl, same_tup sm hs, atI_nat (j := 0) rfl, rfl, _, rfl, ite2 (fun c => ?_) (fun c => ?_)⟩
      · obtain ⟨s0, cs, rfl⟩ := word_in (word_eq c)
        obtain ⟨kk, rfl⟩ := len1 (show ks.length = 1 from ks_l)
        obtain ⟨b, u, b2, us2, e, hb, h1, hb2, hcs⟩ := ht
        cases e
        have ek : kfin (.isin s0 cs) [kk] = (if cs.all (fun x => decide (x.kind = some kk)) = true then some Kd.boo else none) := rfl
        refine ⟨_, rfl, _, _, _, _, rfl, rfl, same_tup sm hb, atI_nat (j := 2) rfl, b2, rfl, ⟨_, same_tup sm hb2⟩, fun F nF => ?_⟩
        refine lc_tup (K := K) (a := b2) (xs := us2) (fun i G => Ex (fun b => b = F) (upd H' F (.lst [])) G ∧ ∃ ys, G F = some (.lst ys) ∧ ys.length = ((cs.take i).filter fun c => !decide (c.kind = some kk)).length) ⟨Ex.refl _ _, [], upd_same, rfl⟩ (fun i G _ hw => ((keep_new nF).trans hw.1.kp).tup (same_tup sm hb2)) (fun i v G hv hw => ?_) (fun G hw => ?_)
        · obtain ⟨e4, ys, hG, hl⟩ := hw
          obtain ⟨c, hc1, hc2⟩ := Paired.get hcs hv
          have ir : i < cs.length := (List.getElem?_eq_some_iff.mp hc1).1
          have hD4 : G D = some (.lst ([kk].map kV)) := e4.at_ _ _ (fun z => by rw [z, nF] at hl'; cases hl') (same_new nF _ _ hl')
          have et : (cs.take (i + 1)).filter (fun c => !decide (c.kind = some kk)) = (cs.take i).filter (fun c => !decide (c.kind = some kk)) ++ (if c.kind = some kk then [] else [c]) := by
            rw [List.take_add_one, List.filter_append, hc1]
            show _ ++ [c].filter _ = _
            by_cases m : c.kind = some kk
            · rw [if_pos m]
              simp [m]
            · rw [if_neg m]
              simp [m]
          refine ⟨rfl, _, rfl, v, c, rfl, hc2.keep (((Same.keep sm).trans (keep_new nF)).trans e4.kp), _, rfl, _, _, _, _, rfl, rfl, SqL.of hD4, atI_nat (j := 0) rfl, scal_kd _ _, _, rfl, ?_⟩
          have kd := kdv_eq c.kind kk
          by_cases m : c.kind = some kk
          · rw [decide_eq_true m] at kd
            refine ifF (by show (!decide (kdV c.kind = V.str kk.s)) = false; rw [kd] <;> rfl) ⟨e4, ys, hG, ?_⟩
            rw [et, if_pos m, List.append_nil, hl]
          · rw [decide_eq_false m] at kd
            refine ifT (by show (!decide (kdV c.kind = V.str kk.s)) = true; rw [kd] <;> rfl) ⟨_, rfl, ys, hG, small1000 ?_, e4.trans (ex_lst hG rfl), _, upd_same, ?_⟩
            · have := List.length_filter_le (fun c => !decide (c.kind = some kk)) (cs.take i)
              rw [List.length_take] at this
              have := ho.2.2
              omega
            · rw [et, if_neg m, List.length_append, List.length_append, hl] <;> rfl
        · obtain ⟨e4, ys, hG, hl⟩ := hw
          have elc := Paired.length hcs
          rw [elc, List.take_length] at hl
          have sm4 : Same H' G := fun b o h => e4.at_ b o (fun z => by rw [z, nF] at h; cases h) (same_new nF _ _ h)
          refine ⟨_, _, rfl, .inl ⟨_, SqL.of hG, rfl⟩, _, _, rfl, rfl, _, rfl, ite2 (fun c => ?_) (fun c => ?_)⟩
          · have c' : (0 : Int) < ((ys.length : Nat) : Int) := of_decide_eq_true c
            have ne : ¬ cs.all (fun x => decide (x.kind = some kk)) = true := fun z => by
              have : (cs.filter fun c => !decide (c.kind = some kk)) = [] := List.filter_eq_nil_iff.mpr fun c hc => by
                have := List.all_eq_true.mp z c hc
                rw [this]
                simp
              rw [this] at hl
              have : ys.length = 0 := hl
              omega
            rw [ek, if_neg ne] at q2
            exact q2 _ (sm.trans sm4)
          · have c' : ¬ (0 : Int) < ((ys.length : Nat) : Int) := fun z => c (decide_eq_true z)
            have fe : (cs.filter fun c => !decide (c.kind = some kk)) = [] := List.length_eq_zero_iff.mp (by omega)
            refine hnx _ _ ⟨rfl, sm.trans sm4, sm4 _ _ hl', fun s cs' e c hc => ?_⟩
            cases e
            have := List.filter_eq_nil_iff.mp fe c hc
            simpa using this
      · refine hnx _ _ ⟨rfl, sm, hl', fun s cs e => absurd (decide_eq_true ?_) c⟩
        rw [e] <;> rfl
    obtain ⟨rfl, smG, hDG, hin⟩ := hM
    have mk := m_ok lf ks_l hin
    clear hl' sm hp tr el nD
    refine ⟨(by show 3 ≤ sizeLine; decide), fun p3 n3 => ?_⟩
    have s3 := same_new (o := .lst [.str "number", .str "text", .str "boolean"]) n3
    have hp3 : upd G p3 (.lst [.str "number", .str "text", .str "boolean"]) p3 = some (.lst ([Kd.num, Kd.txt, Kd.boo].map kV)) := upd_same
    have hD3 := s3 _ _ hDG
    have sm3 := smG.trans s3
    generalize upd G p3 (.lst [.str "number", .str "text", .str "boolean"]) = B at s3 hp3 hD3 sm3 ⊢
    refine ⟨p3, rfl, ⟨_, SqL.of hp3⟩, for_list (K := K) (a := p3) (xs := [Kd.num, Kd.txt, Kd.boo].map kV) (fun i σ G => (∃ y z, σ = [some (.ref a), some (.ref ca), none, some (.ref D), y, z, none, none]) ∧ Same B G ∧ ∀ j k, j < i → ([Kd.num, Kd.txt, Kd.boo])[j]? = some k → (formsF k).any (mF k t.word ks) = false) ⟨⟨_, _, rfl⟩, Same.refl _, fun j k hj => by omega⟩ (fun i σ G _ hw => SqL.of (hw.2.1 _ _ hp3)) (fun i v σ G hv hw => ?_) (fun σ G hw => ?_)⟩
    · obtain ⟨⟨y, z, rfl⟩, sB, nm⟩ := hw
      rw [List.getElem?_map] at hv
      obtain ⟨kk, hkk, rfl⟩ := Option.map_eq_some_iff.mp hv
      refine ⟨_, rfl, kk, rfl, fun l us2 H2 s2 hl nl fm => ?_⟩
      have sH2 := sB.trans s2
      refine ⟨l, rfl, ⟨_, SqL.of hl⟩, for_list (K := K) (a := l) (xs := us2) (fun j σ G => (∃ z, σ = [some (.ref a), some (.ref ca), none, some (.ref D), some (kV kk), z, none, none]) ∧ Same H2 G ∧ ∀ j' f, j' < j → (formsF kk)[j']? = some f → mF kk t.word ks f = false) ⟨⟨_, rfl⟩, Same.refl _, fun j f hj => by omega⟩ (fun i σ G _ hw => SqL.of (hw.2.1 _ _ hl)) (fun j v σ G hv hw => ?_) (fun σ G hw => ?_)⟩
      · obtain ⟨⟨z, rfl⟩, sG, nf⟩ := hw
        obtain ⟨f, hf, b, rfl, hb⟩ := Paired.get fm hv
        have hbG := same_tup sG hb
        have sBG := sH2.trans sG
        have sHG := sm3.trans sBG
        have hsG := same_tup sHG hs
        have hDGG : G D = some (.lst (ks.map kV)) := sBG _ _ hD3
        obtain ⟨w0, wr, hw0⟩ : ∃ w0 wr, f.wants kk = w0 :: wr := by
          have h1 := wants_len kk f
          have h2 := (form_ar f).1
          cases e : f.wants kk with
          | nil =>
            rw [e] at h1
            have : 0 = f.ar := h1
            omega
          | cons w0 wr => exact ⟨w0, wr, rfl⟩
        obtain ⟨k0, kr, rfl⟩ : ∃ k0 kr, ks = k0 :: kr := by
          have h2 := parts_pos lf
          cases ks with
          | nil =>
            have : 0 = t.parts.length := ks_l
            omega
          | cons k0 kr => exact ⟨k0, kr, rfl⟩
        have hit : mF kk t.word (k0 :: kr) f = true → ∀ G', Same H G' → Q (kV kk) G' := fun h G' s' => by
          have z := q2 G' s'
          have y := mk kk
          rw [List.any_eq_true.mpr ⟨f, List.mem_of_getElem? hf, h⟩] at y
          rw [of_decide_eq_true y.symm] at z
          exact z
        have next : mF kk t.word (k0 :: kr) f = false → ∀ j' f', j' < j + 1 → (formsF kk)[j']? = some f' → mF kk t.word (k0 :: kr) f' = false := fun h j' f' hj he => by
          by_cases e : j' = j
          · subst e
            rw [hf] at he
            rw [← Option.some.inj he]
            exact h
          · exact nf j' f' (by omega) he
        by_cases ew : f.word = t.word
        · have de : decide (V.str f.word = V.str t.word) = true := decide_eq_true (congrArg V.str ew)
          refine ⟨_, rfl, _, _, _, _, rfl, rfl, hbG, atI_nat (j := 0) rfl, _, rfl, _, _, _, _, rfl, rfl, hsG, atI_nat (j := 0) rfl, rfl, _, rfl, ifT de ?_⟩
          refine ⟨_, rfl, _, rfl, b, _, rfl, hbG, fun z => ?_, fun p5 n5 => ?_⟩
          · have z1 := z.1
            have fl : (formS kk f).length = f.ar + 1 := by
              show ((f.wants kk).map _).length + 1 = _
              rw [List.length_map, wants_len]
            rw [show HT.sIx (formS kk f).length 0 (some 1) = min 1 (formS kk f).length from HT.sIx_nat _ _ 1] at z1
            omega
          rw [show cutV (formS kk f) (some 1) none = (f.wants kk).map fun w => V.str w.s from cut1 _ _]
          have s5 := same_new (o := .tup ((f.wants kk).map fun w => V.str w.s)) n5
          refine ⟨_, _, rfl, .inr (.inl (.inl upd_same)), fun p6 n6 => ?_⟩
          have s6 := s5.trans (same_new (o := .lst ((f.wants kk).map fun w => V.str w.s)) n6)
          have hD6 := s6 _ _ hDGG
          have hl6 := upd_same (H := upd G p5 (.tup ((f.wants kk).map fun w => V.str w.s))) (a := p6) (o := .lst ((f.wants kk).map fun w => V.str w.s))
          generalize upd (upd G p5 (.tup ((f.wants kk).map fun w => V.str w.s))) p6 (.lst ((f.wants kk).map fun w => V.str w.s)) = G6 at s6 hD6 hl6 ⊢
          have sH6 := sHG.trans s6
          have dk : DpAll K G6 ((k0 :: kr).map kV) (((k0 :: kr).map Kd.s).map .str) := by
            have y := dp_strs (K := K) (H := G6) ((k0 :: kr).map Kd.s)
            rw [List.map_map] at y
            exact y
          have dw : DpAll K G6 ((f.wants kk).map fun w => V.str w.s) (((f.wants kk).map Want.s).map .str) := by
            rw [wants_s]
            exact dp_strs _
          refine ⟨_, rfl, .list (((f.wants kk).map Want.s).map .str), .list (((k0 :: kr).map Kd.s).map .str), .lst (SqL.of hl6) dw, .lst (SqL.of hD6) dk, (shaped_strs fun x hx => by
            obtain ⟨w, _, rfl⟩ := List.mem_map.mp hx
            exact want_ok w).2, (shaped_strs (kds_ok (k0 :: kr))).2, _, rfl, ?_⟩
          have eb : PyData.eqv (.list (((f.wants kk).map Want.s).map .str)) (.list (((k0 :: kr).map Kd.s).map .str)) = decide ((f.wants kk).map Want.s = (k0 :: kr).map Kd.s) := by
            simp only [PyData.eqv]
            rw [eqv_strs]
          rw [eb]
          by_cases es : (f.wants kk).map Want.s = (k0 :: kr).map Kd.s
          · rw [decide_eq_true es]
            exact ifT rfl ⟨_, rfl, hit (by unfold mF; rw [decide_eq_true ew, decide_eq_true es] <;> rfl) _ sH6⟩
          · rw [decide_eq_false es]
            refine ifF rfl ?_
            have hb6 := same_tup s6 hbG
            have hs6 := same_tup s6 hsG
            refine ⟨_, rfl, _, _, _, _, rfl, rfl, hb6, atI_nat (j := 0) rfl, _, rfl, _, _, _, _, rfl, rfl, hs6, atI_nat (j := 0) rfl, rfl, _, rfl, ifT de ?_⟩
            have at1 : (formS kk f)[1]? = some (.str w0.s) := by
              show ((f.wants kk).map fun w => V.str w.s)[0]? = _
              rw [hw0] <;> rfl
            refine ⟨_, rfl, _, _, _, _, rfl, rfl, hb6, atI_nat (j := 1) at1, rfl, _, rfl, ?_⟩
            have ha0 : decide (((f.wants kk).map Want.s)[0]? = some ("any" : Str)) = decide (V.str w0.s = V.str "any") := by
              rw [hw0]
              show decide (some w0.s = some ("any" : Str)) = _
              by_cases e : w0.s = ("any" : Str)
              · rw [decide_eq_true (congrArg some e), decide_eq_true (congrArg V.str e)]
              · rw [decide_eq_false (fun z => e (Option.some.inj z)), decide_eq_false (fun z => e (V.str.inj z))]
            have em : mF kk t.word (k0 :: kr) f = (decide (V.str w0.s = V.str "any") && decide ((((k0 :: kr).map kV).countP fun z => eqV z (kV k0)) = (f.wants kk).length)) := by
              unfold mF
              rw [decide_eq_true ew, decide_eq_false es, ha0, Bool.true_and, Bool.false_or] <;> rfl
            by_cases ea : V.str w0.s = V.str "any"
            · rw [decide_eq_true ea] at em ⊢
              rw [Bool.true_and] at em
              refine ifT rfl ?_
              have fk : ((k0 :: kr).map kV).all flatV = true := flat_strs Kd.s (k0 :: kr)
              refine ⟨_, rfl, .inl ⟨rfl, _, SqL.of hD6⟩, _, rfl, _, _, _, _, rfl, rfl, SqL.of hD6, atI_nat (j := 0) rfl, D, _, _, rfl, rfl, SqL.of hD6, rfl, fk, ?_⟩
              refine ⟨_, rfl, _, _, rfl, .inr ⟨_, hb6, rfl⟩, _, _, rfl, rfl, rfl, _, rfl, ?_⟩
              have ec : decide (V.int ((((k0 :: kr).map kV).countP fun z => eqV z (kV k0) : Nat) : Int) = V.int ((((formS kk f).length : Nat) : Int) - 1)) = decide ((((k0 :: kr).map kV).countP fun z => eqV z (kV k0)) = (f.wants kk).length) := by
                have fl : (formS kk f).length = (f.wants kk).length + 1 := by
                  show ((f.wants kk).map _).length + 1 = _
                  rw [List.length_map]
                rw [fl]
                generalize (((k0 :: kr).map kV).countP fun z => eqV z (kV k0)) = c
                by_cases e : c = (f.wants kk).length
                · rw [decide_eq_true e, decide_eq_true]
                  rw [e]
                  exact congrArg V.int (by omega)
                · rw [decide_eq_false e, decide_eq_false]
                  intro z
                  have := V.int.inj z
                  omega
              refine ite2 (fun c => ?_) (fun c => ?_)
              · have c' := ec.symm.trans c
                exact ⟨_, rfl, hit (em.trans c') _ sH6⟩
              · have c' := ec.symm.trans (Bool.eq_false_iff.mpr c)
                exact ⟨⟨_, rfl⟩, sG.trans s6, next (em.trans c')⟩
            · rw [decide_eq_false ea] at em ⊢
              exact ifF rfl (ifF rfl ⟨⟨_, rfl⟩, sG.trans s6, next em⟩)
        · have de : decide (V.str f.word = V.str t.word) = false := decide_eq_false fun z => ew (V.str.inj z)
          have em : mF kk t.word (k0 :: kr) f = false := by
            unfold mF
            rw [decide_eq_false ew] <;> rfl
          refine ⟨_, rfl, _, _, _, _, rfl, rfl, hbG, atI_nat (j := 0) rfl, _, rfl, _, _, _, _, rfl, rfl, hsG, atI_nat (j := 0) rfl, rfl, _, rfl, ifF de (ifF rfl ?_)⟩
          exact ⟨_, rfl, _, _, _, _, rfl, rfl, hbG, atI_nat (j := 0) rfl, _, rfl, _, _, _, _, rfl, rfl, hsG, atI_nat (j := 0) rfl, rfl, _, rfl, ifF de (ifF rfl ⟨⟨_, rfl⟩, sG, next em⟩)⟩
      · obtain ⟨⟨z, rfl⟩, sG, nf⟩ := hw
        refine ⟨⟨_, _, rfl⟩, sH2.trans sG, fun j k hj he => ?_⟩
        by_cases e : j = i
        · subst e
          rw [hkk] at he
          rw [← Option.some.inj he]
          refine List.any_eq_false.mpr fun f hf => ?_
          obtain ⟨j', hj', e'⟩ := List.mem_iff_getElem.mp hf
          have fl := Paired.length fm
          rw [nf j' f (by omega) (by rw [List.getElem?_eq_getElem hj', e'])]
          simp
        · exact nm j k (by omega) he
    · obtain ⟨⟨y, z, rfl⟩, sB, nm⟩ := hw
      have e : kfin t ks = none := by
        cases e : kfin t ks with
        | none => rfl
        | some k =>
          obtain ⟨i, hi⟩ := kd3 k
          have z := mk k
          rw [nm i k (List.getElem?_eq_some_iff.mp hi).1 hi, e, decide_eq_true rfl] at z
          cases z
      have z := q2 G (sm3.trans sB)
      rw [e] at z
      exact z
end
end K7
/-! W20 -/
namespace K7
open PySem PySem.Spec PyProof.Rows L2 TL
/-! ### the names of an expression -/
def mentStep (found l : List Str) : List Str := found ++ l.filter fun x => decide (x ∉ found)
def mentT : Tree → List Str
  | .column x => [x]
  | .one _ t => mentStep [] (mentT t)
  | .two _ s t => mentStep (mentStep [] (mentT s)) (mentT t)
  | .cond c s t => mentStep (mentStep (mentStep [] (mentT c)) (mentT s)) (mentT t)
  | .isin t _ => mentStep [] (mentT t)
  | _ => []
theorem mentT_np {t : Tree} (h : ∀ x, t ≠ .column x) : mentT t = (t.parts.map mentT).foldl mentStep [] := by
  cases t with
  | column x => exact absurd rfl (h x)
  | _ => rfl
theorem ment_le (f l : List Str) : (mentStep f l).length ≤ f.length + l.length := by
  unfold mentStep
  rw [List.length_append]
  have := List.length_filter_le (fun x => decide (x ∉ f)) l
  omega
theorem fold_le : ∀ (ls : List (List Str)) (f : List Str) (b : Nat), (∀ l ∈ ls, l.length ≤ b) → (ls.foldl mentStep f).length ≤ f.length + ls.length * b
  | [], f, b, _ => by simp
  | l :: ls, f, b, h => by
    have h1 := fold_le ls (mentStep f l) b fun x hx => h x (List.mem_cons_of_mem _ hx)
    have h2 := ment_le f l
    have h3 := h l List.mem_cons_self
    show (ls.foldl mentStep (mentStep f l)).length ≤ f.length + (ls.length + 1) * b
    rw [Nat.add_mul, Nat.one_mul]
    omega
theorem ment_len : ∀ (t : Tree), (mentT t).length ≤ 3 ^ t.dep := fun t => by
  have go : ∀ (n : Nat) (t : Tree), t.dep < n → (mentT t).length ≤ 3 ^ t.dep := by
    intro n
    induction n with
    | zero => intro t h; omega
    | succ n ih =>
      intro t h
      by_cases hc : ∃ x, t = .column x
      · obtain ⟨x, rfl⟩ := hc
        exact Nat.le_refl 1
      · rw [mentT_np fun x e => hc ⟨x, e⟩]
        by_cases hp : t.parts = []
        · rw [hp]
          exact Nat.zero_le _
        · have hd : 1 ≤ t.dep := by
            cases e : t.parts with
            | nil => exact absurd e hp
            | cons p l =>
              have := dep_parts (t := t) (p := p) (by rw [e]; exact List.mem_cons_self)
              omega
          have z := fold_le (t.parts.map mentT) [] (3 ^ (t.dep - 1)) fun l hl => by
            obtain ⟨p, hp, rfl⟩ := List.mem_map.mp hl
            have d := dep_parts hp
            exact Nat.le_trans (ih p (by omega)) (Nat.pow_le_pow_right (by omega) (by omega))
          have pl := parts_len t
          rw [List.length_map] at z
          have e3 : 3 ^ t.dep = 3 * 3 ^ (t.dep - 1) := by
            rw [← Nat.pow_succ']
            congr 1
            omega
          rw [e3]
          have : t.parts.length * 3 ^ (t.dep - 1) ≤ 3 * 3 ^ (t.dep - 1) := Nat.mul_le_mul_right _ pl
          have : ([] : List Str).length = 0 := rfl
          omega
  exact go (t.dep + 1) t (by omega)
theorem ment_small {t : Tree} (h : t.dep ≤ 15) : (mentT t).length ≤ 14348907 := Nat.le_trans (ment_len t) (Nat.le_trans (Nat.pow_le_pow_right (by omega) h) (by decide))
section
variable {P : Program} {w : World} {K : PySem.W.Frag} {mg : Str → Option Value} {base : Heap}
def spMent (K : PySem.W.Frag) (n : Nat) : Sp := fun vs H Q _ => ∃ (v : V) (t : Tree), vs = [v] ∧ IsTree K H v t ∧ t.dep < n ∧ t.dep ≤ 15 ∧ ∀ l H', Same H H' → H' l = some (.lst ((mentT t).map V.str)) → Q (.ref l) H'
abbrev N__law_mentioned : List Str := ["_law_tree_here", "_law_found", "_law_part", "_law_name_here"]
theorem sc__law_mentioned : FnScope N__law_mentioned ["_law_tree_here"] (defScope (topS 60)) := ⟨rfl, rfl, rfl, by decide +kernel, rfl, by decide +kernel, by decide +kernel⟩
theorem ok__law_mentioned (E : Ev K w mg) : ∀ n, FnOk P w K mg base CX0 (n + 1) E.d__law_mentioned.f E.d__law_mentioned.fd ["_law_tree_here"] (spMent K n)
  | 0 => by
    refine E.d__law_mentioned.F.ok sc__law_mentioned (fun vs H Q X h => ?_) (fun cdv A outer s H vs Q X hr h => ?_)
    · obtain ⟨v, t, _, _, hd, _⟩ := h
      omega
    · obtain ⟨v, t, _, _, hd, _⟩ := h
      omega
  | n + 1 => by
    refine E.d__law_mentioned.F.ok sc__law_mentioned (fun vs H Q X h => ?_) (fun cdv A outer s H vs Q X hr h => ?_)
    · obtain ⟨v, t, rfl, _⟩ := h
      rfl
    obtain ⟨v, t, rfl, ht, hd, h15, q⟩ := h
    refine ⟨_, PSs.nox (pss_cons (ps_if (pt_cmpR op_eq (pe_ix ix_tup (pv 0) pe_int (fun _ _ => rfl)) pe_str (nomark _)) (pss_one (ps_ret (pe_lst (pa_cons (pe_ix ix_tup (pv 0) pe_int (fun _ _ => rfl)) pa_nil)))) pss_nil)
      (pss_cons (ps_set (i := 1) sc__law_mentioned.nd rfl (.inr rfl) (pe_lst pa_nil))
      (pss_cons (ps_for PassesOwn.never rfl (pi_list (pe_call (ok__law_parts E) (hr.mono (by omega)) (by rfl) E.d__law_parts.g E.d__law_parts.F.kp E.d__law_parts.b .nil pass0 (pa_cons (pv 0) pa_nil))) (pg_name (i := 2) sc__law_mentioned.nd rfl (.inl rfl))
        (pss_one (ps_set (i := 1) sc__law_mentioned.nd rfl (.inr rfl) (pe_op op_cat (pv 1) (pe_lc (own := [("_law_name_here", 3)]) (g := gName 3) rfl sc__law_mentioned.nd (pi_list (pe_call (ok__law_mentioned E n) (hr.mono (by omega)) (by rfl) E.d__law_mentioned.g E.d__law_mentioned.F.kp E.d__law_mentioned.b .nil pass0 (pa_cons (pv 2) pa_nil))) (blkOk_by (own := [("_law_name_here", 3)]) (N := N__law_mentioned) (sc := defScope (topS 60)) (by decide +kernel)) (fun _ _ _ _ _ => pg_name (i := 3) sc__law_mentioned.nd rfl (Or.inl rfl)) (fun _ _ _ _ _ => (pts_one (pt_cmpR (show OpR _ _ (rIn K true) from op_notIn_seq) (pv 3) (pv 1) (by rfl)))) (fun _ _ _ _ _ => (pv 3)))))))
      (pss_one (ps_ret (pv 1)))))), ?_⟩
    obtain ⟨a, r, rfl, hs, hr0⟩ := ht.head
    refine ⟨_, rfl, _, _, _, _, rfl, rfl, hs, atI_nat (j := 0) rfl, rfl, _, rfl, ite2 (fun k => ?_) (fun k => ?_)⟩
    · obtain ⟨x, rfl⟩ := word_column (word_eq k)
      obtain ⟨b, e, hb⟩ := ht
      cases e
      exact ⟨_, rfl, _, _, _, _, rfl, rfl, hb, atI_nat (j := 1) rfl, (by show 1 ≤ sizeLine; decide), fun p1 n1 => q _ _ (same_new n1) upd_same⟩
    have nc : ∀ x, t ≠ .column x := fun x e => k (decide_eq_true (by rw [e] <;> rfl))
    have me := mentT_np nc
    refine ⟨(by show 0 ≤ sizeLine; decide), fun L nL => ?_⟩
    have s1 := same_new (o := .lst []) nL
    refine ⟨_, rfl, _, t, rfl, ht.keep (Same.keep s1), fun p us H2 s2 hp np tr => ?_⟩
    have el := Paired.length tr
    have pl := parts_len t
    have hL2 : H2 L = some (.lst []) := s2 _ _ upd_same
    refine ⟨p, rfl, ⟨_, SqL.of hp⟩, for_list (K := K) (a := p) (xs := us) (fun i σ G => ∃ (L : Addr) (y : Option V), σ = [some (.ref a), some (.ref L), y, none] ∧ Same H2 G ∧ G L = some (.lst ((((t.parts.take i).map mentT).foldl mentStep []).map V.str))) ⟨L, _, rfl, Same.refl _, hL2⟩ (fun i σ G _ hw => by obtain ⟨_, _, _, sG, _⟩ := hw; exact SqL.of (sG _ _ hp)) (fun i v σ G hv hw => ?_) (fun σ G hw => ?_)⟩
    · obtain ⟨L, y, rfl, sG, hL⟩ := hw
      obtain ⟨c, c1, c2⟩ := Paired.get tr hv
      have cm : c ∈ t.parts := List.mem_of_getElem? c1
      have cd := dep_parts cm
      have ex : ((t.parts.take (i + 1)).map mentT).foldl mentStep [] = mentStep (((t.parts.take i).map mentT).foldl mentStep []) (mentT c) := by
        rw [List.take_add_one, List.map_append, List.foldl_append, c1] <;> rfl
      have lb : (((t.parts.take i).map mentT).foldl mentStep []).length ≤ 2 * 4782969 := by
        have z := fold_le ((t.parts.take i).map mentT) [] 4782969 fun l hl => by
          obtain ⟨p, hp, rfl⟩ := List.mem_map.mp hl
          have d := dep_parts (List.mem_of_mem_take hp)
          exact Nat.le_trans (ment_len p) (Nat.le_trans (Nat.pow_le_pow_right (by omega) (show p.dep ≤ 14 by omega)) (by decide))
        have il : i < t.parts.length := (List.getElem?_eq_some_iff.mp c1).1
        rw [List.length_map, List.length_take] at z
        have : min i t.parts.length * 4782969 ≤ 2 * 4782969 := Nat.mul_le_mul_right _ (by omega)
        have : ([] : List Str).length = 0 := rfl
        omega
      have lc : (mentT c).length ≤ 4782969 := Nat.le_trans (ment_len c) (Nat.le_trans (Nat.pow_le_pow_right (by omega) (show c.dep ≤ 14 by omega)) (by decide))
      generalize ((t.parts.take i).map mentT).foldl mentStep [] = found at hL ex lb
      refine ⟨_, rfl, _, rfl, v, c, rfl, c2.keep (Same.keep sG), by omega, by omega, fun l2 H3 s3 hl2 => ?_⟩
      have hL3 := s3 _ _ hL
      generalize mentT c = names at ex lc hl2
      refine ⟨l2, rfl, ⟨_, SqL.of hl2⟩, fun D nD => lc_list (K := K) (a := l2) (xs := names.map V.str) (fun i H' => Ex (fun b => b = D) (upd H3 D (.lst [])) H' ∧ H' D = some (.lst (((names.take i).filter fun x => decide (x ∉ found)).map V.str))) ⟨Ex.refl _ _, upd_same⟩ (fun i H' _ hw => SqL.of (hw.1.at_ _ _ (fun z => by rw [z, nD] at hl2; cases hl2) (same_new nD _ _ hl2))) (fun i v H' hv hw => ?_) (fun H' hw => ?_)⟩
      · obtain ⟨e4, hG⟩ := hw
        rw [List.getElem?_map] at hv
        obtain ⟨r, hr0, rfl⟩ := Option.map_eq_some_iff.mp hv
        have ir : i < names.length := (List.getElem?_eq_some_iff.mp hr0).1
        have hL4 : H' L = some (.lst (found.map V.str)) := e4.at_ _ _ (fun z => by rw [z, nD] at hL3; cases hL3) (same_new nD _ _ hL3)
        have et : (names.take (i + 1)).filter (fun x => decide (x ∉ found)) = (names.take i).filter (fun x => decide (x ∉ found)) ++ (if r ∈ found then [] else [r]) := by
          rw [List.take_add_one, List.filter_append, hr0]
          show _ ++ [r].filter _ = _
          by_cases m : r ∈ found
          · rw [if_pos m]
            simp [m]
          · rw [if_neg m]
            simp [m]
        refine ⟨rfl, _, rfl, _, rfl, L, _, rfl, .inl (SqL.of hL4), rfl, flat_strL _, _, rfl, ?_⟩
        have iv : inV (.str r) (found.map V.str) = decide (r ∈ found) := inV_strs r found
        refine ite2 (fun c => ?_) (fun c => ?_)
        · have c' : (!inV (.str r) (found.map V.str)) = true := c
          have m : r ∉ found := fun z => by
            rw [iv, decide_eq_true z] at c'
            cases c'
          refine ⟨_, rfl, _, hG, ?_, e4.trans (ex_lst hG rfl), ?_⟩
          · rw [List.length_map, sizeLine_eq]
            have := List.length_filter_le (fun x => decide (x ∉ found)) (names.take i)
            rw [List.length_take] at this
            omega
          · rw [upd_same, et, if_neg m, List.map_append] <;> rfl
        · have c' : ¬ (!inV (.str r) (found.map V.str)) = true := c
          have m : r ∈ found := Decidable.byContradiction fun z => c' (by
            rw [iv, decide_eq_false z] <;> rfl)
          rw [et, if_pos m, List.append_nil]
          exact ⟨e4, hG⟩
      · obtain ⟨e4, hG⟩ := hw
        rw [List.length_map, List.take_length] at hG
        have sm4 : Same H3 H' := fun b o h => e4.at_ b o (fun z => by rw [z, nD] at h; cases h) (same_new nD _ _ h)
        have hL4 := sm4 _ _ hL3
        refine ⟨_, _, _, _, rfl, rfl, hL4, hG, ?_, fun p5 n5 => ⟨p5, _, rfl, ((sG.trans s3).trans sm4).trans (same_new n5), ?_⟩⟩
        · rw [List.length_map, List.length_map, sizeLine_eq]
          have := List.length_filter_le (fun x => decide (x ∉ found)) names
          omega
        · rw [upd_same, ex]
          unfold mentStep
          rw [List.map_append]
    · obtain ⟨L, y, rfl, sG, hL⟩ := hw
      rw [el, List.take_length, ← me] at hL
      exact ⟨_, rfl, q L G ((s1.trans s2).trans sG) hL⟩
def spFits (K : PySem.W.Frag) : Sp := fun vs H Q _ => ∃ (v : V) (c : Cell) (k : Kd), vs = [v, .str k.s] ∧ IsCell K H v c ∧ Fits c k ∧ Q (.bl true) H
abbrev N__law_fits : List Str := ["_law_cell_here", "_law_kind_here"]
theorem sc__law_fits : FnScope N__law_fits ["_law_cell_here", "_law_kind_here"] (defScope (topS 61)) := ⟨rfl, rfl, rfl, by decide +kernel, rfl, by decide +kernel, by decide +kernel⟩
theorem ok__law_fits (E : Ev K w mg) : FnOk P w K mg base CX0 2 E.d__law_fits.f E.d__law_fits.fd ["_law_cell_here", "_law_kind_here"] (spFits K) := by
  refine E.d__law_fits.F.ok sc__law_fits (fun vs H Q X h => ?_) (fun cdv A outer s H vs Q X hr h => ?_)
  · obtain ⟨v, c, k, rfl, _⟩ := h
    rfl
  · obtain ⟨v, c, k, rfl, hc, hf, q⟩ := h
    refine ⟨_, PSs.nox (pss_cons (ps_if (pt_cmpR op_isN (pv 0) pe_non (nomark _)) (pss_one (ps_ret pe_bl)) pss_nil)
      (pss_cons (ps_if (pt_cmpR op_eq (pv 1) pe_str (nomark _)) (pss_one (ps_ret (pe_callB call_isi (by rfl) E.n_isinstance (by decide +kernel) (pa_cons (pv 0) (pa_cons (pe_bltn (v := .ty "bool") (by rfl) E.n_bool (by decide +kernel) rfl) pa_nil))))) pss_nil)
      (pss_cons (ps_if (pt_cmpR op_eq (pv 1) pe_str (nomark _)) (pss_one (ps_ret (pe_and (pe_callB call_isi (by rfl) E.n_isinstance (by decide +kernel) (pa_cons (pv 0) (pa_cons (pe_bltn (v := .ty "str") (by rfl) E.n_str (by decide +kernel) rfl) pa_nil))) (pe_one (pe_cmpR op_le (pe_callB call_len (by rfl) E.n_len (by decide +kernel) (pa_cons (pv 0) pa_nil)) pe_int (nomark _)))))) pss_nil)
      (pss_cons (ps_if (PW.pt (pw_or (pt_not (pt_val (pe_callB call_isi (by rfl) E.n_isinstance (by decide +kernel) (pa_cons (pv 0) (pa_cons (pe_bltn (v := .ty "tuple") (by rfl) E.n_tuple (by decide +kernel) rfl) pa_nil))))) (pw_or (pt_cmpR op_ne (pe_callB call_len (by rfl) E.n_len (by decide +kernel) (pa_cons (pv 0) pa_nil)) pe_int (nomark _)) (pw_or (pt_not (pt_val (pe_call (ok__law_is_integer E) (hr.mono (by omega)) (by rfl) E.d__law_is_integer.g E.d__law_is_integer.F.kp E.d__law_is_integer.b .nil pass0 (pa_cons (pe_ix ix_tup (pv 0) pe_int (fun _ _ => rfl)) pa_nil)))) (pw_or1 (pt_not (pt_val (pe_call (ok__law_is_integer E) (hr.mono (by omega)) (by rfl) E.d__law_is_integer.g E.d__law_is_integer.F.kp E.d__law_is_integer.b .nil pass0 (pa_cons (pe_ix ix_tup (pv 0) pe_int (fun _ _ => rfl)) pa_nil))))))))) (pss_one (ps_ret pe_bl)) pss_nil)
      (pss_one (ps_ret (pe_and (pe_cmpR op_gt (pe_ix ix_tup (pv 0) pe_int (fun _ _ => rfl)) pe_int (nomark _)) (pe_and (pe_cmpR (op_eqD hr.units) (pe_call (ok__law_kept E) (hr.mono (by omega)) (by rfl) E.d__law_kept.g E.d__law_kept.F.kp E.d__law_kept.b .nil pass0 (pa_cons (pv 0) pa_nil)) (pv 0) (nomark _)) (pe_one (pe_cmpR op_eq (pe_call (ok__law_gcd E) (hr.mono (by omega)) (by rfl) E.d__law_gcd.g E.d__law_gcd.F.kp E.d__law_gcd.b .nil pass0 (pa_cons (pe_ix ix_tup (pv 0) pe_int (fun _ _ => rfl)) (pa_cons (pe_ix ix_tup (pv 0) pe_int (fun _ _ => rfl)) pa_nil))) pe_int (nomark _))))))))))), ?_⟩
    have cn := cell_non hc
    refine ⟨_, rfl, rfl, _, rfl, ?_⟩
    rw [cn]
    by_cases e : c = .non
    · rw [decide_eq_true e]
      exact ifT rfl q
    rw [decide_eq_false e]
    refine ifF rfl ?_
    have ck := fits_kind hf e
    cases c with
    | non => exact absurd rfl e
    | bl b =>
      cases k <;> first | (cases ck; done) | skip
      exact ⟨_, rfl, rfl, _, rfl, ifT (by decide +kernel) ⟨_, rfl, _, _, .type "bool", _, true, rfl, .ty _, tyx_cell hc, kit_ty (by decide +kernel), q⟩⟩
    | txt x =>
      cases k <;> first | (cases ck; done) | skip
      have ev : v = .str x := hc
      subst ev
      have l40 := hf.1.1
      refine ⟨_, rfl, rfl, _, rfl, ifF (by decide +kernel) ⟨_, rfl, rfl, _, rfl, ifT (by decide +kernel) ⟨_, rfl, _, _, .type "str", _, true, rfl, .ty _, tyx_cell hc, kit_ty (by decide +kernel), _, rfl, ifT rfl ?_⟩⟩⟩
      refine ⟨_, rfl, _, _, rfl, ⟨small (by omega), rfl⟩, _, _, rfl, rfl, ?_⟩
      have : decide (((x.length : Nat) : Int) ≤ 40) = true := decide_eq_true (by omega)
      show Q (.bl (decide (((x.length : Nat) : Int) ≤ 40))) H
      rw [this]
      exact q
    | num n d =>
      cases k <;> first | (cases ck; done) | skip
      have hok := hf.1
      obtain ⟨a, rfl, ha⟩ := hc
      have hc' : IsCell K H (.ref a) (.num n d) := ⟨a, rfl, ha⟩
      refine ⟨_, rfl, rfl, _, rfl, ifF (by decide +kernel) ⟨_, rfl, rfl, _, rfl, ifF (by decide +kernel) ?_⟩⟩
      refine ⟨_, rfl, _, _, .type "tuple", _, true, rfl, .ty _, tyx_cell hc', kit_ty (by decide +kernel), _, rfl, ifF rfl ?_⟩
      refine ⟨_, rfl, _, _, rfl, .inr ⟨_, ha, rfl⟩, rfl, _, rfl, ifF (by show (!decide (V.int 2 = V.int 2)) = false; decide +kernel) ?_⟩
      refine ⟨_, rfl, _, _, _, _, rfl, rfl, ha, atI_nat (j := 0) rfl, n, rfl, _, rfl, ifF rfl ?_⟩
      refine ⟨_, rfl, _, _, _, _, rfl, rfl, ha, atI_nat (j := 1) rfl, d, rfl, _, rfl, ifF rfl ?_⟩
      refine ⟨_, rfl, _, _, _, _, rfl, rfl, ha, atI_nat (j := 1) rfl, _, _, rfl, rfl, _, rfl, ifT (decide_eq_true hok.1.1) ?_⟩
      refine ⟨_, rfl, .ref a, n, d, rfl, hc', hok.1, _, rfl, _, _, dp_cell hc', dp_cell hc', shaped_cell (c := .num n d) hok, shaped_cell (c := .num n d) hok, _, rfl, ifT (by rw [eqv_cell]; exact decide_eq_true rfl) ?_⟩
      refine ⟨_, rfl, _, _, _, _, rfl, rfl, ha, atI_nat (j := 0) rfl, _, rfl, _, _, _, _, rfl, rfl, ha, atI_nat (j := 1) rfl, n, d, rfl, rfl, ?_⟩
      rw [hok.2]
      exact q
def truthT : Cell → Int
  | .bl b => 2 * (if b then 1 else 0)
  | _ => 1
def spTruth (K : PySem.W.Frag) : Sp := fun vs H Q _ => ∃ (v : V) (c : Cell), vs = [v] ∧ IsCell K H v c ∧ boolC c = true ∧ Q (.int (truthT c)) H
abbrev N__law_truth : List Str := ["_law_cell_here"]
theorem sc__law_truth : FnScope N__law_truth ["_law_cell_here"] (defScope (topS 63)) := ⟨rfl, rfl, rfl, by decide +kernel, rfl, by decide +kernel, by decide +kernel⟩
theorem ok__law_truth (E : Ev K w mg) : FnOk P w K mg base CX0 1 E.d__law_truth.f E.d__law_truth.fd ["_law_cell_here"] (spTruth K) := by
  refine E.d__law_truth.F.ok sc__law_truth (fun vs H Q X h => ?_) (fun cdv A outer s H vs Q X hr h => ?_)
  · obtain ⟨v, c, rfl, _⟩ := h
    rfl
  · obtain ⟨v, c, rfl, hc, hb, q⟩ := h
    refine ⟨_, PSs.nox (pss_cons (ps_if (pt_cmpR op_isN (pv 0) pe_non (nomark _)) (pss_one (ps_ret pe_int)) pss_nil)
      (pss_one (ps_ret (pe_op op_mul pe_int (pe_callTy call_int1 (by rfl) E.n_int (by decide +kernel) (pa_cons (pv 0) pa_nil)))))), ?_⟩
    cases c with
    | non =>
      have e : v = .non := hc
      subst e
      exact ⟨_, rfl, rfl, _, rfl, ifT rfl q⟩
    | bl b =>
      have e : v = .bl b := hc
      subst e
      exact ⟨_, rfl, rfl, _, rfl, ifF rfl ⟨_, rfl, .inr ⟨b, rfl, _, _, rfl, rfl, .inl ⟨by omega, by omega⟩, q⟩⟩⟩
    | txt _ => cases hb
    | num _ _ => cases hb
end
end K7
/-! W21 -/
namespace K7
open PySem PySem.Spec PyProof.Rows L2 TL
/-! ### the logic -/
theorem bo_cases {c : Cell} (h : boolC c = true) : c = .non ∨ c = .bl true ∨ c = .bl false := by
  cases c with
  | non => exact .inl rfl
  | bl b => cases b <;> simp
  | txt _ => cases h
  | num _ _ => cases h
theorem conn_min {a b : Cell} (ha : boolC a = true) (hb : boolC b = true) : truthT (connT false a b) = if truthT b < truthT a then truthT b else truthT a := by
  rcases bo_cases ha with rfl | rfl | rfl <;> rcases bo_cases hb with rfl | rfl | rfl <;> decide
theorem conn_max {a b : Cell} (ha : boolC a = true) (hb : boolC b = true) : truthT (connT true b a) = if truthT b > truthT a then truthT b else truthT a := by
  rcases bo_cases ha with rfl | rfl | rfl <;> rcases bo_cases hb with rfl | rfl | rfl <;> decide
theorem not_law {cols : Cols} {cells : List Cell} {t : Tree} (h : boolC (evalT cols cells t) = true) : truthT (evalT cols cells (.one .not t)) = 2 - truthT (evalT cols cells t) := by
  show truthT (if O1.not = .missing then .bl (decide (evalT cols cells t = .non)) else if evalT cols cells t = .non then .non else limC (one1 .not (evalT cols cells t))) = _
  rw [if_neg (by decide)]
  rcases bo_cases h with e | e | e <;> rw [e] <;> decide
/-! ### other cells of names that are not mentioned -/
theorem mem_ment {f l : List Str} {x : Str} : x ∈ mentStep f l ↔ x ∈ f ∨ x ∈ l := by
  unfold mentStep
  rw [List.mem_append, List.mem_filter]
  constructor
  · rintro (h | h)
    · exact .inl h
    · exact .inr h.1
  · rintro (h | h)
    · exact .inl h
    · by_cases z : x ∈ f
      · exact .inl z
      · exact .inr ⟨h, decide_eq_true z⟩
theorem eval_same {cols : Cols} {c c' : List Cell} : ∀ {t : Tree}, (∀ x ∈ mentT t, ∀ i, posIn cols x = some i → c.getD i .non = c'.getD i .non) → evalT cols c t = evalT cols c' t
  | .cell _, _ => rfl
  | .nothing _, _ => rfl
  | .column x, h => by
    show (match posIn cols x with | some i => c.getD i .non | none => .non) = (match posIn cols x with | some i => c'.getD i .non | none => .non)
    cases e : posIn cols x with
    | none => rfl
    | some i => exact h x (by show x ∈ [x]; simp) i e
  | .one o t, h => by
    have e := eval_same (t := t) fun x hx => h x (mem_ment.mpr (.inr hx))
    show (if o = .missing then .bl (decide (evalT cols c t = .non)) else if evalT cols c t = .non then .non else limC (one1 o (evalT cols c t))) = (if o = .missing then .bl (decide (evalT cols c' t = .non)) else if evalT cols c' t = .non then .non else limC (one1 o (evalT cols c' t)))
    rw [e]
  | .two o s t, h => by
    have e := eval_same (t := s) fun x hx => h x (mem_ment.mpr (.inl (mem_ment.mpr (.inr hx))))
    have e2 := eval_same (t := t) fun x hx => h x (mem_ment.mpr (.inr hx))
    unfold evalT
    rw [e, e2]
  | .cond a s t, h => by
    have e := eval_same (t := a) fun x hx => h x (mem_ment.mpr (.inl (mem_ment.mpr (.inl (mem_ment.mpr (.inr hx))))))
    have e2 := eval_same (t := s) fun x hx => h x (mem_ment.mpr (.inl (mem_ment.mpr (.inr hx))))
    have e3 := eval_same (t := t) fun x hx => h x (mem_ment.mpr (.inr hx))
    unfold evalT
    rw [e, e2, e3]
  | .isin t _, h => by
    have e := eval_same (t := t) fun x hx => h x (mem_ment.mpr (.inr hx))
    unfold evalT
    rw [e]
/-! ### renamed -/
def nm (i : Int) : Str := "n" ++ decI i
theorem nm_inj {a b : Nat} (h : nm (a : Int) = nm (b : Int)) : a = b := by
  have e : tl (nm (a : Int)) = tl (nm (b : Int)) := congrArg tl h
  have ap : ∀ n : Nat, tl (nm (n : Int)) = tl "n" ++ numL n := fun n => by
    show tl ("n" ++ decI (n : Int)) = _
    rw [show tl ("n" ++ decI (n : Int)) = tl "n" ++ tl (decI (n : Int)) from Array.toList_append]
    rw [show tl (decI (n : Int)) = numL n from tl_num n]
  rw [ap, ap] at e
  exact numL_inj (List.append_cancel_left e)
def renC (cols : Cols) : Cols := (List.range cols.length).map fun (i : Nat) => (nm (i : Int), (cols.getD i ("", .num)).2)
def renT (cols : Cols) : Tree → Tree
  | .column x => .column (nm (((posIn cols x).getD 0 : Nat) : Int))
  | .one o t => .one o (renT cols t)
  | .two o s t => .two o (renT cols s) (renT cols t)
  | .cond c s t => .cond (renT cols c) (renT cols s) (renT cols t)
  | .isin t cs => .isin (renT cols t) cs
  | t => t
theorem ren_ok {cols : Cols} : ∀ {t : Tree}, t.Ok → (renT cols t).Ok
  | .cell _, h => h
  | .nothing _, _ => trivial
  | .column _, _ => trivial
  | .one _ t, h => ren_ok (t := t) h
  | .two _ s t, h => ⟨ren_ok (t := s) h.1, ren_ok (t := t) h.2⟩
  | .cond c s t, h => ⟨ren_ok (t := c) h.1, ren_ok (t := s) h.2.1, ren_ok (t := t) h.2.2⟩
  | .isin t _, h => ⟨ren_ok (t := t) h.1, h.2⟩
theorem ren_dep {cols : Cols} : ∀ {t : Tree}, (renT cols t).dep = t.dep
  | .cell _ => rfl
  | .nothing _ => rfl
  | .column _ => rfl
  | .one _ t => congrArg (· + 1) (ren_dep (t := t))
  | .two _ s t => by
    show max (renT cols s).dep (renT cols t).dep + 1 = max s.dep t.dep + 1
    rw [ren_dep (t := s), ren_dep (t := t)]
  | .cond c s t => by
    show max (renT cols c).dep (max (renT cols s).dep (renT cols t).dep) + 1 = max c.dep (max s.dep t.dep) + 1
    rw [ren_dep (t := c), ren_dep (t := s), ren_dep (t := t)]
  | .isin t _ => congrArg (· + 1) (ren_dep (t := t))
theorem renC_len (cols : Cols) : (renC cols).length = cols.length := by
  unfold renC
  rw [List.length_map, List.length_range]
theorem renC_get {cols : Cols} {i : Nat} {c : Str × Kd} (h : cols[i]? = some c) : (renC cols)[i]? = some (nm (i : Int), c.2) := by
  have hi : i < cols.length := (List.getElem?_eq_some_iff.mp h).1
  unfold renC
  rw [List.getElem?_map, List.getElem?_range hi]
  show some (nm (i : Int), (cols.getD i ("", .num)).2) = _
  rw [List.getD_eq_getElem?_getD, h] <;> rfl
/-- the place of the i-th new name, from behind -/
theorem ren_pos {cols : Cols} {i : Nat} {c : Str × Kd} (h : cols[i]? = some c) : kindIn (renC cols).reverse (nm (i : Int)) = some c.2 ∧ posIn (renC cols).reverse (nm (i : Int)) = some (cols.length - 1 - i) := by
  have hi : i < cols.length := (List.getElem?_eq_some_iff.mp h).1
  have rl := renC_len cols
  have at_ : ∀ j, j < cols.length → (renC cols).reverse[j]? = (renC cols)[cols.length - 1 - j]? := fun j hj => by
    rw [List.getElem?_reverse (by omega), rl]
  have g : (renC cols).reverse[cols.length - 1 - i]? = some (nm (i : Int), c.2) := by
    rw [at_ _ (by omega), show cols.length - 1 - (cols.length - 1 - i) = i by omega]
    exact renC_get h
  exact kin_step (cols := (renC cols).reverse) (x := nm (i : Int)) (i := cols.length - 1 - i) (fun j d hj hd e => by
    rw [at_ j (by omega)] at hd
    have hj2 : cols.length - 1 - j < cols.length := by omega
    rw [renC_get (List.getElem?_eq_getElem hj2)] at hd
    have e2 := Option.some.inj hd
    rw [← e2] at e
    have := nm_inj e
    omega) (c := (nm (i : Int), c.2)) g rfl
theorem ren_law {cols : Cols} {cells : List Cell} (hl : cells.length = cols.length) : ∀ {t : Tree} {k : Kd}, kindT cols t = some k → kindT (renC cols).reverse (renT cols t) = some k ∧ evalT (renC cols).reverse cells.reverse (renT cols t) = evalT cols cells t
  | .cell _, k, h => ⟨h, rfl⟩
  | .nothing _, k, h => ⟨h, rfl⟩
  | .column x, k, h => by
    obtain ⟨i, e1, e2⟩ := kin_some (cols := cols) (x := x) h
    have hi : i < cols.length := (List.getElem?_eq_some_iff.mp e2).1
    obtain ⟨r1, r2⟩ := ren_pos e2
    have er : renT cols (.column x) = .column (nm (i : Int)) := by
      show Tree.column (nm (((posIn cols x).getD 0 : Nat) : Int)) = _
      rw [e1] <;> rfl
    rw [er]
    refine ⟨r1, ?_⟩
    show (match posIn (renC cols).reverse (nm (i : Int)) with | some i => cells.reverse.getD i .non | none => .non) = (match posIn cols x with | some i => cells.getD i .non | none => .non)
    rw [r2, e1]
    show cells.reverse.getD (cols.length - 1 - i) .non = cells.getD i .non
    rw [List.getD_eq_getElem?_getD, List.getD_eq_getElem?_getD, List.getElem?_reverse (by omega), hl, show cols.length - 1 - (cols.length - 1 - i) = i by omega]
  | .one o t, k, h => by
    obtain ⟨a, h1, h2⟩ := kd_one h
    obtain ⟨r1, r2⟩ := ren_law hl (t := t) h1
    constructor
    · show (allK [kindT (renC cols).reverse (renT cols t)]).bind (kfin (.one o (renT cols t))) = some k
      rw [r1]
      show kfin (.one o (renT cols t)) [a] = some k
      rw [kfin_one]
      exact h2
    · show (if o = .missing then Cell.bl (decide (evalT (renC cols).reverse cells.reverse (renT cols t) = .non)) else if evalT (renC cols).reverse cells.reverse (renT cols t) = .non then .non else limC (one1 o (evalT (renC cols).reverse cells.reverse (renT cols t)))) = _
      rw [r2] <;> rfl
  | .two o s t, k, h => by
    obtain ⟨a, b, h1, h2, h3⟩ := kd_two h
    obtain ⟨r1, r2⟩ := ren_law hl (t := s) h1
    obtain ⟨r3, r4⟩ := ren_law hl (t := t) h2
    constructor
    · show (allK [kindT (renC cols).reverse (renT cols s), kindT (renC cols).reverse (renT cols t)]).bind (kfin (.two o (renT cols s) (renT cols t))) = some k
      rw [r1, r3]
      show kfin (.two o (renT cols s) (renT cols t)) [a, b] = some k
      rw [kfin_two]
      exact h3
    · unfold renT
      unfold evalT
      rw [r2, r4]
  | .cond c s t, k, h => by
    obtain ⟨h1, h2, h3⟩ := kd_cond h
    obtain ⟨r1, r2⟩ := ren_law hl (t := c) h1
    obtain ⟨r3, r4⟩ := ren_law hl (t := s) h2
    obtain ⟨r5, r6⟩ := ren_law hl (t := t) h3
    constructor
    · show (allK [kindT (renC cols).reverse (renT cols c), kindT (renC cols).reverse (renT cols s), kindT (renC cols).reverse (renT cols t)]).bind (kfin (.cond (renT cols c) (renT cols s) (renT cols t))) = some k
      rw [r1, r3, r5]
      show (if k = k then (if Kd.boo = .boo then some k else none) else none) = some k
      rw [if_pos rfl, if_pos rfl]
    · unfold renT
      unfold evalT
      rw [r2, r4, r6]
  | .isin t cs, k, h => by
    obtain ⟨rfl, a, h1, h2⟩ := kd_isin h
    obtain ⟨r1, r2⟩ := ren_law hl (t := t) h1
    constructor
    · show (allK [kindT (renC cols).reverse (renT cols t)]).bind (kfin (.isin (renT cols t) cs)) = some .boo
      rw [r1]
      show (if cs.all (fun c => decide (c.kind = some a)) = true then some Kd.boo else none) = some .boo
      have al : (cs.all fun c => decide (c.kind = some a)) = true := List.all_eq_true.mpr fun x hx => decide_eq_true (h2 x hx)
      rw [if_pos al]
    · unfold renT
      unfold evalT
      rw [r2]
theorem ren_fit {cols : Cols} {cells : List Cell} (h : RowFit cols cells) : RowFit (renC cols).reverse cells.reverse := by
  have rl := renC_len cols
  refine ⟨by rw [List.length_reverse, List.length_reverse, rl, h.1], fun i c x h1 h2 => ?_⟩
  have hi : i < cells.length := by
    have := (List.getElem?_eq_some_iff.mp h1).1
    rwa [List.length_reverse] at this
  have hl := h.1
  rw [List.getElem?_reverse hi] at h1
  rw [List.getElem?_reverse (by omega), rl, ← hl] at h2
  have hj : cells.length - 1 - i < cols.length := by omega
  rw [renC_get (List.getElem?_eq_getElem hj)] at h2
  have e := Option.some.inj h2
  rw [← e]
  show Fits c (cols[cells.length - 1 - i]).2
  exact h.2 _ c _ h1 (List.getElem?_eq_getElem hj)
section
variable {P : Program} {w : World} {K : PySem.W.Frag} {mg : Str → Option Value} {base : Heap}
def spLog (K : PySem.W.Frag) : Sp := fun vs H Q _ => ∃ (v u : V) (t1 t2 : Tree) (ca ra : Addr) (cols : Cols) (cells : List Cell), vs = [v, u, .ref ca, .ref ra] ∧ IsTree K H v t1 ∧ IsTree K H u t2 ∧ IsCols K H ca cols ∧ IsRow K H ra cells ∧ RowFit cols cells ∧
  t1.Ok ∧ t2.Ok ∧ t1.dep < 16 ∧ t2.dep < 16 ∧ kindT cols t1 = some .boo ∧ kindT cols t2 = some .boo ∧ ∀ H', Same H H' → Q (.bl true) H'
abbrev N__law_logical : List Str := ["_law_tree_here", "_law_other", "_law_columns_here", "_law_cells_here", "_law_first", "_law_second"]
theorem sc__law_logical : FnScope N__law_logical ["_law_tree_here", "_law_other", "_law_columns_here", "_law_cells_here"] (defScope (topS 64)) := ⟨rfl, rfl, rfl, by decide +kernel, rfl, by decide +kernel, by decide +kernel⟩
theorem ok__law_logical (E : Ev K w mg) : FnOk P w K mg base CX0 26 E.d__law_logical.f E.d__law_logical.fd ["_law_tree_here", "_law_other", "_law_columns_here", "_law_cells_here"] (spLog K) := by
  refine E.d__law_logical.F.ok sc__law_logical (fun vs H Q X h => ?_) (fun cdv A outer s H vs Q X hr h => ?_)
  · obtain ⟨v, u, t1, t2, ca, ra, cols, cells, rfl, _⟩ := h
    rfl
  · obtain ⟨v, u, t1, t2, ca, ra, cols, cells, rfl, ht1, ht2, hc, hrow, hf, ok1, ok2, dp1, dp2, k1, k2, q⟩ := h
    refine ⟨_, PSs.nox (pss_cons (ps_set (i := 4) sc__law_logical.nd rfl (.inl rfl) (pe_call (ok__law_truth E) (hr.mono (by omega)) (by rfl) E.d__law_truth.g E.d__law_truth.F.kp E.d__law_truth.b .nil pass0 (pa_cons (pe_call (ok_evaluate E 20) (hr.mono (by omega)) (by rfl) E.d_evaluate.g E.d_evaluate.F.kp E.d_evaluate.b .nil pass0 (pa_cons (pv 0) (pa_cons (pv 2) (pa_cons (pv 3) pa_nil)))) pa_nil)))
      (pss_cons (ps_set (i := 5) sc__law_logical.nd rfl (.inl rfl) (pe_call (ok__law_truth E) (hr.mono (by omega)) (by rfl) E.d__law_truth.g E.d__law_truth.F.kp E.d__law_truth.b .nil pass0 (pa_cons (pe_call (ok_evaluate E 20) (hr.mono (by omega)) (by rfl) E.d_evaluate.g E.d_evaluate.F.kp E.d_evaluate.b .nil pass0 (pa_cons (pv 1) (pa_cons (pv 2) (pa_cons (pv 3) pa_nil)))) pa_nil)))
      (pss_cons (ps_if (pt_cmpR op_ne (pe_call (ok__law_truth E) (hr.mono (by omega)) (by rfl) E.d__law_truth.g E.d__law_truth.F.kp E.d__law_truth.b .nil pass0 (pa_cons (pe_call (ok_evaluate E 20) (hr.mono (by omega)) (by rfl) E.d_evaluate.g E.d_evaluate.F.kp E.d_evaluate.b .nil pass0 (pa_cons (pe_tup (pa_cons pe_str (pa_cons (pv 0) pa_nil))) (pa_cons (pv 2) (pa_cons (pv 3) pa_nil)))) pa_nil)) (pe_op op_sub pe_int (pv 4)) (nomark _)) (pss_one (ps_ret pe_bl)) pss_nil)
      (pss_cons (ps_if (pt_cmpR op_ne (pe_call (ok__law_truth E) (hr.mono (by omega)) (by rfl) E.d__law_truth.g E.d__law_truth.F.kp E.d__law_truth.b .nil pass0 (pa_cons (pe_call (ok_evaluate E 20) (hr.mono (by omega)) (by rfl) E.d_evaluate.g E.d_evaluate.F.kp E.d_evaluate.b .nil pass0 (pa_cons (pe_tup (pa_cons pe_str (pa_cons (pv 0) (pa_cons (pv 1) pa_nil)))) (pa_cons (pv 2) (pa_cons (pv 3) pa_nil)))) pa_nil)) (pe_callB (call_min2 rfl) (by rfl) E.n_min (by decide +kernel) (pa_cons (pv 4) (pa_cons (pv 5) pa_nil))) (nomark _)) (pss_one (ps_ret pe_bl)) pss_nil)
      (pss_one (ps_ret (pe_cmpR op_eq (pe_call (ok__law_truth E) (hr.mono (by omega)) (by rfl) E.d__law_truth.g E.d__law_truth.F.kp E.d__law_truth.b .nil pass0 (pa_cons (pe_call (ok_evaluate E 20) (hr.mono (by omega)) (by rfl) E.d_evaluate.g E.d_evaluate.F.kp E.d_evaluate.b .nil pass0 (pa_cons (pe_tup (pa_cons pe_str (pa_cons (pv 1) (pa_cons (pv 0) pa_nil)))) (pa_cons (pv 2) (pa_cons (pv 3) pa_nil)))) pa_nil)) (pe_callB (call_max2 rfl) (by rfl) E.n_max (by decide +kernel) (pa_cons (pv 4) (pa_cons (pv 5) pa_nil))) (nomark _)))))))), ?_⟩
    have b1 := bool_fits (eval_fits hf ok1 k1)
    have b2 := bool_fits (eval_fits hf ok2 k2)
    refine ⟨_, rfl, _, rfl, _, rfl, v, t1, ca, ra, cols, cells, .boo, rfl, ht1, hc, hrow, hf, ok1, by omega, k1, fun x H1 s1 hx => ⟨x, _, rfl, hx, b1, ?_⟩⟩
    have kp1 := Same.keep s1
    refine ⟨_, rfl, _, rfl, _, rfl, u, t2, ca, ra, cols, cells, .boo, rfl, ht2.keep kp1, hc.keep kp1, hrow.keep kp1, hf, ok2, by omega, k2, fun y H2 s2 hy => ⟨y, _, rfl, hy, b2, ?_⟩⟩
    have sm2 := s1.trans s2
    have kp2 := Same.keep sm2
    refine ⟨_, rfl, (by show 2 ≤ sizeLine; decide), fun p3 n3 => ?_⟩
    have s3 := same_new (o := .tup [.str "not", v]) n3
    have sm3 := sm2.trans s3
    have kp3 := Same.keep sm3
    have tn : IsTree K (upd H2 p3 (.tup [.str "not", v])) (.ref p3) (.one .not t1) := ⟨p3, v, rfl, .inl (.inl upd_same), ht1.keep kp3⟩
    have kn : kindT cols (.one .not t1) = some .boo := by
      show (allK [kindT cols t1]).bind (kfin (.one .not t1)) = some .boo
      rw [k1] <;> rfl
    refine ⟨_, rfl, _, rfl, _, .one .not t1, ca, ra, cols, cells, .boo, rfl, tn, hc.keep kp3, hrow.keep kp3, hf, ok1, by show t1.dep + 1 < 20; omega, kn, fun z H4 s4 hz => ⟨z, _, rfl, hz, bool_fits (eval_fits hf (t := .one .not t1) ok1 kn), ?_⟩⟩
    rw [not_law b1]
    refine ⟨_, rfl, _, _, rfl, rfl, rfl, _, rfl, ifF ?_ ?_⟩
    · show (!decide (V.int (2 - truthT (evalT cols cells t1)) = V.int (2 - truthT (evalT cols cells t1)))) = false
      rw [decide_eq_true rfl] <;> rfl
    have sm4 := sm3.trans s4
    refine ⟨_, rfl, _, rfl, (by show 3 ≤ sizeLine; decide), fun p5 n5 => ?_⟩
    have s5 := same_new (o := .tup [.str "and", v, u]) n5
    have sm5 := sm4.trans s5
    have kp5 := Same.keep sm5
    have ta : IsTree K (upd H4 p5 (.tup [.str "and", v, u])) (.ref p5) (.two .and t1 t2) := ⟨p5, v, u, rfl, .inl (.inl upd_same), ht1.keep kp5, ht2.keep kp5⟩
    have kn2 : kindT cols (.two .and t1 t2) = some .boo := by
      show (allK [kindT cols t1, kindT cols t2]).bind (kfin (.two .and t1 t2)) = some .boo
      rw [k1, k2] <;> rfl
    refine ⟨_, rfl, _, rfl, _, .two .and t1 t2, ca, ra, cols, cells, .boo, rfl, ta, hc.keep kp5, hrow.keep kp5, hf, ⟨ok1, ok2⟩, by show max t1.dep t2.dep + 1 < 20; omega, kn2, fun z H6 s6 hz => ⟨z, _, rfl, hz, bool_fits (eval_fits hf (t := .two .and t1 t2) ⟨ok1, ok2⟩ kn2), ?_⟩⟩
    rw [show evalT cols cells (.two .and t1 t2) = connT false (evalT cols cells t1) (evalT cols cells t2) from rfl, conn_min b1 b2]
    refine ⟨_, rfl, _, rfl, _, _, rfl, rfl, _, rfl, ifF ?_ ?_⟩
    · show (!decide (V.int _ = V.int _)) = false
      rw [decide_eq_true rfl] <;> rfl
    have sm6 := sm5.trans s6
    refine ⟨_, rfl, _, rfl, (by show 3 ≤ sizeLine; decide), fun p7 n7 => ?_⟩
    have s7 := same_new (o := .tup [.str "or", u, v]) n7
    have sm7 := sm6.trans s7
    have kp7 := Same.keep sm7
    have to : IsTree K (upd H6 p7 (.tup [.str "or", u, v])) (.ref p7) (.two .or t2 t1) := ⟨p7, u, v, rfl, .inl (.inl upd_same), ht2.keep kp7, ht1.keep kp7⟩
    have kn3 : kindT cols (.two .or t2 t1) = some .boo := by
      show (allK [kindT cols t2, kindT cols t1]).bind (kfin (.two .or t2 t1)) = some .boo
      rw [k1, k2] <;> rfl
    refine ⟨_, rfl, _, rfl, _, .two .or t2 t1, ca, ra, cols, cells, .boo, rfl, to, hc.keep kp7, hrow.keep kp7, hf, ⟨ok2, ok1⟩, by show max t2.dep t1.dep + 1 < 20; omega, kn3, fun z H8 s8 hz => ⟨z, _, rfl, hz, bool_fits (eval_fits hf (t := .two .or t2 t1) ⟨ok2, ok1⟩ kn3), ?_⟩⟩
    rw [show evalT cols cells (.two .or t2 t1) = connT true (evalT cols cells t2) (evalT cols cells t1) from rfl, conn_max b1 b2]
    refine ⟨_, rfl, _, rfl, _, _, rfl, rfl, ?_⟩
    have e : ∀ i : Int, V.bl (decide (V.int i = V.int i)) = .bl true := fun i => by rw [decide_eq_true rfl]
    have z := q H8 (sm7.trans s8)
    rw [← e (if truthT (evalT cols cells t2) > truthT (evalT cols cells t1) then truthT (evalT cols cells t2) else truthT (evalT cols cells t1))] at z
    exact z
end
end K7
/-! W22 -/
namespace K7
open PySem PySem.Spec PyProof.Rows L2 TL
theorem pos_names {cols : Cols} {x : Str} {i : Nat} (h : posIn cols x = some i) : i < cols.length ∧ (∃ z, ((cols.map (·.1)).map V.str)[i]? = some z ∧ eqV z (.str x) = true) ∧ ∀ (m : Nat) (z' : V), m < i → ((cols.map (·.1)).map V.str)[m]? = some z' → eqV z' (.str x) = false := by
  unfold posIn at h
  rw [List.findIdx?_eq_some_iff_getElem] at h
  obtain ⟨i1, i2, i3⟩ := h
  refine ⟨i1, ⟨.str cols[i].1, by simp [i1], by rw [eqv_str]; exact i2⟩, fun m z hm hz => ?_⟩
  have m1 : m < cols.length := by omega
  have ez : z = .str cols[m].1 := by
    rw [List.getElem?_map, List.getElem?_map, List.getElem?_eq_getElem m1] at hz
    exact (Option.some.inj hz).symm
  subst ez
  rw [eqv_str]
  exact Bool.eq_false_iff.mpr (i3 m hm)
theorem ren_parts {cols : Cols} {t : Tree} : (renT cols t).parts = t.parts.map (renT cols) := by
  cases t <;> rfl
theorem ren_word {cols : Cols} {t : Tree} : (renT cols t).word = t.word := by
  cases t <;> rfl
theorem ren_build {K : PySem.W.Frag} {H H' : Hp} {cols : Cols} {t : Tree} {v : V} {p : Addr} {us : List V} (ht : IsTree K H v t) (kp : Keep H H') (l : t.leaf = false) (ni : ∀ s cs, t ≠ .isin s cs) (tr : Trees K H' us (t.parts.map (renT cols))) (h : SqT K H' p (.str t.word :: us)) : IsTree K H' (.ref p) (renT cols t) := by
  cases t with
  | cell _ => cases l
  | nothing _ => cases l
  | column _ => cases l
  | one o t =>
    have tr' : Trees K H' us [renT cols t] := tr
    cases tr' with
    | cons h1 r =>
      cases r
      exact ⟨p, _, rfl, h, h1⟩
  | two o s t =>
    have tr' : Trees K H' us [renT cols s, renT cols t] := tr
    cases tr' with
    | cons h1 r =>
      cases r with
      | cons h2 r =>
        cases r
        exact ⟨p, _, _, rfl, h, h1, h2⟩
  | cond c s t =>
    have tr' : Trees K H' us [renT cols c, renT cols s, renT cols t] := tr
    cases tr' with
    | cons h1 r =>
      cases r with
      | cons h2 r =>
        cases r with
        | cons h3 r =>
          cases r
          exact ⟨p, _, _, _, rfl, h, h1, h2, h3⟩
  | isin s cs => exact absurd rfl (ni s cs)
section
variable {P : Program} {w : World} {K : PySem.W.Frag} {mg : Str → Option Value} {base : Heap}
def spRen (K : PySem.W.Frag) (n : Nat) : Sp := fun vs H Q _ => ∃ (v : V) (t : Tree) (nl : Addr) (cols : Cols) (k : Kd), vs = [v, .ref nl] ∧ IsTree K H v t ∧ H nl = some (.lst ((cols.map (·.1)).map V.str)) ∧ cols.length ≤ 6 ∧ t.dep < n ∧ kindT cols t = some k ∧ ∀ u H', Same H H' → IsTree K H' u (renT cols t) → Q u H'
abbrev N__law_renamed : List Str := ["_law_tree_here", "_law_names", "_law_parts_here", "_law_part"]
theorem sc__law_renamed : FnScope N__law_renamed ["_law_tree_here", "_law_names"] (defScope (topS 62)) := ⟨rfl, rfl, rfl, by decide +kernel, rfl, by decide +kernel, by decide +kernel⟩
theorem ok__law_renamed (E : Ev K w mg) : ∀ n, FnOk P w K mg base CX0 (n + 1) E.d__law_renamed.f E.d__law_renamed.fd ["_law_tree_here", "_law_names"] (spRen K n)
  | 0 => by
    refine E.d__law_renamed.F.ok sc__law_renamed (fun vs H Q X h => ?_) (fun cdv A outer s H vs Q X hr h => ?_)
    · obtain ⟨v, t, nl, cols, k, _, _, _, _, hd, _⟩ := h
      omega
    · obtain ⟨v, t, nl, cols, k, _, _, _, _, hd, _⟩ := h
      omega
  | n + 1 => by
    refine E.d__law_renamed.F.ok sc__law_renamed (fun vs H Q X h => ?_) (fun cdv A outer s H vs Q X hr h => ?_)
    · obtain ⟨v, t, nl, cols, k, rfl, _⟩ := h
      rfl
    obtain ⟨v, t, nl, cols, k, rfl, ht, hN, hn, hd, hk, q⟩ := h
    refine ⟨_, PSs.nox (pss_cons (ps_if (pt_cmpR op_eq (pe_ix ix_tup (pv 0) pe_int (fun _ _ => rfl)) pe_str (nomark _)) (pss_one (ps_ret (pe_tup (pa_cons pe_str (pa_cons (pe_op op_add_str pe_str (pe_callTy call_str_int (by rfl) E.n_str (by decide +kernel) (pa_cons (pe_bm PySem.F.plainAttrs_list PySem.F.slot_list_index PySem.F.type_list_index mt_index (pv 1) (pa_cons (pe_ix ix_tup (pv 0) pe_int (fun _ _ => rfl)) pa_nil)) pa_nil))) pa_nil))))) pss_nil)
      (pss_cons (ps_if (PW.pt (pw_or (pt_cmpR op_eq (pe_ix ix_tup (pv 0) pe_int (fun _ _ => rfl)) pe_str (nomark _)) (pw_or1 (pt_cmpR op_eq (pe_ix ix_tup (pv 0) pe_int (fun _ _ => rfl)) pe_str (nomark _))))) (pss_one (ps_ret (pv 0))) pss_nil)
      (pss_cons (ps_setLc (i := 2) (own := [("_law_part", 3)]) (g := gName 3) rfl sc__law_renamed.nd rfl rfl (sw_true rfl rfl rfl (by decide +kernel)) (pi_list (pe_call (ok__law_parts E) (hr.mono (by omega)) (by rfl) E.d__law_parts.g E.d__law_parts.F.kp E.d__law_parts.b .nil pass0 (pa_cons (pv 0) pa_nil))) (blkOk_by (own := [("_law_part", 3)]) (N := N__law_renamed) (sc := defScope (topS 62)) (by decide +kernel)) (fun _ _ _ _ _ => pg_name (i := 3) sc__law_renamed.nd rfl (Or.inl rfl)) (fun _ _ _ _ _ => pts_nil) (fun _ _ _ _ _ => (pe_call (ok__law_renamed E n) (hr.mono (by omega)) (by rfl) E.d__law_renamed.g E.d__law_renamed.F.kp E.d__law_renamed.b .nil pass0 (pa_cons (pv 3) (pa_cons (pv 1) pa_nil)))))
      (pss_cons (ps_if (pt_cmpR op_eq (pe_ix ix_tup (pv 0) pe_int (fun _ _ => rfl)) pe_str (nomark _)) (pss_one (ps_expr (pe_bm PySem.F.plainAttrs_list PySem.F.slot_list_append PySem.F.type_list_append mt_append (pv 2) (pa_cons (pe_ix ix_tup (pv 0) pe_int (fun _ _ => rfl)) pa_nil)))) pss_nil)
      (pss_one (ps_ret (pe_op op_catT (pe_tup (pa_cons (pe_ix ix_tup (pv 0) pe_int (fun _ _ => rfl)) pa_nil)) (pe_callTy call_tuple_of (by rfl) E.n_tuple (by decide +kernel) (pa_cons (pv 2) pa_nil))))))))), ?_⟩
    obtain ⟨a, r, rfl, hs, hr0⟩ := ht.head
    refine ⟨_, rfl, _, _, _, _, rfl, rfl, hs, atI_nat (j := 0) rfl, rfl, _, rfl, ite2 (fun c => ?_) (fun c => ?_)⟩
    · obtain ⟨x, rfl⟩ := word_column (word_eq c)
      obtain ⟨b, e, hb⟩ := ht
      cases e
      obtain ⟨i, e1, e2⟩ := kin_some (cols := cols) (x := x) hk
      obtain ⟨i1, ⟨z, z1, z2⟩, z3⟩ := pos_names e1
      have er : renT cols (.column x) = .column (nm (i : Int)) := by
        show Tree.column (nm (((posIn cols x).getD 0 : Nat) : Int)) = _
        rw [e1] <;> rfl
      rw [er] at q
      have l1 : ((i : Nat) : Int).natAbs < 2 ^ 10 := by omega
      have l2 := int_len (i := ((i : Nat) : Int)) (k := 3) (by omega) (by omega)
      have l3 : (Str.ofString "n").length = 1 := by decide +kernel
      refine ⟨_, rfl, .inl ⟨rfl, _, SqL.of hN⟩, _, rfl, _, _, _, _, rfl, rfl, hb, atI_nat (j := 1) rfl, nl, _, .str x, i, z, rfl, rfl, SqL.of hN, rfl, flat_strL _, z1, z2, z3, ?_⟩
      refine ⟨_, rfl, log_small (k := 10) l1 (by omega) (by omega), _, _, rfl, rfl, small (by rw [l3]; omega), (by show 2 ≤ sizeLine; decide), fun p1 n1 => ?_⟩
      exact q _ _ (same_new n1) ⟨p1, rfl, .inl (.inl upd_same)⟩
    refine ⟨_, rfl, _, _, _, _, rfl, rfl, hs, atI_nat (j := 0) rfl, rfl, _, rfl, ite2 (fun c1 => ?_) (fun c1 => ?_)⟩
    · obtain ⟨x, rfl⟩ := word_cell (word_eq c1)
      exact ifT rfl ⟨_, rfl, q _ H (Same.refl H) ht⟩
    refine ⟨_, rfl, _, _, _, _, rfl, rfl, hs, atI_nat (j := 0) rfl, rfl, _, rfl, ite2 (fun c2 => ?_) (fun c2 => ?_)⟩
    · obtain ⟨x, rfl⟩ := word_nothing (word_eq c2)
      exact ⟨_, rfl, q _ H (Same.refl H) ht⟩
    have lf : t.leaf = false := by
      rw [leaf_or t, decide_eq_false (fun z => c1 (decide_eq_true (congrArg V.str z))), decide_eq_false (fun z => c2 (decide_eq_true (congrArg V.str z))), decide_eq_false (fun z => c (decide_eq_true (congrArg V.str z)))] <;> rfl
    have pl := parts_len t
    have pp := parts_pos lf
    refine ⟨_, rfl, _, t, rfl, ht, fun p us H1 s1 hp np tr => ?_⟩
    have el := Paired.length tr
    refine ⟨p, rfl, ⟨_, SqL.of hp⟩, fun D nD => lc_list (K := K) (a := p) (xs := us) (fun i H' => MapInv (fun _ => False) (fun _ => True) (fun j y G => ∃ c, t.parts[j]? = some c ∧ IsTree K G y (renT cols c)) D (upd H1 D (.lst [])) i H') (MapInv.zero nD trivial) (fun i H' _ hw => SqL.of (hw.same nD _ _ hp)) (fun i v H' hv hw => ?_) (fun H' hw => ?_)⟩
    · obtain ⟨c, c1, c2⟩ := Paired.get tr hv
      have sm := hw.same nD
      have li : i < t.parts.length := (List.getElem?_eq_some_iff.mp c1).1
      have cm : c ∈ t.parts := List.mem_of_getElem? c1
      have cd := dep_parts cm
      obtain ⟨ck, hck⟩ := parts_kind hk cm
      refine ⟨rfl, tyes ?_⟩
      exact ⟨_, rfl, _, rfl, v, c, nl, cols, ck, rfl, c2.keep (Same.keep sm), sm _ _ (s1 _ _ hN), hn, by omega, hck, fun u H2 s2 hu => hw.stepK s2 ⟨c, c1, hu⟩ (by omega) fun _ _ _ _ ⟨c, q1, q2⟩ kq => ⟨c, q1, q2.keep kq⟩⟩
    obtain ⟨ys, hl', hn', hy⟩ := hw.l
    have sm := s1.trans (hw.same nD)
    have cy : Trees K H' ys (t.parts.map (renT cols)) := paired_of (by rw [List.length_map]; omega) fun i x y hx hy' => by
      obtain ⟨c, c1, c2⟩ := hy i x hx
      rw [List.getElem?_map, c1] at hy'
      have e := Option.some.inj hy'
      rw [← e]
      exact c2
    have nDH : H D = none := Option.eq_none_iff_forall_ne_some.mpr fun o z => by
      rw [s1 _ _ z] at nD
      cases nD
    try dsimp only [gName]
    refine joinIf (fun σ G => ∃ ys', σ = [some (.ref a), some (.ref nl), some (.ref D), none] ∧ Same H G ∧ G D = some (.lst ys') ∧ ys' ≠ [] ∧ ys'.length ≤ 10 ∧ ∀ G' p', Keep G G' → Same H G' → SqT K G' p' (.str t.word :: ys') → IsTree K G' (.ref p') (renT cols t)) (fun nx hnx => ?_) (fun σ G hM => ?_)
    · refine ⟨_, rfl, _, _, _, _, rfl, rfl, same_tup sm hs, atI_nat (j := 0) rfl, rfl, _, rfl, ite2 (fun c3 => ?_) (fun c3 => ?_)⟩
      · obtain ⟨s0, cs, rfl⟩ := word_in (word_eq c3)
        obtain ⟨b, u, b2, us2, e, hb, h1, hb2, hcs⟩ := ht
        cases e
        have cy' : Trees K H' ys [renT cols s0] := cy
        cases cy' with
        | cons h2 r =>
          rename_i y ys2
          cases r
          have kx := keep_lst (o := .lst ([y] ++ [.ref b2])) hl'
          refine ⟨_, rfl, .inl ⟨rfl, _, SqL.of hl'⟩, _, rfl, _, _, _, _, rfl, rfl, same_tup sm hb, atI_nat (j := 2) rfl, D, _, _, rfl, rfl, hl', small1000 (by simp), hnx _ _ ⟨_, rfl, ?_, upd_same, by simp, by simp, fun G' p' kG sG hp' => ?_⟩⟩
          · intro b o hb
            rw [upd_ne (ne_of_none hb nDH)]
            exact sm b o hb
          · exact ⟨p', y, b2, us2, rfl, hp', (h2.keep kx).keep kG, same_tup sG hb2, hcs.keep (Same.keep sG)⟩
      · have ni : ∀ s cs, t ≠ .isin s cs := fun s cs e => c3 (decide_eq_true (by rw [e] <;> rfl))
        exact hnx _ _ ⟨ys, rfl, sm, hl', fun e => by rw [e] at hn'; have : 0 = us.length := hn'; omega, by omega, fun G' p' kG sG hp' => ren_build ht (Same.keep sG) lf ni (cy.keep kG) hp'⟩
    obtain ⟨ys', rfl, sG, hDG, ne, l10, bld⟩ := hM
    refine ⟨_, rfl, _, _, _, _, rfl, rfl, same_tup sG hs, atI_nat (j := 0) rfl, (by show 1 ≤ sizeLine; decide), fun p5 n5 => ?_⟩
    have s5 := same_new (o := .tup [.str t.word]) n5
    refine ⟨_, rfl, D, _, rfl, .inl ⟨SqL.of (s5 _ _ hDG), fun p6 n6 => ?_⟩⟩
    have s6 := s5.trans (same_new (o := .tup ys') n6)
    have h5 := same_new (o := .tup ys') n6 _ _ (upd_same (H := G) (a := p5) (o := .tup [.str t.word]))
    refine ⟨p5, p6, _, _, rfl, rfl, .inl (.inl h5), .inl (.inl upd_same), by simp, small (by simp; omega), fun e => absurd e ne, fun _ p7 n7 => ?_⟩
    have s7 := s6.trans (same_new (o := .tup ([.str t.word] ++ ys')) n7)
    exact q _ _ (sG.trans s7) (bld _ _ (Same.keep s7) (sG.trans s7) (.inl (.inl upd_same)))
end
end K7
/-! W23 -/
/-! ### t[::-1] -/
namespace HT
open PySem PySem.Spec PyProof.Rows
section
variable {prog : Program} {w : World} {A : Around} {E : Value → Shared → Prop} {s : Shared}
theorem rev_places (n : Nat) : Builtin.Slice.slicePlaces ((n : Int) - 1) (-1) (-1) = n := by
  unfold Builtin.Slice.slicePlaces
  rw [if_neg (show ¬ ((-1 : Int) > 0) by decide)]
  by_cases h : (n : Int) - 1 > -1
  · rw [if_pos h, show (-(-1) : Int) = 1 by decide, Int.ediv_one]
    omega
  · rw [if_neg h]
    omega
theorem rev_pick (xs : Array Value) : ((List.range xs.size).filterMap fun (m : Nat) => xs[(((xs.size : Nat) : Int) - 1 + (m : Int) * -1).toNat]?).toArray = xs.toList.reverse.toArray := by
  have e : (fun (m : Nat) => xs[(((xs.size : Nat) : Int) - 1 + (m : Int) * -1).toNat]?) = (fun i => xs[i]?) ∘ fun m => xs.size - 1 - m := by
    funext m
    show xs[(((xs.size : Nat) : Int) - 1 + (m : Int) * -1).toNat]? = xs[xs.size - 1 - m]?
    have : (((xs.size : Nat) : Int) - 1 + (m : Int) * -1).toNat = xs.size - 1 - m := by omega
    rw [this]
  rw [e, ← List.filterMap_map, PySem.W.krv_range, List.filterMap_reverse, PySem.W.krv_all]
theorem rev_applied {sl : Addr} {vl vu vs : Value} {n : Nat} {Q : Int × Int × Nat → Shared → Prop} (hs : s.heap.IsSliceOf sl vl vu vs) (pl : IsPart vl none) (pu : IsPart vu none) (ps : IsPart vs (some (-1)))
    (h : Q ((n : Int) - 1, -1, n) s) : wpAny (model prog w) A (Builtin.Slice.sliceApplied (.ref sl) (pure (n : Int))) Q E s := by
  obtain ⟨o1, k1, k2, k3⟩ := id hs
  unfold Builtin.Slice.sliceApplied Builtin.Slice.sliceFields
  refine wpAny_bind (wpAny_bind (wpAny_field k1 k3 (x := vl) rfl (wpAny_bind (wpAny_field k1 k3 (x := vu) rfl (wpAny_bind (wpAny_field k1 k3 (x := vs) rfl (wpAny_pure ?_)))))))
  refine wpAny_bind (slicePart_ ps ?_)
  show wpAny _ _ (if ((-1 : Int) == 0) = true then _ else _) _ _ s
  rw [if_neg (by decide)]
  refine wpAny_bind (slicePart_ pl (wpAny_bind (slicePart_ pu (wpAny_bind (wpAny_pure ?_)))))
  show wpAny _ _ (pure ((n : Int) - 1, (-1 : Int), Builtin.Slice.slicePlaces ((n : Int) - 1) (-1) (-1))) _ _ s
  rw [rev_places]
  exact wpAny_pure h
theorem getItem_tuple_rev {t sl : Addr} {items : Array Value} {vl vu vs : Value} {Q : Value → Shared → Prop} (ht : IsTup s.heap t items) (hs : s.heap.IsSliceOf sl vl vu vs) (pl : IsPart vl none) (pu : IsPart vu none) (ps : IsPart vs (some (-1)))
    (hsz : items.size ≤ sizeLine) (h : Q (.ref s.heap.objs.size) { s with heap := s.heap.push { cls := .type "tuple", data := .seq items.toList.reverse.toArray } }) : wpAny (model prog w) A (getItem (.ref t) (.ref sl)) Q E s := by
  have fits : sizeOk (.seq items.toList.reverse.toArray) := by
    show items.toList.reverse.toArray.size ≤ sizeLine
    rw [List.size_toArray, List.length_reverse, Array.length_toList]
    exact hsz
  obtain ⟨o1, k1, k2, k3⟩ := id hs
  have isS : s.TypeIs (.ref sl) "slice" := ⟨o1, k1, k2⟩
  unfold getItem
  try with_reducible refine wpAny_holding ?_
  first | refine wpAny_bind (wpAny_pure ?_) | skip
  refine wpAny_bind (wpAny_sequenceKey ht.typeIs (by decide) ?_)
  refine wpAny_bind (wpAny_callSpecial?_slot (name := Str.ofString "__getitem__") ht.typeIs PyProof.Rows.slot_tuple_getitem (wpAny_call_entry PyProof.Rows.slot_tuple_getitem ht.typeIs entry_tuple_getitem ?_ (args_tuple_getitem _ _)))
  show wpAny _ _ (Builtin.Tuple.tupleItemsOf (.ref t) >>= _) _ _ s
  refine wpAny_bind (tupleItemsOf_ ht ?_)
  refine wpAny_bind (wpAny_typeOf isS ?_)
  rw [if_pos (by decide)]
  refine wpAny_bind (rev_applied hs pl pu ps ?_)
  have nw : ¬ ((((items.size : Nat) : Int) - 1 == 0 && (-1 : Int) == 1 && items.size == items.size) = true) := by
    intro q
    rw [Bool.and_eq_true, Bool.and_eq_true] at q
    exact absurd q.1.2 (by decide)
  show wpAny _ _ (if (((items.size : Nat) : Int) - 1 == 0 && (-1 : Int) == 1 && items.size == items.size) = true then _ else _) _ _ s
  rw [if_neg nw, rev_pick]
  first
    | exact wpAny_bind (m := Builtin.Tuple.tupleExact _) (wpAny_newObj_type (wpAny_pure ⟨_, rfl, wpAny_pure h⟩) fits)
    | exact wpAny_bind (m := Builtin.Tuple.tupleExact _) (wpAny_newObj_type (wpAny_bind (wpAny_pure (wpAny_pure ⟨_, rfl, wpAny_pure h⟩))) fits)
    | exact wpAny_bind (wpAny_bind (m := Builtin.Tuple.tupleExact _) (wpAny_newObj_type (wpAny_pure (wpAny_pure ⟨_, rfl, wpAny_pure h⟩)) fits))
    | exact wpAny_bind (wpAny_bind (m := Builtin.Tuple.tupleExact _) (wpAny_newObj_type (wpAny_pure ⟨_, rfl, wpAny_pure h⟩) fits))
end
end HT
namespace K7
open PySem PySem.Spec PyProof.Rows L2 TL
section
variable {X : Cx}
def tRevT (K : PySem.W.Frag) (te : TE) : TE := fun σ H Q => te σ H fun x H1 => ∃ a xs, x = .ref a ∧ SqT K H1 a xs ∧ ∀ p, H1 p = none → Q (.ref p) (upd H1 p (.tup xs.reverse))
theorem pe_revT {e : Expr} {te : TE} {k : Nat} {p1 p2 p3 pos : Pos} (he : PE X e te) : PE X (.Subscript e (.Slice none none (some (.UnaryOp .USub (.Constant (.int 1) k p1) p2)) p3) pos) (tRevT X.K te) := by
  refine ⟨fun pins s σ H Q J h => ?_⟩
  refine Subscript_ (thn (he.run pins s σ H _ J h) fun v s1 ⟨x, H1, J1, r1, q1⟩ => ?_)
  obtain ⟨a, xs, ex, hx, q⟩ := q1
  subst ex
  cases r1
  have step : PO X (some (.UnaryOp .USub (.Constant (.int 1) k p1) p2)) (tPart (tUn (rU fun i => .int (-i)) (tC (.int 1)))) := po_some (pe_un un_neg pe_int)
  refine wpAny_Slice (thn (po_none.run pins s1 σ H1 (fun o H2 => o = none ∧ H2 = H1) J1 ⟨rfl, rfl⟩) fun vl s2 ⟨l, H2, J2, pl, el, e2⟩ => ?_)
  subst el e2
  refine thn (po_none.run pins s2 σ H2 (fun o H3 => o = none ∧ H3 = H2) J2 ⟨rfl, rfl⟩) fun vu s3 ⟨u, H3, J3, pu, eu, e3⟩ => ?_
  subst eu e3
  refine thn (step.run pins s3 σ H3 (fun o H4 => o = some (-1) ∧ H4 = H3) J3 ⟨1, rfl, -1, rfl, rfl, rfl⟩) fun vs s4 ⟨o, H4, J4, ps, eo, e4⟩ => ?_
  subst eo e4
  have J5 : Inv X pins σ H4 { s4 with heap := s4.heap.push { cls := .type "slice", data := .fields #[vl, vu, vs] } } := J4.kept (t' := s4.toks) fun b ob q => Heap.get?_push_of_some _ q
  obtain ⟨its, r, ht, hz⟩ := J5.tuple hx
  have lr := r.length
  show wpAny (model X.prog X.w) X.A (subscriptTail e (.Slice none none (some (.UnaryOp .USub (.Constant (.int 1) k p1) p2)) p3) (.ref a) (.ref s4.heap.objs.size)) (EP X pins σ Q) X.xe { s4 with heap := s4.heap.push { cls := .type "slice", data := .fields #[vl, vu, vs] } }
  refine tail_any (ops := [.ref a, .ref s4.heap.objs.size]) ht.typeIs PyProof.Rows.slot_tuple_getitem.lookup ?_ (by with_unfolding_all rfl)
  refine HT.getItem_tuple_rev ht (Heap.IsSliceOf.new _ vl vu vs) pl pu ps (by rw [List.size_toArray]; omega) ?_
  refine ⟨.ref _, _, J5.laid (t' := s4.toks) (o := .tup xs.reverse) (fun b ob q => Heap.get?_push_of_some _ q) (Nat.le_refl _) ?_, rfl, q _ (J5.hok.fresh (Nat.le_refl _))⟩
  exact ⟨by rw [List.length_reverse]; exact hz, _, r.reverse, IsTup.new _ _⟩
/-! ### repr of a cell, no repr under way -/
def reprC (c : Cell) : Str := (dataOf c).shown
theorem repr_small {c : Cell} (h : c.Ok) : (reprC c).length ≤ 1000 := by
  cases c with
  | non => decide +kernel
  | bl b => cases b <;> decide +kernel
  | txt x =>
    have z := StrLaws.reprText_len x fun c hc => Nat.lt_trans (h.2 c hc) (by decide)
    have := h.1
    show (PyData.shown (.str x)).length ≤ 1000
    simp only [PyData.shown]
    omega
  | num n d =>
    obtain ⟨⟨b1, b2, b3⟩, _⟩ := h
    have l1 := int_len (i := n) (k := 12) (by omega) (by omega)
    have l2 := int_len (i := d) (k := 12) (by omega) (by omega)
    show (PyData.shown (.tuple [.int n, .int d])).length ≤ 1000
    simp only [PyData.shown, PyData.shownAll]
    have z := fmt_text [Str.ofString (toString n), Str.ofString (toString d)]
    rw [piled_cons, piled_cons, piled_nil] at z
    omega
def rReprC (K : PySem.W.Frag) : List V → Hp → VK → Prop := fun xs H Q => ∃ v c, xs = [v] ∧ IsCell K H v c ∧ c.Ok ∧ Q (.str (reprC c)) H
theorem call_reprC (hg : X.A.guards = some []) (hu : X.A.units + 10 < cLine) : CallR X (.builtin "repr") (rReprC X.K) := by
  intro pins s σ H xs us Q I r h
  obtain ⟨v, c, rfl, hc, ok, q⟩ := h
  obtain ⟨u, rfl, rv⟩ := r.one
  have lz : (reprC c).length ≤ sizeLine := small (repr_small ok)
  cases c with
  | non =>
    have e : v = .non := hc
    subst e
    cases rv
    exact PySem.P.repr_of_none ⟨.str _, H, I.tok _, ⟨_, rfl⟩, q⟩
  | bl b =>
    have e : v = .bl b := hc
    subst e
    cases rv
    refine PySem.P.repr_of_bool ⟨.str (reprC (.bl b)), H, I.tok _, ⟨s.toks, ?_⟩, q⟩
    cases b <;> rfl
  | txt x =>
    have e : v = .str x := hc
    subst e
    obtain ⟨t, rfl⟩ := rv
    exact PySem.P.repr_of_str ⟨.str _, H, I.tok _, ⟨_, rfl⟩, q⟩ lz
  | num n d =>
    obtain ⟨bs, r1⟩ := Dp.reads I (dataOf (.num n d)) v u (dp_cell hc) rv
    obtain ⟨a, rfl, ha⟩ := hc
    cases rv
    obtain ⟨⟨b1, b2, b3⟩, _⟩ := ok
    refine PySem.repr_of_reads' r1 ?_ ?_ hg ?_ (fun _ _ e => e) (fun h' u tk hk => ⟨.str _, H, I.kept hk, ⟨u, rfl⟩, q⟩) lz
    · have l1 := log_small (i := n) (k := 50) (by omega) (by omega) (by omega)
      have l2 := log_small (i := d) (k := 50) (by omega) (by omega) (by omega)
      show PyData.showable (.tuple [.int n, .int d]) = true
      simp [PyData.showable, PyData.showableAll, l1, l2]
    · exact PyData.noDict_hsm (by show PyData.hasDict (.tuple [.int n, .int d]) = false; simp [PyData.hasDict, PyData.hasDictAll])
    · have z := depth_cell (.num n d)
      omega
end
end K7
/-! W24 -/
namespace K7
open PySem PySem.Spec PyProof.Rows L2 TL
theorem Paired.rev {α β : Type} {F : α → β → Prop} : ∀ {l : List α} {r : List β}, Paired F l r → Paired F l.reverse r.reverse
  | _, _, .nil => .nil
  | _, _, .cons a t => by
    rw [List.reverse_cons, List.reverse_cons]
    exact Paired.app (Paired.rev t) (.cons a .nil)
/-- what a law does, called by the judge -/
structure FnC (P : Program) (w : World) (K : PySem.W.Frag) (mg : Str → Option Value) (base : Heap) (k : Nat) (f : Addr) (fd : FuncData) (ps : List Str) (sp : Sp) : Prop where
  run : ∀ (s : Shared) (H : Hp) (args : Args) (us : List Value) (vs : List V) (Q : VK) (E : XK), Room k callerA → Env0 P w K mg base callerA [] s H → BindsTo s fd args (ps.zip us) → Vals vs us → sp vs H Q E → codeAny (model P w) callerA (.call (.ref f) args) (CR CX0 [] P w H s Q E) s
theorem fnC_of {P : Program} {w : World} {K : PySem.W.Frag} {mg : Str → Option Value} {base : Heap} {k : Nat} {x qual : Str} {pa : Arguments} {body : List Stmt} {scope : Scope} {f : Addr} {fd : FuncData} {N ps : List Str} {sp : Sp} (F : FunD K x qual pa body scope [] [] f fd) (S : FnScope N ps scope)
    (len : ∀ vs H Q E, sp vs H Q E → vs.length = ps.length)
    (hbody : ∀ (cdv : Value) (s : Shared) (H : Hp) (vs : List V) (Q : VK) (E : XK), Room k (callerA.deeper (envOfC qual scope s.heap.objs.size f cdv)) → sp vs H Q E →
      ∃ t, PSs (cxOf CX0 P w K mg base N qual scope f cdv callerA [] s H E) body t ∧ t { nx := fun _ H' => Q .non H', rt := Q } (start N vs) H) : FnC P w K mg base (k + 1) f fd ps sp := by
  obtain ⟨oc, od, dV, kV, doc, pm, an, cdv, ct, osl, rfl, lk, hcd, _, _⟩ := F.ex
  refine ⟨fun s H args us vs Q E room env0 bt rv q0 => ?_⟩
  have vl := len _ _ _ _ q0
  have inK : K.In s.heap := env0.mod.kin.keeps fun b o e => (env0.bs b o e).1
  have noLim : s.heap.NoLimit := env0.mod.nolimit.keeps fun b o e => (env0.bs b o e).1
  have kinds : ∀ y ∈ ps.zip us, scope.names.lookup y.1 = some .local ∨ (scope.names.lookup y.1 = some .cell ∧ ((cellsFrom (s.heap.objs.size + 1) scope.names []).lookup y.1).isSome = true) := fun ⟨nn, vv⟩ hy => by
    rcases S.par nn (List.of_mem_zip hy).1 with z | z
    · exact .inl z
    · exact .inr ⟨z, PySem.W.cellsFrom_some _ _ _ (.inl z)⟩
  refine codeAny_call_function room.depth (inK _ _ lk) rfl S.co S.gen rfl (PySem.W.codeRec_of inK hcd) (bt _ _ _ _ ?_)
  refine wpAny_newFunctionEnv_cells S.kind kinds fun env ee s1 yy => ?_
  subst ee
  refine ⟨noLim.keeps yy.toInCall.keep, codeAny_func ?_⟩
  obtain ⟨tt, pt, pq⟩ := hbody cdv s H vs Q E (room.deeper _) q0
  have J0 : Inv (cxOf CX0 P w K mg base N qual scope f cdv callerA [] s H E) [] (start N vs) H s1 := inv_start S room.hd env0 vl rv yy
  refine wpAny_mono (pt.run [] s1 (start N vs) H _ J0 pq) (fun flow s' hs => ?_) fun e s' hs => hs
  have done : ∀ {σ' : L2.St} {H' : Hp} {v : V} {u : Value}, Inv (cxOf CX0 P w K mg base N qual scope f cdv callerA [] s H E) [] σ' H' s' → RelV v u → Q v H' → CE [] P w H s Q u s' :=
    fun {σ' H' v u} J rr qq => ⟨v, H', J.os, J.bare, J.base, J.hok, rr, qq⟩
  cases flow with
  | ret u =>
    obtain ⟨v, σ', H', J, rr, qq⟩ := hs
    exact done J rr qq
  | next =>
    obtain ⟨σ', H', J, qq⟩ := hs
    exact done (v := V.non) (u := Value.none) J rfl qq
  | brk =>
    obtain ⟨_, _, _, qq⟩ := hs
    exact qq.elim
  | cont =>
    obtain ⟨_, _, _, qq⟩ := hs
    exact qq.elim
section
variable {P : Program} {w : World} {K : PySem.W.Frag} {mg : Str → Option Value} {base : Heap}
def spLaw (K : PySem.W.Frag) : Sp := fun vs H Q _ => ∃ (a : Addr) (ns : List Int), vs = [.ref a] ∧ SqL K H a (ns.map V.int) ∧ ∀ H', Q (.bl true) H'
abbrev N_law : List Str := ["_law_script", "_law_tape_here", "_law_columns_here", "_law_drift", "_law_tree_here", "_law_cells_here", "_law_mentioned_here", "_law_others", "_law_k", "_law_short", "_law_kind_here", "_law_told", "_law_names", "_law_renamed_here", "_law_turned", "_law_column"]
theorem sc_law : FnScope N_law ["_law_script"] (defScope (topS 65)) := ⟨rfl, rfl, rfl, by decide +kernel, rfl, by decide +kernel, by decide +kernel⟩
theorem ok_law (E : Ev K w mg) : FnC P w K mg base 27 E.d_law.f E.d_law.fd ["_law_script"] (spLaw K) := by
  refine fnC_of E.d_law.F sc_law (fun vs H Q X h => ?_) (fun cdv s H vs Q X hr h => ?_)
  · obtain ⟨a, ns, rfl, _⟩ := h
    rfl
  · obtain ⟨a, ns, rfl, ha, q⟩ := h
    have hG : (cxOf CX0 P w K mg base N_law "law" (defScope (topS 65)) E.d_law.f cdv callerA [] s H X).nox.A.guards = some [] := rfl
    have hU : (cxOf CX0 P w K mg base N_law "law" (defScope (topS 65)) E.d_law.f cdv callerA [] s H X).nox.A.units + 10 < cLine := by
      have := hr.un
      show (callerA.deeper (envOfC ("law" : Str) (defScope (topS 65)) s.heap.objs.size E.d_law.f cdv)).units + 10 < cLine
      omega
    refine ⟨_, PSs.nox (pss_cons (ps_set (i := 1) sc_law.nd rfl (.inl rfl) (pe_call (ok__law_tape E) (hr.mono (by omega)) (by rfl) E.d__law_tape.g E.d__law_tape.F.kp E.d__law_tape.b .nil pass0 (pa_cons (pv 0) pa_nil)))
      (pss_cons (ps_set (i := 2) sc_law.nd rfl (.inr rfl) (pe_call (ok__law_columns E) (hr.mono (by omega)) (by rfl) E.d__law_columns.g E.d__law_columns.F.kp E.d__law_columns.b .nil pass0 (pa_cons (pv 1) (pa_cons pe_int pa_nil))))
      (pss_cons (ps_set (i := 3) sc_law.nd rfl (.inl rfl) (pe_ix ix_list (pe_lst (pa_cons pe_int (pa_cons pe_int pa_nil))) (pe_call (ok__law_draw E) (hr.mono (by omega)) (by rfl) E.d__law_draw.g E.d__law_draw.F.kp E.d__law_draw.b .nil pass0 (pa_cons (pv 1) (pa_cons pe_int pa_nil))) (fun _ _ => rfl)))
      (pss_cons (ps_set (i := 4) sc_law.nd rfl (.inl rfl) (pe_call (ok__law_tree E 16) (hr.mono (by omega)) (by rfl) E.d__law_tree.g E.d__law_tree.F.kp E.d__law_tree.b .nil pass0 (pa_cons (pv 1) (pa_cons (pv 2) (pa_cons (pe_call (ok__law_kind_drawn E) (hr.mono (by omega)) (by rfl) E.d__law_kind_drawn.g E.d__law_kind_drawn.F.kp E.d__law_kind_drawn.b .nil pass0 (pa_cons (pv 1) pa_nil)) (pa_cons (pe_op op_add pe_int (pe_call (ok__law_draw E) (hr.mono (by omega)) (by rfl) E.d__law_draw.g E.d__law_draw.F.kp E.d__law_draw.b .nil pass0 (pa_cons (pv 1) (pa_cons pe_int pa_nil)))) (pa_cons (pv 3) pa_nil)))))))
      (pss_cons (ps_set (i := 5) sc_law.nd rfl (.inl rfl) (pe_call (ok__law_cells E) (hr.mono (by omega)) (by rfl) E.d__law_cells.g E.d__law_cells.F.kp E.d__law_cells.b .nil pass0 (pa_cons (pv 1) (pa_cons (pv 2) pa_nil))))
      (pss_cons (ps_set (i := 6) sc_law.nd rfl (.inl rfl) (pe_call (ok__law_mentioned E 16) (hr.mono (by omega)) (by rfl) E.d__law_mentioned.g E.d__law_mentioned.F.kp E.d__law_mentioned.b .nil pass0 (pa_cons (pv 4) pa_nil)))
      (pss_cons (ps_set (i := 7) sc_law.nd rfl (.inl rfl) (pe_callTy call_list_of (by rfl) E.n_list (by decide +kernel) (pa_cons (pe_call (ok__law_cells E) (hr.mono (by omega)) (by rfl) E.d__law_cells.g E.d__law_cells.F.kp E.d__law_cells.b .nil pass0 (pa_cons (pv 1) (pa_cons (pv 2) pa_nil))) pa_nil)))
      (pss_cons (ps_for PassesOwn.never rfl (pi_range1 rfl E.n_range (pa_cons (pe_callB call_len (by rfl) E.n_len (by decide +kernel) (pa_cons (pv 2) pa_nil)) pa_nil)) (pg_name (i := 8) sc_law.nd rfl (.inl rfl))
        (pss_one (ps_if (pt_cmpR op_in_seq (pe_ix ix_tup (pe_ix ix_tup (pv 2) (pv 8) (fun _ _ => rfl)) pe_int (fun _ _ => rfl)) (pv 6) (by rfl)) (pss_one (ps_asg (pe_ix ix_tup (pv 5) (pv 8) (fun _ _ => rfl)) (pg_sub (pv 7) (pv 8) set_list))) pss_nil)))
      (pss_cons (ps_set (i := 9) sc_law.nd rfl (.inl rfl) (pe_lst (pa_cons (pe_call (ok__law_tree E 16) (hr.mono (by omega)) (by rfl) E.d__law_tree.g E.d__law_tree.F.kp E.d__law_tree.b .nil pass0 (pa_cons (pv 1) (pa_cons (pv 2) (pa_cons pe_str (pa_cons pe_int (pa_cons pe_int pa_nil)))))) (pa_cons (pe_call (ok__law_tree E 16) (hr.mono (by omega)) (by rfl) E.d__law_tree.g E.d__law_tree.F.kp E.d__law_tree.b .nil pass0 (pa_cons (pv 1) (pa_cons (pv 2) (pa_cons pe_str (pa_cons pe_int (pa_cons pe_int pa_nil)))))) pa_nil))))
      (pss_cons (ps_if (pt_not (pt_val (pe_call (ok__law_logical E) (hr.mono (by omega)) (by rfl) E.d__law_logical.g E.d__law_logical.F.kp E.d__law_logical.b .nil pass0 (pa_cons (pe_ix ix_list (pv 9) pe_int (fun _ _ => rfl)) (pa_cons (pe_ix ix_list (pv 9) pe_int (fun _ _ => rfl)) (pa_cons (pv 2) (pa_cons (pv 5) pa_nil))))))) (pss_one (ps_ret pe_bl)) pss_nil)
      (pss_cons (ps_set (i := 10) sc_law.nd rfl (.inl rfl) (pe_call (ok__law_kind E 20) (hr.mono (by omega)) (by rfl) E.d__law_kind.g E.d__law_kind.F.kp E.d__law_kind.b .nil pass0 (pa_cons (pv 4) (pa_cons (pv 2) pa_nil))))
      (pss_cons (ps_if (pt_cmpR op_isN (pv 10) pe_non (nomark _)) (pss_one (ps_ret (pe_cmpR op_isN (pe_call (ok_kind_of E 20) (hr.mono (by omega)) (by rfl) E.d_kind_of.g E.d_kind_of.F.kp E.d_kind_of.b .nil pass0 (pa_cons (pv 4) (pa_cons (pv 2) pa_nil))) pe_non (nomark _)))) pss_nil)
      (pss_cons (ps_set (i := 11) sc_law.nd rfl (.inl rfl) (pe_call (ok_evaluate E 20) (hr.mono (by omega)) (by rfl) E.d_evaluate.g E.d_evaluate.F.kp E.d_evaluate.b .nil pass0 (pa_cons (pv 4) (pa_cons (pv 2) (pa_cons (pv 5) pa_nil)))))
      (pss_cons (ps_if (PW.pt (pw_or (pt_cmpR op_ne (pe_call (ok_kind_of E 20) (hr.mono (by omega)) (by rfl) E.d_kind_of.g E.d_kind_of.F.kp E.d_kind_of.b .nil pass0 (pa_cons (pv 4) (pa_cons (pv 2) pa_nil))) (pv 10) (nomark _)) (pw_or1 (pt_not (pt_val (pe_call (ok__law_fits E) (hr.mono (by omega)) (by rfl) E.d__law_fits.g E.d__law_fits.F.kp E.d__law_fits.b .nil pass0 (pa_cons (pv 11) (pa_cons (pv 10) pa_nil)))))))) (pss_one (ps_ret pe_bl)) pss_nil)
      (pss_cons (ps_if (pt_cmpR op_ne (pe_callB (call_reprC hG hU) (by rfl) E.n_repr (by decide +kernel) (pa_cons (pe_call (ok_evaluate E 20) (hr.mono (by omega)) (by rfl) E.d_evaluate.g E.d_evaluate.F.kp E.d_evaluate.b .nil pass0 (pa_cons (pv 4) (pa_cons (pv 2) (pa_cons (pe_callTy call_tuple_of (by rfl) E.n_tuple (by decide +kernel) (pa_cons (pv 7) pa_nil)) pa_nil)))) pa_nil)) (pe_callB (call_reprC hG hU) (by rfl) E.n_repr (by decide +kernel) (pa_cons (pv 11) pa_nil)) (nomark _)) (pss_one (ps_ret pe_bl)) pss_nil)
      (pss_cons (ps_setLc (i := 12) (own := [("_law_column", 15)]) (g := gName 15) rfl sc_law.nd rfl rfl (sw_true rfl rfl rfl (by decide +kernel)) (pi_tup (pv 2)) (blkOk_by (own := [("_law_column", 15)]) (N := N_law) (sc := defScope (topS 65)) (by decide +kernel)) (fun _ _ _ _ _ => pg_name (i := 15) sc_law.nd rfl (Or.inl rfl)) (fun _ _ _ _ _ => pts_nil) (fun _ _ _ _ _ => (pe_ix (show IxR _ (rIxT K) from ix_tup) (pv 15) pe_int (fun _ _ => rfl))))
      (pss_cons (ps_set (i := 13) sc_law.nd rfl (.inl rfl) (pe_callTy call_tuple_of (by rfl) E.n_tuple (by decide +kernel) (pa_cons (pe_lc (own := [("_law_k", 8)]) (g := gName 8) rfl sc_law.nd (pi_range1 rfl E.n_range (pa_cons (pe_callB call_len (by rfl) E.n_len (by decide +kernel) (pa_cons (pv 2) pa_nil)) pa_nil)) (blkOk_by (own := [("_law_k", 8)]) (N := N_law) (sc := defScope (topS 65)) (by decide +kernel)) (fun _ _ _ _ _ => pg_name (i := 8) sc_law.nd rfl (Or.inl rfl)) (fun _ _ _ _ _ => pts_nil) (fun _ _ _ _ _ => (pe_tup (pa_cons (pe_op op_add_str pe_str (pe_callTy call_str_int (by rfl) E.n_str (by decide +kernel) (pa_cons (pv 8) pa_nil))) (pa_cons (pe_ix (show IxR _ (rIxT K) from ix_tup) (pe_ix (show IxR _ (rIxT K) from ix_tup) (pv 2) (pv 8) (fun _ _ => rfl)) pe_int (fun _ _ => rfl)) pa_nil))))) pa_nil)))
      (pss_cons (ps_set (i := 14) sc_law.nd rfl (.inl rfl) (pe_call (ok__law_renamed E 20) (hr.mono (by omega)) (by rfl) E.d__law_renamed.g E.d__law_renamed.F.kp E.d__law_renamed.b .nil pass0 (pa_cons (pv 4) (pa_cons (pv 12) pa_nil))))
      (pss_one (ps_ret (pe_cmpR op_eq (pe_callB (call_reprC hG hU) (by rfl) E.n_repr (by decide +kernel) (pa_cons (pe_call (ok_evaluate E 20) (hr.mono (by omega)) (by rfl) E.d_evaluate.g E.d_evaluate.F.kp E.d_evaluate.b .nil pass0 (pa_cons (pv 14) (pa_cons (pe_revT (pv 13)) (pa_cons (pe_revT (pv 5)) pa_nil)))) pa_nil)) (pe_callB (call_reprC hG hU) (by rfl) E.n_repr (by decide +kernel) (pa_cons (pv 11) pa_nil)) (nomark _)))))))))))))))))))))), ?_⟩
    refine ⟨_, rfl, a, ns, rfl, ha, fun st t H1 s1 T1 => ?_⟩
    refine ⟨_, rfl, st, t, rfl, T1, fun ca cols H2 d2 hc nd => ?_⟩
    refine ⟨(by show 2 ≤ sizeLine; decide), fun p3 n3 => ?_⟩
    have nt3 := d2.tp.nt n3
    have d3 := (Dr.zero d2.tp).new n3 (.lst ([0, 9].map V.int))
    refine ⟨_, rfl, st, t, 2, rfl, d3.tp, by omega, by omega, fun x H4 x0 x1 e4 T4 => ?_⟩
    obtain ⟨dr, hdr, edr⟩ := atI_ints (ns := [0, 9]) (p := inR 0 9) (by decide +kernel) x0 (by show x < 2; omega)
    have dr9 := inR_of hdr
    have d4 := d3.go e4 T4
    refine ⟨_, _, _, _, rfl, rfl, SqL.of (e4.at_ _ _ nt3.1 upd_same), edr, ?_⟩
    refine ⟨_, rfl, _, rfl, _, rfl, st, t, rfl, T4, fun k0 H5 d5 => ?_⟩
    refine ⟨_, rfl, st, t, 15, rfl, d5.tp, by omega, by omega, fun y H6 y0 y1 e6 T6 => ?_⟩
    obtain ⟨j, rfl⟩ : ∃ j : Nat, y = (j : Int) := ⟨y.toNat, by omega⟩
    have d6 := (d4.trans d5).go e6 T6
    refine ⟨_, _, rfl, rfl, _, rfl, st, t, ca, cols, k0, 1 + j, dr, rfl, T6, hc.keep d6.kp, nd, by omega, by omega, by omega, dr9.1, dr9.2, fun v H7 d7 hv => ?_⟩
    obtain ⟨T, ht, tok, tdep, _⟩ := hv
    have d27 := d6.trans d7
    refine ⟨_, rfl, _, rfl, st, t, ca, cols, rfl, d7.tp, hc.keep d27.kp, fun ra cells H8 d8 hrow hf => ?_⟩
    have d28 := d27.trans d8
    have ht8 := ht.keep d8.kp
    refine ⟨_, rfl, v, T, rfl, ht8, by omega, by omega, fun l H9 s9 hl => ?_⟩
    have d29 := d28.same s9
    have kp9 := Same.keep s9
    refine ⟨_, rfl, _, rfl, st, t, ca, cols, rfl, d29.tp, hc.keep d29.kp, fun rb cells2 H10 d10 hrow2 hf2 => ?_⟩
    obtain ⟨us2, hu2, hcs2⟩ := hrow2
    have d210 := d29.trans d10
    have ntl : l ≠ t := fun e => by
      obtain ⟨_, _, _, _, hh⟩ := d29.tp
      rw [e, hh.at_] at hl
      have e2 := HO.lst.inj (Option.some.inj hl)
      cases hm : mentT T with
      | nil =>
        rw [hm] at e2
        cases e2
      | cons z r =>
        rw [hm] at e2
        have e3 := (List.cons.inj e2).1
        cases e3
    have hl10 := d10.at hl ntl
    refine ⟨rb, us2, rfl, .inr hu2, fun L nL => ?_⟩
    have ntL := d210.tp.nt nL
    have d11 := d210.new nL (.lst us2)
    have kpL := keep_new (o := .lst us2) nL
    have hlB : upd H10 L (.lst us2) l = some (.lst ((mentT T).map V.str)) := same_new nL _ _ hl10
    have lL : l ≠ L := fun e => by rw [← e, hl10] at nL; cases nL
    have hLB : upd H10 L (.lst us2) L = some (.lst us2) := upd_same
    have hcB := hc.keep d11.kp
    have htB := ht8.keep ((kp9.trans d10.kp).trans kpL)
    have hrowB := hrow.keep ((kp9.trans d10.kp).trans kpL)
    have hcs2B := hcs2.keep kpL
    have TB := d11.tp
    generalize upd H10 L (.lst us2) = B at hlB hLB hcB htB hrowB hcs2B TB ⊢
    obtain ⟨cus, hcu, hcp, hcn⟩ := hcB
    have hcB : IsCols K B ca cols := ⟨cus, hcu, hcp, hcn⟩
    have elc := Paired.length hcp
    obtain ⟨rus, hru, hrc⟩ := hrowB
    have hrowB : IsRow K B ra cells := ⟨rus, hru, hrc⟩
    refine ⟨_, rfl, _, _, rfl, .inr ⟨_, hcu, rfl⟩, ?_⟩
    refine ⟨_, rfl, by omega, by omega, for_range (n := ((cus.length : Nat) : Int).toNat) (fun i σ G => ∃ y, σ = [some (.ref a), some (.ref t), some (.ref ca), some (.int dr), some v, some (.ref ra), some (.ref l), some (.ref L), y, none, none, none, none, none, none, none] ∧ Ex (fun b => b = L) B G ∧ ∃ vs' cs', G L = some (.lst vs') ∧ Cells K G vs' cs' ∧ RowFit cols cs' ∧ ∀ (j : Nat) (c : Str × Kd), j < i → cols[j]? = some c → c.1 ∈ mentT T → cs'[j]? = cells[j]?)
      ⟨_, rfl, Ex.refl _ _, us2, cells2, hLB, hcs2B, hf2, fun j c hj => by omega⟩ (fun i σ G hi hw => ?_) (fun σ G hw => ?_)⟩
    · obtain ⟨y, rfl, eG, vs', cs', hLG, hcG, hfG, hmt⟩ := hw
      have hi2 : i < cols.length := by omega
      have hi1 : i < cus.length := by omega
      obtain ⟨c, b, hc1, hv1, hb1⟩ := pair_vals hcp (List.getElem?_eq_getElem hi1)
      have hlG : G l = some (.lst ((mentT T).map V.str)) := eG.at_ _ _ lL hlB
      have ei : (0 : Int) + (i : Nat) = ((i : Nat) : Int) := by omega
      have hir : i < cells.length := by rw [hf.1]; exact hi2
      obtain ⟨u, hu1, hu2⟩ := Paired.get2 hrc (List.getElem?_eq_getElem hir)
      have iv : inV (.str c.1) ((mentT T).map V.str) = decide (c.1 ∈ mentT T) := inV_strs c.1 (mentT T)
      refine ⟨_, rfl, _, rfl, ca, cus, _, .ref b, rfl, rfl, eG.kp.tup hcu, (by rw [ei, ← hv1]; exact atI_nat (List.getElem?_eq_getElem hi1)), _, _, _, _, rfl, rfl, eG.kp.tup hb1, atI_nat (j := 0) rfl, _, rfl, l, _, rfl, .inl (SqL.of hlG), rfl, flat_strL _, _, rfl, ite2 (fun m => ?_) (fun m => ?_)⟩
      · have ll := Paired.length hcG
        have l2 := hfG.1
        refine ⟨_, rfl, _, rfl, ra, rus, _, u, rfl, rfl, eG.kp.tup hru, (by rw [ei]; exact atI_nat hu1), _, rfl, _, rfl, L, vs', _, i, rfl, rfl, hLG, (by rw [ei]; exact ixN_nat (by omega)), _, rfl, eG.trans (ex_lst hLG rfl), _, cs'.set i cells[i], upd_same, ?_, ?_, fun j d hj hd hm => ?_⟩
        · have kx := keep_lst (o := .lst (vs'.set i u)) hLG
          exact Paired.set (hcG.keep kx) ((hu2.keep eG.kp).keep kx)
        · refine ⟨by rw [List.length_set]; exact l2, fun j d x h1 h2 => ?_⟩
          by_cases e : j = i
          · subst e
            rw [List.getElem?_set_self (by omega)] at h1
            rw [← Option.some.inj h1]
            exact hf.2 j _ x (List.getElem?_eq_getElem hir) h2
          · rw [List.getElem?_set_ne (Ne.symm e)] at h1
            exact hfG.2 j d x h1 h2
        · by_cases e : j = i
          · subst e
            rw [List.getElem?_set_self (by omega), List.getElem?_eq_getElem hir]
          · rw [List.getElem?_set_ne (Ne.symm e)]
            exact hmt j d (by omega) hd hm
      · have nm : c.1 ∉ mentT T := fun z => m (by
          show inV (.str c.1) ((mentT T).map V.str) = true
          rw [iv]
          exact decide_eq_true z)
        refine ⟨_, rfl, eG, vs', cs', hLG, hcG, hfG, fun j d hj hd hm => ?_⟩
        by_cases e : j = i
        · subst e
          rw [hc1] at hd
          rw [← Option.some.inj hd] at hm
          exact absurd hm nm
        · exact hmt j d (by omega) hd hm
    · obtain ⟨y, rfl, eG, vs', cs', hLG, hcG, hfG, hmt⟩ := hw
      have TG : Tape G st t := TB.ex eG (fun z => ntL.2 z.symm) (fun z => ntL.1 z.symm)
      have kpB := eG.kp
      have hcG2 := hcB.keep kpB
      refine ⟨_, rfl, _, rfl, st, t, ca, cols, .boo, 6, 0, rfl, TG, hcG2, nd, by omega, by omega, by omega, by omega, by omega, fun v1 I1 f1 ⟨S1, y1, y2, y3, y4⟩ => ?_⟩
      refine ⟨_, rfl, _, rfl, st, t, ca, cols, .boo, 6, 0, rfl, f1.tp, hcG2.keep f1.kp, nd, by omega, by omega, by omega, by omega, by omega, fun v2 I2 f2 ⟨S2, z1, z2, z3, z4⟩ => ?_⟩
      have f12 := f1.trans f2
      refine ⟨(by show 2 ≤ sizeLine; decide), fun p5 n5 => ?_⟩
      have kp5 := keep_new (o := .lst [v1, v2]) n5
      have kG := (kpB.trans f12.kp).trans kp5
      have hc5 := hcB.keep kG
      have hr5 := hrowB.keep kG
      have ht5 := htB.keep kG
      have hL5 : upd I2 p5 (.lst [v1, v2]) L = some (.lst vs') := same_new n5 _ _ (f12.at hLG ntL.1)
      have hcs5 := hcG.keep (f12.kp.trans kp5)
      have y5 := y1.keep (f2.kp.trans kp5)
      have z5 := z1.keep kp5
      have l5 := upd_same (H := I2) (a := p5) (o := .lst [v1, v2])
      generalize upd I2 p5 (.lst [v1, v2]) = I5 at hc5 hr5 ht5 hL5 hcs5 y5 z5 l5 ⊢
      refine ⟨_, rfl, _, _, _, _, rfl, rfl, SqL.of l5, atI_nat (j := 0) rfl, _, rfl, _, _, _, _, rfl, rfl, SqL.of l5, atI_nat (j := 1) rfl, _, rfl, _, rfl, v1, v2, S1, S2, ca, ra, cols, cells, rfl, y5, z5, hc5, hr5, hf, y2, z2, by omega, by omega, y4 rfl, z4 rfl, fun I6 s6 => ?_⟩
      refine ⟨_, rfl, ifF rfl ?_⟩
      have kp6 := Same.keep s6
      refine ⟨_, rfl, _, rfl, v, T, ca, cols, rfl, ht5.keep kp6, hc5.keep kp6, by omega, tok, fun I7 s7 => ?_⟩
      have s57 := s6.trans s7
      have kp7 := Same.keep s57
      have ht7 := ht5.keep kp7
      have hc7 := hc5.keep kp7
      have hr7 := hr5.keep kp7
      have hL7 := s57 _ _ hL5
      have hcs7 := hcs5.keep kp7
      clear ht5 hc5 hr5 hL5 hcs5 s57 kp7 s7 s6 kp6 y5 z5 l5
      cases ek : kindT cols T with
      | none =>
        refine ⟨_, rfl, rfl, _, rfl, ifT rfl ⟨_, rfl, _, rfl, v, T, ca, cols, rfl, ht7, hc7, by omega, tok, fun I8 s8 => ⟨rfl, ?_⟩⟩⟩
        rw [ek]
        exact q I8
      | some k =>
        refine ⟨_, rfl, rfl, _, rfl, ifF rfl ?_⟩
        refine ⟨_, rfl, _, rfl, _, rfl, v, T, ca, ra, cols, cells, k, rfl, ht7, hc7, hr7, hf, tok, by omega, ek, fun u I8 s8 hu => ?_⟩
        have ft := eval_fits hf tok ek
        have kp8 := Same.keep s8
        refine ⟨_, rfl, _, rfl, v, T, ca, cols, rfl, ht7.keep kp8, hc7.keep kp8, by omega, tok, fun I9 s9 => ?_⟩
        rw [ek]
        refine ⟨_, rfl, rfl, _, rfl, ifF ?_ ?_⟩
        · show (!decide (V.str k.s = V.str k.s)) = false
          rw [decide_eq_true rfl] <;> rfl
        have s89 := s8.trans s9
        have kp9' := Same.keep s89
        have hu9 := hu.keep (Same.keep s9)
        refine ⟨_, rfl, _, rfl, u, _, k, rfl, hu9, ft, _, rfl, ifF rfl ?_⟩
        have es : evalT cols cs' T = evalT cols cells T := eval_same fun x hx i hi => by
          obtain ⟨j1, ⟨z, _, _⟩, _⟩ := pos_names hi
          have cx : cols[i].1 = x := by
            have h := hi
            unfold posIn at h
            rw [List.findIdx?_eq_some_iff_getElem] at h
            obtain ⟨_, i2, _⟩ := h
            exact of_decide_eq_true i2
          have e := hmt i cols[i] (by omega) (List.getElem?_eq_getElem j1) (by rw [cx]; exact hx)
          rw [List.getD_eq_getElem?_getD, List.getD_eq_getElem?_getD, e]
        have hL9 := s89 _ _ hL7
        refine ⟨_, rfl, _, rfl, _, rfl, L, vs', rfl, .inl ⟨SqL.of hL9, fun p10 n10 => ?_⟩⟩
        have s10 := s89.trans (same_new (o := .tup vs') n10)
        have kp10 := Same.keep s10
        have kpn := keep_new (o := .tup vs') n10
        have hu10 := hu9.keep kpn
        refine ⟨v, T, ca, p10, cols, cs', k, rfl, ht7.keep kp10, hc7.keep kp10, ⟨vs', .inl (.inl upd_same), hcs7.keep kp10⟩, hfG, tok, by omega, ek, fun u2 I11 s11 hu2 => ?_⟩
        rw [es] at hu2
        have sm11 := s10.trans s11
        have kp11 := Same.keep sm11
        have hu11 := hu10.keep (Same.keep s11)
        refine ⟨u2, _, rfl, hu2, ft.1, _, rfl, u, _, rfl, hu11, ft.1, rfl, _, rfl, ifF ?_ ?_⟩
        · show (!decide (V.str (reprC (evalT cols cells T)) = V.str (reprC (evalT cols cells T)))) = false
          rw [decide_eq_true rfl] <;> rfl
        obtain ⟨cus3, hcu3, hcp3, hcn3⟩ := hc7.keep kp11
        have el3 := Paired.length hcp3
        obtain ⟨rus3, hru3, hrc3⟩ := hr7.keep kp11
        have ht11 := ht7.keep kp11
        refine ⟨_, rfl, ca, rfl, ⟨_, hcu3⟩, fun D nD => lc_tup (K := K) (a := ca) (xs := cus3) (fun i H' => MapInv (fun _ => False) (fun _ => True) (fun j y _ => ∃ c, cols[j]? = some c ∧ y = .str c.1) D (upd I11 D (.lst [])) i H') (MapInv.zero nD trivial) (fun i H' _ hw => (Same.keep (hw.same nD)).tup hcu3) (fun i v H' hv hw => ?_) (fun J1 hw => ?_)⟩
        · obtain ⟨c, b, hc1, rfl, hb⟩ := pair_vals hcp3 hv
          refine ⟨rfl, tyes ?_⟩
          exact ⟨_, rfl, _, _, _, _, rfl, rfl, (Same.keep (hw.same nD)).tup hb, atI_nat (j := 0) rfl, hw.stepK (Same.refl _) ⟨c, hc1, rfl⟩ (by have := (List.getElem?_eq_some_iff.mp hc1).1; omega) fun _ _ _ _ q _ => q⟩
        obtain ⟨ys, hl1, hn1, hy1⟩ := hw.l
        have ey : ys = (cols.map (·.1)).map V.str := by
          have z : ys = cols.map fun c => V.str c.1 := map_of (by omega) hy1
          rw [z, List.map_map] <;> rfl
        subst ey
        have sJ := hw.same nD
        have kJ := Same.keep sJ
        have hcuJ := kJ.tup hcu3
        refine ⟨_, rfl, _, _, rfl, .inr ⟨_, hcuJ, rfl⟩, ?_⟩
        refine ⟨_, rfl, by omega, by omega, fun F nF => ?_⟩
        refine lc_range (lo := 0) (n := ((cus3.length : Nat) : Int).toNat) (fun i H' => MapInv (fun _ => False) (fun _ => True) (fun j y G => ∃ c, (renC cols)[j]? = some c ∧ IsCol K G y c) F (upd J1 F (.lst [])) i H') (MapInv.zero nF trivial) (fun i G2 hi hw => ?_) (fun J2 hw2 => ?_)
        · have hi1 : i < cus3.length := by omega
          obtain ⟨c, b, hc1, hv1, hb1⟩ := pair_vals hcp3 (List.getElem?_eq_getElem hi1)
          have kk := Same.keep (sJ.trans (hw.same nF))
          have ei : (0 : Int) + (i : Nat) = ((i : Nat) : Int) := by omega
          have l1 : ((0 : Int) + (i : Nat)).natAbs < 2 ^ 10 := by omega
          have l2 := int_len (i := (0 : Int) + (i : Nat)) (k := 3) (by omega) (by omega)
          have l3 : (Str.ofString "n").length = 1 := by decide +kernel
          refine ⟨rfl, tyes ?_⟩
          refine ⟨_, rfl, _, rfl, log_small (k := 10) l1 (by omega) (by omega), _, _, rfl, rfl, small (by rw [l3]; omega), ?_⟩
          refine ⟨_, rfl, _, rfl, ca, cus3, _, .ref b, rfl, rfl, kk.tup hcu3, (by rw [ei, ← hv1]; exact atI_nat (List.getElem?_eq_getElem hi1)), _, _, _, _, rfl, rfl, kk.tup hb1, atI_nat (j := 1) rfl, (by show 2 ≤ sizeLine; decide), fun p n => ?_⟩
          refine hw.stepK (same_new n) ⟨_, renC_get hc1, p, rfl, .inl (.inl ?_)⟩ (by omega) fun _ _ _ _ ⟨c, q1, q2⟩ kq => ⟨c, q1, q2.keep kq⟩
          rw [upd_same]
          show some (HO.tup [V.str ("n" ++ Str.ofString (toString ((0 : Int) + (i : Nat)))), V.str c.2.s]) = some (HO.tup [V.str ("n" ++ decI ((i : Nat) : Int)), V.str c.2.s])
          rw [ei] <;> rfl
        obtain ⟨zs, hl2, hn2, hy2⟩ := hw2.l
        have rl := renC_len cols
        have cz : Paired (IsCol K J2) zs (renC cols) := paired_of (by omega) fun i x y hx hy' => by
          obtain ⟨c, c1, c2⟩ := hy2 i x hx
          rw [hy'] at c1
          rw [Option.some.inj c1]
          exact c2
        have sJ2 := sJ.trans (hw2.same nF)
        refine ⟨F, _, rfl, .inl ⟨SqL.of hl2, fun R nR => ?_⟩⟩
        have sR := sJ2.trans (same_new (o := .tup zs) nR)
        have kR := Same.keep sR
        have knR := keep_new (o := .tup zs) nR
        have czR : Paired (IsCol K (upd J2 R (.tup zs))) zs (renC cols) := Paired.mapP cz fun _ _ z => z.keep knR
        have hRR : SqT K (upd J2 R (.tup zs)) R zs := .inl (.inl upd_same)
        have hNR : upd J2 R (.tup zs) D = some (.lst ((cols.map (·.1)).map V.str)) := same_new nR _ _ (hw2.same nF _ _ hl1)
        have htR := ht11.keep kR
        have hrR := kR.tup hru3
        have hrcR := hrc3.keep kR
        have huR := hu11.keep kR
        generalize upd J2 R (.tup zs) = B3 at czR hRR hNR htR hrR hrcR huR ⊢
        refine ⟨_, rfl, _, rfl, v, T, D, cols, k, rfl, htR, hNR, hcn3, by omega, ek, fun w2 I12 s12 hw2' => ?_⟩
        have k12 := Same.keep s12
        obtain ⟨rk, rv⟩ := ren_law (cells := cells) hf.1 ek
        refine ⟨_, rfl, _, rfl, R, _, rfl, k12.tup hRR, fun p13 n13 => ?_⟩
        have s13 := same_new (o := .tup zs.reverse) n13
        have k13 := k12.trans (Same.keep s13)
        refine ⟨_, rfl, ra, _, rfl, k13.tup hrR, fun p14 n14 => ?_⟩
        have s14 := same_new (o := .tup rus3.reverse) n14
        have k14 := (Same.keep s13).trans (Same.keep s14)
        have k124 := k12.trans k14
        refine ⟨w2, renT cols T, p13, p14, (renC cols).reverse, cells.reverse, k, rfl, hw2'.keep k14, ⟨zs.reverse, (Same.keep s14).tup (.inl (.inl upd_same)), Paired.rev (Paired.mapP czR fun _ _ z => z.keep k124), by rw [List.length_reverse, rl]; exact hcn3⟩, ⟨rus3.reverse, .inl (.inl upd_same), Paired.rev (hrcR.keep k124)⟩, ren_fit hf, ren_ok tok, by rw [ren_dep]; omega, rk, fun u4 I15 s15 hu4 => ?_⟩
        rw [rv] at hu4
        have k15 := Same.keep s15
        refine ⟨u4, _, rfl, hu4, ft.1, _, rfl, u, _, rfl, (huR.keep k124).keep k15, ft.1, rfl, ?_⟩
        have e : V.bl (decide (V.str (reprC (evalT cols cells T)) = V.str (reprC (evalT cols cells T)))) = .bl true := by rw [decide_eq_true rfl]
        have z := q I15
        rw [← e] at z
        exact z
end
end K7
/-! W25 -/
namespace K7
open PySem PySem.Spec PyProof.Rows L2 TL
/-- at most the script is told of, and it stays as it is -/
structure Told (P : Program) (w : World) (K : PySem.W.Frag) (h : Heap) (a : Addr) (o : Obj) (xs : List V) (H : Hp) : Prop where
  one : ∀ b u, H b = some u → b = a ∧ K.lookup a = none ∧ u = .frz o (.lst xs)
  hok : HOk P w H h
  sq : SqL K H a xs
def oneHp (a : Addr) (u : HO) : Hp := fun b => if b = a then some u else none
theorem oneHp_at {a : Addr} {u : HO} : oneHp a u a = some u := if_pos rfl
theorem oneHp_of {a b : Addr} {u v : HO} (h : oneHp a u b = some v) : b = a ∧ v = u := by
  unfold oneHp at h
  split at h
  · rename_i e
    exact ⟨e, (Option.some.inj h).symm⟩
  · cases h
theorem told {P : Program} {w : World} {K : PySem.W.Frag} {h : Heap} {a : Addr} {vs : List Value} {ns : List Int} (KX : K.In h) (ha : h.get? a = some { cls := .type "list", data := .seq vs.toArray }) (hi : IntsAre vs ns) (hl : ns.length ≤ sizeLine) :
    ∃ (o : Obj) (H : Hp), h.get? a = some o ∧ (∀ es n, o.data ≠ .dict es n) ∧ Told P w K h a o (ns.map V.int) H := by
  have rv : Vals (ns.map V.int) vs := vals_ints hi
  cases ek : K.lookup a with
  | none =>
    refine ⟨{ cls := .type "list", data := .seq vs.toArray }, oneHp a (.frz { cls := .type "list", data := .seq vs.toArray } (.lst (ns.map V.int))), ha, (fun _ _ z => by cases z), ⟨fun b u z => ?_, fun b u z => ?_, .inl (.inr ⟨_, oneHp_at⟩)⟩⟩
    · obtain ⟨rfl, rfl⟩ := oneHp_of z
      exact ⟨rfl, ek, rfl⟩
    · obtain ⟨rfl, rfl⟩ := oneHp_of z
      exact ⟨ha, by rw [List.length_map]; exact hl, vs, _, rv, ha⟩
  | some o =>
    have e := KX a o ek
    rw [ha] at e
    have eo := Option.some.inj e
    subst eo
    have sz : vs.toArray.size ≤ sizeLine := by
      rw [List.size_toArray, hi.length]
      exact hl
    refine ⟨_, fun _ => none, ha, (fun _ _ z => by cases z), ⟨fun b u z => absurd z (by simp), fun b u z => absurd z (by simp), .inr ⟨_, vs.toArray, _, ek, rfl, rfl, rfl, sz, ?_⟩⟩⟩
    have e2 : vs.toArray.toList = vs := by simp
    rw [e2]
    exact rv
/-- the law's promise at the heap that the top leaves -/
theorem law_at {P : Program} {w : World} {K : PySem.W.Frag} {mg mb : Str → Option Value} {k : Nat} {fa a : Addr} {fd : FuncData} {x : Str} {sp : Sp} {s : Shared} {vs : List Value} {ns : List Int}
    (KX : K.In s.heap) (hns : s.heap.Ns mainGlobals mg) (hb : s.heap.Ns builtinsNs mb) (hbb : ∀ x : Str, x ≠ "__name__" → mb x = bootBuiltins x) (hlim : s.heap.NoLimit) (hg : s.gens = #[])
    (ha : s.heap.get? a = some { cls := .type "list", data := .seq vs.toArray }) (hi : IntsAre vs ns) (hl : ns.length ≤ sizeLine) (hr : Room k callerA)
    (F : ∀ base : Heap, K.In base → base.Ns mainGlobals mg → FnC P w K mg base k fa fd [x] sp) (hbind : ∀ (t : Shared) (u : Value), BindsTo t fd ⟨[u], []⟩ [(x, u)])
    (hsp : ∀ H : Hp, SqL K H a (ns.map V.int) → sp [.ref a] H (fun v _ => v = .bl true) fun _ _ _ => False) :
    codeAny (model P w) callerA (.call (.ref fa) ⟨[.ref a], []⟩) (fun r s' => r = .ok (.ret (.bool true)) ∧ OldK s.heap s'.heap ∧ s'.os = s.os ∧ AllBare s'.gens) s := by
  obtain ⟨o, H, ho, hdd, T⟩ := told (P := P) (w := w) KX ha hi hl
  have free : ∀ {b : Addr}, b ≠ a → H b = none := fun {b} n => by
    cases q : H b with
    | none => rfl
    | some u => exact absurd (T.one b u q).1 n
  have inB : ∀ {b : Addr} {u : Obj}, s.heap.get? b = some u → H b = none → (hidT s.heap H).get? b = some u := fun e n => hidT_get e n
  have nsB : ∀ {b : Addr} {m : Str → Option Value}, s.heap.Ns b m → (hidT s.heap H).Ns b m := by
    rintro b m ⟨u, es, ep, e, d, r⟩
    refine ⟨u, es, ep, inB e (free fun z => ?_), d, r⟩
    rw [z, ho] at e
    rw [Option.some.inj e] at hdd
    exact hdd es ep d
  have kB : K.In (hidT s.heap H) := fun b u e => inB (KX b u e) (by
    cases q : H b with
    | none => rfl
    | some v =>
      obtain ⟨rfl, z, _⟩ := T.one b v q
      rw [z] at e
      cases e)
  have lim : (hidT s.heap H).NoLimit := by
    obtain ⟨mc, l1, l2⟩ := hlim
    exact ⟨mc, nsB l1, l2⟩
  have noF : ∀ {b : Addr} {α : Prop}, b ∈ frs ([] : List Env) → α := fun {b α} h => absurd (show b ∈ ([] : List Addr) from h) (by simp)
  have env : Env0 P w K mg (hidT s.heap H) callerA [] s H := ⟨rfl, ⟨kB, nsB hns, ⟨mb, nsB hb, hbb⟩, lim⟩, fun b u e => of_hidT e, Nat.le_of_eq (hidT_size _ _), trivial, fun b h => noF h, T.hok, .of_eq hg⟩
  have go := (F _ kB (nsB hns)).run s H ⟨[.ref a], []⟩ [.ref a] [.ref a] _ _ hr env (hbind s (.ref a)) (.cons rfl .nil) (hsp H T.sq)
  refine codeAny_mono go fun r s' h => ?_
  match r, h with
  | .error e, h => exact False.elim h
  | .ok .next, h => exact False.elim h
  | .ok .brk, h => exact False.elim h
  | .ok .cont, h => exact False.elim h
  | .ok (.ret u), h =>
    obtain ⟨v, H', os, bare, un, hok', rr, q⟩ := h
    have eu : u = Value.bool true := by
      rw [show v = V.bl true from q] at rr
      exact rr
    refine ⟨by rw [eu], OldK.of_keep fun b u e => ?_, os, bare⟩
    cases q : H b with
    | none => exact un.keep b u e q (fun z => noF z) (by simp)
    | some v =>
      obtain ⟨rfl, _, rfl⟩ := T.one b v q
      obtain ⟨e2, _⟩ := hok' b _ (un.frzs b _ _ q)
      rw [ho] at e
      rw [← Option.some.inj e]
      exact e2
end K7
/-! W26 -/
namespace K7
open PySem PySem.Spec PyProof.Rows L2
/-! ### RANKS -/
theorem rkE_str {e : DictEntry} {x : Str} {hh i : Int} (h : HeadA.rkE e = some (some x, hh, i)) : ∃ t u, e.key = .str x t ∧ e.hash = hh ∧ e.val = .int i u := by
  obtain ⟨h1, key, val⟩ := e
  unfold HeadA.rkE at h
  split at h
  · rename_i y t j u e1 e2
    have z := Option.some.inj h
    simp only [Prod.mk.injEq, Option.some.injEq] at z
    obtain ⟨rfl, z2, rfl⟩ := z
    exact ⟨t, u, e1, z2, e2⟩
  · have z := Option.some.inj h
    simp only [Prod.mk.injEq] at z
    cases z.1
  · cases h
theorem rkE_non {e : DictEntry} {hh i : Int} (h : HeadA.rkE e = some (none, hh, i)) : e.key = .none ∧ e.hash = hh := by
  obtain ⟨h1, key, val⟩ := e
  unfold HeadA.rkE at h
  split at h
  · have z := Option.some.inj h
    simp only [Prod.mk.injEq] at z
    cases z.1
  · rename_i j u e1 e2
    have z := Option.some.inj h
    simp only [Prod.mk.injEq] at z
    exact ⟨e1, z.2.1⟩
  · cases h
theorem rk_of {K : PySem.W.Frag} {w : World} (h : HeadA.rkW K = HeadA.rkG w) : RkDict K w (He.ga K "RANKS") := by
  unfold HeadA.rkW HeadA.rkG at h
  cases q : K.lookup (He.ga K "RANKS") with
  | none =>
    rw [q] at h
    cases h
  | some o =>
    obtain ⟨oc, od, dt, osl⟩ := o
    rw [q] at h
    cases oc with
    | type c =>
      cases od with
      | none =>
        cases dt with
        | dict es n =>
          dsimp only at h
          cases z : decide (c = "dict") && (osl.isEmpty && !(He.ga K "RANKS" == sysModules)) with
          | false =>
            rw [z] at h
            cases h
          | true =>
            rw [z] at h
            obtain ⟨z1, z2⟩ := He.ba z
            obtain ⟨z3, _⟩ := He.ba z2
            have e1 : c = "dict" := of_decide_eq_true z1
            have e2 : osl = #[] := Array.isEmpty_iff.mp z3
            subst e1 e2
            obtain ⟨l⟩ := es
            have h1 := Option.some.inj h
            have len : l.length = 4 := by
              have z := congrArg List.length h1
              rw [List.length_map] at z
              exact z
            match l, len, h1, q with
            | [a, b, c, d], _, h1, q =>
              have l1 : [HeadA.rkE a, HeadA.rkE b, HeadA.rkE c, HeadA.rkE d] = _ := h1
              simp only [List.cons.injEq] at l1
              obtain ⟨a1, b1, c1, d1, _⟩ := l1
              obtain ⟨ta, ua, ka, ha, va⟩ := rkE_str a1
              obtain ⟨tb, ub, kb, hb, vb⟩ := rkE_str b1
              obtain ⟨tc, uc, kc, hc, vc⟩ := rkE_str c1
              obtain ⟨kd, hd⟩ := rkE_non d1
              have n1 : ∀ x y t, x ≠ y → nkIs (some (.inr x)) (.str y t) = false := fun x y t hne => by
                cases r : nkIs (some (.inr x)) (.str y t) with
                | false => rfl
                | true =>
                  obtain ⟨t2, e⟩ := Value.isStrOf_shape (show Value.isStrOf x (.str y t) = true from r)
                  injection e with e3
                  exact absurd e3.symm hne
              refine ⟨_, n, q, fun e he => ?_, fun x i hx => ?_⟩
              · have he' : e ∈ [a, b, c, d] := Array.mem_toList_iff.mpr he
                simp only [List.mem_cons, List.not_mem_nil, or_false] at he'
                rcases he' with rfl | rfl | rfl | rfl
                · exact ⟨some (.inr "boolean"), by rw [ka]; exact keyIs_str "boolean" ta, ha⟩
                · exact ⟨some (.inr "number"), by rw [kb]; exact keyIs_str "number" tb, hb⟩
                · exact ⟨some (.inr "text"), by rw [kc]; exact keyIs_str "text" tc, hc⟩
                · exact ⟨none, by rw [kd]; rfl, by rw [hd]; exact (by decide +kernel : (4238894112 : Int) = reduceHash 0xFCA86420)⟩
              · unfold rkOf at hx
                unfold findBy
                rw [List.find?_toArray]
                split at hx
                · rename_i e
                  subst e
                  rw [List.find?_cons, ka, show nkIs (some (.inr "boolean")) (.str "boolean" ta) = true from keyIs_str "boolean" ta]
                  rw [← Option.some.inj hx]
                  exact ⟨ua, congrArg some va⟩
                · split at hx
                  · rename_i e
                    subst e
                    rw [List.find?_cons, ka, n1 _ _ ta (by decide +kernel), List.find?_cons, kb, show nkIs (some (.inr "number")) (.str "number" tb) = true from keyIs_str "number" tb]
                    rw [← Option.some.inj hx]
                    exact ⟨ub, congrArg some vb⟩
                  · split at hx
                    · rename_i e
                      subst e
                      rw [List.find?_cons, ka, n1 _ _ ta (by decide +kernel), List.find?_cons, kb, n1 _ _ tb (by decide +kernel), List.find?_cons, kc, show nkIs (some (.inr "text")) (.str "text" tc) = true from keyIs_str "text" tc]
                      rw [← Option.some.inj hx]
                      exact ⟨uc, congrArg some vc⟩
                    · cases hx
        | _ => cases h
      | some b => cases dt <;> cases h
    | _ => cases od <;> cases dt <;> cases h
/-! ### OPERATIONS -/
theorem strs_of {K : PySem.W.Frag} {a : Addr} {xs : List Str} (h : HeadA.strsB K a xs = true) (hl : xs.length ≤ 1000) (H : Hp) : SqT K H a (xs.map V.str) := by
  unfold HeadA.strsB at h
  cases q : K.lookup a with
  | none =>
    rw [q] at h
    cases h
  | some o =>
    obtain ⟨oc, od, dt, osl⟩ := o
    rw [q] at h
    cases oc with
    | type c =>
      cases dt with
      | seq its n =>
        obtain ⟨h1, h2⟩ := He.ba (show (decide (c = "tuple") && He.relAll (xs.map L2.V.str) its.toList) = true from h)
        have r := He.relAll_ok h2
        have e := r.length
        rw [List.length_map] at e
        exact .inr ⟨_, its, n, q, congrArg Value.type (of_decide_eq_true h1), rfl, small (by rw [← Array.length_toList]; omega), r⟩
      | _ => cases h
    | _ => cases dt <;> cases h
theorem op_of {K : PySem.W.Frag} {a : Addr} {need : List Str} {kind : Str} (h : HeadA.opB K a need kind = true) (hl : need.length ≤ 1000) : ∃ u, (∀ H : Hp, SqT K H a [.ref u, .str kind]) ∧ ∀ H : Hp, SqT K H u (need.map V.str) := by
  unfold HeadA.opB at h
  cases q : K.lookup a with
  | none =>
    rw [q] at h
    cases h
  | some o =>
    obtain ⟨oc, od, dt, osl⟩ := o
    rw [q] at h
    cases oc with
    | type c =>
      cases dt with
      | seq its n =>
        dsimp only at h
        obtain ⟨h1, h2⟩ := He.ba h
        split at h2
        · rename_i u k t e
          obtain ⟨h3, h4⟩ := He.ba h2
          have ek : k = kind := of_decide_eq_true h4
          subst ek
          refine ⟨u, fun H => .inr ⟨_, its, n, q, congrArg Value.type (of_decide_eq_true h1), rfl, small (by rw [← Array.length_toList, e]; exact Nat.le_of_ble_eq_true rfl), ?_⟩, strs_of h3 hl⟩
          rw [e]
          exact .cons rfl (.cons ⟨t, rfl⟩ .nil)
        · cases h2
      | _ => cases h
    | _ => cases dt <;> cases h
theorem gcd_of {K : PySem.W.Frag} (h : HeadA.gcdB K = true) : PySem.W.nsIn K mainGlobals "gcd" = some (some (.builtin "math.gcd")) := by
  unfold HeadA.gcdB at h
  split at h
  · rename_i x e
    rw [e, show x = "math.gcd" from of_decide_eq_true h]
  · cases h
theorem opsAt_hit {K : PySem.W.Frag} (h : HeadA.opsB K = true) (q : Str × List Str × Str) (hq : q ∈ opT) : ∃ a u, PySem.W.nsIn K (He.ga K "OPERATIONS") q.1 = some (some (.ref a)) ∧ (∀ H : Hp, SqT K H a [.ref u, .str q.2.2]) ∧ ∀ H : Hp, SqT K H u (q.2.1.map V.str) := by
  have h1 := List.all_eq_true.mp h q hq
  have hl : q.2.1.length ≤ 1000 := by
    have z : opT.all (fun q => decide (q.2.1.length ≤ 1000)) = true := by decide +kernel
    exact of_decide_eq_true (List.all_eq_true.mp z q hq)
  split at h1
  · rename_i a e
    obtain ⟨u, h2, h3⟩ := op_of h1 hl
    exact ⟨a, u, e, h2, h3⟩
  · cases h1
/-! ### the defs -/
theorem fd_of {K : PySem.W.Frag} {h : Heap} {mg : Str → Option Value} (X : K.In h) (G : h.Ns mainGlobals mg) (cd : He.SaysD HeadA.fa HeadA.fn K) {x : Str} {j : Nat} {ps : List Str} (i n : Nat) (hi : HeadA.fn[i]? = some (HeadA.mkD x j)) (hn : HeadA.fa[n]? = some (.glo x))
    (hb : ∀ (kV doc pm : Value) (an : Option Addr) (cdv ct : Value) (us : List Value), us.length = ps.length → bindArgs (PySem.W.fnOf x x (defArgs (topS j)) (defBody (topS j)) (defScope (topS j)) .none kV doc pm an cdv ct) ⟨us, []⟩ = pure (ps.zip us)) : Nonempty (Fd K mg x j ps) := by
  obtain ⟨fd, F⟩ := cd.def_ i hi
  exact ⟨⟨He.ga K x, fd, F, He.glo_ok X G (cd.fact n hn), F.bindsN hb⟩⟩
theorem ev_of {K : PySem.W.Frag} {w : World} {h : Heap} {mg : Str → Option Value} (X : K.In h) (G : h.Ns mainGlobals mg) (c : HeadA.SaysY w K) : Nonempty (Ev K w mg) := by
  have c1 : He.SaysT HeadA.fa HeadA.fn HeadA.ts w K := congrArg (fun z : HeadA.AlY => z.1) c
  have c2 : HeadA.exB K = true := congrArg (fun z : HeadA.AlY => z.2.1) c
  have c3 : HeadA.rkW K = HeadA.rkG w := congrArg (fun z : HeadA.AlY => z.2.2) c
  obtain ⟨k1, k2⟩ := He.ba c2
  obtain ⟨k3, k4⟩ := He.ba k1
  obtain ⟨k5, k6⟩ := He.ba k4
  have cd := c1.d
  obtain ⟨es, n, kd⟩ := c1.tab 0
  obtain ⟨tL, hL⟩ := He.int_ok X G (cd.fact 68 (f := .int "LIMIT" 1000000000000))
  obtain ⟨tG, hG⟩ := He.int_ok X G (cd.fact 69 (f := .int "LONGEST" 40))
  obtain ⟨D3⟩ := fd_of (ps := ["numerator", "denominator"]) X G cd 0 0 (x := "lowest") (j := 3) rfl rfl fun _ _ _ _ _ _ us hl => match us, hl with | [_, _], _ => rfl
  obtain ⟨D4⟩ := fd_of (ps := ["a", "b"]) X G cd 1 1 (x := "plus") (j := 4) rfl rfl fun _ _ _ _ _ _ us hl => match us, hl with | [_, _], _ => rfl
  obtain ⟨D5⟩ := fd_of (ps := ["a", "b"]) X G cd 2 2 (x := "minus") (j := 5) rfl rfl fun _ _ _ _ _ _ us hl => match us, hl with | [_, _], _ => rfl
  obtain ⟨D6⟩ := fd_of (ps := ["a", "b"]) X G cd 3 3 (x := "times") (j := 6) rfl rfl fun _ _ _ _ _ _ us hl => match us, hl with | [_, _], _ => rfl
  obtain ⟨D7⟩ := fd_of (ps := ["a", "b"]) X G cd 4 4 (x := "over") (j := 7) rfl rfl fun _ _ _ _ _ _ us hl => match us, hl with | [_, _], _ => rfl
  obtain ⟨D8⟩ := fd_of (ps := ["a", "b"]) X G cd 5 5 (x := "compare") (j := 8) rfl rfl fun _ _ _ _ _ _ us hl => match us, hl with | [_, _], _ => rfl
  obtain ⟨D9⟩ := fd_of (ps := ["a"]) X G cd 6 6 (x := "floor_of") (j := 9) rfl rfl fun _ _ _ _ _ _ us hl => match us, hl with | [_], _ => rfl
  obtain ⟨D10⟩ := fd_of (ps := ["a"]) X G cd 7 7 (x := "ceiling_of") (j := 10) rfl rfl fun _ _ _ _ _ _ us hl => match us, hl with | [_], _ => rfl
  obtain ⟨D11⟩ := fd_of (ps := ["a"]) X G cd 8 8 (x := "nearest_of") (j := 11) rfl rfl fun _ _ _ _ _ _ us hl => match us, hl with | [_], _ => rfl
  obtain ⟨D12⟩ := fd_of (ps := ["a"]) X G cd 9 9 (x := "as_number") (j := 12) rfl rfl fun _ _ _ _ _ _ us hl => match us, hl with | [_], _ => rfl
  obtain ⟨D13⟩ := fd_of (ps := ["exponent"]) X G cd 10 10 (x := "power_of_ten") (j := 13) rfl rfl fun _ _ _ _ _ _ us hl => match us, hl with | [_], _ => rfl
  obtain ⟨D14⟩ := fd_of (ps := ["denominator"]) X G cd 11 11 (x := "decimal_places") (j := 14) rfl rfl fun _ _ _ _ _ _ us hl => match us, hl with | [_], _ => rfl
  obtain ⟨D15⟩ := fd_of (ps := ["a"]) X G cd 12 12 (x := "fraction_text") (j := 15) rfl rfl fun _ _ _ _ _ _ us hl => match us, hl with | [_], _ => rfl
  obtain ⟨D19⟩ := fd_of (ps := ["cell"]) X G cd 13 13 (x := "cell_kind") (j := 19) rfl rfl fun _ _ _ _ _ _ us hl => match us, hl with | [_], _ => rfl
  obtain ⟨D20⟩ := fd_of (ps := ["a", "b"]) X G cd 14 14 (x := "compare_cells") (j := 20) rfl rfl fun _ _ _ _ _ _ us hl => match us, hl with | [_, _], _ => rfl
  obtain ⟨D21⟩ := fd_of (ps := ["cell"]) X G cd 15 15 (x := "cell_text") (j := 21) rfl rfl fun _ _ _ _ _ _ us hl => match us, hl with | [_], _ => rfl
  obtain ⟨D23⟩ := fd_of (ps := ["columns", "name"]) X G cd 16 16 (x := "position") (j := 23) rfl rfl fun _ _ _ _ _ _ us hl => match us, hl with | [_, _], _ => rfl
  obtain ⟨D24⟩ := fd_of (ps := ["columns", "name"]) X G cd 17 17 (x := "kind_in") (j := 24) rfl rfl fun _ _ _ _ _ _ us hl => match us, hl with | [_, _], _ => rfl
  obtain ⟨D28⟩ := fd_of (ps := ["expression"]) X G cd 18 18 (x := "parts_of") (j := 28) rfl rfl fun _ _ _ _ _ _ us hl => match us, hl with | [_], _ => rfl
  obtain ⟨D29⟩ := fd_of (ps := ["expression", "columns"]) X G cd 19 19 (x := "kind_of") (j := 29) rfl rfl fun _ _ _ _ _ _ us hl => match us, hl with | [_, _], _ => rfl
  obtain ⟨D30⟩ := fd_of (ps := ["expression", "kinds"]) X G cd 20 20 (x := "other_kind") (j := 30) rfl rfl fun _ _ _ _ _ _ us hl => match us, hl with | [_, _], _ => rfl
  obtain ⟨D31⟩ := fd_of (ps := ["expression", "columns", "cells"]) X G cd 21 21 (x := "evaluate") (j := 31) rfl rfl fun _ _ _ _ _ _ us hl => match us, hl with | [_, _, _], _ => rfl
  obtain ⟨D32⟩ := fd_of (ps := ["values", "decisive"]) X G cd 22 22 (x := "connected") (j := 32) rfl rfl fun _ _ _ _ _ _ us hl => match us, hl with | [_, _], _ => rfl
  obtain ⟨D33⟩ := fd_of (ps := ["value"]) X G cd 23 23 (x := "limited") (j := 33) rfl rfl fun _ _ _ _ _ _ us hl => match us, hl with | [_], _ => rfl
  obtain ⟨D34⟩ := fd_of (ps := ["word", "a"]) X G cd 24 24 (x := "of_one") (j := 34) rfl rfl fun _ _ _ _ _ _ us hl => match us, hl with | [_, _], _ => rfl
  obtain ⟨D35⟩ := fd_of (ps := ["word", "a", "b"]) X G cd 25 25 (x := "of_two") (j := 35) rfl rfl fun _ _ _ _ _ _ us hl => match us, hl with | [_, _, _], _ => rfl
  obtain ⟨D37⟩ := fd_of (ps := ["_law_script"]) X G cd 26 26 (x := "_law_tape") (j := 37) rfl rfl fun _ _ _ _ _ _ us hl => match us, hl with | [_], _ => rfl
  obtain ⟨D38⟩ := fd_of (ps := ["_law_tape_here", "_law_many"]) X G cd 27 27 (x := "_law_draw") (j := 38) rfl rfl fun _ _ _ _ _ _ us hl => match us, hl with | [_, _], _ => rfl
  obtain ⟨D39⟩ := fd_of (ps := ["_law_value"]) X G cd 28 28 (x := "_law_is_integer") (j := 39) rfl rfl fun _ _ _ _ _ _ us hl => match us, hl with | [_], _ => rfl
  obtain ⟨D40⟩ := fd_of (ps := ["_law_first", "_law_second"]) X G cd 29 29 (x := "_law_gcd") (j := 40) rfl rfl fun _ _ _ _ _ _ us hl => match us, hl with | [_, _], _ => rfl
  obtain ⟨D41⟩ := fd_of (ps := ["_law_top", "_law_bottom"]) X G cd 30 30 (x := "_law_ratio") (j := 41) rfl rfl fun _ _ _ _ _ _ us hl => match us, hl with | [_, _], _ => rfl
  obtain ⟨D42⟩ := fd_of (ps := ["_law_fraction"]) X G cd 31 31 (x := "_law_kept") (j := 42) rfl rfl fun _ _ _ _ _ _ us hl => match us, hl with | [_], _ => rfl
  obtain ⟨D43⟩ := fd_of (ps := ["_law_tape_here"]) X G cd 32 32 (x := "_law_number") (j := 43) rfl rfl fun _ _ _ _ _ _ us hl => match us, hl with | [_], _ => rfl
  obtain ⟨D44⟩ := fd_of (ps := ["_law_tape_here"]) X G cd 33 33 (x := "_law_small") (j := 44) rfl rfl fun _ _ _ _ _ _ us hl => match us, hl with | [_], _ => rfl
  obtain ⟨D45⟩ := fd_of (ps := ["_law_tape_here"]) X G cd 34 34 (x := "_law_sign") (j := 45) rfl rfl fun _ _ _ _ _ _ us hl => match us, hl with | [_], _ => rfl
  obtain ⟨D46⟩ := fd_of (ps := ["_law_tape_here", "_law_longest"]) X G cd 35 35 (x := "_law_text") (j := 46) rfl rfl fun _ _ _ _ _ _ us hl => match us, hl with | [_, _], _ => rfl
  obtain ⟨D47⟩ := fd_of (ps := ["_law_tape_here"]) X G cd 36 36 (x := "_law_name") (j := 47) rfl rfl fun _ _ _ _ _ _ us hl => match us, hl with | [_], _ => rfl
  obtain ⟨D48⟩ := fd_of (ps := ["_law_tape_here", "_law_kind_here"]) X G cd 37 37 (x := "_law_full") (j := 48) rfl rfl fun _ _ _ _ _ _ us hl => match us, hl with | [_, _], _ => rfl
  obtain ⟨D49⟩ := fd_of (ps := ["_law_tape_here", "_law_kind_here"]) X G cd 38 38 (x := "_law_cell") (j := 49) rfl rfl fun _ _ _ _ _ _ us hl => match us, hl with | [_, _], _ => rfl
  obtain ⟨D50⟩ := fd_of (ps := ["_law_tape_here"]) X G cd 39 39 (x := "_law_kind_drawn") (j := 50) rfl rfl fun _ _ _ _ _ _ us hl => match us, hl with | [_], _ => rfl
  obtain ⟨D51⟩ := fd_of (ps := ["_law_cell_here"]) X G cd 40 40 (x := "_law_cell_kind") (j := 51) rfl rfl fun _ _ _ _ _ _ us hl => match us, hl with | [_], _ => rfl
  obtain ⟨D52⟩ := fd_of (ps := ["_law_tape_here", "_law_most"]) X G cd 41 41 (x := "_law_columns") (j := 52) rfl rfl fun _ _ _ _ _ _ us hl => match us, hl with | [_, _], _ => rfl
  obtain ⟨D53⟩ := fd_of (ps := ["_law_tape_here", "_law_columns_here"]) X G cd 42 42 (x := "_law_cells") (j := 53) rfl rfl fun _ _ _ _ _ _ us hl => match us, hl with | [_, _], _ => rfl
  obtain ⟨D54⟩ := fd_of (ps := ["_law_tape_here", "_law_columns_here"]) X G cd 43 43 (x := "_law_stranger") (j := 54) rfl rfl fun _ _ _ _ _ _ us hl => match us, hl with | [_, _], _ => rfl
  obtain ⟨D55⟩ := fd_of (ps := ["_law_kind_here"]) X G cd 44 44 (x := "_law_forms") (j := 55) rfl rfl fun _ _ _ _ _ _ us hl => match us, hl with | [_], _ => rfl
  obtain ⟨D56⟩ := fd_of (ps := ["_law_tape_here", "_law_columns_here", "_law_kind_here", "_law_drift"]) X G cd 45 45 (x := "_law_leaf") (j := 56) rfl rfl fun _ _ _ _ _ _ us hl => match us, hl with | [_, _, _, _], _ => rfl
  obtain ⟨D57⟩ := fd_of (ps := ["_law_tape_here", "_law_columns_here", "_law_kind_here", "_law_most", "_law_drift"]) X G cd 46 46 (x := "_law_tree") (j := 57) rfl rfl fun _ _ _ _ _ _ us hl => match us, hl with | [_, _, _, _, _], _ => rfl
  obtain ⟨D58⟩ := fd_of (ps := ["_law_tree_here"]) X G cd 47 47 (x := "_law_parts") (j := 58) rfl rfl fun _ _ _ _ _ _ us hl => match us, hl with | [_], _ => rfl
  obtain ⟨D59⟩ := fd_of (ps := ["_law_tree_here", "_law_columns_here"]) X G cd 48 48 (x := "_law_kind") (j := 59) rfl rfl fun _ _ _ _ _ _ us hl => match us, hl with | [_, _], _ => rfl
  obtain ⟨D60⟩ := fd_of (ps := ["_law_tree_here"]) X G cd 49 49 (x := "_law_mentioned") (j := 60) rfl rfl fun _ _ _ _ _ _ us hl => match us, hl with | [_], _ => rfl
  obtain ⟨D61⟩ := fd_of (ps := ["_law_cell_here", "_law_kind_here"]) X G cd 50 50 (x := "_law_fits") (j := 61) rfl rfl fun _ _ _ _ _ _ us hl => match us, hl with | [_, _], _ => rfl
  obtain ⟨D62⟩ := fd_of (ps := ["_law_tree_here", "_law_names"]) X G cd 51 51 (x := "_law_renamed") (j := 62) rfl rfl fun _ _ _ _ _ _ us hl => match us, hl with | [_, _], _ => rfl
  obtain ⟨D63⟩ := fd_of (ps := ["_law_cell_here"]) X G cd 52 52 (x := "_law_truth") (j := 63) rfl rfl fun _ _ _ _ _ _ us hl => match us, hl with | [_], _ => rfl
  obtain ⟨D64⟩ := fd_of (ps := ["_law_tree_here", "_law_other", "_law_columns_here", "_law_cells_here"]) X G cd 53 53 (x := "_law_logical") (j := 64) rfl rfl fun _ _ _ _ _ _ us hl => match us, hl with | [_, _, _, _], _ => rfl
  obtain ⟨D65⟩ := fd_of (ps := ["_law_script"]) X G cd 54 54 (x := "law") (j := 65) rfl rfl fun _ _ _ _ _ _ us hl => match us, hl with | [_], _ => rfl
  exact ⟨{
    n_abs := He.free_ok X G (cd.fact 55)
    n_int := He.free_ok X G (cd.fact 56)
    n_max := He.free_ok X G (cd.fact 57)
    n_min := He.free_ok X G (cd.fact 58)
    n_len := He.free_ok X G (cd.fact 59)
    n_str := He.free_ok X G (cd.fact 60)
    n_isinstance := He.free_ok X G (cd.fact 61)
    n_range := He.free_ok X G (cd.fact 62)
    n_tuple := He.free_ok X G (cd.fact 63)
    n_list := He.free_ok X G (cd.fact 64)
    n_all := He.free_ok X G (cd.fact 65)
    n_repr := He.free_ok X G (cd.fact 66)
    n_bool := He.free_ok X G (cd.fact 67)
    gcd := PySem.W.mg_of X G (gcd_of k6)
    tL := tL
    limit := hL
    tG := tG
    longest := hG
    aLv := He.ga K "LEAVES"
    gLv := He.glo_ok X G (cd.fact 70)
    leaves := fun H => He.tupB_ok k2 H
    aOp := He.ga K "OPERATIONS"
    gOp := He.glo_ok X G (cd.fact 72)
    esOp := es
    nOp := n
    dOp := kd
    hit := opsAt_hit k3
    miss := fun x hx => He.eqO_ok (List.all_eq_true.mp k5 x hx)
    aRk := He.ga K "RANKS"
    gRk := He.glo_ok X G (cd.fact 71)
    rk := rk_of c3
    d_lowest := D3
    d_plus := D4
    d_minus := D5
    d_times := D6
    d_over := D7
    d_compare := D8
    d_floor_of := D9
    d_ceiling_of := D10
    d_nearest_of := D11
    d_as_number := D12
    d_power_of_ten := D13
    d_decimal_places := D14
    d_fraction_text := D15
    d_cell_kind := D19
    d_compare_cells := D20
    d_cell_text := D21
    d_position := D23
    d_kind_in := D24
    d_parts_of := D28
    d_kind_of := D29
    d_other_kind := D30
    d_evaluate := D31
    d_connected := D32
    d_limited := D33
    d_of_one := D34
    d_of_two := D35
    d__law_tape := D37
    d__law_draw := D38
    d__law_is_integer := D39
    d__law_gcd := D40
    d__law_ratio := D41
    d__law_kept := D42
    d__law_number := D43
    d__law_small := D44
    d__law_sign := D45
    d__law_text := D46
    d__law_name := D47
    d__law_full := D48
    d__law_cell := D49
    d__law_kind_drawn := D50
    d__law_cell_kind := D51
    d__law_columns := D52
    d__law_cells := D53
    d__law_stranger := D54
    d__law_forms := D55
    d__law_leaf := D56
    d__law_tree := D57
    d__law_parts := D58
    d__law_kind := D59
    d__law_mentioned := D60
    d__law_fits := D61
    d__law_renamed := D62
    d__law_truth := D63
    d__law_logical := D64
    d_law := D65
  }⟩
end K7
/-! W27 -/
namespace K7
open PySem PySem.W PySem.Calls PyProof.Rows HandSHeadRun L2
theorem walk_law : WalkO HeadA.qv HeadA.names (XL HeadA.qv []) HeadA.hookY.says HeadA.R.toRowW (topDef HeadA.R.prog 65) [] fun f vs => PySem.call f vs := by
  refine Att.attach_call (l := PySem.Challenge.rw_chartspec_k07_whole_values_keep_kinds) (n := 63) (by rfl) (by rfl) fun w s₀ s₁ mg mb fa o pm cd doc a vs ns G Y ho hd hcd hmg hobj hints hlen hg => ?_
  obtain ⟨K, KX, c⟩ := Y
  obtain ⟨E⟩ := ev_of KX G.T.g c
  have ef : E.d_law.f = fa := by
    have z := E.d_law.g
    rw [show mg "law" = some (.ref fa) from hmg] at z
    exact (Value.ref.inj (Option.some.inj z)).symm
  refine law_at (K := K) (k := 27) (x := "_law_script") (fd := E.d_law.fd) (sp := spLaw K) KX G.T.g G.T.b G.T.builtins G.T.nolimit hg hobj hints (Nat.le_trans hlen (small (by omega))) ⟨rfl, by decide +kernel, by decide +kernel⟩ (fun base _ _ => ?_) (fun t u => ?_) fun H hs => ?_
  · rw [← ef]
    exact ok_law E
  · exact E.d_law.F.bindsA (ps := ["_law_script"]) (fun _ _ _ _ _ _ us hl => match us, hl with | [_], _ => rfl) t [u] rfl
  · exact ⟨a, ns, rfl, hs, fun _ => rfl⟩
theorem holds : PySem.Challenge.rw_chartspec_k07_whole_values_keep_kinds.Holds := HeadA.test walk_law
end K7
theorem PySem.Challenge.cw_chartspec_k07_whole_values_keep_kinds_holds : PySem.Challenge.rw_chartspec_k07_whole_values_keep_kinds.Holds := by
  exact K7.holds
