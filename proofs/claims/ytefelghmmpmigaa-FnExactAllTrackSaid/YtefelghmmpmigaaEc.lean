/- A plain evaluator over the code of a function, and the proof that it tells the truth (third part) -/
import Derived.Test.YtefelghmmpmigaaEb
import Derived.Orders
import Derived.KernelRfl
namespace Go.Ev
set_option linter.unusedVariables false
set_option linter.unusedSimpArgs false

/-- which of the blocks that are there an operation may change: none (0), rows (1), all (2) -/
def opClass : Op → Nat
  | .store .. => 2
  | .mapUpdate .. => 2
  | .insert .. => 2
  | .buildSlice .. => 1
  | .call c => match c.callee with
    | .builtin b => (match b with | .append => 1 | _ => 0)
    | _ => 0
  | _ => 0
def isRow : Blk → Bool
  | .row _ _ _ _ => true
  | _ => false
def clB (n : Nat) (b : Blk) : Bool := match n with
  | 0 => false
  | 1 => isRow b
  | _ => true
section
variable {tb : Nat → Ti} {R : Nat → List AV → AV → Prop}
theorem lookupA_r (t : Nat) (m k : AV) (ok : Bool) : RDet (fun h K => lookupA tb t m k ok h K) := by
  unfold lookupA
  cases (tb t).k with
  | map kt vt =>
    show RDet (fun h (K : AV → Prop) => match (tb vt).k with
      | .int q => (match m with
        | .map id => (match h id with
          | some (.mp t' es) => (match Nat.beq t' t with | true => keyB tb kt k ∧ ∃ o, findK k es o ∧ K (foundV q o ok) | false => False)
          | _ => False)
        | _ => False)
      | _ => False)
    cases (tb vt).k with
    | int q =>
      cases m with
      | map id =>
        refine RDet.blk id (G := fun b (K : AV → Prop) => match b with
          | some (.mp t' es) => (match Nat.beq t' t with | true => keyB tb kt k ∧ ∃ o, findK k es o ∧ K (foundV q o ok) | false => False)
          | _ => False) (fun _ h => h) fun b => ?_
        cases b with
        | mp t' es => exact PDet.ite (PDet.and (PDet.ex fun o => PDet.and (PDet.ret _))) PDet.false
        | _ => exact PDet.false
      | _ => exact RDet.false
    | _ => exact RDet.false
  | _ => exact RDet.false
theorem mapUpdateA_d {C : Blk → Bool} {d : Option Nat} (hC : ∀ b, C b = true) (t : Nat) (m k v : AV) : Det C d (fun h K => mapUpdateA tb t m k v h K) := by
  unfold mapUpdateA
  cases (tb t).k with
  | map kt vt =>
    cases m with
    | map id =>
      refine Det.blk id (G := fun b h (K : AV → Heap → Prop) => match b with
        | some (.mp t' es) => (match Nat.beq t' t with | true => (keyB tb kt k ∧ isFlat v = true) ∧ ∃ o, findK k es o ∧ ∃ es', es' = updK k v es o ∧ K .undef (h.put id (.mp t es')) | false => False)
        | _ => False) (fun _ _ h => h) fun b => ?_
      cases b with
      | mp t' es =>
        show Det C d (fun h (K : AV → Heap → Prop) => h id = some (.mp t' es) ∧ (match Nat.beq t' t with | true => (keyB tb kt k ∧ isFlat v = true) ∧ ∃ o, findK k es o ∧ ∃ es', es' = updK k v es o ∧ K .undef (h.put id (.mp t es')) | false => False))
        cases Nat.beq t' t with
        | true =>
          refine Det.iff (F := fun h (K : AV → Heap → Prop) => ∃ o, ∃ es', h id = some (.mp t' es) ∧ ((keyB tb kt k ∧ isFlat v = true) ∧ findK k es o ∧ es' = updK k v es o) ∧ K .undef (h.put id (.mp t es'))) (Det.ex fun o => Det.ex fun es' => Det.putC (hC _) _) fun hp K => ⟨?_, ?_⟩
          · rintro ⟨o, es', h1, ⟨h2, h3, h4⟩, h5⟩
            exact ⟨h1, h2, o, h3, es', h4, h5⟩
          · rintro ⟨h1, h2, o, h3, es', h4, h5⟩
            exact ⟨o, es', h1, ⟨h2, h3, h4⟩, h5⟩
        | false => exact Det.no
      | _ => exact Det.no
    | _ => exact Det.false
  | _ => exact Det.false
theorem makeMapA_d {C : Blk → Bool} {d : Option Nat} (t : Nat) : Det C d (fun h K => makeMapA tb d t h K) := by
  unfold makeMapA
  cases (tb t).k with
  | map kt vt => exact Det.newB _ _ _
  | _ => exact Det.false
theorem evOp_d (o : Oper) (env : Nat → AV) : Det (clB (opClass o.op)) o.dst (fun h K => evOp tb R o env h K) := by
  obtain ⟨dst, op, type, pos, after, guard⟩ := o
  cases op with
  | move x => exact Det.ret _
  | assign x => exact Det.ret _
  | pick c a b => exact (pick_p _ _ _).r.det
  | alloc t => exact known_d (Det.newB _ _ _)
  | box t x => exact known_d (Det.and (Det.newB _ _ _))
  | build t ps => exact (buildA_p _ _).r.det
  | buildSlice t n ps => exact buildSlice_d (fun _ _ _ _ => rfl) _ _ _
  | makeSlice t n c => exact makeSlice_d _ _ _
  | load t a => exact (loadA_r t (rho env a)).det
  | store t a x => exact known_d (storeA_d (fun _ => rfl) _ _ _)
  | fieldAddr s x f => exact (fieldAddr_p _ _ _).r.det
  | field s x f => exact (field_p _ _ _).r.det
  | indexAddr t x i => exact (indexAddr_r t (rho env x) (rho env i)).det
  | index t x i => exact (index_p _ _ _).r.det
  | extract x i => exact (extract_p _ _).r.det
  | makeMap t r =>
    cases r with
    | none => exact makeMapA_d _
    | some x => exact Det.false
  | lookup t m k ok => exact (lookupA_r t (rho env m) (rho env k) ok).det
  | mapUpdate t m k v => exact mapUpdateA_d (fun _ => rfl) _ _ _ _
  | insert t m k v => exact mapUpdateA_d (fun _ => rfl) _ _ _ _
  | binOp b t x y z => exact (binA_p _ _ _ _).r.det
  | unOp u t x => exact (unA_p _ _).r.det
  | makeFunc f first caps =>
    cases f with
    | func f =>
      show Det _ dst (fun h (K : AV → Heap → Prop) => match first.toList with | [] => K (.fn f (mapR (rho env) caps.toList)) h | _ => False)
      cases first.toList with
      | nil => exact Det.ret _
      | cons a b => exact Det.false
    | _ => exact Det.false
  | call c =>
    obtain ⟨callee, args, argTypes⟩ := c
    cases callee with
    | value f => exact callF_d _ _
    | builtin b => exact builtinA_d b (fun e => by subst e; exact fun _ _ _ _ => rfl) _ _
    | invoke a b => exact Det.false
  | _ => exact Det.false
/-- an operation that leaves the memory alone, as a reading -/
theorem evOp_q (o : Oper) (env : Nat → AV) (hq : isQuiet o.op = true) : ∃ F : Heap → (AV → Prop) → Prop, RDet F ∧ ∀ h K, evOp tb R o env h K = F h (fun v => K v h) := by
  obtain ⟨dst, op, type, pos, after, guard⟩ := o
  cases op with
  | move x => exact ⟨_, (PDet.ret (fixNil tb type (rho env x))).r, fun _ _ => rfl⟩
  | assign x => exact ⟨_, (PDet.ret (fixNil tb type (rho env x))).r, fun _ _ => rfl⟩
  | pick c a b => exact ⟨_, (pick_p (rho env c) (rho env a) (rho env b)).r, fun _ _ => rfl⟩
  | build t ps => exact ⟨_, (buildA_p (tb := tb) t (mapR (fun p => (p.1, rho env p.2)) ps.toList)).r, fun _ _ => rfl⟩
  | load t a => exact ⟨_, loadA_r (tb := tb) t (rho env a), fun _ _ => rfl⟩
  | fieldAddr s x f => exact ⟨_, (fieldAddr_p (tb := tb) s f (rho env x)).r, fun _ _ => rfl⟩
  | field s x f => exact ⟨_, (field_p (tb := tb) s f (rho env x)).r, fun _ _ => rfl⟩
  | indexAddr t x i => exact ⟨_, indexAddr_r (tb := tb) t (rho env x) (rho env i), fun _ _ => rfl⟩
  | index t x i => exact ⟨_, (index_p (tb := tb) t (rho env x) (rho env i)).r, fun _ _ => rfl⟩
  | extract x i => exact ⟨_, (extract_p (rho env x) i).r, fun _ _ => rfl⟩
  | binOp b t x y z => exact ⟨_, (binA_p (tb := tb) b t (rho env x) (rho env y)).r, fun _ _ => rfl⟩
  | unOp u t x => exact ⟨_, (unA_p u (rho env x)).r, fun _ _ => rfl⟩
  | makeFunc f first caps =>
    cases f with
    | func f =>
      cases hf : first.toList with
      | nil => exact ⟨_, (PDet.ret (AV.fn f (mapR (rho env) caps.toList))).r, fun h K => by simp only [evOp, hf]⟩
      | cons a b => exact ⟨_, RDet.false, fun h K => by simp only [evOp, hf]⟩
    | _ => exact ⟨_, RDet.false, fun h K => rfl⟩
  | call c =>
    obtain ⟨callee, args, argTypes⟩ := c
    cases callee with
    | value f => cases hq
    | invoke a b => cases hq
    | builtin b =>
      have two : ∀ (G : AV → AV → (AV → Prop) → Prop), (∀ x y, PDet (G x y)) → (∀ x y h K, builtinA tb b dst argTypes.toList [x, y] h K = G x y fun v => K v h) → (∀ x h K, builtinA tb b dst argTypes.toList [x] h K = False) →
          ∃ F : Heap → (AV → Prop) → Prop, RDet F ∧ ∀ h K, builtinA tb b dst argTypes.toList (mapR (rho env) args.toList) h K = F h (fun v => K v h) := by
        intro G hG h2 h1
        match mapR (rho env) args.toList with
        | [] => exact ⟨_, RDet.false, fun h K => rfl⟩
        | [x] => exact ⟨_, RDet.false, fun h K => h1 x h K⟩
        | [x, y] => exact ⟨_, (hG x y).r, fun h K => h2 x y h K⟩
        | _ :: _ :: _ :: _ => exact ⟨_, RDet.false, fun h K => rfl⟩
      show ∃ F : Heap → (AV → Prop) → Prop, RDet F ∧ ∀ h K, builtinA tb b dst argTypes.toList (mapR (rho env) args.toList) h K = F h (fun v => K v h)
      cases b <;> first | cases hq | skip
      · match mapR (rho env) args.toList with
        | [] => exact ⟨_, RDet.false, fun h K => rfl⟩
        | [x] =>
          match argTypes.toList with
          | [] => exact ⟨_, RDet.false, fun h K => rfl⟩
          | [t] =>
            refine ⟨fun h K => lenOf tb t h x fun n => K (.int .i64 n), fun h K hK => ?_, fun h K => rfl⟩
            obtain ⟨v, h1, h2⟩ := lenOf_r t x h _ hK
            exact ⟨_, h1, fun h' K' hs hk => h2 h' _ hs hk⟩
          | _ :: _ :: _ => exact ⟨_, RDet.false, fun h K => rfl⟩
        | [x, y] => exact ⟨_, RDet.false, fun h K => rfl⟩
        | _ :: _ :: _ :: _ => exact ⟨_, RDet.false, fun h K => rfl⟩
      · first | exact two _ max2_p (fun _ _ _ _ => rfl) (fun _ _ _ => rfl) | exact two _ min2_p (fun _ _ _ _ => rfl) (fun _ _ _ => rfl)
      · first | exact two _ max2_p (fun _ _ _ _ => rfl) (fun _ _ _ => rfl) | exact two _ min2_p (fun _ _ _ _ => rfl) (fun _ _ _ => rfl)
  | _ => cases hq
/-- what an operation does hangs on its operands alone -/
theorem evOp_congr (o : Oper) {env env' : Nat → AV} (h : ∀ x ∈ o.op.operands, rho env x = rho env' x) (hp : Heap) (K : AV → Heap → Prop) : evOp tb R o env hp K = evOp tb R o env' hp K := by
  obtain ⟨dst, op, type, pos, after, guard⟩ := o
  have pairs : ∀ ps : Array (Nat × Operand), (∀ x ∈ ps.map (·.2), rho env x = rho env' x) → mapR (fun p : Nat × Operand => (p.1, rho env p.2)) ps.toList = mapR (fun p : Nat × Operand => (p.1, rho env' p.2)) ps.toList := fun ps hp => by
    rw [mapR_eq, mapR_eq]
    exact List.map_congr_left fun p hm => by rw [hp p.2 (Array.mem_map.2 ⟨p, by simpa using hm, rfl⟩)]
  have list : ∀ xs : Array Operand, (∀ x ∈ xs, rho env x = rho env' x) → mapR (rho env) xs.toList = mapR (rho env') xs.toList := fun xs hx => by
    rw [mapR_eq, mapR_eq]
    exact List.map_congr_left fun x hm => hx x (by simpa using hm)
  cases op <;> simp only [Op.operands] at h <;> simp only [evOp]
  case build t ps => rw [pairs ps fun x hx => h x (by simpa using hx)]
  case buildSlice t n ps => rw [pairs ps fun x hx => h x (by simpa using hx)]
  case makeMap t r => cases r <;> rfl
  case makeFunc f first caps =>
    cases f with
    | func f =>
      have := list caps fun x hx => h x (by simp [hx])
      simp only [this]
    | _ => rfl
  case call c =>
    obtain ⟨callee, args, argTypes⟩ := c
    have hargs := list args fun x hx => h x (by simp [Call.operands, hx])
    cases callee with
    | value f => have hf := h f (by simp [Call.operands]); simp only [hargs, hf]
    | builtin b => simp only [hargs]
    | invoke a b => rfl
  all_goals (first | rfl | (simp_all; done))
end
end Go.Ev
namespace Go.Ev
noncomputable section
set_option linter.unusedVariables false
set_option linter.unusedSimpArgs false

/-! regions without a fixed order: each operation is read in a memory from which the blocks that others may change or make are hidden -/
section
/-- what the guard says -/
def gd (ops : List Oper) (o : Oper) (env : Nat → AV) : Option Bool := match o.guard with
  | none => some true
  | some (j, want) => match (nth ops j).bind (·.dst) with
    | some d => match env d with
      | .bool b => some (b == want)
      | .undef => some false
      | _ => none
    | none => none
end
section
variable {P : Program} {tb : Nat → Ti} {R : Nat → List AV → AV → Prop} {ops : List Oper} {mk : Nat × List Nat} {o : Oper} {s : St} {K : St → Prop}
theorem maop_iff : maop tb R ops mk o s K ↔ (match gd ops o s.env with | some true => mev tb R mk o s.env s.heap (fun v h => K (St.put ⟨s.env, h⟩ o.dst v)) | some false => K (s.put o.dst .undef) | none => False) := by
  unfold maop gd
  cases o.guard with
  | none => exact Iff.rfl
  | some jw =>
    obtain ⟨j, want⟩ := jw
    cases hd : (nth ops j).bind (·.dst) with
    | none => simp only [hd]
    | some d =>
      simp only [hd]
      cases s.env d with
      | bool b => cases want <;> cases b <;> exact Iff.rfl
      | _ => exact Iff.rfl
theorem aop_iff : aop tb R ops o s K ↔ (match gd ops o s.env with | some true => evOp tb R o s.env s.heap (fun v h => K (St.put ⟨s.env, h⟩ o.dst v)) | some false => K (s.put o.dst .undef) | none => False) := by
  unfold aop gd
  cases o.guard with
  | none => exact Iff.rfl
  | some jw =>
    obtain ⟨j, want⟩ := jw
    cases hd : (nth ops j).bind (·.dst) with
    | none => simp only [hd]
    | some d =>
      simp only [hd]
      cases s.env d with
      | bool b => cases want <;> cases b <;> exact Iff.rfl
      | _ => exact Iff.rfl
theorem memN_cons (i t : Nat) (ts : List Nat) : memN i (t :: ts) = (bif Nat.beq i t then true else memN i ts) := rfl
theorem hideH_at (ts : List Nat) (h : Heap) (i : Nat) : hideH ts h i = bif memN i ts then none else h i := by cases ts <;> rfl
theorem backH_at (ts : List Nat) (h h' : Heap) (i : Nat) : backH ts h h' i = bif memN i ts then h i else h' i := by cases ts <;> rfl
theorem rows_sub (m : Nat) (h : Heap) : Sub (rowsH m h) h := by
  intro i b hb
  match m with
  | 0 => exact hb
  | 1 =>
    have hb : (match h i with | some (.row _ _ _ _) => none | b => b) = some b := hb
    split at hb
    · cases hb
    · exact hb
  | m + 2 => cases hb
theorem hide_sub (ts : List Nat) (h : Heap) : Sub (hideH ts h) h := by
  intro i b hb
  rw [hideH_at] at hb
  cases hm : memN i ts with
  | true => rw [hm] at hb; cases hb
  | false => rw [hm] at hb; exact hb
theorem Sub.trans {h1 h2 h3 : Heap} (a : Sub h1 h2) (b : Sub h2 h3) : Sub h1 h3 := fun i c hc => b i c (a i c hc)
theorem freeH_mem : ∀ {ts : List Nat} {h : Heap}, freeH ts h = true → ∀ i, memN i ts = true → h i = none
  | [], h, _, i, hi => by cases hi
  | t :: ts, h, hf, i, hi => by
    have hf : (match h t with | none => freeH ts h | some _ => false) = true := hf
    split at hf
    · rename_i ht
      rw [memN_cons] at hi
      cases hb : Nat.beq i t with
      | true => rw [Nat.eq_of_beq_eq_true hb]; exact ht
      | false => rw [hb] at hi; exact freeH_mem hf i hi
    · cases hf
theorem puts_at : ∀ (ps : List (Nat × Blk)) {h h' : Heap} {i : Nat}, h i = h' i → puts ps h i = puts ps h' i
  | [], h, h', i, e => e
  | p :: ps, h, h', i, e => puts_at ps (by show h.put p.1 p.2 i = h'.put p.1 p.2 i; rw [put_at, put_at, e])
theorem puts_key : ∀ {ps : List (Nat × Blk)} {h : Heap} {i : Nat}, puts ps h i = none → ∀ p ∈ ps, p.1 ≠ i
  | q :: ps, h, i, hn, p, hp, e => by
    rcases List.mem_cons.1 hp with rfl | hp
    · have : h.put p.1 p.2 i = none := puts_none (ps := ps) hn
      rw [put_at, if_pos e.symm] at this
      cases this
    · exact puts_key (ps := ps) (h := h.put q.1 q.2) hn p hp e
/-- the tags that an operation may use are none of the hidden -/
def tsOk (d : Option Nat) (ts : List Nat) : Bool := (List.range 16).all fun k => !memN (tag d k) ts
theorem tsOk_at {d : Option Nat} {ts : List Nat} (h : tsOk d ts = true) {k : Nat} (hk : k < 16) : memN (tag d k) ts = false := by
  have := List.all_eq_true.1 h k (List.mem_range.2 hk)
  simpa using this
theorem fr_hide {d : Option Nat} {ts : List Nat} (h : tsOk d ts = true) (hp : Heap) : Fr d (hideH ts hp) hp := fun k hk hn => by
  rw [hideH_at, tsOk_at h hk] at hn
  exact hn
/-- what may be told of the memory behind an operation -/
def Chg (C : Blk → Bool) (h h' : Heap) : Prop := ∀ id b, h id = some b → C b = false → h' id = some b
theorem mev_full (ht : tsOk o.dst mk.2 = true) {env : Nat → AV} {h : Heap} {K : AV → Heap → Prop} (hK : mev tb R mk o env h K) : evOp tb R o env h K := by
  unfold mev at hK
  split at hK
  · rename_i hq
    obtain ⟨F, hF, he⟩ := evOp_q (tb := tb) (R := R) o env hq
    rw [he] at hK
    obtain ⟨v, h1, h2⟩ := hF _ _ hK
    rw [he]
    exact h2 _ _ ((rows_sub _ _).trans (hide_sub _ _)) h1
  · obtain ⟨v, ps, h1, h2, h3⟩ := evOp_d (tb := tb) (R := R) o env _ _ hK
    refine h3 h K (hide_sub _ _) (fr_hide ht h) ?_
    split at h1
    · rename_i hf
      have : backH mk.2 h (puts ps (hideH mk.2 h)) = puts ps h := by
        funext i
        rw [backH_at]
        cases hm : memN i mk.2 with
        | true =>
          have := puts_key (freeH_mem hf i hm)
          exact (puts_other this).symm
        | false => exact puts_at ps (by rw [hideH_at, hm]; rfl)
      rw [this] at h1
      exact h1
    · exact h1.elim
theorem mev_chg {env : Nat → AV} {h : Heap} {K : AV → Heap → Prop} (hK : mev tb R mk o env h K) : mev tb R mk o env h (fun v h' => K v h' ∧ Chg (clB (opClass o.op)) h h') := by
  unfold mev at hK ⊢
  split at hK
  · rename_i hq
    obtain ⟨F, hF, he⟩ := evOp_q (tb := tb) (R := R) o env hq
    try simp only [hq]
    rw [he] at hK ⊢
    obtain ⟨v, h1, h2⟩ := hF _ _ hK
    exact h2 _ _ (fun _ _ h => h) ⟨h1, fun id b hb _ => hb⟩
  · rename_i hq
    try simp only [hq]
    obtain ⟨v, ps, h1, h2, h3⟩ := evOp_d (tb := tb) (R := R) o env _ _ hK
    refine h3 _ _ (fun _ _ h => h) (fun _ _ h => h) ?_
    split at h1
    · rename_i hf
      try simp only [hf]
      refine ⟨h1, fun id b hb hc => ?_⟩
      rw [backH_at]
      cases hm : memN id mk.2 with
      | true => exact hb
      | false =>
        have hb' : hideH mk.2 h id = some b := by rw [hideH_at, hm]; exact hb
        have : puts ps (hideH mk.2 h) id = hideH mk.2 h id := puts_other fun p hp e => by
          rcases h2 p hp with ⟨h, _⟩ | ⟨b', h, hc'⟩
          · rw [e, hb'] at h; cases h
          · rw [e, hb'] at h; cases h; rw [hc] at hc'; cases hc'
        exact this.trans hb'
    · exact h1.elim
theorem maop_aop (ht : tsOk o.dst mk.2 = true) (h : maop tb R ops mk o s K) : aop tb R ops o s K := by
  rw [maop_iff] at h
  rw [aop_iff]
  split at h
  · exact mev_full ht h
  · exact h
  · exact h
theorem mev_mono {env : Nat → AV} {h : Heap} {K K' : AV → Heap → Prop} (hi : ∀ v h, K v h → K' v h) (hK : mev tb R mk o env h K) : mev tb R mk o env h K' := by
  unfold mev at hK ⊢
  split at hK
  · rename_i hq
    obtain ⟨F, hF, he⟩ := evOp_q (tb := tb) (R := R) o env hq
    try simp only [hq]
    rw [he] at hK ⊢
    obtain ⟨v, h1, h2⟩ := hF _ _ hK
    exact h2 _ _ (fun _ _ h => h) (hi _ _ h1)
  · rename_i hq
    try simp only [hq]
    obtain ⟨v, ps, h1, h2, h3⟩ := evOp_d (tb := tb) (R := R) o env _ _ hK
    refine h3 _ _ (fun _ _ h => h) (fun _ _ h => h) ?_
    split at h1
    · rename_i hf; (try simp only [hf]); exact hi _ _ h1
    · exact h1.elim
theorem maop_mono {K' : St → Prop} (hi : ∀ s, K s → K' s) (h : maop tb R ops mk o s K) : maop tb R ops mk o s K' := by
  rw [maop_iff] at h ⊢
  split at h
  · rename_i hg; (try simp only [hg]); exact mev_mono (fun _ _ => hi _) h
  · rename_i hg; (try simp only [hg]); exact hi _ h
  · exact h.elim
theorem mev_congr {env env' : Nat → AV} (h : ∀ x ∈ o.op.operands, rho env x = rho env' x) (hp : Heap) (K : AV → Heap → Prop) : mev tb R mk o env hp K = mev tb R mk o env' hp K := by
  unfold mev
  split <;> exact evOp_congr o h _ _
end
end
end Go.Ev
namespace Go.Ev
noncomputable section
set_option linter.unusedVariables false
set_option linter.unusedSimpArgs false

/-! all orders of a region, on the plain side -/
section
variable (tb : Nat → Ti) (R : Nat → List AV → AV → Prop) (ops : Array Oper) (mk : Nat → Nat × List Nat)
def anyM (K : St → Prop) : Nat → Array Bool → St → Prop
  | 0, listed, s => Region.ready .any ops listed = [] ∧ K s
  | n + 1, listed, s => (Region.ready .any ops listed = [] → K s) ∧ ∀ i ∈ Region.ready .any ops listed, ∀ o, ops[i]? = some o → maop tb R ops.toList (mk i) o s (anyM K n (listed.setIfInBounds i true))
end
section
variable {P : Program} {tb : Nat → Ti} {R : Nat → List AV → AV → Prop} {ops : Array Oper} {mk : Nat → Nat × List Nat} {s : St} {K : St → Prop} {base n : Nat} {w0 : World} {a : Act} {w : World}
theorem anyM_sound (hT : TbOk P tb) (hR : Sound P tb R) (hd : ∀ i o, ops[i]? = some o → dstOk n o = true ∧ tsOk o.dst (mk i).2 = true) {Q : Exit → Act → World → Prop} (hN : ∀ s' a' w', K s' → Stands tb base w0 n s' a' w' → Q .normal a' w') :
    ∀ (fuel : Nat) (listed : Array Bool) (s : St) (a : Act) (w : World), anyM tb R ops mk K fuel listed s → Stands tb base w0 n s a w → wpAny P .any ops Q fuel listed a w
  | 0, listed, s, a, w, h, S => ⟨h.1, hN _ _ _ h.2 S⟩
  | fuel + 1, listed, s, a, w, h, S => by
    refine ⟨fun h0 => hN _ _ _ (h.1 h0) S, fun i hi => ?_⟩
    unfold wpOp
    split
    · rename_i ho
      obtain ⟨_, o, ho', _⟩ := mem_ready.1 hi
      rw [ho] at ho'; cases ho'
    · rename_i o ho
      have h1 := maop_aop (hd i o ho).2 (h.2 i hi o ho)
      have := aop_sound hT hR ops o (hd i o ho).1 S h1 (next := wpAny P .any ops Q fuel (listed.setIfInBounds i true)) (Q := Q) (fun s' a' w' hk hS => anyM_sound hT hR hd hN fuel _ s' a' w' hk hS)
      split
      · rename_i hw; rw [if_pos hw] at this; exact .inl this
      · rename_i hw; rw [if_neg hw] at this; exact this
def hasP (ops : Array Oper) (i : Nat) (D : List Nat) (j : Nat) : Bool := match ops[j]? with | some o => o.after.any (fun e => Region.binds .any e && (e.on == i || D.contains e.on)) | none => false
/-- who comes behind an operation for certain -/
def descL (ops : Array Oper) (i : Nat) : List Nat := (List.range ops.size).foldl (fun D j => if hasP ops i D j then D ++ [j] else D) []
def Closed (ops : Array Oper) (listed : Array Bool) : Prop := ∀ k o, ops[k]? = some o → listed.getD k false = true → ∀ e ∈ o.after, Region.binds .any e = true → listed.getD e.on false = true
theorem descL_spec {listed : Array Bool} (hc : Closed ops listed) {i j : Nat} (hj : j ∈ descL ops i) (hp : ∀ o, ops[j]? = some o → ∀ e ∈ o.after, Region.binds .any e = true → listed.getD e.on false = true) : listed.getD i false = true := by
  let P : List Nat → Prop := fun D => ∀ j ∈ D, (∀ o, ops[j]? = some o → ∀ e ∈ o.after, Region.binds .any e = true → listed.getD e.on false = true) → listed.getD i false = true
  have key : ∀ (l D : List Nat), P D → P (l.foldl (fun D j => if hasP ops i D j then D ++ [j] else D) D) := by
    intro l
    induction l with
    | nil => exact fun D h => h
    | cons a l ih =>
      intro D hD
      refine ih _ ?_
      simp only
      split
      · rename_i hh
        intro j hj hp
        rcases List.mem_append.1 hj with hj | hj
        · exact hD j hj hp
        · simp at hj
          subst hj
          cases ho : ops[j]? with
          | none => unfold hasP at hh; rw [ho] at hh; cases hh
          | some o =>
            unfold hasP at hh
            rw [ho] at hh
            obtain ⟨e, he, hb⟩ := Array.any_eq_true'.1 hh
            simp only [Bool.and_eq_true, Bool.or_eq_true, beq_iff_eq] at hb
            have hl := hp o ho e he hb.1
            rcases hb.2 with h2 | h2
            · rw [h2] at hl; exact hl
            · exact hD e.on (by simpa using h2) fun o' ho' e' he' hb' => hc e.on o' ho' hl e' he' hb'
      · exact hD
  exact key _ [] (fun j hj => by cases hj) j hj hp
theorem Closed.set {listed : Array Bool} (hc : Closed ops listed) {j : Nat} (hj : j ∈ Region.ready .any ops listed) : Closed ops (listed.setIfInBounds j true) := fun k o ho hk e he hb => by
  obtain ⟨h0, oj, hoj, hall⟩ := mem_ready.1 hj
  by_cases hkj : k = j
  · subst hkj
    rw [ho] at hoj; cases hoj
    exact getD_set_true (hall e he hb)
  · rw [getD_set_ne false (Ne.symm hkj)] at hk
    exact getD_set_true (hc k o ho hk e he hb)
theorem anyM_first {i : Nat} {oi : Oper} (e : St → St) (Y : St → Prop) (hi : ops[i]? = some oi) (hy : ∀ s N, Y s → N (e s) → maop tb R ops.toList (mk i) oi s N) :
    ∀ (fuel : Nat) (listed : Array Bool) (s : St),
      Closed ops listed → (∀ j oj, ops[j]? = some oj → j ≠ i → listed.getD j true = false → j ∉ descL ops i → ∀ s N, Y s → maop tb R ops.toList (mk j) oj (e s) N → maop tb R ops.toList (mk j) oj s (fun s' => Y s' ∧ N (e s'))) →
      i ∈ Region.ready .any ops listed → Y s → anyM tb R ops mk K fuel (listed.setIfInBounds i true) (e s) → anyM tb R ops mk K (fuel + 1) listed s := by
  intro fuel
  induction fuel with
  | zero =>
    intro listed s _ _ hr hY H
    refine ⟨fun h => (by rw [h] at hr; cases hr), fun j hj o ho => ?_⟩
    by_cases hji : j = i
    · subst hji; rw [hi] at ho; cases ho; exact hy _ _ hY H
    · have := ready_mono hj hji
      rw [H.1] at this
      cases this
  | succ fuel ih =>
    intro listed s hcl hfree hr hY H
    refine ⟨fun h => (by rw [h] at hr; cases hr), fun j hj oj hoj => ?_⟩
    by_cases hji : j = i
    · subst hji; rw [hi] at hoj; cases hoj; exact hy _ _ hY H
    · have h1 := H.2 j (ready_mono hj hji) oj hoj
      obtain ⟨hjun, oj', hoj', hall⟩ := mem_ready.1 hj
      rw [hoj] at hoj'; cases hoj'
      have hnot : j ∉ descL ops i := fun hd => by
        have h1 := descL_spec hcl hd (fun o ho e he hb => by rw [hoj] at ho; cases ho; exact hall e he hb)
        have h0 := (mem_ready.1 hr).1
        rcases Nat.lt_or_ge i listed.size with h' | h'
        · simp [h'] at h0 h1; rw [h0] at h1; cases h1
        · simp [Array.getElem?_eq_none h'] at h1
      have h2 := hfree j oj hoj hji hjun hnot s _ hY h1
      have hfree' : ∀ k ok, ops[k]? = some ok → k ≠ i → (listed.setIfInBounds j true).getD k true = false → k ∉ descL ops i →
          ∀ s N, Y s → maop tb R ops.toList (mk k) ok (e s) N → maop tb R ops.toList (mk k) ok s (fun s' => Y s' ∧ N (e s')) := fun k ok hk hki hun hno => by
        refine hfree k ok hk hki ?_ hno
        by_cases hjk : j = k
        · subst hjk; exact hjun
        · rw [getD_set_ne true hjk] at hun; exact hun
      refine maop_mono (fun s' h3 => ?_) h2
      refine ih (listed.setIfInBounds j true) s' (hcl.set hj) hfree' (ready_mono hr (Ne.symm hji)) h3.1 ?_
      rw [Array.setIfInBounds_comm _ _ hji]
      exact h3.2
/-! two operations that do not touch each other's temporaries -/
theorem rho_put {env : Nat → AV} {d : Option Nat} {v : AV} {x : Operand} {h : Heap} (hx : ∀ t, d = some t → x ≠ .tmp t) : rho (St.put ⟨env, h⟩ d v).env x = rho env x := by
  cases d with
  | none => rfl
  | some t =>
    cases x with
    | tmp u =>
      have : u ≠ t := fun e => hx t rfl (e ▸ rfl)
      show (bif Nat.beq u t then v else env u) = env u
      rw [beq_ne this]; rfl
    | _ => rfl
theorem looks_op {o : Oper} {d : Option Nat} (h : ∀ t, d = some t → t ∉ o.looksAt ops) : ∀ x ∈ o.op.operands, ∀ t, d = some t → x ≠ .tmp t := fun x hx t ht e => h t ht (by
  subst e
  exact List.mem_append_left _ (List.mem_filterMap.2 ⟨.tmp t, by simpa using hx, rfl⟩))
theorem gd_put {o : Oper} {env : Nat → AV} {d : Option Nat} {v : AV} {h : Heap} (hl : ∀ t, d = some t → t ∉ o.looksAt ops) : gd ops.toList o (St.put ⟨env, h⟩ d v).env = gd ops.toList o env := by
  cases d with
  | none => rfl
  | some t =>
    unfold gd
    cases hg : o.guard with
    | none => rfl
    | some jw =>
      obtain ⟨g, want⟩ := jw
      simp only [nth_eq]
      cases hu : ((ops.toList)[g]?).bind (·.dst) with
      | none => rfl
      | some u =>
        have hu' : (ops[g]?).bind (·.dst) = some u := by simpa using hu
        have hne : u ≠ t := fun e => hl t rfl (by subst e; simp [Oper.looksAt, hg, hu'])
        have : (St.put ⟨env, h⟩ (some t) v).env u = env u := by
          show (bif Nat.beq u t then v else env u) = env u
          rw [beq_ne hne]; rfl
        simp only [this]
theorem st_put_comm (s : St) {x y : Option Nat} (v u : AV) (h : ∀ d, x = some d → y ≠ some d) : (s.put x v).put y u = (s.put y u).put x v := by
  cases x with
  | none => cases y <;> rfl
  | some d =>
    cases y with
    | none => rfl
    | some e =>
      have hne : d ≠ e := fun he => h d rfl (he ▸ rfl)
      show St.mk _ _ = St.mk _ _
      congr 1
      funext i
      show (bif Nat.beq i e then u else (bif Nat.beq i d then v else s.env i)) = (bif Nat.beq i d then v else (bif Nat.beq i e then u else s.env i))
      cases h1 : Nat.beq i e <;> cases h2 : Nat.beq i d <;> try rfl
      exact absurd ((Nat.eq_of_beq_eq_true h2).symm.trans (Nat.eq_of_beq_eq_true h1)) hne
theorem put_heap (s : St) (d : Option Nat) (v : AV) : (s.put d v).heap = s.heap := by cases d <;> rfl
theorem put_swap (s : St) (h : Heap) (x y : Option Nat) (v u : AV) (hxy : ∀ d, x = some d → y ≠ some d) : St.put ⟨(s.put x v).env, h⟩ y u = (St.put ⟨s.env, h⟩ y u).put x v := by
  have : (⟨(s.put x v).env, h⟩ : St) = St.put ⟨s.env, h⟩ x v := by cases x <;> rfl
  rw [this]
  exact st_put_comm _ v u hxy
/-- a quiet operation gives v -/
def Yd (tb : Nat → Ti) (R : Nat → List AV → AV → Prop) (ops : List Oper) (mk : Nat × List Nat) (o : Oper) (v : AV) (s : St) : Prop :=
  (gd ops o s.env = some true ∧ ∀ K : AV → Prop, K v → evOp tb R o s.env (rowsH mk.1 (hideH mk.2 s.heap)) fun v _ => K v) ∨ (gd ops o s.env = some false ∧ v = .undef)
theorem Yd.maop {mk : Nat × List Nat} {o : Oper} {v : AV} (hq : isQuiet o.op = true) (h : Yd tb R ops.toList mk o v s) {N : St → Prop} (hN : N (s.put o.dst v)) : maop tb R ops.toList mk o s N := by
  rw [maop_iff]
  rcases h with ⟨hg, h⟩ | ⟨hg, rfl⟩
  · simp only [hg]
    unfold mev
    simp only [hq]
    exact h (fun v => N (St.put ⟨s.env, s.heap⟩ o.dst v)) hN
  · simp only [hg]; exact hN
theorem Yd.of {mk : Nat × List Nat} {o : Oper} (hq : isQuiet o.op = true) {N : St → Prop} (h : Ev.maop tb R ops.toList mk o s N) : ∃ v, Yd tb R ops.toList mk o v s ∧ N (s.put o.dst v) := by
  rw [maop_iff] at h
  split at h
  · rename_i hg
    unfold mev at h
    simp only [hq] at h
    obtain ⟨F, hF, he⟩ := evOp_q (tb := tb) (R := R) o s.env hq
    rw [he] at h
    obtain ⟨v, h1, h2⟩ := hF _ _ h
    exact ⟨v, .inl ⟨hg, fun K hk => by rw [he]; exact h2 _ _ (fun _ _ h => h) hk⟩, h1⟩
  · rename_i hg; exact ⟨_, .inr ⟨hg, rfl⟩, h⟩
  · exact h.elim
theorem sub_masks {m : Nat} {ts : List Nat} {c : Nat} (hm : c ≤ m) {h h' : Heap} (hc : Chg (clB c) h h') : Sub (rowsH m (hideH ts h)) (rowsH m (hideH ts h')) := by
  intro i b hb
  match m, c with
  | 0, 0 =>
    have hb : hideH ts h i = some b := hb
    show hideH ts h' i = some b
    rw [hideH_at] at hb ⊢
    cases hm : memN i ts with
    | true => rw [hm] at hb; cases hb
    | false => rw [hm] at hb; exact hc i b hb rfl
  | 0, c + 1 => omega
  | m + 2, _ => cases hb
  | 1, c =>
    have hb : (match hideH ts h i with | some (.row _ _ _ _) => none | b => b) = some b := hb
    show (match hideH ts h' i with | some (.row _ _ _ _) => none | b => b) = some b
    rw [hideH_at] at hb ⊢
    cases hm' : memN i ts with
    | true => rw [hm'] at hb; cases hb
    | false =>
      rw [hm'] at hb
      have hb : (match h i with | some (.row _ _ _ _) => none | b => b) = some b := hb
      have key : h i = some b ∧ isRow b = false := by
        cases hh : h i with
        | none => rw [hh] at hb; cases hb
        | some b0 => rw [hh] at hb; cases b0 <;> first | (cases hb; done) | (cases hb; exact ⟨rfl, rfl⟩)
      have hcl : clB c b = false := by
        match c with
        | 0 => rfl
        | 1 => exact key.2
        | c + 2 => omega
      have := hc i b key.1 hcl
      show (match h' i with | some (.row _ _ _ _) => none | b => b) = some b
      rw [this]
      cases b <;> first | rfl | (cases key.2; done)
theorem quiet_comm {i j : Nat} {oi oj : Oper} {v : AV} (hq : isQuiet oi.op = true) (hap : oi.apart ops oj = true) (hm : opClass oj.op ≤ (mk i).1) {N : St → Prop} (hY : Yd tb R ops.toList (mk i) oi v s) (h : maop tb R ops.toList (mk j) oj (s.put oi.dst v) N) :
    maop tb R ops.toList (mk j) oj s (fun s' => Yd tb R ops.toList (mk i) oi v s' ∧ N (s'.put oi.dst v)) := by
  obtain ⟨h1, h2, h3⟩ := Oper.apart_spec hap
  have keep : ∀ (h' : Heap) (u : AV), Chg (clB (opClass oj.op)) s.heap h' → Yd tb R ops.toList (mk i) oi v (St.put ⟨s.env, h'⟩ oj.dst u) := by
    intro h' u hc
    have hg : gd ops.toList oi (St.put ⟨s.env, h'⟩ oj.dst u).env = gd ops.toList oi s.env := gd_put h3
    rcases hY with ⟨g, hy⟩ | ⟨g, e⟩
    · refine .inl ⟨hg.trans g, fun K hk => ?_⟩
      rw [evOp_congr oi (env' := s.env) (fun x hx => rho_put (looks_op h3 x hx)), put_heap]
      obtain ⟨F, hF, he⟩ := evOp_q (tb := tb) (R := R) oi s.env hq
      have hy' := hy (fun u => u = v) rfl
      rw [he] at hy' ⊢
      obtain ⟨v', e1, e2⟩ := hF _ _ hy'
      subst e1
      exact e2 _ _ (sub_masks hm hc) hk
    · exact .inr ⟨hg.trans g, e⟩
  rw [maop_iff] at h ⊢
  have hgj : gd ops.toList oj (s.put oi.dst v).env = gd ops.toList oj s.env := gd_put (h := s.heap) h1
  rw [hgj] at h
  split at h
  · rename_i hg
    try simp only [hg]
    rw [mev_congr (env' := s.env) (fun x hx => rho_put (h := s.heap) (looks_op h1 x hx)), put_heap] at h
    refine mev_mono (fun u h' hh => ?_) (mev_chg h)
    refine ⟨keep h' u hh.2, ?_⟩
    rw [← put_swap s h' oi.dst oj.dst v u h2]
    exact hh.1
  · rename_i hg
    try simp only [hg]
    refine ⟨keep s.heap .undef (fun _ _ h _ => h), ?_⟩
    rw [← put_swap s s.heap oi.dst oj.dst v .undef h2]
    cases hd : oi.dst <;> rw [hd] at h <;> exact h
  · exact h.elim
end
end
end Go.Ev
namespace Go.Ev
noncomputable section
set_option linter.unusedVariables false
set_option linter.unusedSimpArgs false

section
variable {P : Program} {tb : Nat → Ti} {R : Nat → List AV → AV → Prop} {ops : Array Oper} {mk : Nat → Nat × List Nat} {s : St} {K : St → Prop} {base n : Nat} {w0 : World} {a : Act} {w : World}
theorem freeH_of : ∀ {ts : List Nat} {h : Heap}, (∀ i, memN i ts = true → h i = none) → freeH ts h = true
  | [], h, _ => rfl
  | t :: ts, h, hh => by
    show (match h t with | none => freeH ts h | some _ => false) = true
    rw [hh t (by rw [memN_cons, Nat.beq_refl]; rfl)]
    exact freeH_of fun i hi => hh i (by rw [memN_cons, hi]; cases Nat.beq i t <;> rfl)
/-- the effect of a new variable -/
def alE (tb : Nat → Ti) (d : Option Nat) (t : Nat) (s : St) : St := St.put ⟨s.env, s.heap.put (tag d 0) (.box t (tb t).zero)⟩ d (.ptr (tag d 0) 0)
def alY (tb : Nat → Ti) (d : Option Nat) (t : Nat) (s : St) : Prop := s.heap (tag d 0) = none ∧ (tb t).sz ≠ 0
theorem gd_none {l : List Oper} {o : Oper} {env : Nat → AV} (h : o.guard = none) : gd l o env = some true := by unfold gd; rw [h]
theorem known_iff' {ti : Ti} {A : Prop} : known ti A ↔ ti.sz ≠ 0 ∧ A := by
  unfold known
  split
  · rename_i h; exact ⟨fun h => h.elim, fun h' => h'.1 h⟩
  · rename_i h; exact ⟨fun h' => ⟨by omega, h'⟩, fun h' => h'.2⟩
theorem back_alloc {ts : List Nat} {h : Heap} {t : Nat} {b : Blk} (ht : memN t ts = false) : backH ts h ((hideH ts h).put t b) = h.put t b := by
  funext i
  rw [backH_at, put_at, put_at, hideH_at]
  cases hm : memN i ts with
  | true =>
    have : i ≠ t := fun e => by rw [e, ht] at hm; cases hm
    show h i = if i = t then some b else h i
    rw [if_neg this]
  | false => rfl
theorem alloc_of {i : Nat} {o : Oper} {t : Nat} (ho : o.op = .alloc t) (hg : o.guard = none) (ht : tsOk o.dst (mk i).2 = true) {N : St → Prop} : maop tb R ops.toList (mk i) o s N ↔ alY tb o.dst t s ∧ N (alE tb o.dst t s) := by
  have ht0 := tsOk_at ht (k := 0) (by omega)
  rw [maop_iff, gd_none hg]
  simp only
  unfold mev
  have hq : isQuiet o.op = false := by rw [ho]; rfl
  simp only [hq]
  have he : ∀ K : AV → Heap → Prop, evOp tb R o s.env (hideH (mk i).2 s.heap) K ↔ known (tb t) (newB o.dst 0 (.box t (tb t).zero) (hideH (mk i).2 s.heap) K (.ptr (tag o.dst 0) 0)) := fun K => by unfold evOp; rw [ho]
  rw [he, known_iff']
  have hh : hideH (mk i).2 s.heap (tag o.dst 0) = s.heap (tag o.dst 0) := by rw [hideH_at, ht0]; rfl
  have hf : freeH (mk i).2 ((hideH (mk i).2 s.heap).put (tag o.dst 0) (.box t (tb t).zero)) = true := freeH_of fun j hj => by
    rw [put_at, hideH_at, hj, if_neg (fun e => by rw [e, ht0] at hj; cases hj)]; rfl
  unfold alY
  constructor
  · rintro ⟨h1, h2⟩
    obtain ⟨h3, h4⟩ := newB_inv h2
    rw [hf] at h4
    rw [hh] at h3
    rw [back_alloc ht0] at h4
    exact ⟨⟨h3, h1⟩, h4⟩
  · rintro ⟨⟨h1, h2⟩, h3⟩
    refine ⟨h2, ?_⟩
    unfold newB
    rw [← hh] at h1
    simp only [h1, show Nat.blt 0 16 = true from rfl, hf]
    rw [back_alloc ht0]
    exact h3
theorem mev_hid {mkj : Nat × List Nat} {o : Oper} {env : Nat → AV} {h : Heap} {t : Nat} {b : Blk} (hn : h t = none) (ht : memN t mkj.2 = true) {K : AV → Heap → Prop} (hK : mev tb R mkj o env (h.put t b) K) :
    mev tb R mkj o env h (fun v h' => h' t = none ∧ K v (h'.put t b)) := by
  have hh : hideH mkj.2 (h.put t b) = hideH mkj.2 h := by
    funext i
    rw [hideH_at, hideH_at, put_at]
    by_cases e : i = t
    · subst e; rw [ht]; rfl
    · rw [if_neg e]
  unfold mev at hK ⊢
  rw [hh] at hK
  split at hK
  · rename_i hq
    obtain ⟨F, hF, he⟩ := evOp_q (tb := tb) (R := R) o env hq
    try simp only [hq]
    rw [he] at hK ⊢
    obtain ⟨v, h1, h2⟩ := hF _ _ hK
    exact h2 _ _ (fun _ _ h => h) ⟨hn, h1⟩
  · rename_i hq
    try simp only [hq]
    obtain ⟨v, ps, h1, h2, h3⟩ := evOp_d (tb := tb) (R := R) o env _ _ hK
    refine h3 _ _ (fun _ _ h => h) (fun _ _ h => h) ?_
    split at h1
    · rename_i hf
      try simp only [hf]
      refine ⟨by rw [backH_at, ht]; exact hn, ?_⟩
      have : backH mkj.2 (h.put t b) (puts ps (hideH mkj.2 h)) = (backH mkj.2 h (puts ps (hideH mkj.2 h))).put t b := by
        funext i
        rw [backH_at, put_at, put_at, backH_at]
        by_cases e : i = t
        · subst e; rw [ht, if_pos rfl, if_pos rfl]; rfl
        · rw [if_neg e, if_neg e]
      rw [this] at h1
      exact h1
    · exact h1.elim
theorem alloc_comm {j : Nat} {d : Option Nat} {t : Nat} {oi oj : Oper} (hd : oi.dst = d) (hap : oi.apart ops oj = true) (ht : memN (tag d 0) (mk j).2 = true) {N : St → Prop} (hY : alY tb d t s) (h : maop tb R ops.toList (mk j) oj (alE tb d t s) N) :
    maop tb R ops.toList (mk j) oj s (fun s' => alY tb d t s' ∧ N (alE tb d t s')) := by
  obtain ⟨h1, h2, h3⟩ := Oper.apart_spec hap
  rw [hd] at h1 h2
  rw [maop_iff] at h ⊢
  have hg : gd ops.toList oj (alE tb d t s).env = gd ops.toList oj s.env := gd_put h1
  have hh : (alE tb d t s).heap = s.heap.put (tag d 0) (.box t (tb t).zero) := put_heap _ _ _
  have hswap : ∀ (h' : Heap) (u : AV), St.put ⟨(alE tb d t s).env, h'.put (tag d 0) (.box t (tb t).zero)⟩ oj.dst u = alE tb d t (St.put ⟨s.env, h'⟩ oj.dst u) := fun h' u => by
    have e1 := put_swap ⟨s.env, s.heap.put (tag d 0) (.box t (tb t).zero)⟩ (h'.put (tag d 0) (.box t (tb t).zero)) d oj.dst (.ptr (tag d 0) 0) u h2
    refine e1.trans ?_
    unfold alE
    rw [put_heap]
    congr 1
    cases oj.dst <;> rfl
  rw [hg] at h
  split at h
  · rename_i hgj
    try simp only [hgj]
    have hc : ∀ x ∈ oj.op.operands, rho (alE tb d t s).env x = rho s.env x := fun x hx => rho_put (looks_op h1 x hx)
    rw [mev_congr hc, hh] at h
    refine mev_mono (fun u h' hk => ?_) (mev_hid hY.1 ht h)
    refine ⟨⟨by rw [put_heap]; exact hk.1, hY.2⟩, ?_⟩
    rw [← hswap]
    exact hk.2
  · rename_i hgj
    try simp only [hgj]
    refine ⟨⟨by rw [put_heap]; exact hY.1, hY.2⟩, ?_⟩
    have := hswap s.heap .undef
    rw [← hh] at this
    have e2 : (⟨(alE tb d t s).env, (alE tb d t s).heap⟩ : St) = alE tb d t s := rfl
    rw [e2] at this
    have e3 : St.put ⟨s.env, s.heap⟩ oj.dst .undef = s.put oj.dst .undef := rfl
    rw [e3] at this
    rw [← this]
    exact h
  · exact h.elim
end
end
end Go.Ev
namespace Go.Ev
noncomputable section
set_option linter.unusedVariables false
set_option linter.unusedSimpArgs false

/-! an order of a region that stands for all: the look at it -/
def isAlloc (o : Oper) : Option Nat := match o.op with
  | .alloc t => (match o.guard with | none => some t | some _ => none)
  | _ => none
def commB (ops : Array Oper) (mk : Nat → Nat × List Nat) (i : Nat) (oi : Oper) (j : Nat) (oj : Oper) : Bool := oi.apart ops oj && (if isQuiet oi.op then Nat.ble (opClass oj.op) (mk i).1 else (isAlloc oi).isSome && memN (tag oi.dst 0) (mk j).2)
def firstL (ops : Array Oper) (mk : Nat → Nat × List Nat) (listed : Array Bool) (i : Nat) (oi : Oper) (D : List Nat) : Bool := (List.range ops.size).all fun j => j == i || listed.getD j true || D.contains j || match ops[j]? with
  | some oj => commB ops mk i oi j oj
  | none => true
def firstB (ops : Array Oper) (mk : Nat → Nat × List Nat) (listed : Array Bool) (i : Nat) (oi : Oper) : Bool := firstL ops mk listed i oi (descL ops i)
def ordB (ops : Array Oper) (mk : Nat → Nat × List Nat) : Nat → Array Bool → List Nat → Ord → Bool
  | _, _, rs, .done => rs.isEmpty
  | n + 1, listed, rs, .step i next => (match ops[i]? with
    | some oi => (rs == [i] || (rs == Region.ready .any ops listed && rs.contains i && (isQuiet oi.op || (isAlloc oi).isSome) && firstB ops mk listed i oi))
    | none => false) && ordB ops mk n (listed.setIfInBounds i true) (Region.ready .any ops (listed.setIfInBounds i true)) next
  | n + 1, listed, rs, .alt i a b => (rs.contains i && (ops[i]?).isSome) && ordB ops mk n (listed.setIfInBounds i true) (Region.ready .any ops (listed.setIfInBounds i true)) a && ordB ops mk (n + 1) listed (rs.erase i) b
  | 0, _, _, _ => false
def drawOk (ops : Array Oper) (d : Dr) : Bool := ((List.range ops.size).all fun i => match ops[i]? with | some o => tsOk o.dst (mkOf d.ms i).2 | none => true) && ordB ops (mkOf d.ms) ops.size (Array.replicate ops.size false) (Region.ready .any ops (Array.replicate ops.size false)) d.ord
section
variable {P : Program} {tb : Nat → Ti} {R : Nat → List AV → AV → Prop} {ops : Array Oper} {mk : Nat → Nat × List Nat} {s : St} {K : St → Prop} {base n : Nat} {w0 : World} {a : Act} {w : World}
theorem firstB_spec {i : Nat} {oi : Oper} {listed : Array Bool} (h : firstB ops mk listed i oi = true) (j : Nat) (oj : Oper) (hj : ops[j]? = some oj) (hne : j ≠ i) (hun : listed.getD j true = false)
    (hno : j ∉ descL ops i) : commB ops mk i oi j oj = true := by
  simp only [firstB, firstL, List.all_eq_true, List.mem_range] at h
  have h1 := h j (Array.getElem?_eq_some_iff.1 hj).1
  simp only [hj, Bool.or_eq_true, beq_iff_eq, hne, false_or, hun, Bool.false_eq_true, List.contains_iff_mem, hno] at h1
  exact h1
theorem isAlloc_spec {o : Oper} {t : Nat} (h : isAlloc o = some t) : o.op = .alloc t ∧ o.guard = none := by
  unfold isAlloc at h
  split at h
  · rename_i t' ho
    split at h
    · rename_i hg; cases h; exact ⟨ho, hg⟩
    · cases h
  · cases h
theorem anyM_step {i : Nat} {oi : Oper} {listed : Array Bool} {fuel : Nat} (hcl : Closed ops listed) (hts : tsOk oi.dst (mk i).2 = true) (hi : ops[i]? = some oi) (hr : i ∈ Region.ready .any ops listed) (hq : (isQuiet oi.op || (isAlloc oi).isSome) = true) (hf : firstB ops mk listed i oi = true)
    (h : maop tb R ops.toList (mk i) oi s (anyM tb R ops mk K fuel (listed.setIfInBounds i true))) : anyM tb R ops mk K (fuel + 1) listed s := by
  cases hqi : isQuiet oi.op with
  | true =>
    obtain ⟨v, hY, hN⟩ := Yd.of hqi h
    refine anyM_first (fun s => s.put oi.dst v) (Yd tb R ops.toList (mk i) oi v) hi (fun s N hY hN => hY.maop hqi hN) fuel listed s hcl (fun j oj hoj hji hun hno s N hY hh => ?_) hr hY hN
    have hc := firstB_spec hf j oj hoj hji hun hno
    unfold commB at hc
    rw [hqi] at hc
    simp only [Bool.and_eq_true, if_true] at hc
    exact quiet_comm hqi hc.1 (Nat.le_of_ble_eq_true hc.2) hY hh
  | false =>
    rw [hqi] at hq
    simp only [Bool.false_or] at hq
    obtain ⟨t, ht⟩ := Option.isSome_iff_exists.1 hq
    obtain ⟨ho, hg⟩ := isAlloc_spec ht
    obtain ⟨hY, hN⟩ := (alloc_of ho hg hts).1 h
    refine anyM_first (alE tb oi.dst t) (alY tb oi.dst t) hi (fun s N hY hN => (alloc_of ho hg hts).2 ⟨hY, hN⟩) fuel listed s hcl (fun j oj hoj hji hun hno s N hY hh => ?_) hr hY hN
    have hc := firstB_spec hf j oj hoj hji hun hno
    unfold commB at hc
    rw [hqi] at hc
    simp only [Bool.and_eq_true, Bool.false_eq_true, if_false] at hc
    exact alloc_comm rfl hc.1 hc.2.2 hY hh
theorem ord_sound (hts : ∀ (i : Nat) (o : Oper), ops[i]? = some o → tsOk o.dst (mk i).2 = true) : ∀ (ord : Ord) (n : Nat) (listed : Array Bool) (rs : List Nat) (s : St), ordB ops mk n listed rs ord = true → Closed ops listed → (∀ i ∈ rs, i ∈ Region.ready .any ops listed) → drawE tb R ops.toList mk ord s K →
    (∀ i ∈ rs, ∀ o, ops[i]? = some o → ∃ m, n = m + 1 ∧ maop tb R ops.toList (mk i) o s (anyM tb R ops mk K m (listed.setIfInBounds i true))) ∧ (rs = Region.ready .any ops listed → anyM tb R ops mk K n listed s) := by
  intro ord
  induction ord with
  | done =>
    intro n listed rs s hb hcl hrs hK
    have hb : rs.isEmpty = true := by cases n <;> exact hb
    have : rs = [] := List.isEmpty_iff.1 hb
    subst this
    refine ⟨fun i hi => (by cases hi), fun hr => ?_⟩
    cases n with
    | zero => exact ⟨hr.symm, hK⟩
    | succ n => exact ⟨fun _ => hK, fun i hi => by rw [← hr] at hi; cases hi⟩
  | step i next ih =>
    intro n listed rs s hb hcl hrs hK
    cases n with
    | zero => cases hb
    | succ n =>
      simp only [ordB, Bool.and_eq_true] at hb
      obtain ⟨hb1, hb2⟩ := hb
      cases hi : ops[i]? with
      | none => rw [hi] at hb1; cases hb1
      | some oi =>
        rw [hi] at hb1
        have hK' : (match nth ops.toList i with | some o => maop tb R ops.toList (mk i) o s (fun s => drawE tb R ops.toList mk next s K) | none => False) := hK
        rw [nth_eq, show ops.toList[i]? = some oi by simpa using hi] at hK'
        have hmem : i ∈ Region.ready .any ops listed := by
          simp only [Bool.or_eq_true, Bool.and_eq_true, beq_iff_eq] at hb1
          rcases hb1 with hb1 | hb1
          · exact hrs i (by rw [hb1]; simp)
          · exact hrs i (by simpa using hb1.1.1.2)
        have hM : maop tb R ops.toList (mk i) oi s (anyM tb R ops mk K n (listed.setIfInBounds i true)) := maop_mono (fun s' h' => (ih n _ _ s' hb2 (hcl.set hmem) (fun _ h => h) h').2 rfl) hK'
        simp only [Bool.or_eq_true, Bool.and_eq_true, beq_iff_eq] at hb1
        rcases hb1 with hb1 | ⟨⟨⟨hb1, hb3⟩, hb4⟩, hb5⟩
        · subst hb1
          have h1 : ∀ j ∈ [i], ∀ o, ops[j]? = some o → ∃ m, n + 1 = m + 1 ∧ maop tb R ops.toList (mk j) o s (anyM tb R ops mk K m (listed.setIfInBounds j true)) := fun j hj o ho => by
            simp at hj; subst hj
            rw [hi] at ho; cases ho
            exact ⟨n, rfl, hM⟩
          refine ⟨h1, fun hr => ⟨fun h0 => (by rw [h0] at hr; cases hr), fun j hj o ho => ?_⟩⟩
          obtain ⟨m, e, hm⟩ := h1 j (by rw [hr]; exact hj) o ho
          cases e
          exact hm
        · have hall := anyM_step hcl (hts i oi hi) hi hmem (by simpa using hb4) hb5 hM
          refine ⟨fun j hj o ho => ⟨n, rfl, hall.2 j (hrs j hj) o ho⟩, fun _ => hall⟩
  | alt i x y ihx ihy =>
    intro n listed rs s hb hcl hrs hK
    cases n with
    | zero => cases hb
    | succ n =>
      simp only [ordB, Bool.and_eq_true] at hb
      obtain ⟨⟨⟨hb1, hb0⟩, hb2⟩, hb3⟩ := hb
      obtain ⟨oi, hi⟩ := Option.isSome_iff_exists.1 hb0
      have hK' : (match nth ops.toList i with | some o => maop tb R ops.toList (mk i) o s (fun s => drawE tb R ops.toList mk x s K) | none => False) ∧ drawE tb R ops.toList mk y s K := hK
      rw [nth_eq, show ops.toList[i]? = some oi by simpa using hi] at hK'
      have hM : maop tb R ops.toList (mk i) oi s (anyM tb R ops mk K n (listed.setIfInBounds i true)) := maop_mono (fun s' h' => (ihx n _ _ s' hb2 (hcl.set (hrs i (by simpa using hb1))) (fun _ h => h) h').2 rfl) hK'.1
      have h2 := (ihy (n + 1) listed (rs.erase i) s hb3 hcl (fun j hj => hrs j (List.mem_of_mem_erase hj)) hK'.2).1
      have h1 : ∀ j ∈ rs, ∀ o, ops[j]? = some o → ∃ m, n + 1 = m + 1 ∧ maop tb R ops.toList (mk j) o s (anyM tb R ops mk K m (listed.setIfInBounds j true)) := fun j hj o ho => by
        by_cases hji : j = i
        · subst hji; rw [hi] at ho; cases ho; exact ⟨n, rfl, hM⟩
        · exact h2 j ((List.mem_erase_of_ne hji).2 hj) o ho
      refine ⟨h1, fun hr => ⟨fun h0 => (by rw [h0] at hr; rw [hr] at hb1; cases hb1), fun j hj o ho => ?_⟩⟩
      obtain ⟨m, e, hm⟩ := h1 j (by rw [hr]; exact hj) o ho
      cases e
      exact hm
theorem Stands.drew (S : Stands tb base w0 n s a w) (w' : World) (h1 : w'.os = w.os) (h2 : w'.tape = w.tape) (h3 : w'.output = w.output) (h4 : w'.heap = w.heap) : Stands tb base w0 n s a w' := by
  obtain ⟨hv, L, X, S⟩ := S
  obtain ⟨S', _⟩ := Sim.after (env := s.env) (h := s.heap) S (w' := w') ⟨h1, h2, h3, by rw [h4]; exact Nat.le_refl _, fun k _ => by rw [h4]⟩ (F := []) (fun g hg => by cases hg)
  exact ⟨_, _, _, S'⟩
theorem draw_sound (hT : TbOk P tb) (hR : Sound P tb R) (hm : P.follows .mixedOrders = true) {d : Dr} {id : Nat} (hd : ∀ (i : Nat) (o : Oper), ops[i]? = some o → dstOk n o = true) (hok : drawOk ops d = true) {Q : Exit → Act → World → Prop} (hN : ∀ s' a' w', K s' → Stands tb base w0 n s' a' w' → Q .normal a' w')
    (S : Stands tb base w0 n s a w) (hK : drawE tb R ops.toList (mkOf d.ms) d.ord s K) : (Code.region id ops true).wp P Q a w := by
  unfold drawOk at hok
  simp only [Bool.and_eq_true] at hok
  have hts : ∀ (i : Nat) (o : Oper), ops[i]? = some o → tsOk o.dst (mkOf d.ms i).2 = true := fun i o ho => by
    have := List.all_eq_true.1 hok.1 i (List.mem_range.2 (Array.getElem?_eq_some_iff.1 ho).1)
    rw [ho] at this
    exact this
  refine wp_region_any hm (anyM_sound hT hR (mk := mkOf d.ms) (K := K) (ops := ops) (fun i o ho => ⟨hd i o ho, hts i o ho⟩) hN _ _ s a _ ?_ (S.drew _ rfl rfl rfl rfl))
  exact (ord_sound hts d.ord _ _ _ s hok.2 (fun k o ho hk => by simp only [Array.getD_eq_getD_getElem?, Array.getElem?_replicate] at hk; split at hk <;> cases hk) (fun _ h => h) hK).2 rfl
end
end
end Go.Ev
namespace Go.Ev
set_option linter.unusedVariables false
set_option linter.unusedSimpArgs false
open Go.RowKit

section
variable {P : Program} {tb : Nat → Ti} {R : Nat → List AV → AV → Prop} {base n : Nat} {w0 : World} {s : St} {a : Act} {w : World} {hv : Nat → Value} {L : Nat → Option Lb} {X : Nat → Prop}
/-- what is asked of a code ahead: every temporary is one of the frame's -/
noncomputable def codeOk (dr : Nat → Dr) (n : Nat) : Code → Bool
  | .region id ops draw => ops.toList.all (dstOk n) && (!draw || drawOk ops (dr id))
  | .seq x y => codeOk dr n x && codeOk dr n y
  | .cond _ x y => codeOk dr n x && codeOk dr n y
  | .block _ x => codeOk dr n x
  | .loop x => codeOk dr n x
  | .skip => true
  | .exit _ => true
  | .ret => true
  | _ => false
theorem awp_sound (hT : TbOk P tb) (hR : Sound P tb R) (lv : Nat → List Nat) (dr : Nat → Dr) (hm : P.follows .mixedOrders = true) : ∀ (c : Code), codeOk dr n c = true → ∀ (b : Nat) (Q : Exit → St → Prop) (Q' : Exit → Act → World → Prop) (s : St) (a : Act) (w : World), QOk tb base w0 n Q Q' → Stands tb base w0 n s a w → awp tb R lv dr c b Q s → c.wp P Q' a w := by
  intro c
  induction c with
  | skip => intro _ b Q Q' s a w hQ S hK; exact Go.wp_skip (hQ _ _ _ _ hK S)
  | region id ops draw =>
    intro hc b Q Q' s a w hQ S hK
    have hc' : (ops.toList.all (dstOk n) && (!draw || drawOk ops (dr id))) = true := hc
    simp only [Bool.and_eq_true] at hc'
    obtain ⟨h1, h2⟩ := hc'
    cases draw with
    | false => exact wp_region_list (aops_sound hT hR ops (fun s' a' w' hk hS => hQ _ _ _ _ hk hS) ops.toList (fun o ho => List.all_eq_true.1 h1 o ho) s a w S hK)
    | true => exact draw_sound hT hR hm (fun i o ho => List.all_eq_true.1 h1 o (List.mem_of_getElem? (by simpa using ho))) h2 (fun s' a' w' hk hS => hQ _ _ _ _ hk hS) S hK
  | seq x y ihx ihy =>
    intro hc b Q Q' s a w hQ S hK
    have hc' : (codeOk dr n x && codeOk dr n y) = true := hc
    simp only [Bool.and_eq_true] at hc'
    refine wp_seq (ihx hc'.1 b _ _ s a w (fun e s a w hq hS => ?_) S hK)
    cases e with
    | normal => exact ihy hc'.2 b Q Q' s a w hQ hS hq
    | exit i => exact hQ _ _ _ _ hq hS
    | goto i => exact hQ _ _ _ _ hq hS
    | ret => exact hQ _ _ _ _ hq hS
    | panic i => exact hQ _ _ _ _ hq hS
    | outgrown => exact hQ _ _ _ _ hq hS
  | cond c x y ihx ihy =>
    intro hc b Q Q' s a w hQ S hK
    have hc' : (codeOk dr n x && codeOk dr n y) = true := hc
    simp only [Bool.and_eq_true] at hc'
    have hK' : condA (Ev.rho s.env c) (awp tb R lv dr x b Q s) (awp tb R lv dr y b Q s) := hK
    unfold condA at hK'
    split at hK'
    · rename_i v hv
      obtain ⟨hv', L, X, S'⟩ := id S
      obtain ⟨F, r⟩ := Sim.rho (env := s.env) (h := s.heap) S' c
      rw [hv] at r
      refine wp_cond r.bool_inv ?_
      cases v
      · exact ihy hc'.2 b Q Q' s a w hQ S hK'
      · exact ihx hc'.1 b Q Q' s a w hQ S hK'
    · exact hK'.elim
  | block id x ih =>
    intro hc b Q Q' s a w hQ S hK
    refine wp_block (ih hc id _ _ s a w (fun e s a w hq hS => ?_) S hK)
    cases e with
    | exit j =>
      have hq' : (match Nat.beq j id with | true => Q .normal s | false => Q (.exit j) s) := hq
      show if j = id then Q' .normal a w else Q' (.exit j) a w
      split at hq'
      · rename_i hb; rw [if_pos (Nat.eq_of_beq_eq_true hb)]; exact hQ _ _ _ _ hq' hS
      · rename_i hb; rw [if_neg (fun e => by rw [e, Nat.beq_refl] at hb; cases hb)]; exact hQ _ _ _ _ hq' hS
    | normal => exact hQ _ _ _ _ hq hS
    | goto i => exact hQ _ _ _ _ hq hS
    | ret => exact hQ _ _ _ _ hq hS
    | panic i => exact hQ _ _ _ _ hq hS
    | outgrown => exact hQ _ _ _ _ hq hS
  | loop x ih =>
    intro hc b Q Q' s a w hQ S hK
    obtain ⟨k, hk⟩ : ∃ k, LoopN tb (fun Q' s' => awp tb R lv dr x b Q' s') (lv b) Q k (Ev.canon tb (lv b) s) := hK
    let p : Act → World → Nat → Prop := fun a w k => ∃ s, LoopN tb (fun Q' s' => awp tb R lv dr x b Q' s') (lv b) Q k s ∧ Stands tb base w0 n s a w
    refine wp_loop (fun a w => ∃ k, p a w k) (fun a w => leastOf (p a w)) ⟨k, _, hk, S.canon _⟩ ?_
    intro a w hex
    obtain ⟨s1, h1, S1⟩ := leastOf_spec hex
    have hpos : ∃ m, leastOf (p a w) = m + 1 := by
      cases hm : leastOf (p a w) with
      | zero => rw [hm] at h1; exact h1.elim
      | succ m => exact ⟨m, rfl⟩
    obtain ⟨m, hm⟩ := hpos
    rw [hm] at h1 ⊢
    have h1' : awp tb R lv dr x b (seqQ (fun s' => LoopN tb (fun Q' s' => awp tb R lv dr x b Q' s') (lv b) Q m (Ev.canon tb (lv b) s')) Q) s1 := h1
    refine ih hc b _ _ s1 a w (fun e s a w hq hS => ?_) S1 h1'
    cases e with
    | normal =>
      have hq' : LoopN tb (fun Q' s' => awp tb R lv dr x b Q' s') (lv b) Q m (Ev.canon tb (lv b) s) := hq
      exact ⟨⟨m, _, hq', hS.canon _⟩, Nat.lt_succ_of_le (leastOf_le ⟨_, hq', hS.canon _⟩)⟩
    | exit i => exact hQ _ _ _ _ hq hS
    | goto i => exact hQ _ _ _ _ hq hS
    | ret => exact hQ _ _ _ _ hq hS
    | panic i => exact hQ _ _ _ _ hq hS
    | outgrown => exact hQ _ _ _ _ hq hS
  | exit id => intro _ b Q Q' s a w hQ S hK; exact wp_exit (hQ _ _ _ _ hK S)
  | ret => intro _ b Q Q' s a w hQ S hK; exact wp_ret (hQ _ _ _ _ hK S)
  | rangeFunc f ps x y ihx ihy => intro hc; cases hc
  | scope x ih => intro hc; cases hc
  | label l => intro hc; cases hc
  | goto l => intro hc; cases hc
  | refuse y => intro hc; cases hc
end
end Go.Ev
namespace Go.Ev
set_option linter.unusedVariables false
set_option linter.unusedSimpArgs false
open Go.RowKit

section
variable {P : Program} {tb : Nat → Ti} {R : Nat → List AV → AV → Prop}
/-- at the call the state is the arguments -/
theorem Sim.start {args : List AV} {vs : Array Value} {w : World} {n : Nat} (hl : vs.size = args.length) (hn : vs.size ≤ n)
    (hr : ∀ (j : Nat) (a : AV) (u : Value), args[j]? = some a → vs[j]? = some u → ∃ F, Rel tb noLeaf (Below0 w) w a u F) :
    Stands tb w.heap.size w n (St0 args) { tmps := vs ++ Array.replicate (n - vs.size) undef, defers := [] } w := by
  refine ⟨fun _ => .nilFunc, fun _ => none, fun _ => False, Below.refl _ _, Nat.le_refl _, rfl, (by simp; omega), fun t => ?_, fun id b h => (by cases h), fun id g h => (by cases h), fun _ _ => rfl, fun g h => h.elim⟩
  show ∃ F, Rel tb _ _ w ((nth args t).getD .junk) _ F
  rw [nth_eq]
  cases ha : args[t]? with
  | none => exact ⟨[], .junk _⟩
  | some a =>
    have ht : t < args.length := by
      rcases Nat.lt_or_ge t args.length with h | h
      · exact h
      · rw [List.getElem?_eq_none h] at ha; cases ha
    have hu : vs[t]? = some (vs[t]'(by omega)) := Array.getElem?_eq_getElem (by omega)
    obtain ⟨F, r⟩ := hr t a _ ha hu
    refine ⟨F, ?_⟩
    have : (vs ++ Array.replicate (n - vs.size) undef).getD t undef = vs[t]'(by omega) := by
      rw [Array.getD_eq_getD_getElem?, Array.getElem?_append_left (by omega), hu]
      rfl
    show Rel tb _ _ w a ((vs ++ Array.replicate (n - vs.size) undef).getD t undef) F
    rw [this]
    exact r.imp (fun _ _ h => h.elim) (fun g hg => ⟨hg, fun id e => (by cases e), fun h => h⟩) (fun _ _ => rfl)
/-! laws: the rows that are handed to them stand for themselves, so that they may be looked at when other rows have changed -/
def ids1x (v : AV) : List Nat := match v with | .xr id => [id] | _ => []
noncomputable def idsX (vs : List AV) : List Nat := @List.rec AV (fun _ => List Nat) [] (fun v _ ih => ids1x v ++ ih) vs
noncomputable def exH (ex : List (Nat × List AV)) : Heap := fun i => match Nat.ble 16 i with
  | true => (match nth ex (i - 16) with | some p => some (.ext p.1 p.2) | none => none)
  | false => none
noncomputable def unx1 (ex : List (Nat × List AV)) (v : AV) : AV := match v with
  | .xr id => (match exH ex id with | some (.ext n cs) => .lit n cs | _ => .junk)
  | v => v
noncomputable def unx (ex : List (Nat × List AV)) (v : AV) : AV := match v with
  | .agg cs => .agg (mapR (unx1 ex) cs)
  | v => unx1 ex v
noncomputable def St1 (as : List AV) (ex : List (Nat × List AV)) : St := ⟨fun i => (nth as i).getD .junk, exH ex⟩
noncomputable def LawBody (tb : Nat → Ti) (R : Nat → List AV → AV → Prop) (lv : Nat → List Nat) (dr : Nat → Dr) (fn : Func) (as : List AV) (ex : List (Nat × List AV)) (r : AV) : Prop :=
  match fn.body with
  | some c => awp tb R lv dr c 0 (bodyQ fn tb r) (St1 as ex)
  | none => False
theorem exH_ext {ex : List (Nat × List AV)} {i : Nat} {b : Blk} (h : exH ex i = some b) : ∃ n cs, b = .ext n cs := by
  unfold exH at h
  split at h
  · split at h
    · injection h with h; exact ⟨_, _, h.symm⟩
    · cases h
  · cases h
theorem idsX_mem : ∀ {vs : List AV} {id : Nat}, id ∈ idsX vs ↔ .xr id ∈ vs
  | [], id => by simp [idsX]
  | v :: vs, id => by
    show id ∈ ids1x v ++ idsX vs ↔ _
    rw [List.mem_append, List.mem_cons, idsX_mem]
    refine ⟨fun h => h.imp (fun h => ?_) (fun h => h), fun h => h.imp (fun h => ?_) (fun h => h)⟩
    · cases v <;> simp [ids1x] at h <;> rw [h]
    · rw [← h]; simp [ids1x]
theorem idsX_uniq : ∀ {vs : List AV}, distinct (idsX vs) = true → ∀ {p q id : Nat}, vs[p]? = some (.xr id) → vs[q]? = some (.xr id) → p = q
  | [], _, p, q, id, hp, _ => by simp at hp
  | v :: vs, hd, p, q, id, hp, hq => by
    obtain ⟨d1, d2, d3⟩ := distinct_append (show distinct (ids1x v ++ idsX vs) = true from hd)
    have hmem : ∀ {r : Nat}, vs[r]? = some (.xr id) → id ∈ idsX vs := fun h => idsX_mem.2 (List.mem_of_getElem? h)
    cases p with
    | zero =>
      cases q with
      | zero => rfl
      | succ q =>
        simp at hp hq
        subst hp
        exact absurd (hmem hq) (d3 id (by simp [ids1x]))
    | succ p =>
      cases q with
      | zero =>
        simp at hp hq
        subst hq
        exact absurd (hmem hp) (d3 id (by simp [ids1x]))
      | succ q =>
        simp at hp hq
        rw [idsX_uniq d2 hp hq]
noncomputable def okX1 (ex : List (Nat × List AV)) (v : AV) : Bool := match v with
  | .int _ _ => true
  | .bool _ => true
  | .str _ => true
  | .xr id => (match exH ex id with | some _ => true | none => false)
  | _ => false
noncomputable def okX (ex : List (Nat × List AV)) (v : AV) : Bool := match v with
  | .agg cs => allB (okX1 ex) cs
  | v => okX1 ex v
noncomputable def usedX (l : List Nat) (ex : List (Nat × List AV)) : Nat → Bool := @List.rec (Nat × List AV) (fun _ => Nat → Bool) (fun _ => true) (fun _ _ ih k => bif inL k l then ih (k + 1) else false) ex
theorem usedX_at {l : List Nat} : ∀ {ex : List (Nat × List AV)} {k : Nat}, usedX l ex k = true → ∀ i, i < ex.length → k + i ∈ l
  | [], k, _, i, hi => by simp at hi
  | p :: ex, k, hu, i, hi => by
    have hu' : (bif inL k l then usedX l ex (k + 1) else false) = true := hu
    cases hk : inL k l with
    | false => rw [hk] at hu'; cases hu'
    | true =>
      rw [hk] at hu'
      cases i with
      | zero => exact inL_iff.1 hk
      | succ i =>
        have := usedX_at hu' i (by simpa using hi)
        rwa [show k + 1 + i = k + (i + 1) by omega] at this
theorem okX1_cases {ex : List (Nat × List AV)} {v : AV} (h : okX1 ex v = true) : (∃ k i, v = .int k i) ∨ (∃ b, v = .bool b) ∨ (∃ s, v = .str s) ∨ ∃ id m cs, v = .xr id ∧ exH ex id = some (.ext m cs) := by
  cases v with
  | int k i => exact .inl ⟨k, i, rfl⟩
  | bool b => exact .inr (.inl ⟨b, rfl⟩)
  | str s => exact .inr (.inr (.inl ⟨s, rfl⟩))
  | xr id =>
    simp only [okX1] at h
    split at h
    · rename_i b hb
      obtain ⟨m, cs, rfl⟩ := exH_ext hb
      exact .inr (.inr (.inr ⟨id, m, cs, rfl, hb⟩))
    · cases h
  | _ => simp [okX1] at h
/-- leaves of arguments and of their values lie side by side -/
theorem leaf_at {tb : Nat → Ti} {w : World} {ex : List (Nat × List AV)} : ∀ (as : List AV) (vs : List Value), vs.length = as.length → allB (okX ex) as = true →
    (∀ (j : Nat) (a : AV) (u : Value), as[j]? = some a → vs[j]? = some u → ∃ F, Rel tb noLeaf (Below0 w) w (unx ex a) u F) →
    ((leavesV vs).length = (leaves as).length ∧ ∀ (p : Nat) (c : AV) (x : Value), (leaves as)[p]? = some c → (leavesV vs)[p]? = some x → okX1 ex c = true ∧ ∃ F, Rel tb noLeaf (Below0 w) w (unx1 ex c) x F) ∧
    ∀ (j : Nat) (a : AV) (u : Value), as[j]? = some a → vs[j]? = some u → (∃ (cs : List AV) (us : List Value), a = .agg cs ∧ u = .agg us.toArray ∧ us.length = cs.length ∧ (∀ u ∈ us, u.oneCell' = true) ∧ ∀ (i : Nat) (c : AV) (x : Value), cs[i]? = some c → us[i]? = some x → ∃ p : Nat, (leaves as)[p]? = some c ∧ (leavesV vs)[p]? = some x) ∨ (∃ p : Nat, (leaves as)[p]? = some a ∧ (leavesV vs)[p]? = some u)
  | [], [], _, _, _ => ⟨⟨rfl, fun p c x hc => by simp [leaves] at hc⟩, fun j a u ha => by simp at ha⟩
  | b :: as, y :: vs, hl, hok, hr => by
    have e1 : leaves (b :: as) = cellsOf b ++ leaves as := rfl
    have e2 : leavesV (y :: vs) = y.cells.toList ++ leavesV vs := rfl
    obtain ⟨o1, o2⟩ := allB_hd hok
    obtain ⟨⟨p1, p2⟩, p3⟩ := leaf_at as vs (by simpa using hl) o2 (fun j a u ha hu => hr (j + 1) a u (by simpa using ha) (by simpa using hu))
    obtain ⟨F0, r0⟩ := hr 0 b y rfl rfl
    rw [e1, e2]
    -- the first argument
    have first : (y.cells.toList.length = (cellsOf b).length ∧ ∀ (p : Nat) (c : AV) (x : Value), (cellsOf b)[p]? = some c → y.cells.toList[p]? = some x → okX1 ex c = true ∧ ∃ F, Rel tb noLeaf (Below0 w) w (unx1 ex c) x F) ∧
        ((∃ (cs : List AV) (us : List Value), b = .agg cs ∧ y = .agg us.toArray ∧ us.length = cs.length ∧ ∀ u ∈ us, u.oneCell' = true) ∨ (cellsOf b = [b] ∧ y.cells.toList = [y])) := by
      have single : okX1 ex b = true → cellsOf b = [b] → unx ex b = unx1 ex b → (y.cells.toList.length = (cellsOf b).length ∧ ∀ (p : Nat) (c : AV) (x : Value), (cellsOf b)[p]? = some c → y.cells.toList[p]? = some x → okX1 ex c = true ∧ ∃ F, Rel tb noLeaf (Below0 w) w (unx1 ex c) x F) ∧
        ((∃ (cs : List AV) (us : List Value), b = .agg cs ∧ y = .agg us.toArray ∧ us.length = cs.length ∧ ∀ u ∈ us, u.oneCell' = true) ∨ (cellsOf b = [b] ∧ y.cells.toList = [y])) := by
        intro h1 h2 h3
        have hy : y.cells.toList = [y] := by
          rw [h3] at r0
          rcases okX1_cases h1 with ⟨k, i, rfl⟩ | ⟨c, rfl⟩ | ⟨s, rfl⟩ | ⟨id, m, cs, rfl, hid⟩
          · cases r0 with | int => rfl | leaf h => exact h.elim
          · cases r0 with | bool => rfl | leaf h => exact h.elim
          · cases r0 with | str => rfl | leaf h => exact h.elim
          · simp only [unx1, hid] at r0
            cases r0 with | lit => rfl | leaf h => exact h.elim
        refine ⟨⟨by rw [hy, h2]; rfl, fun p c x hc hx => ?_⟩, .inr ⟨h2, hy⟩⟩
        rw [h2] at hc
        rw [hy] at hx
        cases p with
        | zero => simp at hc hx; subst hc hx; exact ⟨h1, F0, h3 ▸ r0⟩
        | succ p => simp at hc
      cases b with
      | agg cs =>
        have r0 : Rel tb noLeaf (Below0 w) w (.agg (mapR (unx1 ex) cs)) y F0 := r0
        rw [mapR_eq] at r0
        cases r0 with
        | leaf h => exact h.elim
        | agg _ us Fs F hl3 hone hr2 hF hN =>
          rw [List.length_map] at hl3
          refine ⟨⟨by simpa [Value.cells, cellsOf] using hl3, fun p c x hc hx => ?_⟩, .inl ⟨cs, us, rfl, rfl, hl3, hone⟩⟩
          have hc : cs[p]? = some c := hc
          have hx : us[p]? = some x := by simpa [Value.cells] using hx
          exact ⟨allB_at o1 c (List.mem_of_getElem? hc), _, hr2 p _ x (by rw [List.getElem?_map, hc]; rfl) hx⟩
      | int k i => exact single rfl rfl rfl
      | bool c => exact single rfl rfl rfl
      | str s => exact single rfl rfl rfl
      | xr id => exact single o1 rfl rfl
      | _ => exact absurd o1 (by simp [okX, okX1])
    obtain ⟨⟨f1, f2⟩, f3⟩ := first
    refine ⟨⟨by rw [List.length_append, List.length_append, f1, p1], fun p c x hc hx => ?_⟩, fun j a u ha hu => ?_⟩
    · by_cases hj : p < (cellsOf b).length
      · rw [List.getElem?_append_left hj] at hc
        rw [List.getElem?_append_left (by omega)] at hx
        exact f2 p c x hc hx
      · rw [List.getElem?_append_right (by omega)] at hc
        rw [List.getElem?_append_right (by omega), f1] at hx
        exact p2 _ c x hc hx
    · cases j with
      | zero =>
        simp at ha hu
        subst ha hu
        have front : ∀ (i : Nat) (c : AV) (x : Value), (cellsOf b)[i]? = some c → y.cells.toList[i]? = some x → ∃ p : Nat, (cellsOf b ++ leaves as)[p]? = some c ∧ (y.cells.toList ++ leavesV vs)[p]? = some x := fun i c x hc hx =>
          ⟨i, by rw [List.getElem?_append_left (List.getElem?_eq_some_iff.1 hc).1]; exact hc, by rw [List.getElem?_append_left (List.getElem?_eq_some_iff.1 hx).1]; exact hx⟩
        rcases f3 with ⟨cs, us, rfl, rfl, h1, h2⟩ | ⟨h1, h2⟩
        · exact .inl ⟨cs, us, rfl, rfl, h1, h2, fun i c x hc hx => front i c x hc (by simpa [Value.cells] using hx)⟩
        · exact .inr (front 0 b y (by rw [h1]; rfl) (by rw [h2]; rfl))
      | succ j =>
        have back : ∀ {c : AV} {x : Value}, (∃ p : Nat, (leaves as)[p]? = some c ∧ (leavesV vs)[p]? = some x) → ∃ p : Nat, (cellsOf b ++ leaves as)[p]? = some c ∧ (y.cells.toList ++ leavesV vs)[p]? = some x := fun ⟨p, h1, h2⟩ =>
          ⟨(cellsOf b).length + p, by rw [List.getElem?_append_right (by omega)]; simpa using h1, by rw [List.getElem?_append_right (by omega), f1]; simpa using h2⟩
        rcases p3 j a u (by simpa using ha) (by simpa using hu) with ⟨cs, us, h1, h2, h3, h4, h5⟩ | h1
        · exact .inl ⟨cs, us, h1, h2, h3, h4, fun i c x hc hx => back (h5 i c x hc hx)⟩
        · exact .inr (back h1)
  | [], _ :: _, h, _, _ => by simp at h
  | _ :: _, [], h, _, _ => by simp at h
open Classical in
theorem Sim.start1 {tb : Nat → Ti} {as : List AV} {ex : List (Nat × List AV)} {vs : Array Value} {w : World} {n : Nat} (hd : distinct (idsX (leaves as)) = true) (hok : allB (okX ex) as = true) (hus : usedX (idsX (leaves as)) ex 16 = true) (hl : vs.size = as.length) (hn : vs.size ≤ n)
    (hr : ∀ (j : Nat) (a : AV) (u : Value), (mapR (unx ex) as)[j]? = some a → vs[j]? = some u → ∃ F, Rel tb noLeaf (Below0 w) w a u F) :
    Stands tb w.heap.size w n (St1 as ex) { tmps := vs ++ Array.replicate (n - vs.size) undef, defers := [] } w := by
  have hr' : ∀ (j : Nat) (a : AV) (u : Value), as[j]? = some a → vs.toList[j]? = some u → ∃ F, Rel tb noLeaf (Below0 w) w (unx ex a) u F := fun j a u ha hu => hr j _ u (by rw [mapR_eq, List.getElem?_map, ha]; rfl) (by simpa using hu)
  obtain ⟨⟨q1, q2⟩, q3⟩ := leaf_at as vs.toList (by simpa using hl) hok hr'
  let hv : Nat → Value := fun id => if hh : ∃ (v : Value) (p : Nat), (leaves as)[p]? = some (.xr id) ∧ (leavesV vs.toList)[p]? = some v then .tuple #[Classical.choose hh] else .nilFunc
  have hvb : ∀ id, blkOf (hv id) = none := fun id => by
    simp only [hv]
    split <;> rfl
  have hvx : ∀ (p id : Nat) (v : Value), (leaves as)[p]? = some (.xr id) → (leavesV vs.toList)[p]? = some v → hv id = .tuple #[v] := fun p id v hp hv0 => by
    have hh : ∃ (v : Value) (p : Nat), (leaves as)[p]? = some (.xr id) ∧ (leavesV vs.toList)[p]? = some v := ⟨v, p, hp, hv0⟩
    simp only [hv, dif_pos hh]
    obtain ⟨p', hs1, h2⟩ := Classical.choose_spec hh
    have e := idsX_uniq hd hs1 hp
    rw [e, hv0] at h2
    injection h2 with h2
    rw [← h2]
  have okA : ∀ g, Below0 w g → Ok hv w (fun _ => False) g := fun g hg => ⟨hg, fun id (e : blkOf (hv id) = some g) => (by rw [hvb id] at e; cases e), fun h => h⟩
  -- a leaf
  have one : ∀ (p : Nat) (c : AV) (x : Value), (leaves as)[p]? = some c → (leavesV vs.toList)[p]? = some x → ∃ F, VRel tb (exH ex) hv (fun _ => False) w c x F := fun p c x hc hx => by
    obtain ⟨h1, F, r⟩ := q2 p c x hc hx
    rcases okX1_cases h1 with ⟨k, i, rfl⟩ | ⟨b, rfl⟩ | ⟨s, rfl⟩ | ⟨id, m, cs, rfl, hid⟩
    · exact ⟨F, r.imp (fun _ _ h => h.elim) okA (fun _ _ => rfl)⟩
    · exact ⟨F, r.imp (fun _ _ h => h.elim) okA (fun _ _ => rfl)⟩
    · exact ⟨F, r.imp (fun _ _ h => h.elim) okA (fun _ _ => rfl)⟩
    · refine ⟨[], .leaf ⟨m, cs, hid, hvx p id x hc hx, ?_⟩⟩
      simp only [unx1, hid] at r
      cases r with | lit => rfl | leaf h => exact h.elim
  refine ⟨hv, fun _ => none, fun _ => False, Below.refl _ _, Nat.le_refl _, rfl, (by simp; omega), fun t => ?_, fun id b hb => ?_, fun id g hg => (by rw [hvb id] at hg; cases hg), fun id _ => hvb id, fun g h => h.elim⟩
  · show ∃ F, Rel tb _ _ w ((nth as t).getD .junk) _ F
    rw [nth_eq]
    cases ha : as[t]? with
    | none => exact ⟨[], .junk _⟩
    | some a =>
      have ht : t < as.length := by
        rcases Nat.lt_or_ge t as.length with h | h
        · exact h
        · rw [List.getElem?_eq_none h] at ha; cases ha
      have hu : vs[t]? = some (vs[t]'(by omega)) := Array.getElem?_eq_getElem (by omega)
      have : (vs ++ Array.replicate (n - vs.size) undef).getD t undef = vs[t]'(by omega) := by
        rw [Array.getD_eq_getD_getElem?, Array.getElem?_append_left (by omega), hu]
        rfl
      show ∃ F, Rel tb _ _ w a ((vs ++ Array.replicate (n - vs.size) undef).getD t undef) F
      rw [this]
      rcases q3 t a (vs[t]'(by omega)) ha (by rw [Array.getElem?_toList]; exact hu) with ⟨cs, us, rfl, h2, h3, h4, h5⟩ | ⟨p, h1, h2⟩
      · rw [h2]
        have key : ∀ (i : Nat) (c : AV) (x : Value), cs[i]? = some c → us[i]? = some x → ∃ F, VRel tb (exH ex) hv (fun _ => False) w c x F := fun i c x hc hx => by
          obtain ⟨p, h6, h7⟩ := h5 i c x hc hx
          exact one p c x h6 h7
        have key2 : ∀ (i : Nat) (c : AV) (x : Value), cs[i]? = some c → us[i]? = some x → VRel tb (exH ex) hv (fun _ => False) w c x [] := fun i c x hc hx => by
          obtain ⟨p, h6, h7⟩ := h5 i c x hc hx
          obtain ⟨F, r⟩ := one p c x h6 h7
          rcases okX1_cases (q2 p c x h6 h7).1 with ⟨k, i, rfl⟩ | ⟨b, rfl⟩ | ⟨s, rfl⟩ | ⟨id, m, cs, rfl, hid⟩
          · have := r.int_inv; subst this; exact .int _ _
          · have := r.bool_inv; subst this; exact .bool _
          · have := r.str_inv; subst this; exact .str _
          · cases r with | leaf h => exact .leaf h
        exact ⟨_, .agg cs us (fun _ => []) _ h3 h4 key2 rfl (by rw [flatMap_nil]; exact List.nodup_nil)⟩
      · exact one p a _ h1 h2
  · have hb : exH ex id = some b := hb
    obtain ⟨m, cs, rfl⟩ := exH_ext hb
    have hmem : id ∈ idsX (leaves as) := by
      unfold exH at hb
      split at hb
      · rename_i h16
        have h16 := Nat.le_of_ble_eq_true h16
        split at hb
        · rename_i p hp
          rw [nth_eq] at hp
          have := usedX_at hus (id - 16) (List.getElem?_eq_some_iff.1 hp).1
          rwa [show 16 + (id - 16) = id by omega] at this
        · cases hb
      · cases hb
    obtain ⟨p, hp⟩ := List.mem_iff_getElem?.1 (idsX_mem.1 hmem)
    have hlt : p < (leavesV vs.toList).length := by rw [q1]; exact (List.getElem?_eq_some_iff.1 hp).1
    have hx : (leavesV vs.toList)[p]? = some ((leavesV vs.toList)[p]) := List.getElem?_eq_getElem hlt
    obtain ⟨_, F, r⟩ := q2 p _ _ hp hx
    simp only [unx1, hb] at r
    refine ⟨_, hvx p id _ hp hx, ?_⟩
    generalize (leavesV vs.toList)[p] = x at r ⊢
    cases r with
    | leaf h => exact h.elim
    | lit n cap cs Ad us Fs hn hz hl hc hA h1 hr => exact .lit m cap cs Ad us Fs hn hz hl hc hA h1 hr
/-- the plain reading of a function is its contract -/
theorem contract_of (hT : TbOk P tb) (hR : Sound P tb R) (lv : Nat → List Nat) (dr : Nat → Dr) (hm : P.follows .mixedOrders = true) {f : Nat} {fn : Func} {c : Code} (hf : P.funcs[f]? = some fn) (hb : fn.body = some c) (hc : codeOk dr fn.ntmps c = true)
    {args : List AV} {r : AV} (hn : args.length ≤ fn.ntmps) (h : awp tb R lv dr c 0 (bodyQ fn tb r) (St0 args)) : Contract P tb f args r := by
  intro vs w hl hr
  refine calls_of_wp hf hb ?_
  refine awp_sound hT hR lv dr hm c hc 0 (bodyQ fn tb r) _ (St0 args) _ w (body_post hT fun v w' F h1 h2 h3 h4 => ⟨v, F, rfl, h1, h2, h3, h4⟩) (Sim.start hl (by omega) hr) h
/-- what the callees of a function promise -/
def Promise (P : Program) (tb : Nat → Ti) (f : Nat) (args : List AV) (r : AV) : Prop := FnOk P f ∧ Ctr P tb f args r
theorem promise_sound : Sound P tb (Promise P tb) := fun _ _ _ h => h
theorem promise_of (hT : TbOk P tb) (lv : Nat → List Nat) (dr : Nat → Dr) (hm : P.follows .mixedOrders = true) {f : Nat} {fn : Func} {c : Code} (hf : P.funcs[f]? = some fn) (hg : (fn.name == "runtime.NumGoroutine") = false) (hb : fn.body = some c) (hc : codeOk dr fn.ntmps c = true)
    {args : List AV} {r : AV} (hn : (Nat.ble args.length fn.ntmps && !isW args) = true) (h : awp tb (Promise P tb) lv dr c 0 (bodyQ fn tb r) (St0 args)) : Promise P tb f args r :=
  have hn' := Bool.and_eq_true_iff.1 hn
  ⟨⟨fn, hf, hg, by rw [hb]; rfl⟩, (Ctr_iff (by simpa using hn'.2)).2 (contract_of hT promise_sound lv dr hm hf hb hc (Nat.le_of_ble_eq_true hn'.1) h)⟩
/-- the look at a function -/
noncomputable def bodyOk (dr : Nat → Dr) (fn : Func) : Bool := match fn.body with
  | some c => codeOk dr fn.ntmps c && !(fn.name == "runtime.NumGoroutine")
  | none => false
theorem promise_body (hT : TbOk P tb) (hm : P.follows .mixedOrders = true) (lv : Nat → List Nat) (dr : Nat → Dr) {f : Nat} {fn : Func} (hf : P.funcs[f]? = some fn) (hok : bodyOk dr fn = true)
    {args : List AV} {r : AV} (hn : (Nat.ble args.length fn.ntmps && !isW args) = true) (h : Body tb (Promise P tb) lv dr fn args r) : Promise P tb f args r := by
  unfold bodyOk at hok
  unfold Body at h
  split at hok
  · rename_i c hb
    rw [hb] at h
    simp only [Bool.and_eq_true, Bool.not_eq_true'] at hok
    exact promise_of hT lv dr hm hf hok.2 hb hok.1 hn h
  · cases hok
/-- a law: its arguments stand for themselves -/
theorem law_body (hT : TbOk P tb) (hm : P.follows .mixedOrders = true) (lv : Nat → List Nat) (dr : Nat → Dr) {f : Nat} {fn : Func} (hf : P.funcs[f]? = some fn) (hok : bodyOk dr fn = true)
    {xs : List AV} {ex : List (Nat × List AV)} {r : AV} (hn : (Nat.ble xs.length fn.ntmps && (distinct (idsX (leaves xs)) && (allB (okX ex) xs && usedX (idsX (leaves xs)) ex 16))) = true) (h : LawBody tb (Promise P tb) lv dr fn xs ex r) : Contract P tb f (mapR (unx ex) xs) r := by
  unfold bodyOk at hok
  unfold LawBody at h
  simp only [Bool.and_eq_true] at hn
  obtain ⟨n1, n2, n3, n4⟩ := hn
  have n1 := Nat.le_of_ble_eq_true n1
  split at hok
  · rename_i c hb
    rw [hb] at h
    simp only [Bool.and_eq_true, Bool.not_eq_true'] at hok
    intro vs w hl hr
    rw [mapR_eq, List.length_map] at hl
    refine calls_of_wp hf hb ?_
    refine awp_sound hT promise_sound lv dr hm c hok.1 0 (bodyQ fn tb r) _ (St1 xs ex) _ w (body_post hT fun v w' F h1 h2 h3 h4 => ⟨v, F, rfl, h1, h2, h3, h4⟩) (Sim.start1 n2 n3 n4 hl (by omega) hr) h
  · cases hok
end
/-! tables that a program prints -/
noncomputable def atL (l : List (Nat × List Nat)) (i : Nat) : List Nat := @List.rec (Nat × List Nat) (fun _ => List Nat) [] (fun p _ ih => bif Nat.beq i p.1 then p.2 else ih) l
noncomputable def atD (l : List (Nat × Dr)) (i : Nat) : Dr := @List.rec (Nat × Dr) (fun _ => Dr) ⟨[], .done⟩ (fun p _ ih => bif Nat.beq i p.1 then p.2 else ih) l
noncomputable def line (l : List Nat) : Ord := @List.rec Nat (fun _ => Ord) .done (fun i _ ih => .step i ih) l
end Go.Ev
namespace Go.Ev
set_option linter.unusedVariables false
set_option linter.unusedSimpArgs false
open Go.RowKit

/-! a table of types out of a list, looked at by evaluation -/
noncomputable def tbf (l : List (Nat × Ti)) (t : Nat) : Ti := @List.rec (Nat × Ti) (fun _ => Ti) ⟨0, 0, false, false, [], .oth⟩ (fun p _ ih => bif Nat.beq t p.1 then p.2 else ih) l
def cellB (c : AV) (u : Value) : Bool := match c, u with
  | .int k n, .int k' m => Nat.beq (kNo k) (kNo k') && decide (n = m)
  | .bool a, .bool b => a == b
  | .str s, .string t => s.data.toList.isEmpty && t.data.toList.isEmpty
  | .nils _, .slice none 0 0 => true
  | .junk, .map none => true
  | _, _ => false
def cellsB : List AV → List Value → Bool
  | [], [] => true
  | c :: cs, u :: us => cellB c u && cellsB cs us
  | _, _ => false
def fieldsB (tb : Nat → Ti) : List Nat → List Nat → List Field → Bool
  | [], [], [] => true
  | o :: os, t :: ts, f :: fs => (Nat.beq f.offset o && Nat.beq f.type t && !Nat.beq (tb t).sz 0) && fieldsB tb os ts fs
  | _, _, _ => false
def kindB (tb : Nat → Ti) (k : Tk) (d : TypeDesc) : Bool := match k with
  | .int k => match d with | .int k' => Nat.beq (kNo k) (kNo k') | _ => false
  | .bool => match d with | .bool => true | _ => false
  | .str => match d with | .string => true | _ => false
  | .slice e => match d with | .slice e' => Nat.beq e e' && !Nat.beq (tb e).sz 0 | _ => false
  | .arr n e => match d with | .array n' e' => Nat.beq n n' && Nat.beq e e' && !Nat.beq (tb e).sz 0 | _ => false
  | .struct os ts => match d with | .struct fs => fieldsB tb os ts fs.toList | _ => false
  | .map k v => match d with | .map k' v' => Nat.beq k k' && Nat.beq v v' && !Nat.beq (tb v).sz 0 | _ => false
  | .oth => true
def litKind (P : Program) (tb : Nat → Ti) (e : Nat) : Bool := match (tb e).k with
  | .int q => (match P.underlying e with | some (.int q') => Nat.beq (kNo q') (kNo q) | _ => false)
  | .bool => (match P.underlying e with | some .bool => true | _ => false)
  | _ => false
def keyKind (P : Program) (tb : Nat → Ti) (k : Nat) : Bool := match (tb k).k with
  | .int _ => litKind P tb k
  | .bool => litKind P tb k
  | .arr n e => (match P.underlying k with | some (.array n' e') => Nat.beq n' n && Nat.beq e' e | _ => false) && P.plainKey e && Nat.beq (P.cellsOf e) 1 && Nat.beq (P.cellsOf k) n && Nat.blt 0 P.types.size && litKind P tb e
  | _ => false
def mapB (P : Program) (tb : Nat → Ti) (k v : Nat) : Bool := keyKind P tb k && (match (tb v).k with
  | .int q => (match P.info? v with | some i => (match i.zero with | some (.int q' z) => Nat.beq (kNo q') (kNo q) && decide (z = 0) | _ => false) | none => false)
  | _ => true)
theorem mapM_ex {α β : Type} (g : α → Option β) : ∀ (l : List α), (∀ x ∈ l, ∃ y, g x = some y) → ∃ ys, l.mapM g = some ys
  | [], _ => ⟨[], rfl⟩
  | x :: l, h => by
    obtain ⟨y, hy⟩ := h x (by simp)
    obtain ⟨ys, hys⟩ := mapM_ex g l (fun z hz => h z (by simp [hz]))
    exact ⟨y :: ys, by rw [List.mapM_cons, hy, hys]; rfl⟩
theorem key1_lits {P : Program} {tb : Nat → Ti} {e m : Nat} (h : litKind P tb e = true) {a : AV} (ha : keyB1 (tb e).k a) {A : Nat → Prop} {w : World} {u : Value} {F : List Nat} (r : Rel tb noLeaf A w a u F) : ∃ l, P.keyLits (m + 1) e [u] = some l := by
  unfold litKind at h
  rcases keyB1_cases ha with ⟨q, n, hk, rfl, hw⟩ | ⟨x, hk, rfl⟩
  · rw [hk] at h
    simp only at h
    split at h
    · rename_i q' hu
      have := kNo_inj h
      subst this
      cases r with
      | leaf h => exact h.elim
      | int => exact ⟨_, by simp [Program.keyLits, hu, hw]; rfl⟩
    · cases h
  · rw [hk] at h
    simp only at h
    split at h
    · rename_i hu
      cases r with
      | leaf h => exact h.elim
      | bool => exact ⟨_, by simp [Program.keyLits, hu]; rfl⟩
    · cases h
theorem key1_of {P : Program} {tb : Nat → Ti} {k : Nat} (h : litKind P tb k = true) : Maps.Keyed P k ∧ ∀ (a : AV) (u : Value) (w : World), keyB1 (tb k).k a → KeyR tb w a u → ∃ l, keyOf P k u = some l := by
  unfold litKind at h
  split at h
  · rename_i q hk
    split at h
    · rename_i q' hu
      have := kNo_inj h
      subst this
      refine ⟨Maps.int_keyed hu, fun a u w ha r => ?_⟩
      rcases keyB1_cases ha with ⟨q, n, hk', rfl, hw⟩ | ⟨x, hk', rfl⟩
      · rw [hk] at hk'
        cases hk'
        cases r with
        | leaf h => exact h.elim
        | int => exact ⟨_, Maps.keyOf_int_mk hu hw⟩
      · rw [hk] at hk'; cases hk'
    · cases h
  · rename_i hk
    split at h
    · rename_i hu
      refine ⟨Maps.bool_keyed hu, fun a u w ha r => ?_⟩
      rcases keyB1_cases ha with ⟨q, n, hk', rfl, hw⟩ | ⟨x, hk', rfl⟩
      · rw [hk] at hk'; cases hk'
      · cases r with
        | leaf h => exact h.elim
        | bool => exact ⟨_, Maps.keyOf_bool_mk hu x⟩
    · cases h
  · cases h
theorem keyKind_ok {P : Program} {tb : Nat → Ti} {k : Nat} (h : keyKind P tb k = true) : Maps.Keyed P k ∧ ∀ (a : AV) (u : Value) (w : World), keyB tb k a → KeyR tb w a u → ∃ l, keyOf P k u = some l := by
  unfold keyKind at h
  split at h
  · rename_i q hk
    obtain ⟨h1, h2⟩ := key1_of h
    refine ⟨h1, fun a u w ha r => h2 a u w ?_ r⟩
    rcases keyB_cases ha with ⟨m, e, cs, hk', _⟩ | ⟨_, hc⟩
    · rw [hk] at hk'; cases hk'
    · exact hc
  · rename_i hk
    obtain ⟨h1, h2⟩ := key1_of h
    refine ⟨h1, fun a u w ha r => h2 a u w ?_ r⟩
    rcases keyB_cases ha with ⟨m, e, cs, hk', _⟩ | ⟨_, hc⟩
    · rw [hk] at hk'; cases hk'
    · exact hc
  · rename_i n e hk
    simp only [Bool.and_eq_true] at h
    obtain ⟨⟨⟨⟨⟨h1, h2⟩, h3⟩, h4⟩, h5⟩, h6⟩ := h
    split at h1
    · rename_i n' e' hu
      simp only [Bool.and_eq_true] at h1
      have e1 := Nat.eq_of_beq_eq_true h1.1
      have e2 := Nat.eq_of_beq_eq_true h1.2
      subst e1 e2
      have A : WideMaps.ArrKey P k e' n' := ⟨hu, h2, Nat.eq_of_beq_eq_true h3, Nat.eq_of_beq_eq_true h4⟩
      have hsz : ∃ m, P.types.size = m + 1 := ⟨P.types.size - 1, by have : 0 < P.types.size := Nat.blt_eq ▸ h5; omega⟩
      refine ⟨Maps.Keyed.of_law A.law, fun a u w ha r => ?_⟩
      rcases keyB_cases ha with ⟨m, e, cs, hk', rfl, hl, hc⟩ | ⟨hk', _⟩
      · rw [hk] at hk'
        cases hk'
        unfold KeyR at r
        generalize hx : AV.agg cs = x at r
        generalize ([] : List Nat) = G at r
        cases r with
        | leaf h => exact h.elim
        | agg cs1 us Fs F hul hu1 hr hF hN =>
          cases hx
          have hkt := A.keyType hsz
          obtain ⟨m, hm⟩ := hsz
          have hlen : us.length = n' := by omega
          unfold keyOf
          simp only [A.hu]
          rw [if_pos (by simp [hkt, Value.formed, A.hu, A.size, hlen]), hm]
          unfold Program.keyLits
          simp only [A.hu, Value.cells]
          rw [if_pos (by rw [A.size]; simp [hlen])]
          obtain ⟨ys, hys⟩ := mapM_ex (fun i => P.keyLits (m + 1) e' (((us.drop (i * P.cellsOf e')).take (P.cellsOf e')))) (List.range n') (fun i hi => by
            have hi := List.mem_range.1 hi
            rw [A.one, Nat.mul_one, List.drop_eq_getElem_cons (by omega), List.take_succ_cons, List.take_zero]
            exact key1_lits h6 (hc _ (List.getElem_mem (by omega : i < cs.length))) (hr i _ _ (List.getElem?_eq_getElem (by omega)) (List.getElem?_eq_getElem (by omega))))
          simp [hys]
        | _ => cases hx
      · exact absurd hk (hk' _ _)
    · cases h1
  · cases h
theorem mapB_ok {P : Program} {tb : Nat → Ti} {k v : Nat} (h : mapB P tb k v = true) : MapOk P tb k v := by
  unfold mapB at h
  simp only [Bool.and_eq_true] at h
  obtain ⟨h1, h2⟩ := h
  obtain ⟨a, b⟩ := keyKind_ok h1
  refine ⟨a, b, fun q hq => ?_⟩
  rw [hq] at h2
  simp only at h2
  split at h2
  · rename_i i hi
    split at h2
    · rename_i q' z hz
      simp only [Bool.and_eq_true, decide_eq_true_eq] at h2
      have := kNo_inj h2.1
      subst this
      exact ⟨i, hi, by rw [hz, h2.2]⟩
    · cases h2
  · cases h2
def tyB (P : Program) (tb : Nat → Ti) (t : Nat) : Bool := match P.info? t with
  | some i => match i.zero with
    | some z => match P.underlying t with
      | some d => (Nat.beq i.size (tb t).sz && Nat.beq i.bytes (tb t).bytes && Nat.beq (tb t).zero.length (tb t).sz && !Nat.beq (tb t).sz 0 && !Nat.beq (tb t).bytes 0) && cellsB (tb t).zero z.cells.toList && (d.isRow == (tb t).agg) && kindB tb (tb t).k d && (match (tb t).k with | .map k v => mapB P tb k v | _ => true)
      | none => false
    | none => false
  | none => false
theorem cellB_rel {tb : Nat → Ti} {c : AV} {u : Value} (h : cellB c u = true) : u.oneCell' = true ∧ ∀ lf A w, Rel tb lf A w c u [] := by
  unfold cellB at h
  split at h
  · simp only [Bool.and_eq_true, decide_eq_true_eq] at h
    rw [kNo_inj h.1, h.2]
    exact ⟨rfl, fun _ _ _ => .int _ _⟩
  · rw [eq_of_beq h]
    exact ⟨rfl, fun _ _ _ => .bool _⟩
  · rename_i s t
    simp only [Bool.and_eq_true, List.isEmpty_iff] at h
    obtain ⟨⟨s⟩⟩ := s
    obtain ⟨⟨t⟩⟩ := t
    obtain ⟨h1, h2⟩ := h
    have h1 : s = [] := h1
    have h2 : t = [] := h2
    subst h1 h2
    exact ⟨rfl, fun _ _ _ => .str _⟩
  · exact ⟨rfl, fun _ _ _ => .nils _⟩
  · exact ⟨rfl, fun _ _ _ => .junk _⟩
  · cases h
theorem cellsB_rel {tb : Nat → Ti} : ∀ {cs : List AV} {us : List Value}, cellsB cs us = true → us.length = cs.length ∧ (∀ u ∈ us, u.oneCell' = true) ∧ ∀ (j : Nat) (c : AV) (u : Value), cs[j]? = some c → us[j]? = some u → ∀ lf A w, Rel tb lf A w c u []
  | [], [], _ => ⟨rfl, fun u hu => by simp at hu, fun j c u hc => by simp at hc⟩
  | c :: cs, u :: us, h => by
    have h' : (cellB c u && cellsB cs us) = true := h
    simp only [Bool.and_eq_true] at h'
    obtain ⟨q1, q2⟩ := cellB_rel (tb := tb) h'.1
    obtain ⟨r1, r2, r3⟩ := cellsB_rel (tb := tb) h'.2
    refine ⟨by simp [r1], fun v hv => ?_, fun j c' u' hc hu => ?_⟩
    · rcases List.mem_cons.1 hv with rfl | hv
      · exact q1
      · exact r2 v hv
    · cases j with
      | zero => simp at hc hu; subst hc hu; exact q2
      | succ j => exact r3 j c' u' (by simpa using hc) (by simpa using hu)
  | [], _ :: _, h => by cases h
  | _ :: _, [], h => by cases h
theorem fieldsB_ok {tb : Nat → Ti} : ∀ {os ts : List Nat} {fs : List Field}, fieldsB tb os ts fs = true → os.length = fs.length ∧ ts.length = fs.length ∧ ∀ (i o t : Nat) (f : Field), os[i]? = some o → ts[i]? = some t → fs[i]? = some f → f.offset = o ∧ f.type = t ∧ (tb t).sz ≠ 0
  | [], [], [], _ => ⟨rfl, rfl, fun i o t f h => by simp at h⟩
  | o :: os, t :: ts, f :: fs, h => by
    have h' : ((Nat.beq f.offset o && Nat.beq f.type t && !Nat.beq (tb t).sz 0) && fieldsB tb os ts fs) = true := h
    simp only [Bool.and_eq_true, Bool.not_eq_true'] at h'
    obtain ⟨r1, r2, r3⟩ := fieldsB_ok h'.2
    refine ⟨by simp [r1], by simp [r2], fun i o' t' f' ho ht hf => ?_⟩
    cases i with
    | zero =>
      simp at ho ht hf
      subst ho ht hf
      exact ⟨Nat.eq_of_beq_eq_true h'.1.1.1, Nat.eq_of_beq_eq_true h'.1.1.2, fun e => by have := h'.1.2; rw [e] at this; cases this⟩
    | succ i => exact r3 i o' t' f' (by simpa using ho) (by simpa using ht) (by simpa using hf)
  | [], [], _ :: _, h => by cases h
  | [], _ :: _, _, h => by cases h
  | _ :: _, [], _, h => by cases h
  | _ :: _, _ :: _, [], h => by cases h
theorem nz {n : Nat} (h : (!Nat.beq n 0) = true) : n ≠ 0 := fun e => by rw [e] at h; cases h
theorem kindB_ok {tb : Nat → Ti} {k : Tk} {d : TypeDesc} (h : kindB tb k d = true) : KindOk tb k d := by
  unfold kindB at h
  unfold KindOk
  cases k with
  | int k => simp only at h ⊢; split at h; · rw [kNo_inj h]
             · cases h
  | bool => simp only at h ⊢; split at h <;> first | rfl | cases h
  | str => simp only at h ⊢; split at h <;> first | rfl | cases h
  | slice e =>
    simp only at h ⊢
    split at h
    · simp only [Bool.and_eq_true] at h
      exact ⟨by rw [Nat.eq_of_beq_eq_true h.1], nz h.2⟩
    · cases h
  | arr n e =>
    simp only at h ⊢
    split at h
    · simp only [Bool.and_eq_true] at h
      exact ⟨by rw [Nat.eq_of_beq_eq_true h.1.1, Nat.eq_of_beq_eq_true h.1.2], nz h.2⟩
    · cases h
  | struct os ts =>
    simp only at h ⊢
    split at h
    · rename_i fs
      obtain ⟨r1, r2, r3⟩ := fieldsB_ok h
      exact ⟨fs, rfl, by simpa using r1, by simpa using r2, fun i o t f ho ht hf => r3 i o t f ho ht (by simpa using hf)⟩
    · cases h
  | map k v =>
    simp only at h ⊢
    split at h
    · simp only [Bool.and_eq_true] at h
      exact ⟨by rw [Nat.eq_of_beq_eq_true h.1.1, Nat.eq_of_beq_eq_true h.1.2], nz h.2⟩
    · cases h
  | oth => trivial
theorem tyB_ok {P : Program} {tb : Nat → Ti} {t : Nat} (h : tyB P tb t = true) : TyOk P tb t := by
  unfold tyB at h
  split at h
  · rename_i i hi
    split at h
    · rename_i z hz
      split at h
      · rename_i d hd
        simp only [Bool.and_eq_true] at h
        obtain ⟨⟨⟨⟨⟨⟨⟨⟨h1, h2⟩, h3⟩, h4⟩, h5⟩, h6⟩, h7⟩, h8⟩, h9⟩ := h
        obtain ⟨r1, r2, r3⟩ := cellsB_rel (tb := tb) h6
        refine ⟨⟨i, z, hi, Nat.eq_of_beq_eq_true h1, Nat.eq_of_beq_eq_true h2, hz, by rw [r1]; exact Nat.eq_of_beq_eq_true h3, Nat.eq_of_beq_eq_true h3, r2, r3⟩, ⟨nz h4, nz h5⟩, ⟨d, hd, eq_of_beq h7, kindB_ok h8⟩, fun k v hkv => mapB_ok (by rw [hkv] at h9; exact h9)⟩
      · cases h
    · cases h
  · cases h
theorem tbf_mem : ∀ (l : List (Nat × Ti)) (t : Nat), tbf l t = unknown ∨ t ∈ l.map (·.1)
  | [], _ => .inl rfl
  | p :: l, t => by
    show (bif Nat.beq t p.1 then p.2 else tbf l t) = unknown ∨ _
    cases h : Nat.beq t p.1 with
    | true => right; rw [Nat.eq_of_beq_eq_true h]; simp
    | false =>
      rcases tbf_mem l t with h | h
      · left; exact h
      · right; exact List.mem_cons_of_mem _ h
theorem tbOk_of {P : Program} {l : List (Nat × Ti)} (h : (l.map (·.1)).all (tyB P (tbf l)) = true) : TbOk P (tbf l) := fun t => (tbf_mem l t).imp id fun hm => tyB_ok (List.all_eq_true.1 h t hm)
end Go.Ev
namespace Go.Ev
set_option linter.unusedVariables false
open Go.RowKit
section
variable {P : Program} {tb : Nat → Ti}
/-- what is related to a is related to b -/
def Weak (tb : Nat → Ti) (a b : AV) : Prop := ∀ (A : Nat → Prop) (w : World) (u : Value) (F : List Nat), Rel tb noLeaf A w a u F → Rel tb noLeaf A w b u F
def Wk (tb : Nat → Ti) (l m : List AV) : Prop := l.length = m.length ∧ ∀ (j : Nat) (a b : AV), l[j]? = some a → m[j]? = some b → Weak tb a b
theorem Weak.refl (a : AV) : Weak tb a a := fun _ _ _ _ h => h
theorem Wk.nil : Wk tb [] [] := ⟨rfl, fun j a b h => by simp at h⟩
theorem Wk.cons {a b : AV} {l m : List AV} (h : Weak tb a b) (k : Wk tb l m) : Wk tb (a :: l) (b :: m) := by
  refine ⟨by simp [k.1], fun j c d hc hd => ?_⟩
  cases j with
  | zero => simp only [List.getElem?_cons_zero, Option.some.injEq] at hc hd; subst hc hd; exact h
  | succ j => simp only [List.getElem?_cons_succ] at hc hd; exact k.2 j c d hc hd
theorem weak_lit {n : Nat} {cs ds : List AV} (h : mapR view cs = ds) : Weak tb (.lit n cs) (.lit n ds) := by
  intro A w u F r
  subst h
  cases r with
  | leaf h => exact h.elim
  | lit n cap cs Ad us Fs hn hz hl hc hA h1 hr =>
    rw [mapR_eq]
    refine .lit n cap _ Ad us (fun _ => []) hn hz (by simpa using hl) hc hA h1 fun j c u hc' hu => ?_
    rw [List.getElem?_map] at hc'
    cases h2 : cs[j]? with
    | none => rw [h2] at hc'; simp at hc'
    | some c' =>
      rw [h2] at hc'
      simp only [Option.map_some, Option.some.injEq] at hc'
      subst hc'
      exact (hr j c' u h2 hu).view noOwn_no (h1 u (List.mem_of_getElem? hu))
theorem weak_agg {cs ds : List AV} (h : Wk tb cs ds) : Weak tb (.agg cs) (.agg ds) := by
  intro A w u F r
  cases r with
  | leaf h => exact h.elim
  | agg cs us Fs F hl h1 hr hF hN =>
    refine .agg ds us Fs F (hl.trans h.1) h1 (fun j c u hc hu => ?_) (by rw [hF, h.1]) hN
    have hj : j < cs.length := by rw [h.1]; exact (List.getElem?_eq_some_iff.1 hc).1
    have e : cs[j]? = some cs[j] := List.getElem?_eq_getElem hj
    exact h.2 j cs[j] c e hc A w u (Fs j) (hr j cs[j] u e hu)
theorem Promise.weak {f : Nat} {l m : List AV} {r : AV} (h : Wk tb l m) (p : Promise P tb f m r) (hW : (isW l || isW m) = false := by rfl) : Promise P tb f l r := by
  simp only [Bool.or_eq_false_iff] at hW
  refine ⟨p.1, (Ctr_iff hW.1).2 fun vs w hl hr => (Ctr_iff hW.2).1 p.2 vs w (hl.trans h.1) fun j b u hb hu => ?_⟩
  have hj : j < l.length := by rw [h.1]; exact (List.getElem?_eq_some_iff.1 hb).1
  have e : l[j]? = some l[j] := List.getElem?_eq_getElem hj
  obtain ⟨F, r⟩ := hr j l[j] u e hu
  exact ⟨F, h.2 j l[j] b e hb _ _ _ _ r⟩
end
end Go.Ev
