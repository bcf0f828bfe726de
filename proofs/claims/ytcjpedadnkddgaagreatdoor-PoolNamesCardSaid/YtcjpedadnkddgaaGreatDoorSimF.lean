/- A machine that runs closed calls of the program by the kernel: every step of the machine is followed by the model; runs; tables; short words. No condition. -/
import Derived.Test.YtcjpedadnkddgaaGreatDoorSimE
namespace Go.Proofs.YtcjpedadnkddgaaGreatDoor.Sim
open Go Go.RowKit

section
/-- A quiet operation turns no memory. -/
theorem qop_aop {T : Tab} {A : AMem} {ev : Operand → Option Value} {o : Op} {v : Value} (h : qop T A ev o = some v) : aop T A ev o = some (.val v A) := by
  have rpA : ∀ {r : Option Value} {u : Value} {A' : AMem}, rp A r = some (.val u A') → A' = A := by
    intro r u A' h
    unfold rp at h
    split at h
    · injection h with h; injection h with _ h; exact h.symm
    · cases h
  unfold qop at h
  split at h
  · cases h
  rename_i hq
  split at h
  case h_2 => cases h
  rename_i u A' ha
  have key : A' = A ∧ u = v := by
    have hv : (∀ s d x, o ≠ .convert s d x) → u = v := by
      intro hn
      split at h
      · rename_i s d x; exact absurd rfl (hn s d x)
      · injection h
    cases o with
    | move x => exact ⟨rpA ha, hv nofun⟩
    | assign x => exact ⟨rpA ha, hv nofun⟩
    | pick c a b =>
      refine ⟨?_, hv nofun⟩
      have ha : rPick A (ev c) (ev a) (ev b) = some (.val u A') := ha
      unfold rPick at ha
      split at ha
      · exact rpA ha
      · exact rpA ha
      · cases ha
    | build t ps =>
      refine ⟨?_, hv nofun⟩
      have ha : (match evP ev ps.toList with | some l => rp A (opBuild T t l) | none => none) = some (.val u A') := ha
      split at ha
      · exact rpA ha
      · cases ha
    | load t a =>
      refine ⟨?_, hv nofun⟩
      have ha : (match ev a with | some v => rv (opLoad T A t v) | none => none) = some (.val u A') := ha
      split at ha
      case h_2 => cases ha
      unfold rv at ha
      split at ha
      case h_2 => cases ha
      rename_i x B hx
      injection ha with ha; injection ha with _ ha; subst ha
      unfold opLoad at hx
      split at hx
      case h_2 => cases hx
      split at hx
      case h_2 => cases hx
      split at hx
      · split at hx
        · injection hx with hx; injection hx with _ hx; exact hx.symm
        · cases hx
      · split at hx
        · injection hx with hx; injection hx with _ hx; exact hx.symm
        · cases hx
    | nilCheck x =>
      refine ⟨?_, hv nofun⟩
      have ha : (match ev x with | some v => rNil A v | none => none) = some (.val u A') := ha
      split at ha
      case h_2 => cases ha
      unfold rNil at ha
      split at ha <;> first | cases ha; done | (injection ha with ha; injection ha with _ ha; exact ha.symm)
    | binOp op t x y yt =>
      refine ⟨?_, hv nofun⟩
      have ha : (match ev x, ev y with | some v, some u => rp A (opBin T A op t x y v u) | _, _ => none) = some (.val u A') := ha
      split at ha
      · exact rpA ha
      · cases ha
    | unOp op t x =>
      refine ⟨?_, hv nofun⟩
      have ha : (match ev x with | some v => rp A (opUn op v) | none => none) = some (.val u A') := ha
      split at ha
      · exact rpA ha
      · cases ha
    | convert s d x =>
      have ha : (match ev x with | some v => rv (opConvert T A s d v) | none => none) = some (.val u A') := ha
      split at ha
      case h_2 => cases ha
      unfold rv at ha
      split at ha
      case h_2 => cases ha
      rename_i x B hx
      injection ha with ha; injection ha with ha1 ha; subst ha; subst ha1
      have hs : (∀ a n c, x ≠ .slice a n c) ∧ x = v := by
        simp only at h
        split at h
        · cases h
        · rename_i hn; injection h with h; exact ⟨fun a n c e => hn a n c e, h⟩
      refine ⟨?_, hs.2⟩
      unfold opConvert at hx
      split at hx
      case h_2 => cases hx
      split at hx
      · injection hx with hx; injection hx with _ hx; exact hx.symm
      · injection hx with hx; injection hx with _ hx; exact hx.symm
      · injection hx with hx; injection hx with _ hx; exact hx.symm
      · split at hx
        case h_2 => cases hx
        split at hx
        case h_2 => cases hx
        split at hx
        case h_2 => cases hx
        injection hx with hx; injection hx with hx _
        exact absurd hx.symm (hs.1 _ _ _)
      · split at hx
        case h_2 => cases hx
        split at hx
        case h_2 => cases hx
        split at hx
        case h_2 => cases hx
        split at hx
        · split at hx
          · injection hx with hx; injection hx with _ hx; exact hx.symm
          · cases hx
        · split at hx
          · injection hx with hx; injection hx with _ hx; exact hx.symm
          · split at hx
            case h_2 => cases hx
            split at hx
            · injection hx with hx; injection hx with _ hx; exact hx.symm
            · cases hx
        · cases hx
      · cases hx
    | makeInterface t x =>
      refine ⟨?_, hv nofun⟩
      have ha : (match ev x with | some v => rp A (opIface T t v) | none => none) = some (.val u A') := ha
      split at ha
      · exact rpA ha
      · cases ha
    | makeFunc fn first captured =>
      refine ⟨?_, hv nofun⟩
      have ha : (match evL ev first.toList, evL ev captured.toList with | some a, some b => rFunV A fn a b | _, _ => none) = some (.val u A') := ha
      split at ha
      case h_2 => cases ha
      unfold rFunV at ha
      split at ha
      · injection ha with ha; injection ha with _ ha; exact ha.symm
      · cases ha
    | slice t x lo hi mx =>
      refine ⟨?_, hv nofun⟩
      cases mx with
      | some m => cases ha
      | none =>
        have ha : (match ev x, evO ev lo, evO ev hi with | some v, some l, some h => rp A (opSlice T A t v l h) | _, _, _ => none) = some (.val u A') := ha
        split at ha
        · exact rpA ha
        · cases ha
    | fieldAddr t x f =>
      refine ⟨?_, hv nofun⟩
      have ha : (match ev x with | some v => rp A (opFieldAddr T t v f) | none => none) = some (.val u A') := ha
      split at ha
      · exact rpA ha
      · cases ha
    | field t x f =>
      refine ⟨?_, hv nofun⟩
      have ha : (match ev x with | some v => rp A (opField T t v f) | none => none) = some (.val u A') := ha
      split at ha
      · exact rpA ha
      · cases ha
    | indexAddr t x i =>
      refine ⟨?_, hv nofun⟩
      have ha : (match ev x, ev i with | some v, some u => rp A (opIndexAddr T t v u) | _, _ => none) = some (.val u A') := ha
      split at ha
      · exact rpA ha
      · cases ha
    | index t x i =>
      refine ⟨?_, hv nofun⟩
      have ha : (match ev x, ev i with | some v, some u => rp A (opIndex T t v u) | _, _ => none) = some (.val u A') := ha
      split at ha
      · exact rpA ha
      · cases ha
    | lookup t x i ok =>
      refine ⟨?_, hv nofun⟩
      have ha : (match ev x, ev i with | some v, some u => rp A (opLookup T A t v u ok) | _, _ => none) = some (.val u A') := ha
      split at ha
      · exact rpA ha
      · cases ha
    | entry it =>
      refine ⟨?_, hv nofun⟩
      have ha : (match ev it with | some v => rp A (opEntry A v) | none => none) = some (.val u A') := ha
      split at ha
      · exact rpA ha
      · cases ha
    | typeAssert x xt t ok =>
      refine ⟨?_, hv nofun⟩
      have ha : (match ev x with | some v => rp A (opAssert T v t ok) | none => none) = some (.val u A') := ha
      split at ha
      · exact rpA ha
      · cases ha
    | extract x i =>
      refine ⟨?_, hv nofun⟩
      have ha : (match ev x with | some v => rp A (opExtract v i) | none => none) = some (.val u A') := ha
      split at ha
      · exact rpA ha
      · cases ha
    | call c =>
      refine ⟨?_, hv nofun⟩
      obtain ⟨callee, args, argTypes⟩ := c
      cases callee with
      | value f => cases hq
      | invoke r n => cases hq
      | builtin b =>
        have ha : (match evL ev args.toList with | some args => rBuiltin T A b argTypes.toList args | none => none) = some (.val u A') := ha
        split at ha
        case h_2 => cases ha
        cases b with
        | len =>
          unfold rBuiltin at ha
          split at ha <;> first | exact rpA ha | cases ha; done | (rename_i he _; cases he)
        | min =>
          unfold rBuiltin at ha
          split at ha <;> first | exact rpA ha | cases ha; done | (rename_i he _; cases he)
        | max =>
          unfold rBuiltin at ha
          split at ha <;> first | exact rpA ha | cases ha; done | (rename_i he _; cases he)
        | _ => cases hq
    | _ => cases hq
  rw [ha, key.1, key.2]
end

section
def Sub (V V' : List (Nat × Value)) : Prop := ∀ k u, alook V k = some u → alook V' k = some u
theorem Sub.refl (V : List (Nat × Value)) : Sub V V := fun _ _ h => h
theorem Sub.trans {a b c : List (Nat × Value)} (h : Sub a b) (k : Sub b c) : Sub a c := fun x u hx => k x u (h x u hx)
theorem Sub.cons {V : List (Nat × Value)} {j : Nat} {v : Value} (h : alook V j = none) : Sub V ((j, v) :: V) := by
  intro k u hk
  rw [alook_cons]
  by_cases e : j = k
  · subst e; rw [h] at hk; cases hk
  · simp [e, hk]
theorem look_cons {V : List (Nat × Value)} {j k : Nat} {v : Value} (h : k ≠ j) : alook ((j, v) :: V) k = alook V k := by
  rw [alook_cons]; simp [Ne.symm h]
theorem look_same {V : List (Nat × Value)} {j : Nat} {v : Value} : alook ((j, v) :: V) j = some v := by
  rw [alook_cons]; simp

/-- What a quiet operation gives. -/
def QVal (T : Tab) (D : DI) (A : AMem) (vars : List (Option Value)) (over : List (Nat × Value)) (Vi : List (Nat × Value)) (o : Oper) (j : Nat) (v : Value) : Prop :=
  (dWanted D Vi o j = some true ∧ qop T A (dev T.nglob D Vi vars over j) o.op = some v) ∨ (dWanted D Vi o j = some false ∧ v = undef)

theorem al_not_quiet {o : Op} (h : isAl o = true) : isQuiet o = false := by
  cases o <;> first | rfl | cases h

theorem succ_add' (n j : Nat) : Nat.succ n + j = n + (j + 1) := by omega

theorem dpass_ok {T : Tab} {D : DI} {A : AMem} {vars : List (Option Value)} {over : List (Nat × Value)} {done pending : List Nat} : ∀ {ops : List Oper} {n : Nat} {V V1 : List (Nat × Value)},
    dpass T D A vars over done pending ops n V = some V1 →
    Sub V V1 ∧ (∀ k, (∀ j o, ops[j]? = some o → isQuiet o.op = true → k ≠ n + j) → alook V1 k = alook V k) ∧
    (∀ j o, ops[j]? = some o → openBef D (n + j) pending = true → openAft D (n + j) done = true → isQuiet o.op = true → ∃ Vi v, Sub Vi V1 ∧ alook V1 (n + j) = some v ∧ QVal T D A vars over Vi o (n + j) v) ∧
    (∀ j o, ops[j]? = some o → openBef D (n + j) pending = true → openAft D (n + j) done = true → isAl o.op = true → ∃ v, alook V1 (n + j) = some v) := by
  intro ops
  induction ops with
  | nil =>
    intro n V V1 h
    injection h with h; subst h
    exact ⟨Sub.refl _, fun _ _ => rfl, fun j o h => by simp at h, fun j o h => by simp at h⟩
  | cons o ops ih =>
    intro n V V1 h
    unfold dpass at h
    -- what the rest gives, from a V' that may hold n
    have step : ∀ {V' : List (Nat × Value)}, Sub V V' → (∀ k, k ≠ n → alook V' k = alook V k) → (isQuiet o.op = false → V' = V) → dpass T D A vars over done pending ops (Nat.succ n) V' = some V1 →
        (openBef D n pending = true → openAft D n done = true → isQuiet o.op = true → ∃ Vi v, Sub Vi V1 ∧ alook V1 n = some v ∧ QVal T D A vars over Vi o n v) →
        (openBef D n pending = true → openAft D n done = true → isAl o.op = true → ∃ v, alook V1 n = some v) →
        Sub V V1 ∧ (∀ k, (∀ j o', (o :: ops)[j]? = some o' → isQuiet o'.op = true → k ≠ n + j) → alook V1 k = alook V k) ∧
        (∀ j o', (o :: ops)[j]? = some o' → openBef D (n + j) pending = true → openAft D (n + j) done = true → isQuiet o'.op = true → ∃ Vi v, Sub Vi V1 ∧ alook V1 (n + j) = some v ∧ QVal T D A vars over Vi o' (n + j) v) ∧
        (∀ j o', (o :: ops)[j]? = some o' → openBef D (n + j) pending = true → openAft D (n + j) done = true → isAl o'.op = true → ∃ v, alook V1 (n + j) = some v) := by
      intro V' h1 h2 h3 h4 h5 h6
      obtain ⟨a, b, c, d⟩ := ih h4
      refine ⟨h1.trans a, ?_, ?_, ?_⟩
      · intro k hk
        have hb : alook V1 k = alook V' k := b k (fun j o' ho' hq => by rw [succ_add']; exact hk (j + 1) o' (by simpa using ho') hq)
        rw [hb]
        cases hq : isQuiet o.op with
        | false => rw [h3 hq]
        | true => exact h2 k (by simpa using hk 0 o rfl hq)
      · intro j o' ho' hx hy hq
        cases j with
        | zero => simp at ho'; subst ho'; exact h5 hx hy hq
        | succ j => simp at ho'; rw [← succ_add'] at hx hy ⊢; exact c j o' ho' hx hy hq
      · intro j o' ho' hx hy hq
        cases j with
        | zero => simp at ho'; subst ho'; exact h6 hx hy hq
        | succ j => simp at ho'; rw [← succ_add'] at hx hy ⊢; exact d j o' ho' hx hy hq
    split at h
    · rename_i hq
      split at h
      · cases h
      · rename_i hne
        refine step (Sub.refl _) (fun _ _ => rfl) (fun _ => rfl) h (fun _ _ hq' => by rw [hq] at hq'; cases hq') ?_
        intro hx hy hal
        cases hv : alook V n with
        | none => exact absurd hv (hne hal hx hy)
        | some v => exact ⟨v, (ih h).1 n v hv⟩
    · rename_i hq
      split at h
      · rename_i hx hy
        split at h
        case h_2 => cases h
        rename_i v hv
        have hqv : QVal T D A vars over V o n v := by
          split at hv
          · rename_i hw; exact .inl ⟨hw, hv⟩
          · rename_i hw; injection hv with hv; exact .inr ⟨hw, hv.symm⟩
          · cases hv
        split at h
        · rename_i hn
          have hs := (ih h).1
          refine step (Sub.cons hn) (fun k hk => look_cons hk) (fun hq' => by rw [hq] at hq'; cases hq') h (fun _ _ _ => ⟨V, v, (Sub.cons hn).trans hs, hs n v look_same, hqv⟩) (fun _ _ hal => by rw [al_not_quiet hal] at hq; cases hq)
        · rename_i u hu
          split at h
          case h_2 => cases h
          rename_i he
          have he := vEq_eq he; subst he
          have hs := (ih h).1
          refine step (Sub.refl _) (fun _ _ => rfl) (fun _ => rfl) h (fun _ _ _ => ⟨V, u, hs, hs n u hu, hqv⟩) (fun _ _ hal => by rw [al_not_quiet hal] at hq; cases hq)
      · rename_i hne
        refine step (Sub.refl _) (fun _ _ => rfl) (fun _ => rfl) h (fun hx hy _ => absurd hy (hne hx)) (fun hx hy _ => absurd hy (hne hx))

structure PreOk (T : Tab) (D : DI) (vars : List (Option Value)) (over : List (Nat × Value)) (base : Nat) (ops : List Oper) (n : Nat) (A : AMem) (V : List (Nat × Value)) (A1 : AMem) (V1 : List (Nat × Value)) : Prop where
  sub : Sub V V1
  next : A1.next = A.next
  fams : A1.fams = A.fams
  heap : ∀ b, (∀ j o, ops[j]? = some o → isAl o.op = true → alook V (n + j) = none → b ≠ base + (n + j)) → A1.heap.get b = A.heap.get b
  new : ∀ b ob, A1.heap.get b = some ob → A.heap.get b = some ob ∨ (notGrownB ob = true ∧ ∃ j o, ops[j]? = some o ∧ isAl o.op = true ∧ alook V (n + j) = none ∧ b = base + (n + j))
  pend : ∀ j o v, ops[j]? = some o → isAl o.op = true → alook V (n + j) = none → alook V1 (n + j) = some v → PendOk T A1 D V1 vars over base (n + j) o v
  look : ∀ k, (∀ j o, ops[j]? = some o → k ≠ n + j) → alook V1 k = alook V k

theorem dpre_ok {T : Tab} {D : DI} {vars : List (Option Value)} {over : List (Nat × Value)} {done pending : List Nat} {base : Nat} : ∀ {ops : List Oper} {n : Nat} {A : AMem} {V : List (Nat × Value)} {A1 : AMem} {V1 : List (Nat × Value)},
    dpre T D vars over done pending base ops n A V = some (A1, V1) → PreOk T D vars over base ops n A V A1 V1 := by
  intro ops
  induction ops with
  | nil =>
    intro n A V A1 V1 h
    injection h with h; injection h with h1 h2; subst h1; subst h2
    exact ⟨Sub.refl _, rfl, rfl, fun _ _ => rfl, fun _ _ h => .inl h, fun j o v h => by simp at h, fun _ _ => rfl⟩
  | cons o ops ih =>
    intro n A V A1 V1 h
    unfold dpre at h
    -- the rest, where nothing is laid
    have step : ∀ {V' : List (Nat × Value)}, Sub V V' → (∀ k, k ≠ n → alook V' k = alook V k) → dpre T D vars over done pending base ops (Nat.succ n) A V' = some (A1, V1) →
        (∀ v, isAl o.op = true → alook V n = none → alook V1 n = some v → PendOk T A1 D V1 vars over base n o v) → PreOk T D vars over base (o :: ops) n A V A1 V1 := by
      intro V' h1 h2 h4 h5
      have k := ih h4
      have hn : ∀ j, n + (j + 1) ≠ n := fun j => by omega
      refine ⟨h1.trans k.sub, k.next, k.fams, ?_, ?_, ?_, ?_⟩
      · intro b hb
        refine k.heap b fun j o' ho' hal hno => ?_
        rw [succ_add'] at hno ⊢
        rw [h2 _ (hn j)] at hno
        exact hb (j + 1) o' (by simpa using ho') hal hno
      · intro b ob hb
        rcases k.new b ob hb with h | ⟨h, j, o', a, b', c, d⟩
        · exact .inl h
        · rw [succ_add'] at c d
          rw [h2 _ (hn j)] at c
          exact .inr ⟨h, j + 1, o', by simpa using a, b', c, d⟩
      · intro j o' v ho' hal hno hv
        cases j with
        | zero => simp at ho'; subst ho'; exact h5 v hal hno hv
        | succ j =>
          simp at ho'
          rw [← h2 _ (hn j)] at hno
          rw [← succ_add'] at hno hv ⊢
          exact k.pend j o' v ho' hal hno hv
      · intro q hq
        rw [k.look q (fun j o' ho' => by rw [succ_add']; exact hq (j + 1) o' (by simpa using ho'))]
        exact h2 q (by simpa using hq 0 o rfl)
    have same : ∀ {V' : List (Nat × Value)}, dpre T D vars over done pending base ops (Nat.succ n) A V' = some (A1, V1) → alook V1 n = alook V' n := by
      intro V' h4
      exact (ih h4).look n (fun j o' _ => by rw [succ_add']; omega)
    split at h
    · rename_i hc
      refine step (Sub.refl _) (fun _ _ => rfl) h fun v hal => ?_
      unfold isChain at hc
      rw [hal, al_not_quiet hal] at hc; cases hc
    · split at h
      · rename_i u hu
        exact step (Sub.refl _) (fun _ _ => rfl) h fun v _ hno => by rw [hno] at hu; cases hu
      · rename_i hno
        split at h
        · split at h
          · rename_i hw
            split at h
            · rename_i hal
              split at h
              case h_2 => cases h
              rename_i ob mk ha
              split at h
              case h_2 => cases h
              rename_i hng hlt
              have hlt : base + n < 16000000 := by simpa using hlt
              have k := ih h
              have hn : ∀ j, n + (j + 1) ≠ n := fun j => by omega
              have h2 : ∀ k, k ≠ n → alook ((n, mk (Nat.add base n)) :: V) k = alook V k := fun k hk => look_cons hk
              have hhead : A1.heap.get (base + n) = some ob := by
                rw [k.heap _ (fun j o' _ _ _ => by rw [succ_add']; omega)]
                exact Tr.get_put_there _ _ _ (by have : base.add n = base + n := rfl; omega)
              refine ⟨(Sub.cons hno).trans k.sub, k.next, k.fams, ?_, ?_, ?_, ?_⟩
              · intro b hb
                rw [k.heap b fun j o' ho' hal' hno' => by
                  rw [succ_add'] at hno' ⊢
                  rw [h2 _ (hn j)] at hno'
                  exact hb (j + 1) o' (by simpa using ho') hal' hno']
                exact Tr.get_put_other _ _ _ _ (by simpa using hb 0 o rfl hal (by simpa using hno))
              · intro b ob' hb
                rcases k.new b ob' hb with h | ⟨h, j, o', a, b', c, d⟩
                · rcases Tr.get_put h with ⟨h1, h2⟩ | ⟨_, h2⟩
                  · injection h2 with h2; subst h2
                    exact .inr ⟨hng, 0, o, rfl, hal, by simpa using hno, h1⟩
                  · exact .inl h2
                · rw [succ_add'] at c d
                  rw [h2 _ (hn j)] at c
                  exact .inr ⟨h, j + 1, o', by simpa using a, b', c, d⟩
              · intro j o' v ho' hal' hno' hv
                cases j with
                | zero =>
                  simp at ho'; subst ho'
                  have hv1 := k.sub n _ (look_same (V := V) (j := n) (v := mk (Nat.add base n)))
                  have hv : alook V1 n = some v := hv
                  rw [hv1] at hv; injection hv with hv; subst hv
                  exact ⟨V, (Sub.cons hno).trans k.sub, .inr ⟨hw, ob, mk, ha, rfl, hhead, hng⟩⟩
                | succ j =>
                  simp at ho'
                  rw [← h2 _ (hn j)] at hno'
                  rw [← succ_add'] at hno' hv ⊢
                  exact k.pend j o' v ho' hal' hno' hv
              · intro q hq
                rw [k.look q (fun j o' ho' => by rw [succ_add']; exact hq (j + 1) o' (by simpa using ho'))]
                exact h2 q (by simpa using hq 0 o rfl)
            · rename_i hal
              have hx : ∀ {v : Value} {X : Prop}, isAl o.op = true → X := fun h => by rw [h] at hal; cases hal
              split at h
              · exact step (Sub.cons hno) (fun k hk => look_cons hk) h fun v h => by rw [h] at hal; cases hal
              · exact step (Sub.refl _) (fun _ _ => rfl) h fun v h => by rw [h] at hal; cases hal
          · rename_i hw
            refine step (Sub.cons hno) (fun k hk => look_cons hk) h fun v hal _ hv => ?_
            rw [same h, look_same] at hv; injection hv with hv; subst hv
            exact ⟨V, (Sub.cons hno).trans (ih h).sub, .inl ⟨hw, rfl⟩⟩
          · refine step (Sub.refl _) (fun _ _ => rfl) h fun v hal _ hv => ?_
            rw [same h, hno] at hv; cases hv
        · refine step (Sub.refl _) (fun _ _ => rfl) h fun v hal _ hv => ?_
          rw [same h, hno] at hv; cases hv
end

section
variable {P : Program} {T : Tab} {B : Nat} {cs0 : List Frame}

structure SlotOk (T : Tab) (D : DI) (A1 : AMem) (vars : List (Option Value)) (over : List (Nat × Value)) (done pending : List Nat) (ops : Array Oper) (V1 : List (Nat × Value)) : Prop where
  quiet : ∀ j o, ops[j]? = some o → openBef D j pending = true → openAft D j done = true → isQuiet o.op = true → ∃ Vi v, Sub Vi V1 ∧ alook V1 j = some v ∧ QVal T D A1 vars over Vi o j v
  als : ∀ j o, ops[j]? = some o → openBef D j pending = true → openAft D j done = true → isAl o.op = true → ∃ v, alook V1 j = some v

theorem dslot_ok {D : DI} {A A1 : AMem} {vars : List (Option Value)} {over : List (Nat × Value)} {done pending : List Nat} {base : Nat} {ops : Array Oper} {V V1 : List (Nat × Value)}
    (h : dslot T D A vars over done pending base ops.toList V = some (A1, V1)) :
    ∃ Va, PreOk T D vars over base ops.toList 0 A V A1 Va ∧ dpass T D A1 vars over done pending ops.toList 0 Va = some V1 := by
  unfold dslot at h
  split at h
  · split at h
    case h_2 => cases h
    rename_i V2 h2
    injection h with h; injection h with h1 h3; subst h1; subst h3
    refine ⟨V, ⟨Sub.refl _, rfl, rfl, fun _ _ => rfl, fun _ _ h => .inl h, ?_, fun _ _ => rfl⟩, h2⟩
    intro j o v _ _ a b
    rw [a] at b; cases b
  · split at h
    case h_2 => cases h
    rename_i A2 V2 h2
    split at h
    case h_2 => cases h
    rename_i V3 h3
    injection h with h; injection h with h1 h4; subst h1; subst h4
    exact ⟨V2, dpre_ok h2, h3⟩

theorem slot_ok {μ : Mu} {A A1 : AMem} {lo hi nt : Nat} {vars : List (Option Value)} {over : List (Nat × Value)} {ops : Array Oper} {t : Nat} {V V1 : List (Nat × Value)} {base : Nat} {rest : List Nat} {tm : Array Value} {hp : Array Obj} {done pending : List Nat}
    (h : DInv T μ A lo hi nt vars over ops t V base rest tm) (R : MRel μ B A hp) (hhi : hi ≤ A.next)
    (hs : dslot T (dinfo ops.toList) A vars over done pending base ops.toList V = some (A1, V1)) :
    DInv T μ A1 lo hi nt vars over ops t V1 base rest tm ∧ MRel μ B A1 hp ∧ SlotOk T (dinfo ops.toList) A1 vars over done pending ops V1 ∧ A1.next = A.next ∧ Kept lo μ A A1 := by
  obtain ⟨Va, hp1, hpass⟩ := dslot_ok hs
  obtain ⟨s1, s2, s3, s4⟩ := dpass_ok hpass
  have hsub := hp1.sub.trans s1
  have hget : ∀ {j : Nat} {o : Oper}, ops.toList[j]? = some o ↔ ops[j]? = some o := by intro j o; simp
  have hrest : ∀ {j : Nat} {o : Oper}, ops[j]? = some o → alook V j = none → j ∈ rest := by
    intro j o ho hn
    rcases Classical.em (j ∈ rest) with h1 | h1
    · exact h1
    · obtain ⟨v, a, _⟩ := h.done j o h1 ho
      rw [hn] at a; cases a
  refine ⟨⟨h.ok, h.nt, h.lo, h.hi, h.ord, h.chain, ?_, h.old, ?_⟩, ?_, ?_, hp1.next, ?_⟩
  · intro i o hi' ho
    obtain ⟨v, a, b⟩ := h.done i o hi' ho
    exact ⟨v, hsub i v a, b⟩
  · intro j o hj ho hal
    obtain ⟨a, b⟩ := h.pend j o hj ho hal
    refine ⟨a, fun v hv => ?_⟩
    rw [s2 j (fun j' o' ho' hq => by
      rintro rfl
      rw [Nat.zero_add] at ho
      rw [Option.some.inj (ho'.symm.trans (hget.2 ho)), al_not_quiet hal] at hq; cases hq)] at hv
    cases hVj : alook V j with
    | some v' =>
      have := hp1.sub j v' hVj
      rw [hv] at this; injection this with this; subst this
      refine (b v hVj).mono hsub fun ob h5 _ => ?_
      rw [hp1.heap _ (fun j' o' _ _ hn => by
        intro e
        have : j = j' := by omega
        subst this
        rw [Nat.zero_add, hVj] at hn; cases hn)]
      exact h5
    | none =>
      have := hp1.pend j o v (hget.2 ho) hal (by rw [Nat.zero_add]; exact hVj) (by rw [Nat.zero_add]; exact hv)
      rw [Nat.zero_add] at this
      exact this.mono s1 fun _ h _ => h
  · refine ⟨R.base, ?_, ?_, R.sep, ?_, ?_⟩
    · intro b o e hb he
      rcases hp1.new b o hb with h1 | ⟨_, j, o', ho', hal, hn, rfl⟩
      · exact R.obj b o e h1 he
      · rw [Nat.zero_add] at hn he
        have := (h.pend j o' (hrest (hget.1 ho') hn) (hget.1 ho') hal).1
        rw [this] at he; cases he
    · intro b e he
      rw [hp1.next]; exact R.dom b e he
    · intro b xs g hb
      rw [hp1.next, hp1.fams]
      rcases hp1.new b _ hb with h1 | ⟨hng, _⟩
      · exact R.memb b xs g h1
      · cases hng
    · intro b o hb
      rw [hp1.next]
      rcases hp1.new b o hb with h1 | ⟨_, j, o', ho', _, _, rfl⟩
      · exact R.live b o h1
      · have := (Array.getElem?_eq_some_iff.1 (hget.1 ho')).1
        have := h.hi
        omega
  · refine ⟨?_, ?_⟩
    · intro j o ho hx hy hq
      have := s3 j o (hget.2 ho) (by rw [Nat.zero_add]; exact hx) (by rw [Nat.zero_add]; exact hy) hq
      rw [Nat.zero_add] at this; exact this
    · intro j o ho hx hy hq
      have := s4 j o (hget.2 ho) (by rw [Nat.zero_add]; exact hx) (by rw [Nat.zero_add]; exact hy) hq
      rw [Nat.zero_add] at this; exact this
  · intro b o hb _ ho _
    rw [hp1.heap b (fun j o' _ _ _ => by have := h.lo; omega)]
    exact ho

/-! ### which operations may run -/
theorem chainOf_sorted : ∀ (ops : List Oper) (n : Nat), (chainOf ops n).Pairwise (· < ·) ∧ ∀ x ∈ chainOf ops n, n ≤ x := by
  intro ops
  induction ops with
  | nil => intro n; exact ⟨List.Pairwise.nil, fun x h => by cases h⟩
  | cons o ops ih =>
    intro n
    obtain ⟨a, b⟩ := ih (Nat.succ n)
    unfold chainOf
    split
    · exact ⟨a, fun x hx => by have := b x hx; omega⟩
    · refine ⟨List.pairwise_cons.2 ⟨fun x hx => b x hx, a⟩, fun x hx => ?_⟩
      rcases List.mem_cons.1 hx with rfl | hx
      · exact Nat.le_refl _
      · have := b x hx; omega

theorem openBef_of {D : DI} {j : Nat} {l : List Nat} (h : ∀ c ∈ l, before D c j = false) : openBef D j l = true := by
  induction l with
  | nil => rfl
  | cons c l ih =>
    unfold openBef
    rw [h c (by simp)]
    exact ih fun c' hc => h c' (by simp [hc])
theorem openAft_of {D : DI} {j : Nat} {l : List Nat} (h : ∀ c ∈ l, before D j c = false) : openAft D j l = true := by
  induction l with
  | nil => rfl
  | cons c l ih =>
    unfold openAft
    rw [h c (by simp)]
    exact ih fun c' hc => h c' (by simp [hc])

theorem takeL_eq : ∀ (l : List Nat) (n : Nat), takeL l n = l.take n := by
  intro l
  induction l with
  | nil => intro n; cases n <;> rfl
  | cons x l ih =>
    intro n
    cases n with
    | zero => rfl
    | succ n => exact congrArg (x :: ·) (ih n)

/-- The operation at the head, where it is none of the chain: it may run in this slot. -/
theorem head_open {μ : Mu} {A : AMem} {lo hi nt : Nat} {vars : List (Option Value)} {over : List (Nat × Value)} {ops : Array Oper} {t : Nat} {V : List (Nat × Value)} {base i : Nat} {rest : List Nat} {tm : Array Value}
    (h : DInv T μ A lo hi nt vars over ops t V base (i :: rest) tm) (hi : mem i (dinfo ops.toList).chain = false) :
    openBef (dinfo ops.toList) i (dropN (dinfo ops.toList).chain t) = true ∧ openAft (dinfo ops.toList) i (takeL (dinfo ops.toList).chain t) = true := by
  obtain ⟨S, h1, h2, h3⟩ := h.ord
  have hpw := List.pairwise_append.1 h1
  have hc := h.chain
  rw [List.filter_cons, hi] at hc
  simp only [Bool.false_eq_true, if_false] at hc
  refine ⟨openBef_of fun c hm => ?_, openAft_of fun c hm => ?_⟩
  · rw [dropN_eq, ← hc, List.mem_filter] at hm
    exact (List.pairwise_cons.1 hpw.2.1).1 c hm.1
  · rw [takeL_eq] at hm
    have hch : c ∈ (dinfo ops.toList).chain := List.mem_of_mem_take hm
    obtain ⟨o, _, ho, _⟩ := mem_chainOf.1 hch
    have hsz : c < ops.size := by
      have ho : ops[c]? = some o := by simpa using ho
      exact (Array.getElem?_eq_some_iff.1 ho).1
    have hne : c ≠ i := by rintro rfl; rw [mem_false] at hi; exact hi hch
    rcases List.mem_append.1 ((h3 c).2 hsz) with hS | hr
    · exact hpw.2.2 c hS i (by simp)
    · rcases List.mem_cons.1 hr with e | hr
      · exact absurd e hne
      · exfalso
        have : c ∈ (dinfo ops.toList).chain.drop t := by rw [← hc, List.mem_filter]; exact ⟨hr, mem_eq.2 hch⟩
        have hs := (chainOf_sorted ops.toList 0).1
        have hs : (dinfo ops.toList).chain.Pairwise (· < ·) := hs
        rw [← List.take_append_drop t (dinfo ops.toList).chain] at hs
        have := (List.pairwise_append.1 hs).2.2 c hm c this
        omega
end

section
variable {P : Program} {T : Tab} {B : Nat} {cs0 : List Frame}

theorem step_oper {fr : Frame} {cs : List Frame} {w : World} {ops : Array Oper} {i : Nat} {rest : List Nat} {k : List Item} {o : Oper} (hm : fr.mode = .run) (ht : fr.todo = .inRegion ops (i :: rest) :: k)
    (ho : ops[i]? = some o) (hw : Region.wanted o (yielded ops fr.tmps) = true) (hd : fr.roundOf = none ∨ ∀ c, o.op ≠ .defer c) :
    stepG P true { frame := fr, callers := cs, status := .running, dying := none } w = stepG.apply P true fr cs none (execOp fr.eval o) w := by
  simp only [stepG, stepG.exec, hm, ht, ho, Option.map_some, Option.getD_some, hw, if_true, stepG.oper, Frame.oper?]
  rcases hd with hd | hd
  · simp only [hd]
  · split
    · rename_i h; exact absurd h (hd _)
    · rfl

theorem step_val {fr : Frame} {cs : List Frame} {w w' : World} {ops : Array Oper} {i : Nat} {rest : List Nat} {k : List Item} {o : Oper} (hm : fr.mode = .run) (ht : fr.todo = .inRegion ops (i :: rest) :: k)
    (ho : ops[i]? = some o) (hw : Region.wanted o (yielded ops fr.tmps) = true) (hd : fr.roundOf = none ∨ ∀ c, o.op ≠ .defer c) {v : Value} (hr : (execOp fr.eval o).run P w = .ok (.value v) w') :
    Steps P (lone fr cs w) (lone (fr.finish v) cs w') := by
  refine .one (step_lone_go ?_)
  rw [step_oper hm ht ho hw hd]
  simp only [stepG.apply, Sem.runT_eq, hr, if_true, GStep.bare_after, GStep.bare_go]

theorem step_nowant {fr : Frame} {cs : List Frame} {w : World} {ops : Array Oper} {i : Nat} {rest : List Nat} {k : List Item} {o : Oper} (hm : fr.mode = .run) (ht : fr.todo = .inRegion ops (i :: rest) :: k)
    (ho : ops[i]? = some o) (hw : Region.wanted o (yielded ops fr.tmps) = false) :
    Steps P (lone fr cs w) (lone (fr.finish undef) cs w) := by
  refine .one (step_lone_go ?_)
  simp [stepG, stepG.exec, hm, ht, ho, hw]

theorem finish_region {fr : Frame} {ops : Array Oper} {i : Nat} {rest : List Nat} {k : List Item} {o : Oper} (ht : fr.todo = .inRegion ops (i :: rest) :: k) (ho : ops[i]? = some o) (v : Value) :
    fr.finish v = { fr with tmps := putC fr.tmps o.dst v, todo := .inRegion ops rest :: k } := by
  simp only [Frame.finish, ht, ho, Option.bind_some]
  cases o.dst <;> rfl

theorem quiet_ndefer {o : Op} (h : isQuiet o = true ∨ isAl o = true) : ∀ c, o ≠ .defer c := by
  rintro c rfl
  rcases h with h | h <;> cases h

theorem DInv.lohi {μ : Mu} {A : AMem} {lo hi nt : Nat} {vars : List (Option Value)} {over : List (Nat × Value)} {ops : Array Oper} {t : Nat} {V : List (Nat × Value)} {base : Nat} {rest : List Nat} {tm : Array Value}
    (h : DInv T μ A lo hi nt vars over ops t V base rest tm) : lo ≤ hi := by have := h.lo; have := h.hi; omega

theorem quiet_run (C : Cert P T) {A : AMem} {lo hi : Nat} {fr : AFrame} {ops : Array Oper} {t : Nat} {V : List (Nat × Value)} {base : Nat} {k : List Item} {cs : List Frame} (hhi : hi ≤ A.next)
    (hs : SlotOk T (dinfo ops.toList) A fr.vars fr.over (takeL (dinfo ops.toList).chain t) (dropN (dinfo ops.toList).chain t) ops V) :
    ∀ (rest : List Nat) {μ : Mu} {fr' : Frame} {w : World}, fr'.mode = .run → fr'.todo = .inRegion ops rest :: k → DInv T μ A lo hi fr.nt fr.vars fr.over ops t V base rest fr'.tmps → MRel μ B A w.heap → GRel μ T.nglob →
    ∃ μ' tm w' rest', Mu.Ext lo μ μ' ∧ Steps P (lone fr' cs w) (lone { fr' with tmps := tm, todo := .inRegion ops rest' :: k } cs w') ∧ Below B w w' ∧
      DInv T μ' A lo hi fr.nt fr.vars fr.over ops t V base rest' tm ∧ MRel μ' B A w'.heap ∧ (rest' = [] ∨ ∃ c r, rest' = c :: r ∧ mem c (dinfo ops.toList).chain = true) := by
  intro rest
  induction rest with
  | nil =>
    intro μ fr' w _ ht hd R _
    refine ⟨μ, fr'.tmps, w, [], Mu.Ext.refl _ _, ?_, Below.refl _ _, hd, R, .inl rfl⟩
    rw [← ht]; exact Steps.refl _ _
  | cons i rest ih =>
    intro μ fr' w hm ht hd R G
    cases hc : mem i (dinfo ops.toList).chain with
    | true =>
      refine ⟨μ, fr'.tmps, w, i :: rest, Mu.Ext.refl _ _, ?_, Below.refl _ _, hd, R, .inr ⟨i, rest, rfl, hc⟩⟩
      rw [← ht]; exact Steps.refl _ _
    | false =>
      obtain ⟨ho1, ho2⟩ := head_open hd hc
      obtain ⟨S, h1, h2, h3⟩ := hd.ord
      have hlt : i < ops.size := (h3 i).1 (by simp)
      obtain ⟨o, ho⟩ : ∃ o, ops[i]? = some o := ⟨_, Array.getElem?_eq_getElem hlt⟩
      -- what follows a step
      have go : ∀ {μ1 : Mu} {v v' : Value} {w1 : World}, Mu.Ext lo μ μ1 → (∀ j, j ∈ rest → μ (base + j) = none → μ1 (base + j) = none) → alook V i = some v → VRel μ1 v v' → MRel μ1 B A w1.heap → Below B w w1 →
          Steps P (lone fr' cs w) (lone (fr'.finish v') cs w1) →
          ∃ μ' tm w' rest', Mu.Ext lo μ μ' ∧ Steps P (lone fr' cs w) (lone { fr' with tmps := tm, todo := .inRegion ops rest' :: k } cs w') ∧ Below B w w' ∧
            DInv T μ' A lo hi fr.nt fr.vars fr.over ops t V base rest' tm ∧ MRel μ' B A w'.heap ∧ (rest' = [] ∨ ∃ c r, rest' = c :: r ∧ mem c (dinfo ops.toList).chain = true) := by
        intro μ1 v v' w1 hext hpd hv hvr R1 hb hst
        have hd1 := hd.exec' ho hvr hext.1 hpd (.inr ⟨hc, rfl⟩) (.inl ⟨rfl, hv⟩)
        rw [finish_region ht ho] at hst
        obtain ⟨μ', tm, w', rest', a, b, c, d, e, f⟩ := ih (fr' := { fr' with tmps := putC fr'.tmps o.dst v', todo := .inRegion ops rest :: k }) hm rfl hd1 R1 (G.mono hext.1)
        exact ⟨μ', tm, w', rest', ⟨hext.1.trans a.1, fun b hb hn => a.2 b hb (hext.2 b hb hn)⟩, hst.trans b, hb.trans c, d, e, f⟩
      have skip : ∀ {Vi : List (Nat × Value)}, Sub Vi V → dWanted (dinfo ops.toList) Vi o i = some false → alook V i = some undef → _ := fun {Vi} hVi hw hv =>
        go (Mu.Ext.refl _ μ) (fun _ _ h => h) hv (VsRel.tuple .nil) R (Below.refl _ _) (step_nowant hm ht ho (wanted_draw hd hVi ho hw))
      have hcl : isQuiet o.op = true ∨ isAl o.op = true := by
        cases hq : isQuiet o.op with
        | true => exact .inl rfl
        | false =>
          cases ha : isAl o.op with
          | true => exact .inr rfl
          | false =>
            exfalso
            rw [mem_false] at hc
            refine hc (mem_chainOf.2 ⟨o, Nat.zero_le _, by simpa using ho, ?_⟩)
            unfold isChain; rw [hq, ha]
      rcases hcl with hq | hal
      · obtain ⟨Vi, v, hVi, hv, hqv⟩ := hs.quiet i o ho ho1 ho2 hq
        rcases hqv with ⟨hw, hqo⟩ | ⟨hw, rfl⟩
        · have hrho := rho_draw (fr' := fr') G hd hVi
          obtain ⟨v', w1, μ1, hr, hext, R1, hvr, hb, _⟩ := aop_ok C R hrho (o := o) (qop_aop hqo)
          refine go (hext.le (Nat.le_trans hd.lohi hhi)) ?_ hv hvr R1 hb (step_val hm ht ho (wanted_draw hd hVi ho hw) (.inr (quiet_ndefer (.inl hq))) hr)
          intro j hj hn
          have hjs : j < ops.size := (h3 j).1 (by simp [hj])
          exact hext.2 _ (by have := hd.hi; omega) hn
        · exact skip hVi hw hv
      · obtain ⟨v, hv⟩ := hs.als i o ho ho1 ho2 hal
        obtain ⟨hmu, hp⟩ := hd.pend i o (by simp) ho hal
        obtain ⟨Vi, hVi, hp⟩ := hp v hv
        rcases hp with ⟨hw, rfl⟩ | ⟨hw, ob, mk, hao, rfl, hget, hng⟩
        · exact skip hVi hw hv
        · have hrho := rho_draw (fr' := fr') G hd hVi
          obtain ⟨s, he, o', v', hr, _, hor, hvr⟩ := alop_ok (w := w) C R.base hrho (o := o) hao
          have hle := Mu.le_add (e := ⟨w.heap.size, 0, none, 0⟩) hmu
          have R1 : MRel (μ.add (base + i) ⟨w.heap.size, 0, none, 0⟩) B A (w.alloc o').heap := R.map hmu (by have := hd.hi; omega) rfl rfl (fun g hg => by cases hg) (fun o2 ho2 => by
            rw [hget] at ho2; injection ho2 with ho2; subst ho2
            exact hor _ hle)
          refine go (μ1 := μ.add (base + i) ⟨w.heap.size, 0, none, 0⟩) ⟨hle, ?_⟩ ?_ hv (hvr _ _ (by simp)) R1 ((Below.refl _ _).alloc R.base _)
            (step_val hm ht ho (wanted_draw hd hVi ho hw) (.inr (quiet_ndefer (.inr hal))) (v := v') (w' := w.alloc o') (by rw [he]; simp [hr]))
          · intro b hb hn
            rw [Mu.add, if_neg (by have := hd.lo; omega)]; exact hn
          · intro j hj hn
            have hne : j ≠ i := by
              rintro rfl
              have := h2.sublist (List.sublist_append_right _ _)
              exact (List.nodup_cons.1 this).1 hj
            rw [Mu.add, if_neg (by omega)]; exact hn
end

section
variable {P : Program} {T : Tab} {B : Nat} {cs0 : List Frame}

theorem tget_tset {vars : List (Option Value)} {over : List (Nat × Value)} {t u : Nat} {v x : Value} (h : tget (tset vars over t v).1 (tset vars over t v).2 u = some x) : (u = t ∧ x = v) ∨ (u ≠ t ∧ tget vars over u = some x) := by
  by_cases e : u = t
  · subst e
    left
    refine ⟨rfl, ?_⟩
    unfold tset at h
    split at h
    · rename_i o ho
      rw [nth_eq] at ho
      have hl := (List.getElem?_eq_some_iff.1 ho).1
      simp only [tget, nth_eq, lset_eq, List.getElem?_set, hl] at h
      simp at h
      exact h.symm
    · rename_i hn
      simp only [tget, hn, alook_cons] at h
      simp at h
      exact h.symm
  · right
    refine ⟨e, ?_⟩
    unfold tset at h
    split at h
    · simp only [tget, nth_eq, lset_eq, List.getElem?_set] at h ⊢
      simpa [Ne.symm e] using h
    · simp only [tget, alook_cons] at h ⊢
      simpa [Ne.symm e] using h

theorem put_some {fr fr1 : AFrame} {t : Tmp} {v : Value} (h : fr.put (some t) v = some fr1) :
    fr1 = { fr with vars := fr1.vars, over := fr1.over } ∧ ∀ u x, tget fr1.vars fr1.over u = some x → (u = t ∧ x = v) ∨ (u ≠ t ∧ tget fr.vars fr.over u = some x) := by
  have h : (match Nat.blt t fr.nt, tset fr.vars fr.over t v with | true, (vs, ov) => some { fr with vars := vs, over := ov } | false, _ => none) = some fr1 := h
  split at h
  · rename_i vs ov _ he
    injection h with h; subst h
    refine ⟨rfl, fun u x hu => ?_⟩
    refine tget_tset ?_
    rw [he]; exact hu
  · cases h

theorem dflush_ok {V : List (Nat × Value)} {Q : Nat → Value → Prop} : ∀ {ds : List (Nat × Nat)} {fr fr1 : AFrame}, dflush V ds fr = some fr1 →
    (∀ u v, tget fr.vars fr.over u = some v → (∀ j, (u, j) ∉ ds) → Q u v) → (∀ d j v, (d, j) ∈ ds → alook V j = some v → Q d v) →
    (∀ u v, tget fr1.vars fr1.over u = some v → Q u v) ∧ fr1 = { fr with vars := fr1.vars, over := fr1.over } := by
  intro ds
  induction ds with
  | nil =>
    intro fr fr1 h h1 _
    injection h with h; subst h
    exact ⟨fun u v hu => h1 u v hu (fun j hj => by cases hj), rfl⟩
  | cons p ds ih =>
    obtain ⟨d, j⟩ := p
    intro fr fr1 h h1 h2
    unfold dflush at h
    split at h
    case h_2 => cases h
    rename_i v hv
    split at h
    case h_2 => cases h
    rename_i fr2 hp
    obtain ⟨e, hg⟩ := put_some hp
    obtain ⟨a, b⟩ := ih h (fun u x hu hn => by
      rcases hg u x hu with ⟨rfl, rfl⟩ | ⟨hne, hu⟩
      · exact h2 u j x (by simp) hv
      · refine h1 u x hu fun j' hj' => ?_
        rcases List.mem_cons.1 hj' with e | hj'
        · injection e with e _; exact hne e
        · exact hn j' hj') (fun d' j' v' hm hv' => h2 d' j' v' (by simp [hm]) hv')
    refine ⟨a, ?_⟩
    rw [b, e]

/-- The region is done. -/
theorem flush_ok {μ : Mu} {A : AMem} {lo hi : Nat} {fr fr1 : AFrame} {ops : Array Oper} {t : Nat} {V : List (Nat × Value)} {base : Nat} {tm : Array Value} {k : List AItem}
    (h : DInv T μ A lo hi fr.nt fr.vars fr.over ops t V base [] tm) (hf : dflush V (dinfo ops.toList).dsts { fr with todo := k } = some fr1) :
    TRel μ fr.nt fr1.vars fr1.over tm ∧ fr1 = { fr with vars := fr1.vars, over := fr1.over, todo := k } := by
  obtain ⟨a, b⟩ := dflush_ok (Q := fun u v => ∃ v', tm[u]? = some v' ∧ VRel μ v v') hf (fun u v hu hn => h.old u v hu (fun k' hk' => absurd ((nodupD_look (okDraw_spec h.ok).2.2.1).2 hk') (hn k')))
    (fun d j v hm hv => by
      obtain ⟨o, _, ho, hd⟩ := mem_dstsOf.1 hm
      obtain ⟨v2, x, y⟩ := h.done j o (by simp) (by simpa using ho)
      rw [hv] at x; injection x with x; subst x
      exact y d hd)
  exact ⟨⟨h.nt, a⟩, b⟩

theorem aop_ndefer {A : AMem} {ev : Operand → Option Value} {o : Op} {r : ARes} (h : aop T A ev o = some r) (hr : ∀ d, r ≠ .defer d) : ∀ c, o ≠ .defer c := by
  rintro c rfl
  have h : rDefer ev c = some r := h
  unfold rDefer at h
  split at h
  · split at h
    · injection h with h; exact hr _ h.symm
    · cases h
  · cases h

theorem chain_head {μ : Mu} {A : AMem} {lo hi nt : Nat} {vars : List (Option Value)} {over : List (Nat × Value)} {ops : Array Oper} {t : Nat} {V : List (Nat × Value)} {base : Nat} {rest : List Nat} {tm : Array Value}
    (h : DInv T μ A lo hi nt vars over ops t V base rest tm) (he : rest = [] ∨ ∃ c r, rest = c :: r ∧ mem c (dinfo ops.toList).chain = true) :
    (nth (dinfo ops.toList).chain t = none → rest = []) ∧ (∀ c, nth (dinfo ops.toList).chain t = some c → (∃ r, rest = c :: r) ∧ mem c (dinfo ops.toList).chain = true) := by
  have hc := h.chain
  constructor
  · intro hn
    rw [nth_eq, List.getElem?_eq_none_iff] at hn
    rw [List.drop_eq_nil_of_le hn] at hc
    rcases he with he | ⟨c, r, rfl, hm⟩
    · exact he
    · rw [List.filter_cons, hm] at hc; cases hc
  · intro c hn
    rw [nth_eq] at hn
    have hlt := (List.getElem?_eq_some_iff.1 hn).1
    have hd := List.drop_eq_getElem_cons hlt
    rw [(List.getElem?_eq_some_iff.1 hn).2] at hd
    rw [hd] at hc
    rcases he with rfl | ⟨c', r, rfl, hm⟩
    · cases hc
    · rw [List.filter_cons, hm] at hc
      simp only [if_true] at hc
      injection hc with hc _
      subst hc
      exact ⟨⟨r, rfl⟩, hm⟩

theorem aDraw_ok (C : Cert P T) {μ : Mu} {s : ASt} {fr' : Frame} {cs' : List Frame} {w : World} {lo : Nat} (R : MRel μ B s.A w.heap) (G : GRel μ T.nglob) (hlo : lo ≤ s.A.next) (hs : Stack T μ s.A lo s.cs cs')
    {ops : Array Oper} {t : Nat} {V : List (Nat × Value)} {base : Nat} {k : List AItem} {rest : List Nat} {k' : List Item} (core : Core μ s.fr fr') (run : s.fr.mode = .run)
    (h2 : fr'.todo = .inRegion ops rest :: k') (h3 : TodoRel μ k k') (h4 : DInv T μ s.A lo s.A.next s.fr.nt s.fr.vars s.fr.over ops t V base rest fr'.tmps) :
    Out P T B cs0 fr' cs' w (aDraw T s ops t V base k) := by
  unfold aDraw
  split
  case h_2 => trivial
  rename_i A1 V1 hsl
  obtain ⟨hd1, R1, hso, hnx, hkept⟩ := slot_ok h4 R (Nat.le_refl _) hsl
  have hrun : fr'.mode = .run := by
    have := core.mode
    rw [run] at this
    generalize fr'.mode = mm at this
    cases this; rfl
  obtain ⟨μ1, tm, w1, rest1, hext, hst, hb, hd2, R2, hend⟩ := quiet_run (cs := cs' ++ cs0) C (by rw [hnx]; exact Nat.le_refl _) hso rest hrun h2 hd1 R1 G
  have hs2 : Stack T μ1 A1 lo s.cs cs' := hs.mono hext hkept (Nat.le_refl _)
  have G1 := G.mono hext.1
  obtain ⟨ch1, ch2⟩ := chain_head hd2 hend
  have core2 : ∀ {μ2 : Mu} {fr1 : AFrame} {tm2 : Array Value} {td : List Item}, Mu.Le μ1 μ2 → fr1.fn = s.fr.fn → fr1.kind = s.fr.kind → fr1.roundOf = s.fr.roundOf → fr1.defers = s.fr.defers → fr1.mode = s.fr.mode → Core μ2 fr1 { fr' with tmps := tm2, todo := td } := by
    intro μ2 fr1 tm2 td hle e1 e2 e3 e4 e5
    have c := core.mono (hext.1.trans hle)
    exact ⟨by rw [e1]; exact c.fn, by rw [e2]; exact c.kind, by rw [e3]; exact c.round, by rw [e4]; exact c.defers, by rw [e5]; exact c.mode⟩
  split
  · -- the region's end
    rename_i hn
    have := ch1 hn; subst this
    split
    case h_2 => trivial
    rename_i fr1 hf
    obtain ⟨ht, he⟩ := flush_ok hd2 hf
    have e1 : fr1.fn = s.fr.fn ∧ fr1.kind = s.fr.kind ∧ fr1.roundOf = s.fr.roundOf ∧ fr1.defers = s.fr.defers ∧ fr1.mode = s.fr.mode ∧ fr1.todo = k ∧ fr1.nt = s.fr.nt := by rw [he]; simp
    refine ⟨μ1, { fr' with tmps := tm, todo := k' }, cs', w1, ⟨R2, G1, lo, by show lo ≤ A1.next; rw [hnx]; exact hlo, .plain ⟨core2 (Mu.Le.refl _) e1.1 e1.2.1 e1.2.2.1 e1.2.2.2.1 e1.2.2.2.2.1, ?_, ?_⟩, hs2⟩, hst.trans ?_, hb⟩
    · rw [e1.2.2.2.2.2.2]; exact ht
    · rw [e1.2.2.2.2.2.1]; exact h3.mono hext.1
    · refine .one (step_lone_go ?_)
      simp [stepG, stepG.exec, hrun]
  · rename_i c hn
    obtain ⟨⟨r, rfl⟩, hmem⟩ := ch2 c hn
    split
    case h_2 => trivial
    rename_i o ho
    have ho : ops[c]? = some o := by rw [nth_eq] at ho; simpa using ho
    split
    · -- not wanted
      rename_i hw hno
      have hst2 := step_nowant (P := P) (fr := { fr' with tmps := tm, todo := .inRegion ops (c :: r) :: k' }) (cs := cs' ++ cs0) (w := w1) hrun rfl ho (wanted_draw hd2 (Sub.refl _) ho hw)
      rw [finish_region rfl ho] at hst2
      have hd3 := hd2.exec ho (v := undef) (v' := undef) (VsRel.tuple .nil) (.inl ⟨hmem, rfl⟩) (.inr ⟨rfl, hno⟩)
      exact ⟨μ1, _, cs', w1, ⟨R2, G1, lo, by show lo ≤ A1.next; rw [hnx]; exact hlo, .draw (core2 (Mu.Le.refl _) rfl rfl rfl rfl rfl) run rfl rfl (h3.mono hext.1) (by show DInv _ _ _ _ A1.next _ _ _ _ _ _ _ _ _; rw [hnx]; exact hd3), hs2⟩, hst.trans hst2, hb⟩
    · rename_i hw hno
      have hwt := wanted_draw hd2 (Sub.refl _) ho hw
      have hrho := rho_draw (fr' := { fr' with tmps := tm, todo := .inRegion ops (c :: r) :: k' }) G1 hd2 (Sub.refl _)
      split
      · rename_i v A hop
        obtain ⟨v', w2, μ2, hr, hext2, R3, hvr, hb2, hkeep⟩ := aop_ok C R2 hrho (o := o) hop
        have hst2 := step_val (P := P) (fr := { fr' with tmps := tm, todo := .inRegion ops (c :: r) :: k' }) (cs := cs' ++ cs0) (w := w1) hrun rfl ho hwt (.inr (aop_ndefer hop nofun)) hr
        rw [finish_region rfl ho] at hst2
        have hd3 := (hd2.mono (by rw [hnx] at hext2; exact hext2) (hkeep.kept _) (by have := hkeep.1; rw [hnx] at this; exact this)).exec ho hvr (.inl ⟨hmem, rfl⟩) (.inr ⟨rfl, hno⟩)
        refine ⟨μ2, _, cs', w2, ⟨R3, G1.mono hext2.1, lo, ?_, .draw (core2 hext2.1 rfl rfl rfl rfl rfl) run rfl rfl (h3.mono (hext.1.trans hext2.1)) hd3, hs2.mono (hext2.le ?_) (hkeep.kept _) (Nat.le_refl _)⟩, hst.trans hst2, hb.trans hb2⟩
        · show lo ≤ A.next
          have := hkeep.1; rw [hnx] at this; omega
        · rw [hnx]; exact hlo
      · rename_i A hop
        obtain ⟨w2, hr, R3, hb2, hkeep⟩ := aop_ok C R2 hrho (o := o) hop
        have hst2 : Steps P (lone { fr' with tmps := tm, todo := .inRegion ops (c :: r) :: k' } (cs' ++ cs0) w1) (lone (({ fr' with tmps := tm, todo := .inRegion ops (c :: r) :: k' } : Frame).finish undef) (cs' ++ cs0) w2) := by
          refine .one (step_lone_go ?_)
          rw [step_oper (fr := { fr' with tmps := tm, todo := .inRegion ops (c :: r) :: k' }) hrun rfl ho hwt (.inr (aop_ndefer hop nofun))]
          simp only [stepG.apply, Sem.runT_eq, hr, if_true, GStep.bare_after, GStep.bare_go]
        rw [finish_region rfl ho] at hst2
        have hd3 := (hd2.mono (Mu.Ext.refl _ _) (hkeep.kept _) (by have := hkeep.1; rw [hnx] at this; exact this)).exec ho (v := undef) (v' := undef) (VsRel.tuple .nil) (.inl ⟨hmem, rfl⟩) (.inr ⟨rfl, hno⟩)
        refine ⟨μ1, _, cs', w2, ⟨R3, G1, lo, ?_, .draw (core2 (Mu.Le.refl _) rfl rfl rfl rfl rfl) run rfl rfl (h3.mono hext.1) hd3, hs2.mono (Mu.Ext.refl _ _) (hkeep.kept _) (Nat.le_refl _)⟩, hst.trans hst2, hb.trans hb2⟩
        show lo ≤ A.next
        have := hkeep.1; rw [hnx] at this; omega
      · rename_i f args hop
        obtain ⟨args', hr, hargs, _⟩ := aop_ok C R2 hrho (o := o) hop
        split
        case h_2 => trivial
        rename_i fr1 hen
        refine ⟨μ1, Frame.enter P f args' .normal, { fr' with tmps := tm, todo := .inRegion ops (c :: r) :: k' } :: cs', w1, ⟨R2, G1, A1.next, Nat.le_refl _, .plain (enter_ok C hargs hen), .cons ?_ ?_ hs2⟩, hst.trans ?_, hb⟩
        · exact .wait (core2 (Mu.Le.refl _) rfl rfl rfl rfl rfl) run rfl rfl (h3.mono hext.1) hn (by rw [hnx]; exact hd2)
        · rw [hnx]; exact hlo
        · refine .one (step_lone_go ?_)
          rw [step_oper (fr := { fr' with tmps := tm, todo := .inRegion ops (c :: r) :: k' }) hrun rfl ho hwt (.inr (aop_ndefer hop nofun))]
          simp only [stepG.apply, Sem.runT_eq, hr, if_true, GStep.bare_after, GStep.bare_go]
          rfl
      · exact True.intro
    · exact True.intro
end

section
variable {P : Program} {T : Tab} {B : Nat} {cs0 : List Frame}

theorem run_mode {μ : Mu} {m : AMode} {m' : FrameMode} (h : ModeRel μ m m') (e : m = .run) : m' = .run := by
  cases h with
  | run => rfl
  | _ => cases e

/-- A value comes back to the caller. -/
theorem drawFinish_ok {μ : Mu} {A : AMem} {lo hi : Nat} {c c1 : AFrame} {c' : Frame} (h : CRel T μ A lo hi c c') {v v' : Value} (hv : VRel μ v v') (hf : c.drawFinish v = some c1) : FRel T μ A lo hi c1 (c'.finish v') := by
  cases h with
  | plain h =>
    unfold AFrame.drawFinish at hf
    split at hf
    · rename_i ops t V base k ht
      have htd := h.todo
      rw [ht] at htd
      obtain ⟨y, k', _, hy, _⟩ := htd.cons_left
      cases hy
    · exact .plain (finish_ok h hv hf)
  | @wait ops t ci V base k rest k' core run h1 h2 h3 hc h4 =>
    unfold AFrame.drawFinish at hf
    rw [h1] at hf
    simp only [Nat.succ_eq_add_one] at hf
    have hcn : nth (chainOf ops.toList 0) t = some ci := hc
    rw [hcn] at hf
    simp only at hf
    split at hf
    case h_2 => cases hf
    rename_i hno
    injection hf with hf; subst hf
    obtain ⟨S, _, _, g3⟩ := h4.ord
    have hlt : ci < ops.size := (g3 ci).1 (by simp)
    obtain ⟨o, ho⟩ : ∃ o, ops[ci]? = some o := ⟨_, Array.getElem?_eq_getElem hlt⟩
    rw [finish_region h2 ho]
    have hm : mem ci (dinfo ops.toList).chain = true := mem_eq.2 (by rw [nth_eq] at hc; exact List.mem_of_getElem? hc)
    exact .draw ⟨core.fn, core.kind, core.round, core.defers, core.mode⟩ run rfl rfl h3 (h4.exec ho hv (.inl ⟨hm, rfl⟩) (.inr ⟨rfl, hno⟩))

/-! ### a region that draws its order begins -/
theorem okChain_pred {D : DI} : ∀ {C : List Nat} {c l : Nat}, okChain D (c :: C) = true → l ∈ C → ∃ p ∈ c :: C, before D p l = true := by
  intro C
  induction C with
  | nil => intro c l _ h; cases h
  | cons b C ih =>
    intro c l h hl
    unfold okChain at h
    split at h
    case h_2 => cases h
    rename_i hb
    rcases List.mem_cons.1 hl with rfl | hl
    · exact ⟨c, by simp, hb⟩
    · obtain ⟨p, hp, hx⟩ := ih h hl
      exact ⟨p, by simp at hp ⊢; exact .inr hp, hx⟩
theorem okChain_tail {D : DI} {c : Nat} {C : List Nat} (h : okChain D (c :: C) = true) : okChain D C = true := by
  cases C with
  | nil => rfl
  | cons b C =>
    unfold okChain at h
    split at h
    · exact h
    · cases h

theorem chain_eq {D : DI} : ∀ {C L : List Nat}, okChain D C = true → (∀ x ∈ C, before D x x = false) → C.Nodup → L.Nodup → (∀ x, x ∈ L ↔ x ∈ C) → L.Pairwise (fun a b => before D b a = false) → L = C := by
  intro C
  induction C with
  | nil =>
    intro L _ _ _ _ hm _
    cases L with
    | nil => rfl
    | cons l L => have := (hm l).1 (by simp); cases this
  | cons c C ih =>
    intro L hok hirr hc hl hm hp
    cases L with
    | nil => have := (hm c).2 (by simp); cases this
    | cons l L =>
      have hlc : l = c := by
        rcases List.mem_cons.1 ((hm l).1 (by simp)) with h | h
        · exact h
        · exfalso
          obtain ⟨p, hpm, hb⟩ := okChain_pred hok h
          have hne : p ≠ l := by
            rintro rfl
            rw [hirr p hpm] at hb; cases hb
          rcases List.mem_cons.1 ((hm p).2 hpm) with e | hpL
          · exact hne e
          · have := (List.pairwise_cons.1 hp).1 p hpL
            rw [hb] at this; cases this
      subst hlc
      rw [ih (okChain_tail hok) (fun x hx => hirr x (by simp [hx])) (List.nodup_cons.1 hc).2 (List.nodup_cons.1 hl).2 ?_ (List.pairwise_cons.1 hp).2]
      intro x
      have := hm x
      simp only [List.mem_cons] at this
      constructor
      · intro h
        rcases this.1 (.inr h) with e | h2
        · subst e; exact absurd h (List.nodup_cons.1 hl).1
        · exact h2
      · intro h
        rcases this.2 (.inr h) with e | h2
        · subst e; exact absurd h (List.nodup_cons.1 hc).1
        · exact h2

theorem MRel.bump {μ : Mu} {A : AMem} {h : Array Obj} (R : MRel μ B A h) (n : Nat) : MRel μ B { A with next := Nat.add A.next n } h := by
  have hle : A.next ≤ Nat.add A.next n := Nat.le_add_right _ _
  refine ⟨R.base, R.obj, ?_, R.sep, ?_, ?_⟩
  · intro b e he
    obtain ⟨a, b', c, d⟩ := R.dom b e he
    exact ⟨Nat.lt_of_lt_of_le a hle, b', c, fun g hg => Nat.lt_of_lt_of_le (d g hg) hle⟩
  · intro b xs g hb
    obtain ⟨a, c⟩ := R.memb b xs g hb
    exact ⟨Nat.lt_of_lt_of_le a hle, c⟩
  · intro b o hb
    exact Nat.lt_of_lt_of_le (R.live b o hb) hle

theorem begin_ok {μ : Mu} {A : AMem} {h : Array Obj} (R : MRel μ B A h) {nt : Nat} {vars : List (Option Value)} {over : List (Nat × Value)} {tm : Array Value} (ht : TRel μ nt vars over tm) {ops : Array Oper} (hok : okDraw ops.toList nt = true) {lo : Nat} (hlo : lo ≤ A.next)
    (A' : AMem) (x : Nat) : DInv T μ A' lo (Nat.add A.next (len ops.toList)) nt vars over ops 0 [] A.next (Region.schedule true ops x) tm := by
  obtain ⟨h1, h2, h3, h4⟩ := okDraw_spec hok
  have hed : ∀ j o, ops[j]? = some o → okEdges o.after.toList j = true := by
    intro j o ho
    have := (okOps_spec h1 j o (by simpa using ho)).edges
    rw [Nat.zero_add] at this; exact this
  obtain ⟨s1, s2, s3⟩ := schedule_ok hed x
  have hlen : len ops.toList = ops.size := by rw [len_eq]; simp
  refine ⟨hok, ht.1, hlo, ?_, ⟨[], by simpa using s3, by simpa using s1, by simpa using s2⟩, ?_, ?_, fun u v hu _ => ht.2 u v hu, ?_⟩
  · rw [hlen]; exact Nat.le_refl _
  · rw [List.drop_zero]
    refine chain_eq h2 ?_ ?_ (s1.sublist List.filter_sublist) ?_ (s3.sublist List.filter_sublist)
    · intro c hc
      obtain ⟨o, _, ho, _⟩ := mem_chainOf.1 hc
      have ho : ops[c]? = some o := by simpa using ho
      cases hb : before (dinfo ops.toList) c c with
      | false => rfl
      | true => have := before_lt hok ho hb; omega
    · exact (chainOf_sorted ops.toList 0).1.imp (fun h => by omega)
    · intro c
      rw [List.mem_filter, mem_eq, s2]
      constructor
      · rintro ⟨_, h⟩; exact h
      · intro hc
        refine ⟨?_, hc⟩
        obtain ⟨o, _, ho, _⟩ := mem_chainOf.1 hc
        have ho : ops[c]? = some o := by simpa using ho
        exact (Array.getElem?_eq_some_iff.1 ho).1
  · intro i o hi ho
    exact absurd ((s2 i).2 (Array.getElem?_eq_some_iff.1 ho).1) hi
  · intro j o _ _ _
    refine ⟨?_, fun v hv => by rw [alook_nil] at hv; cases hv⟩
    cases hm : μ (A.next + j) with
    | none => rfl
    | some e => have := (R.dom _ e hm).1; omega

/-! ### results -/
theorem opLoad_var (C : Cert P T) {μ : Mu} {A : AMem} {w : World} (R : MRel μ B A w.heap) {t : TypeId} {a a' : Value} (ha : VRel μ a a') {r : Value × AMem} (h : opLoad T A t a = some r) :
    ∃ ad v', a' = .pointer (some ad) ∧ (loadVar t ad).run P w = .ok v' w ∧ VRel μ r.1 v' := by
  unfold opLoad at h
  split at h
  · rename_i b off
    cases ha with
    | @ptr _ _ e he =>
    split at h
    · rename_i ti ht
      split at h
      · rename_i hagg
        split at h
        · rename_i ys hl
          injection h with h; subst h
          obtain ⟨zs, hz, hv, _⟩ := aload_spec P R he hl
          refine ⟨_, .agg zs, rfl, ?_, VsRel.agg hv⟩
          simp [loadVar, C.isAgg ht, hagg, C.sizeOf ht, hz]
        · cases h
      · rename_i hagg
        split at h
        · rename_i x xs hl
          injection h with h; subst h
          have hx : xs = [] := by
            obtain ⟨zs, _, hv, hn⟩ := aload_spec P R he hl
            cases xs with
            | nil => rfl
            | cons y ys => simp at hn
          subst hx
          obtain ⟨z, hz, hv⟩ := aload1_spec P R he hl
          refine ⟨_, z, rfl, ?_, hv⟩
          simp only [loadVar, Sem.run_bind, Result.andThen_ok, C.isAgg ht, hagg, Bool.false_eq_true, if_false]
          exact hz
        · cases h
    · cases h
  · cases h

theorem dropRec_ok {μ : Mu} : ∀ {l l' : List PanicEntry}, LRel (PERel μ) l l' → LRel (PERel μ) (dropRec l) (l'.dropWhile (!·.goexit)) := by
  intro l
  induction l with
  | nil => intro l' h; rw [h.nil_left]; exact .nil
  | cons x l ih =>
    intro l' h
    obtain ⟨y, o2, rfl, hxy, ho2⟩ := h.cons_left
    unfold dropRec
    rw [List.dropWhile_cons, List.dropWhile_cons, ← hxy.2.2]
    split
    · exact ih ho2
    · exact .cons hxy ho2

theorem results_ok (C : Cert P T) {μ : Mu} {A : AMem} {w : World} (R : MRel μ B A w.heap) {fr : AFrame} {tm : Array Value} (ht : TRel μ fr.nt fr.vars fr.over tm) {a : AFn} (ha : T.fn.get fr.fn = some a) {vs : List Value}
    (h : aResults T A fr a.results = some vs) :
    ∃ fn v', P.funcs[fr.fn]? = some fn ∧ (results fn tm).run P w = .ok v' w ∧ VRel μ (tup vs) v' := by
  obtain ⟨fn, h1, _, _, h4, _⟩ := C.fn _ a ha
  have key : ∀ (rs : List ResultVar) (vs : List Value), aResults T A fr rs = some vs → ∃ vs', (rs.mapM (fun (r : ResultVar) => (match r with | .tmp t => pure (tm.getD t undef) | .cell a t => do loadVar t (← asAddr (tm.getD a undef)) : Sem Value))).run P w = .ok vs' w ∧ VsRel μ vs vs' := by
    intro rs
    induction rs with
    | nil => intro vs h; injection h with h; subst h; exact ⟨[], by simp, .nil⟩
    | cons r rs ih =>
      intro vs h
      cases r with
      | tmp t =>
        simp only [aResults] at h
        split at h
        case h_2 => cases h
        rename_i v l hv hl
        injection h with h; subst h
        obtain ⟨vs', g1, g2⟩ := ih l hl
        obtain ⟨v', g3, g4⟩ := ht.2 t v hv
        refine ⟨v' :: vs', ?_, .cons g4 g2⟩
        simp only [List.mapM_cons, Sem.run_bind, Sem.run_pure, Result.andThen_ok, Array.getD_eq_getD_getElem?, g3, Option.getD_some]
        simp only [Array.getD_eq_getD_getElem?] at g1
        rw [g1]; rfl
      | cell p t =>
        simp only [aResults] at h
        split at h
        case h_2 => cases h
        rename_i pv hp
        split at h
        case h_2 => cases h
        rename_i v A' l hv hl
        injection h with h; subst h
        obtain ⟨vs', g1, g2⟩ := ih l hl
        obtain ⟨p', g3, g4⟩ := ht.2 p pv hp
        obtain ⟨ad, v', rfl, g5, g6⟩ := opLoad_var C R g4 hv
        refine ⟨v' :: vs', ?_, .cons g6 g2⟩
        simp only [List.mapM_cons, Sem.run_bind, Sem.run_pure, Array.getD_eq_getD_getElem?, g3, Option.getD_some, asAddr, Result.andThen_ok, g5]
        simp only [Array.getD_eq_getD_getElem?, asAddr] at g1
        rw [g1]; rfl
  obtain ⟨vs', g1, g2⟩ := key _ _ h
  rw [← h4] at g1
  have hrun : (results fn tm).run P w = .ok (if h : vs'.toArray.size = 1 then vs'.toArray[0] else .tuple vs'.toArray) w := by
    unfold results
    rw [Array.mapM_eq_mapM_toList]
    simp only [Sem.run_bind, Sem.run_map, Sem.run_pure]
    erw [g1]
    rfl
  refine ⟨fn, _, h1, hrun, ?_⟩
  rcases vs with _ | ⟨v, _ | ⟨u, vs⟩⟩
  · rw [g2.nil_left]
    exact VsRel.tuple .nil
  · obtain ⟨v', l, rfl, hv, hl⟩ := g2.cons_left
    rw [hl.nil_left]
    simpa [tup] using hv
  · have hsz : ¬ vs'.toArray.size = 1 := by
      intro e
      have hl := g2.1
      simp at e
      rw [e] at hl
      simp at hl
    rw [dif_neg hsz]
    exact VsRel.tuple (by simpa using g2)
end

section
variable {P : Program} {T : Tab} {B : Nat} {cs0 : List Frame}

/-- What stands as a plain frame. -/
structure Pl (T : Tab) (B : Nat) (μ : Mu) (s : ASt) (fr' : Frame) (cs' : List Frame) (w : World) (lo : Nat) : Prop where
  R : MRel μ B s.A w.heap
  G : GRel μ T.nglob
  hlo : lo ≤ s.A.next
  p : Plain μ s.fr fr'
  st : Stack T μ s.A lo s.cs cs'

theorem Pl.frame {μ : Mu} {s : ASt} {fr' : Frame} {cs' : List Frame} {w : World} {lo : Nat} (h : Pl T B μ s fr' cs' w lo) {fr1 : AFrame} {fr1' : Frame} (hp : Plain μ fr1 fr1') {m : Machine} (hst : Steps P m (lone fr1' (cs' ++ cs0) w)) {w0 : World} (hb : Below B w0 w) :
    ∃ μ fr' cs' w', SRel T B μ { s with fr := fr1 } fr' cs' w' ∧ Steps P m (lone fr' (cs' ++ cs0) w') ∧ Below B w0 w' :=
  ⟨μ, fr1', cs', w, ⟨h.R, h.G, lo, h.hlo, .plain hp, h.st⟩, hst, hb⟩

theorem round_none {μ : Mu} {a b : Option Nat} (h : RoundRel μ a b) (e : a = none) : b = none := by
  cases h with
  | none => rfl
  | some _ => cases e
theorem round_some {μ : Mu} {a b : Option Nat} (h : RoundRel μ a b) {l : Nat} (e : a = some l) : ∃ en, μ l = some en ∧ b = some en.blk := by
  cases h with
  | none => cases e
  | some h => injection e with e; subst e; exact ⟨_, h, rfl⟩

/-- A loop's record is written. -/
theorem loop_set {μ : Mu} {A : AMem} {w : World} (R : MRel μ B A w.heap) {l : Nat} {L L' : ALoop} {e : Ent} (hl : A.heap.get l = some (.loop L)) (he : μ l = some e)
    (h1 : L'.fn = L.fn) (h2 : L'.vars = L.vars) (h3 : L'.over = L.over) (h4 : L'.nt = L.nt) (h5 : L'.params = L.params) (h6 : L'.assign = L.assign) (h7 : L'.body = L.body) (h8 : L'.defers = L.defers) :
    ∃ r : Loop, w.heap[e.blk]? = some (.loop r) ∧ r.state = L.st ∧ r.pending = L.pending ∧ B ≤ e.blk ∧
      MRel μ B (aset A l (.loop L')) (wr w e.blk (.loop { r with state := L'.st, pending := L'.pending })).heap ∧ Keep μ A (aset A l (.loop L')) ∧ Below B w (wr w e.blk (.loop { r with state := L'.st, pending := L'.pending })) := by
  obtain ⟨hg, hB, tm, ed, a, b, c⟩ := R.obj l _ e hl he
  have hb : e.blk < w.heap.size := (R.dom l e he).2.1
  obtain ⟨x, y, z⟩ := aset_spec (w := w) R he hg hB (o := .loop L') trivial (o' := .loop { state := L'.st, pending := L'.pending, fn := L.fn, tmps := tm, params := L.params.toArray, assign := L.assign, body := L.body, defers := ed.blk }) (by
    refine ⟨hg, hB, tm, ed, by rw [h8]; exact a, by rw [h4, h2, h3]; exact b, ?_⟩
    rw [wr_same hb, h1, h5, h6, h7])
  exact ⟨_, c, rfl, rfl, hB, x, y, z⟩

theorem aLeave_ok {μ : Mu} {s : ASt} {fr' : Frame} {cs' : List Frame} {w : World} {lo : Nat} (h : Pl T B μ s fr' cs' w lo) {jump : Option Code} {m : Machine}
    (k1 : fr'.roundOf = none → (jump = none ∨ jump = some .ret) → Steps P m (lone { fr' with mode := .returning } (cs' ++ cs0) w))
    (k2 : ∀ l v w2, fr'.roundOf = some l → (Instr.endRound l jump).run P w = .ok v w2 → ∀ fr2 cs2 w3, (doReturn P true fr' (cs' ++ cs0) none v w2).bare = .go { frame := fr2, callers := cs2, status := .running, dying := none } w3 → Steps P m (lone fr2 cs2 w3)) :
    (∀ s', aLeave s jump = .next s' → Goes P T B cs0 m w s') ∧ (∀ l, aLeave s jump ≠ .branch l) ∧ (∀ f v, aLeave s jump ≠ .done f v) := by
  unfold aLeave
  split
  · rename_i hro
    have hro' := round_none h.p.core.round hro
    have hret : Plain μ { s.fr with mode := .returning } { fr' with mode := .returning } := ⟨⟨h.p.core.fn, h.p.core.kind, h.p.core.round, h.p.core.defers, .returning⟩, h.p.tm, h.p.todo⟩
    split
    · refine ⟨?_, nofun, nofun⟩
      intro s' e; injection e with e; subst e
      exact h.frame hret (k1 hro' (.inl rfl)) (Below.refl _ _)
    · refine ⟨?_, nofun, nofun⟩
      intro s' e; injection e with e; subst e
      exact h.frame hret (k1 hro' (.inr rfl)) (Below.refl _ _)
    · exact ⟨nofun, nofun, nofun⟩
  · rename_i l hro
    obtain ⟨en, hen, hro'⟩ := round_some h.p.core.round hro
    split
    case h_2 => exact ⟨nofun, nofun, nofun⟩
    rename_i L c rest hl hcs hkd
    split
    case h_2 => exact ⟨nofun, nofun, nofun⟩
    rename_i c1 hf
    refine ⟨?_, nofun, nofun⟩
    intro s' e; injection e with e; subst e
    have hst := h.st
    rw [hcs] at hst
    generalize hcs' : cs' = cs2 at hst
    cases hst with
    | @cons lo2 _ _ c' _ cs2' hc hle ht =>
    subst hcs'
    obtain ⟨r, g1, g2, g3, g4, g5, g6, g7⟩ := loop_set (L' := { L with st := (if jump.isNone then .ready else .done), pending := jump }) h.R hl hen rfl rfl rfl rfl rfl rfl rfl rfl
    have hrun := run_endRound (P := P) jump g1
    have hfr := drawFinish_ok hc (.bool _) hf
    have hfr2 : FRel T μ (aset s.A l (.loop { L with st := (if jump.isNone then .ready else .done), pending := jump })) lo2 lo c1 (c'.finish (.bool jump.isNone)) := by
      cases hfr with
      | plain hp => exact .plain hp
      | draw core run h1 h2 h3 h4 => exact .draw core run h1 h2 h3 (h4.mono (Mu.Ext.refl _ _) (g6.kept _) (Nat.le_refl _))
    have hfr3 : FRel T μ (aset s.A l (.loop { L with st := (if jump.isNone then .ready else .done), pending := jump })) lo2 s.A.next c1 (c'.finish (.bool jump.isNone)) := by
      cases hfr2 with
      | plain hp => exact .plain hp
      | draw core run h1 h2 h3 h4 => exact .draw core run h1 h2 h3 ⟨h4.ok, h4.nt, h4.lo, Nat.le_trans h4.hi h.hlo, h4.ord, h4.chain, h4.done, h4.old, h4.pend⟩
    refine ⟨μ, c'.finish (.bool jump.isNone), cs2', _, ⟨g5, h.G, lo2, Nat.le_trans hle h.hlo, hfr3, ht.mono (Mu.Ext.refl _ _) (g6.kept _) (Nat.le_refl _)⟩, ?_, g7⟩
    refine k2 _ _ _ hro' hrun _ _ _ ?_
    have hkd' : fr'.kind = .normal := by rw [h.p.core.kind, hkd]
    simp [doReturn, hkd']
    rfl

theorem FRel.up {μ : Mu} {A : AMem} {lo hi hi' : Nat} {fr : AFrame} {fr' : Frame} (h : FRel T μ A lo hi fr fr') (hh : hi ≤ hi') : FRel T μ A lo hi' fr fr' := by
  cases h with
  | plain hp => exact .plain hp
  | draw core run h1 h2 h3 h4 => exact .draw core run h1 h2 h3 ⟨h4.ok, h4.nt, h4.lo, Nat.le_trans h4.hi hh, h4.ord, h4.chain, h4.done, h4.old, h4.pend⟩

theorem trim_look {over : List (Nat × Value)} : ∀ t v, alook (trimOver over) t = some v → alook over t = some v := by
  intro t v h
  unfold trimOver at h
  split at h
  · rename_i a b c d l
    obtain ⟨a1, a2⟩ := a
    obtain ⟨b1, b2⟩ := b
    obtain ⟨c1, c2⟩ := c
    obtain ⟨d1, d2⟩ := d
    simp only [alook_cons, alook_nil] at h ⊢
    split at h
    · rename_i e; rw [if_pos e]; exact h
    · rename_i e
      rw [if_neg e]
      split at h
      · rename_i e; rw [if_pos e]; exact h
      · rename_i e
        rw [if_neg e]
        split at h
        · rename_i e; rw [if_pos e]; exact h
        · rename_i e
          rw [if_neg e]
          split at h
          · rename_i e; rw [if_pos e]; exact h
          · cases h
  · exact h

theorem wanted_plain {μ : Mu} {fr : AFrame} {fr' : Frame} {ops : Array Oper} (hp : Plain μ fr fr') {o : Oper} {b : Bool} (h : aWanted fr ops.toList o = some b) : Region.wanted o (yielded ops fr'.tmps) = b := by
  unfold aWanted at h
  unfold Region.wanted
  split at h
  · rename_i hg; injection h with h; subst h; simp [hg]
  · rename_i g want hg
    rw [hg]
    split at h
    case h_2 => cases h
    rename_i og hog
    have hog : ops[g]? = some og := by rw [nth_eq] at hog; simpa using hog
    split at h
    case h_2 => cases h
    rename_i t hd
    cases hv : tget fr.vars fr.over t with
    | none => rw [hv] at h; cases want <;> cases h
    | some u =>
      rw [hv] at h
      obtain ⟨u', e, f⟩ := hp.tm.2 t u hv
      exact yield_ok hog hd e f h
end

section
variable {P : Program} {T : Tab} {B : Nat} {cs0 : List Frame}

theorem out_of {fr' : Frame} {cs' : List Frame} {w : World} {o : AOut} (h : (∀ s', o = .next s' → Goes P T B cs0 (lone fr' (cs' ++ cs0) w) w s') ∧ (∀ l, o = .branch l → ∃ s' ∈ l, Goes P T B cs0 (lone fr' (cs' ++ cs0) w) w s') ∧ ∀ f v, o ≠ .done f v) : Out P T B cs0 fr' cs' w o := by
  cases o with
  | next s' => exact h.1 s' rfl
  | branch l => exact h.2.1 l rfl
  | done f v => exact absurd rfl (h.2.2 f v)
  | stuck => exact True.intro
theorem out_of' {fr' : Frame} {cs' : List Frame} {w : World} {o : AOut} (h : (∀ s', o = .next s' → Goes P T B cs0 (lone fr' (cs' ++ cs0) w) w s') ∧ (∀ l, o ≠ .branch l) ∧ ∀ f v, o ≠ .done f v) : Out P T B cs0 fr' cs' w o :=
  out_of ⟨h.1, fun l e => absurd e (h.2.1 l), h.2.2⟩

/-- The frame leaves. -/
theorem leave_out {μ : Mu} {s : ASt} {fr' : Frame} {cs' : List Frame} {w : World} {lo : Nat} (h : Pl T B μ s fr' cs' w lo) (hrun : fr'.mode = .run) {jump : Option Code}
    (hx : (jump = none ∧ fr'.todo = []) ∨ (∃ k, jump = some .ret ∧ fr'.todo = .code .ret :: k) ∨ ∃ id k, jump = some (.exit id) ∧ fr'.todo = .code (.exit id) :: k ∧ exitTo id k = none) :
    Out P T B cs0 fr' cs' w (aLeave s jump) := by
  refine out_of' (aLeave_ok h ?_ ?_)
  · intro hro hj
    refine .one (step_lone_go ?_)
    rcases hx with ⟨rfl, ht⟩ | ⟨k, rfl, ht⟩ | ⟨id, k, rfl, ht, he⟩
    · simp [stepG, stepG.exec, hrun, ht, hro]
    · simp [stepG, stepG.exec, hrun, ht, hro]
    · rcases hj with hj | hj <;> cases hj
  · intro l v w2 hro hr fr2 cs2 w3 hd
    refine .one (step_lone_go ?_)
    rcases hx with ⟨rfl, ht⟩ | ⟨k, rfl, ht⟩ | ⟨id, k, rfl, ht, he⟩
    · simp only [stepG, stepG.exec, hrun, ht, hro, Sem.runT_eq, hr, GStep.bare_after]; exact hd
    · simp only [stepG, stepG.exec, hrun, ht, hro, Sem.runT_eq, hr, GStep.bare_after]; exact hd
    · simp only [stepG, stepG.exec, hrun, ht, hro, he, Option.elim, Sem.runT_eq, hr, GStep.bare_after]; exact hd

theorem aCode_ok (C : Cert P T) {μ : Mu} {s : ASt} {fr' : Frame} {cs' : List Frame} {w : World} {lo : Nat} (h : Pl T B μ s fr' cs' w lo) (hrun : fr'.mode = .run) {c : Code} {k : List AItem}
    (ht : s.fr.todo = .code c :: k) : Out P T B cs0 fr' cs' w (aCode T s c k) := by
  obtain ⟨k', ht', hk⟩ : ∃ k', fr'.todo = .code c :: k' ∧ TodoRel μ k k' := by
    have := h.p.todo
    rw [ht] at this
    obtain ⟨y, k', a, b, d⟩ := this.cons_left
    cases b
    exact ⟨k', a, d⟩
  have hc := h.p.core
  -- the frame's list alone turns
  have to : ∀ {td : List AItem} {td' : List Item}, TodoRel μ td td' →
      (stepG P true { frame := fr', callers := cs' ++ cs0, status := .running, dying := none } w).bare = .go { frame := { fr' with todo := td' }, callers := cs' ++ cs0, status := .running, dying := none } w →
      Out P T B cs0 fr' cs' w (.next { s with fr := { s.fr with todo := td } }) := by
    intro td td' htd hst
    exact h.frame (fr1 := { s.fr with todo := td }) (fr1' := { fr' with todo := td' }) ⟨⟨hc.fn, hc.kind, hc.round, hc.defers, hc.mode⟩, h.p.tm, htd⟩ (.one (step_lone_go hst)) (Below.refl _ _)
  cases c with
  | skip => exact to hk (by simp [stepG, stepG.exec, hrun, ht'])
  | label l => exact to hk (by simp [stepG, stepG.exec, hrun, ht'])
  | seq a b => exact to (.cons (.code a) (.cons (.code b) hk)) (by simp [stepG, stepG.exec, hrun, ht'])
  | cond c a b =>
    have hrho := rho_plain (fr' := fr') h.G h.p.tm
    unfold aCode
    simp only
    split
    · rename_i hv
      have := hrho _ _ hv
      generalize he : fr'.eval c = ev at this
      cases this
      exact to (.cons (.code a) hk) (by simp [stepG, stepG.exec, hrun, ht', he])
    · rename_i hv
      have := hrho _ _ hv
      generalize he : fr'.eval c = ev at this
      cases this
      exact to (.cons (.code b) hk) (by simp [stepG, stepG.exec, hrun, ht', he])
    · exact True.intro
  | block id b => exact to (.cons (.code b) (.cons (.inBlock id) hk)) (by simp [stepG, stepG.exec, hrun, ht'])
  | loop b => exact to (.cons (.code b) (.cons (.inLoop b) hk)) (by simp [stepG, stepG.exec, hrun, ht'])
  | scope b => exact to (.cons (.code b) (.cons (.inScope b) hk)) (by simp [stepG, stepG.exec, hrun, ht'])
  | exit id =>
    obtain ⟨e1, e2⟩ := exit_ok (id := id) hk
    unfold aCode
    simp only
    split
    · rename_i r hr
      obtain ⟨r', hr', hrr⟩ := e1 r hr
      exact to hrr (by simp [stepG, stepG.exec, hrun, ht', hr'])
    · rename_i hn
      exact leave_out h hrun (.inr (.inr ⟨id, k', rfl, ht', e2 hn⟩))
  | ret => exact leave_out h hrun (.inr (.inl ⟨k', rfl, ht'⟩))
  | region id ops draw =>
    cases draw with
    | false =>
      have htr : TRel μ s.fr.nt s.fr.vars (trimOver s.fr.over) fr'.tmps := h.p.tm.drop trim_look
      refine h.frame (fr1 := { s.fr with over := trimOver s.fr.over, todo := .inRegion ops ops.toList :: k }) (fr1' := { fr' with todo := .inRegion ops (List.range ops.size) :: k' }) ⟨⟨hc.fn, hc.kind, hc.round, hc.defers, hc.mode⟩, htr, .cons ?_ hk⟩ (.one (step_lone_go (by simp [stepG, stepG.exec, hrun, ht']))) (Below.refl _ _)
      have := ItemRel.inRegion (μ := μ) (ops := ops) (i := 0) (Nat.zero_le _)
      simpa [List.range_eq_range'] using this
    | true =>
      unfold aCode
      simp only
      split
      case h_2 => exact True.intro
      rename_i hok
      have htr : TRel μ s.fr.nt s.fr.vars (trimOver s.fr.over) fr'.tmps := h.p.tm.drop trim_look
      have hd := begin_ok (T := T) h.R htr hok h.hlo { s.A with next := Nat.add s.A.next (len ops.toList) } (w.tape w.drawn (.order fr'.fn id))
      have hle : s.A.next ≤ Nat.add s.A.next (len ops.toList) := Nat.le_add_right _ _
      refine ⟨μ, { fr' with todo := .inRegion ops (Region.schedule true ops (w.tape w.drawn (.order fr'.fn id))) :: k' }, cs', { w with drawn := w.drawn + 1 },
        ⟨h.R.bump _, h.G, lo, Nat.le_trans h.hlo hle, .draw ⟨hc.fn, hc.kind, hc.round, hc.defers, hc.mode⟩ ?_ rfl rfl hk hd, ?_⟩, .one (step_lone_go ?_), (Below.refl _ _).drew⟩
      · have := hc.mode
        rw [hrun] at this
        show s.fr.mode = .run
        generalize s.fr.mode = mm at this
        cases this; rfl
      · exact h.st.mono (Mu.Ext.refl _ _) (fun b o _ _ ho _ => ho) (Nat.le_refl _)
      · simp [stepG, stepG.exec, hrun, ht', choose, Sem.run, Question.forced, Question.cut, C.mixed]
  | rangeFunc f params assign body =>
    unfold aCode
    simp only
    split
    case h_2 => exact True.intro
    rename_i fv hfv
    split
    case h_2 => exact True.intro
    rename_i hro
    have hro' := round_none hc.round hro
    -- the two blocks
    obtain ⟨R1, K1, B1, E1⟩ := aalloc_spec h.R (o := .deferred (some [])) trivial (o' := .deferred (some [])) (fun μ' _ => ⟨rfl, h.R.base, .inr ⟨[], [], rfl, heap_alloc_new _ _, .nil⟩⟩)
    have hsz : (w.alloc (.deferred (some []))).heap.size = w.heap.size + 1 := by simp
    obtain ⟨R2, K2, B2, E2⟩ := aalloc_spec R1 (o := .loop { st := .ready, pending := none, fn := s.fr.fn, vars := s.fr.vars, over := s.fr.over, nt := s.fr.nt, params := params.toList, assign := assign, body := body, defers := s.A.next }) trivial
      (o' := .loop { state := .ready, pending := none, fn := fr'.fn, tmps := fr'.tmps, params, assign, body, defers := w.heap.size }) (fun μ' hm => ⟨rfl, by rw [hsz]; exact Nat.le_succ_of_le h.R.base, fr'.tmps, ⟨w.heap.size, 0, none, 0⟩, hm _ _ (by simp), h.p.tm.mono (E1.1.trans hm), by
        rw [heap_alloc_new, hc.fn]⟩)
    split
    case h_2 => exact True.intro
    rename_i r hr
    have hE : Mu.Le μ ((μ.add s.A.next ⟨w.heap.size, 0, none, 0⟩).add (aalloc s.A (.deferred (some []))).next ⟨(w.alloc (.deferred (some []))).heap.size, 0, none, 0⟩) := E1.1.trans E2.1
    have hEx : Mu.Ext lo μ ((μ.add s.A.next ⟨w.heap.size, 0, none, 0⟩).add (aalloc s.A (.deferred (some []))).next ⟨(w.alloc (.deferred (some []))).heap.size, 0, none, 0⟩) := by
      refine ⟨hE, fun b hb hn => E2.2 b ?_ (E1.2 b (Nat.lt_of_lt_of_le hb h.hlo) hn)⟩
      have := K1.1; have := h.hlo; omega
    generalize hμ2 : (μ.add s.A.next ⟨w.heap.size, 0, none, 0⟩).add (aalloc s.A (.deferred (some []))).next ⟨(w.alloc (.deferred (some []))).heap.size, 0, none, 0⟩ = μ2 at *
    have hl : μ2 (aalloc s.A (.deferred (some []))).next = some ⟨(w.alloc (.deferred (some []))).heap.size, 0, none, 0⟩ := by rw [← hμ2]; simp
    have hd : μ2 s.A.next = some ⟨w.heap.size, 0, none, 0⟩ := E2.1 _ _ (by simp)
    have hfv' := (rho_plain (fr' := fr') h.G h.p.tm f fv hfv).mono hE
    obtain ⟨d, g1, g2⟩ := rFunc_ok C R2 hfv' (args' := [.func (.yield (w.heap.size + 1)) #[] #[]]) (.cons (by rw [← hsz]; exact .yield hl) .nil) hr
    have hp2 : Plain μ2 { s.fr with todo := .inRangeFunc (aalloc s.A (.deferred (some []))).next :: k, defers := { target := .collected s.A.next, args := #[] } :: s.fr.defers }
        { fr' with todo := .inRangeFunc (w.heap.size + 1) :: k', defers := { target := .collected w.heap.size, args := #[] } :: fr'.defers } := by
      refine ⟨⟨hc.fn, hc.kind, hc.round.mono hE, .cons ⟨.collected hd, .nil⟩ (hc.defers.mono fun _ _ => DefRel.mono hE), hc.mode.mono hE⟩, h.p.tm.mono hE, .cons ?_ (hk.mono hE)⟩
      have := ItemRel.inRangeFunc hl
      rw [hsz] at this; exact this
    have hst2 : Stack T μ2 (aalloc (aalloc s.A (.deferred (some []))) (.loop { st := .ready, pending := none, fn := s.fr.fn, vars := s.fr.vars, over := s.fr.over, nt := s.fr.nt, params := params.toList, assign := assign, body := body, defers := s.A.next })) lo s.cs cs' := by
      refine h.st.mono hEx ?_ (Nat.le_refl _)
      intro b o hb hn ho hg
      exact K2.2 b o (E1.2 b (Nat.lt_of_lt_of_le hb h.hlo) hn) (K1.2 b o hn ho (notGrown_of hg)) (notGrown_of hg)
    refine out_of (apply_ok C (s := { fr := { s.fr with todo := .inRangeFunc (aalloc s.A (.deferred (some []))).next :: k, defers := { target := .collected s.A.next, args := #[] } :: s.fr.defers }, cs := s.cs, A := aalloc (aalloc s.A (.deferred (some []))) (.loop { st := .ready, pending := none, fn := s.fr.fn, vars := s.fr.vars, over := s.fr.over, nt := s.fr.nt, params := params.toList, assign := assign, body := body, defers := s.A.next }) })
      (sem := (do let d ← resolve ({ fr' with todo := .inRangeFunc (w.heap.size + 1) :: k', defers := { target := .collected w.heap.size, args := #[] } :: fr'.defers } : Frame).eval { callee := .value f, args := #[.const (.func (.yield (w.heap.size + 1)) #[] #[])], argTypes := #[] } 0; invoke d.target d.args)) R2 (h.G.mono hE) ?_ hp2 hst2 ?_ (B1.trans B2) (ResOk.bind_ok (f := fun d => invoke d.target d.args) ?_ g2 rfl))
    · have := K1.1; have := K2.1; have := h.hlo
      show lo ≤ (aalloc (aalloc s.A _) _).next
      omega
    · intro fr2 cs2 w2 hb
      refine .one (step_lone_go ?_)
      have hrl := run_enterLoop_outer (P := P) (w := w) fr'.fn fr'.tmps params assign body
      simp only [stepG, stepG.exec, hrun, ht', hro', Sem.runT_eq, hrl, GStep.bare_after]
      simp only [hrun, hro'] at hb
      exact hb
    · simpa [resolve, Frame.eval] using g1
  | goto l => exact True.intro
  | refuse why => exact True.intro
end

section
variable {P : Program} {T : Tab} {B : Nat} {cs0 : List Frame}

theorem aExec_plain (C : Cert P T) {μ : Mu} {s : ASt} {fr' : Frame} {cs' : List Frame} {w : World} {lo : Nat} (h : Pl T B μ s fr' cs' w lo) (run : s.fr.mode = .run) : Out P T B cs0 fr' cs' w (aExec T s) := by
  have hrun := run_mode h.p.core.mode run
  have hc := h.p.core
  have htd := h.p.todo
  have to : ∀ {td : List AItem} {td' : List Item}, TodoRel μ td td' →
      (stepG P true { frame := fr', callers := cs' ++ cs0, status := .running, dying := none } w).bare = .go { frame := { fr' with todo := td' }, callers := cs' ++ cs0, status := .running, dying := none } w →
      Out P T B cs0 fr' cs' w (.next { s with fr := { s.fr with todo := td } }) := by
    intro td td' htd hst
    exact h.frame (fr1 := { s.fr with todo := td }) (fr1' := { fr' with todo := td' }) ⟨⟨hc.fn, hc.kind, hc.round, hc.defers, hc.mode⟩, h.p.tm, htd⟩ (.one (step_lone_go hst)) (Below.refl _ _)
  unfold aExec
  split
  · rename_i ht
    rw [ht] at htd
    exact leave_out h hrun (.inl ⟨rfl, htd.nil_left⟩)
  · rename_i c k ht
    exact aCode_ok C h hrun ht
  · rename_i id k ht
    rw [ht] at htd
    obtain ⟨y, k', ht', hy, hk⟩ := htd.cons_left
    cases hy
    exact to hk (by simp [stepG, stepG.exec, hrun, ht'])
  · rename_i b k ht
    rw [ht] at htd
    obtain ⟨y, k', ht', hy, hk⟩ := htd.cons_left
    cases hy
    exact to hk (by simp [stepG, stepG.exec, hrun, ht'])
  · rename_i b k ht
    rw [ht] at htd
    obtain ⟨y, k', ht', hy, hk⟩ := htd.cons_left
    cases hy
    exact to (.cons (.code b) (.cons (.inLoop b) hk)) (by simp [stepG, stepG.exec, hrun, ht'])
  · rename_i ops k ht
    rw [ht] at htd
    obtain ⟨y, k', ht', hy, hk⟩ := htd.cons_left
    have : y = .inRegion ops [] := by
      generalize hx : AItem.inRegion ops [] = x at hy
      cases hy with
      | @inRegion ops' i hi =>
        injection hx with h1 h2
        subst h1
        have := List.drop_eq_nil_iff.1 h2.symm
        have : ops.size - i = 0 := by simp at this; omega
        rw [this]; rfl
      | _ => cases hx
    subst this
    exact to hk (by simp [stepG, stepG.exec, hrun, ht'])
  · rename_i ops o rest k ht
    rw [ht] at htd
    obtain ⟨y, k', ht', hy, hk⟩ := htd.cons_left
    obtain ⟨i, hi, ho, hr, rfl⟩ := item_region hy
    split
    · rename_i hw
      have hwt := wanted_plain h.p hw
      split
      case h_2 => exact True.intro
      rename_i r hop
      by_cases hd : s.fr.roundOf = none ∨ ∀ c, o.op ≠ .defer c
      · have hres := aop_ok (w := w) C h.R (rho_plain (fr' := fr') h.G h.p.tm) hop
        refine out_of (apply_ok C h.R h.G h.hlo h.p h.st ?_ (Below.refl _ _) hres)
        intro fr2 cs2 w2 hb
        refine .one (step_lone_go ?_)
        rw [step_oper hrun ht' ho hwt (hd.imp (round_none hc.round) id)]
        exact hb
      · simp only [not_or, Classical.not_forall, Classical.not_not] at hd
        obtain ⟨h1, c, h2⟩ := hd
        rw [h2] at hop
        have hop : rDefer _ c = some r := hop
        have hrd : ∃ d, r = .defer d := by
          unfold rDefer at hop
          split at hop
          · split at hop
            · injection hop with hop; exact ⟨_, hop.symm⟩
            · cases hop
          · cases hop
        obtain ⟨d, rfl⟩ := hrd
        cases hro : s.fr.roundOf with
        | none => exact absurd hro h1
        | some l => simp only [aApply, hro]; exact True.intro
    · rename_i hw
      have hwt := wanted_plain h.p hw
      split
      case h_2 => exact True.intro
      rename_i fr1 hf
      exact h.frame (finish_ok h.p (VsRel.tuple .nil) hf) (step_nowant hrun ht' ho hwt) (Below.refl _ _)
    · exact True.intro
  · rename_i ops t V base k ht
    rw [ht] at htd
    obtain ⟨y, k', ht', hy, hk⟩ := htd.cons_left
    cases hy
  · rename_i k ht
    rw [ht] at htd
    obtain ⟨y, k', ht', hy, hk⟩ := htd.cons_left
    cases hy
    split
    case h_2 => exact True.intro
    rename_i l hro
    obtain ⟨en, hen, hro'⟩ := round_some hc.round hro
    split
    case h_2 => exact True.intro
    rename_i L hl
    split
    case h_2 => exact True.intro
    rename_i hst
    obtain ⟨r, g1, g2, g3, g4, g5, g6, g7⟩ := loop_set (L' := { L with st := .busy }) h.R hl hen rfl rfl rfl rfl rfl rfl rfl rfl
    have hrun2 := run_beginRound (P := P) g1 (by rw [g2]; exact hst)
    refine ⟨μ, { fr' with todo := k' }, cs', _, ⟨g5, h.G, lo, h.hlo, .plain ⟨⟨hc.fn, hc.kind, hc.round, hc.defers, hc.mode⟩, h.p.tm, hk⟩, h.st.mono (Mu.Ext.refl _ _) (g6.kept _) (Nat.le_refl _)⟩, .one (step_lone_go ?_), g7⟩
    have hw : w.putObj en.blk (.loop { r with state := .busy }) = wr w en.blk (.loop { r with state := .busy, pending := L.pending }) := by rw [← g3]; rfl
    rw [hw] at hrun2
    simp [stepG, stepG.exec, hrun, ht', stepG.apply, hro', hrun2, Frame.finish]
  · rename_i l k ht
    rw [ht] at htd
    obtain ⟨y, k', ht', hy, hk⟩ := htd.cons_left
    cases hy with
    | @endRangeFunc _ en hen =>
    split
    case h_2 => exact True.intro
    rename_i L hl
    split
    · exact True.intro
    rename_i hnb
    obtain ⟨r, g1, g2, g3, g4, g5, g6, g7⟩ := loop_set (L' := { L with st := .exhausted }) h.R hl hen rfl rfl rfl rfl rfl rfl rfl rfl
    have hrun2 := run_endLoop (P := P) g1 (by rw [g2]; exact hnb)
    have hw : w.putObj en.blk (.loop { r with state := .exhausted }) = wr w en.blk (.loop { r with state := .exhausted, pending := L.pending }) := by rw [← g3]; rfl
    rw [hw, g3] at hrun2
    have hkk : TodoRel μ (match L.pending with | some c => .code c :: k | none => k) ((L.pending.map Item.code).toList ++ k') := by
      cases L.pending with
      | none => exact hk
      | some c => exact .cons (.code c) hk
    refine ⟨μ, { fr' with todo := (L.pending.map Item.code).toList ++ k' }, cs', _, ⟨g5, h.G, lo, h.hlo, .plain ⟨⟨hc.fn, hc.kind, hc.round, hc.defers, hc.mode⟩, h.p.tm, hkk⟩, h.st.mono (Mu.Ext.refl _ _) (g6.kept _) (Nat.le_refl _)⟩, .one (step_lone_go ?_), g7⟩
    simp [stepG, stepG.exec, hrun, ht', hrun2]
  · exact True.intro

theorem aUnwind_ok (C : Cert P T) {μ : Mu} {s : ASt} {fr' : Frame} {cs' : List Frame} {w : World} {lo : Nat} (h : Pl T B μ s fr' cs' w lo) (hne : s.fr.mode ≠ .run) : Out P T B cs0 fr' cs' w (aUnwind T s) := by
  have hc := h.p.core
  have hrun : fr'.mode ≠ .run := by
    intro e
    have := hc.mode
    rw [e] at this
    generalize hm : s.fr.mode = mm at this
    cases this; exact hne hm
  have hunw : stepG P true { frame := fr', callers := cs' ++ cs0, status := .running, dying := none } w = unwind P true fr' (cs' ++ cs0) none w := by
    cases hm : fr'.mode with
    | run => exact absurd hm hrun
    | _ => simp only [stepG, hm]
  have hdf := hc.defers
  unfold aUnwind
  split
  · -- the calls that rounds deferred
    rename_i b args ds hds
    rw [hds] at hdf
    obtain ⟨d', ds', hds', hd', hdd⟩ := hdf.cons_left
    obtain ⟨tg, ar⟩ := d'
    obtain ⟨ht1, _⟩ := hd'
    have ht1 : TgRel μ (.collected b) tg := ht1
    cases ht1 with
    | @collected _ en hen =>
    split
    case h_2 => exact True.intro
    rename_i calls hb
    obtain ⟨hg, hB, hx⟩ := h.R.obj b _ en hb hen
    rcases hx with ⟨hx, _⟩ | ⟨l, l', hx, hy, hz⟩
    · cases hx
    injection hx with hx; subst hx
    have hlt : en.blk < w.heap.size := (h.R.dom b en hen).2.1
    obtain ⟨R1, K1, B1⟩ := aset_spec (w := w) h.R hen hg hB (o := .deferred none) trivial (o' := .deferred none) ⟨hg, hB, .inl ⟨rfl, wr_same hlt _⟩⟩
    have hrun2 := run_takeDeferred (P := P) hy
    refine ⟨μ, { fr' with defers := l' ++ ds' }, cs', _, ⟨R1, h.G, lo, h.hlo, .plain ⟨⟨hc.fn, hc.kind, hc.round, ?_, hc.mode⟩, h.p.tm, h.p.todo⟩, h.st.mono (Mu.Ext.refl _ _) (K1.kept _) (Nat.le_refl _)⟩, .one (step_lone_go ?_), B1⟩
    · show LRel (DefRel μ) (app calls ds) (l' ++ ds')
      rw [app_eq]; exact hz.app hdd
    · rw [hunw]
      simp only [unwind, hds', Sem.runT_eq, hrun2, GStep.bare_after]
      rfl
  · rename_i f captured args ds hds
    rw [hds] at hdf
    obtain ⟨d', ds', hds', hd', hdd⟩ := hdf.cons_left
    obtain ⟨tg, ar⟩ := d'
    obtain ⟨ht1, ha⟩ := hd'
    have ht1 : TgRel μ (.fn (.func f) captured) tg := ht1
    cases ht1 with
    | @fn _ hy _ ys hcap =>
    split
    case h_2 => exact True.intro
    rename_i fr1 hen
    have hfn : ∃ a, T.fn.get f = some a := by
      unfold aEnter at hen
      split at hen
      · rename_i a ha; exact ⟨a, ha⟩
      · cases hen
    obtain ⟨a, hfn⟩ := hfn
    have hrun2 := run_callFunc C hfn (ar ++ ys) w
    have hargs : VsRel μ (app args.toList captured.toList) (ar ++ ys).toList := by
      rw [app_eq, Array.toList_append]
      exact ha.app hcap
    have hp1 : Plain μ { s.fr with defers := ds } { fr' with defers := ds' } := ⟨⟨hc.fn, hc.kind, hc.round, hdd, hc.mode⟩, h.p.tm, h.p.todo⟩
    refine ⟨μ, Frame.enter P f (ar ++ ys) .deferred, { fr' with defers := ds' } :: cs', w, ⟨h.R, h.G, s.A.next, Nat.le_refl _, .plain (enter_ok C hargs hen), .cons (.plain hp1) h.hlo h.st⟩, .one (step_lone_go ?_), Below.refl _ _⟩
    rw [hunw]
    simp only [unwind, hds', callDeferred]
    simp [invoke, hrun2]
  · exact True.intro
  · rename_i hds
    rw [hds] at hdf
    have hds' := hdf.nil_left
    split
    · exact True.intro
    · -- a panic leaves the frame
      rename_i chain hmode
      have hm := hc.mode
      rw [hmode] at hm
      generalize hm' : fr'.mode = mm at hm
      cases hm with
      | @panicking _ chain' hch =>
      split
      case h_2 => exact True.intro
      rename_i c rest a hcs hfn
      split
      · exact True.intro
      rename_i hnd
      have hst := h.st
      rw [hcs] at hst
      generalize hcs' : cs' = cs2 at hst
      cases hst with
      | @cons lo2 _ _ c' _ cs2' hcr hle ht =>
      subst hcs'
      cases hcr with
      | wait core run h1 => exact absurd h1 (by intro e; exact hnd _ _ _ _ _ e)
      | plain hp =>
      obtain ⟨fn, hf, _⟩ := C.fn _ a hfn
      rw [← hc.fn] at hf
      refine ⟨μ, c'.raise chain', cs2', w, ⟨h.R, h.G, lo2, Nat.le_trans hle h.hlo, .plain (raise_plain hp hch), ht⟩, .one (step_lone_go ?_), Below.refl _ _⟩
      rw [hunw]
      simp [unwind, Frame.catches, hds', hm', hf]
    · rename_i hmode
      have hm := hc.mode
      rw [hmode] at hm
      generalize hm' : fr'.mode = mm at hm
      cases hm
      split
      · exact True.intro
      rename_i a hfn
      split
      · exact True.intro
      rename_i vs hvs
      obtain ⟨fn, v', hf, hres, hv⟩ := results_ok C h.R h.p.tm hfn hvs
      rw [← hc.fn] at hf
      have hstep : ∀ {fr2 : Frame} {cs2 : List Frame} {w3 : World}, (doReturn P true fr' (cs' ++ cs0) none v' w).bare = .go { frame := fr2, callers := cs2, status := .running, dying := none } w3 → Steps P (lone fr' (cs' ++ cs0) w) (lone fr2 cs2 w3) := by
        intro fr2 cs2 w3 hb
        refine .one (step_lone_go ?_)
        rw [hunw]
        simp only [unwind, hds', hm', hf, Sem.runT_eq, hres, GStep.bare_after]
        exact hb
      split
      · rename_i hcs hkd hro
        have hst := h.st
        rw [hcs] at hst
        generalize hcs' : cs' = cs2 at hst
        cases hst
        exact ⟨μ, v', ⟨hm', hds', by rw [hc.kind, hkd], fn, hf, hres⟩, hv, hc.fn, rfl⟩
      · rename_i c rest hcs hkd hro
        split
        case h_2 => exact True.intro
        rename_i c1 hfin
        have hst := h.st
        rw [hcs] at hst
        generalize hcs' : cs' = cs2 at hst
        cases hst with
        | @cons lo2 _ _ c' _ cs2' hcr hle ht =>
        subst hcs'
        refine ⟨μ, c'.finish v', cs2', w, ⟨h.R, h.G, lo2, Nat.le_trans hle h.hlo, (drawFinish_ok hcr hv hfin).up h.hlo, ht⟩, hstep ?_, Below.refl _ _⟩
        have hkd' : fr'.kind = .normal := by rw [hc.kind, hkd]
        simp [doReturn, hkd']
      · rename_i c rest hcs hkd hro
        have hst := h.st
        rw [hcs] at hst
        generalize hcs' : cs' = cs2 at hst
        cases hst with
        | @cons lo2 _ _ c' _ cs2' hcr hle ht =>
        subst hcs'
        have hkd' : fr'.kind = .deferred := by rw [hc.kind, hkd]
        have hplain : c.mode ≠ .run → Plain μ c c' := by
          intro hn
          cases hcr with
          | plain hp => exact hp
          | wait core run => exact absurd run hn
        split
        · rename_i v gx older hcm
          have hp := hplain (by rw [hcm]; exact nofun)
          have hm2 := hp.core.mode
          rw [hcm] at hm2
          generalize hcm' : c'.mode = mm at hm2
          cases hm2 with
          | panicking hl2 =>
          obtain ⟨y, older', rfl, hy, hol⟩ := hl2.cons_left
          obtain ⟨v2, rc, gx'⟩ := y
          obtain ⟨hv2, hrc, hgx⟩ := hy
          have hrc : true = rc := hrc
          subst hrc
          have hdrop := dropRec_ok hol
          split
          · rename_i hdr
            rw [hdr] at hdrop
            have hdr' := hdrop.nil_left
            refine ⟨μ, { c' with mode := .returning }, cs2', w, ⟨h.R, h.G, lo2, Nat.le_trans hle h.hlo, .plain ⟨⟨hp.core.fn, hp.core.kind, hp.core.round, hp.core.defers, .returning⟩, hp.tm, hp.todo⟩, ht⟩, hstep ?_, Below.refl _ _⟩
            simp [doReturn, hkd', hcm', hdr']
          · rename_i hdr
            generalize hr' : older'.dropWhile (!·.goexit) = r' at hdrop
            refine ⟨μ, { c' with mode := .panicking r' }, cs2', w, ⟨h.R, h.G, lo2, Nat.le_trans hle h.hlo, .plain ⟨⟨hp.core.fn, hp.core.kind, hp.core.round, hp.core.defers, .panicking hdrop⟩, hp.tm, hp.todo⟩, ht⟩, hstep ?_, Below.refl _ _⟩
            have hne : r' ≠ [] := by
              rintro rfl
              have := hdrop.1
              simp at this
              exact hdr this
            cases r' with
            | nil => exact absurd rfl hne
            | cons x r' => simp [doReturn, hkd', hcm', hr']
        · exact True.intro
        · rename_i hn1 hn2
          have hp := hplain (fun e => hn2 e)
          have hcm' : ∀ v gx older, c'.mode ≠ .panicking ({ v := v, recovered := true, goexit := gx } :: older) := by
            intro v gx older e
            have hm2 := hp.core.mode
            rw [e] at hm2
            generalize hcm : c.mode = mm at hm2
            cases hm2 with
            | @panicking a _ hl2 =>
            cases a with
            | nil => have := hl2.1; simp at this
            | cons x a =>
              have hx := hl2.head
              obtain ⟨xv, xr, xg⟩ := x
              have : xr = true := hx.2.1
              subst this
              exact hn1 _ _ _ hcm
          refine ⟨μ, c', cs2', w, ⟨h.R, h.G, lo2, Nat.le_trans hle h.hlo, .plain hp, ht⟩, hstep ?_, Below.refl _ _⟩
          cases hcm2 : c'.mode with
          | run => simp [doReturn, hkd', hcm2]
          | returning => simp [doReturn, hkd', hcm2]
          | panicking ch =>
            cases ch with
            | nil => simp [doReturn, hkd', hcm2]
            | cons x ch =>
              obtain ⟨x1, x2, x3⟩ := x
              cases x2 with
              | true => exact absurd hcm2 (hcm' _ _ _)
              | false => simp [doReturn, hkd', hcm2]
      · exact True.intro

/-- One step. -/
theorem astep_ok (C : Cert P T) {μ : Mu} {s : ASt} {fr' : Frame} {cs' : List Frame} {w : World} (h : SRel T B μ s fr' cs' w) : Out P T B cs0 fr' cs' w (astep T s) := by
  obtain ⟨R, G, lo, hlo, hf, hst⟩ := h
  unfold astep
  split
  · rename_i run
    cases hf with
    | plain hp => exact aExec_plain C ⟨R, G, hlo, hp, hst⟩ run
    | draw core run h1 h2 h3 h4 =>
      unfold aExec
      rw [h1]
      exact aDraw_ok C R G hlo hst core run h2 h3 h4
  · rename_i hn
    cases hf with
    | plain hp => exact aUnwind_ok C ⟨R, G, hlo, hp, hst⟩ hn
    | draw core run => exact absurd run hn
end

section
variable {P : Program} {T : Tab} {B : Nat} {cs0 : List Frame}

theorem Goes.trans {m : Machine} {w : World} {s s' : ASt} (h : Goes P T B cs0 m w s) (k : ∀ {μ : Mu} {fr' : Frame} {cs' : List Frame} {w' : World}, SRel T B μ s fr' cs' w' → Goes P T B cs0 (lone fr' (cs' ++ cs0) w') w' s') : Goes P T B cs0 m w s' := by
  obtain ⟨μ, fr', cs', w', h1, h2, h3⟩ := h
  obtain ⟨μ2, fr2, cs2, w2, k1, k2, k3⟩ := k h1
  exact ⟨μ2, fr2, cs2, w2, k1, h2.trans k2, h3.trans k3⟩
theorem Goes.refl {μ : Mu} {s : ASt} {fr' : Frame} {cs' : List Frame} {w : World} (h : SRel T B μ s fr' cs' w) : Goes P T B cs0 (lone fr' (cs' ++ cs0) w) w s :=
  ⟨μ, fr', cs', w, h, Steps.refl _ _, Below.refl _ _⟩

theorem arun_ok (C : Cert P T) (n : Nat) : ∀ {μ : Mu} {s : ASt} {fr' : Frame} {cs' : List Frame} {w : World}, SRel T B μ s fr' cs' w → Goes P T B cs0 (lone fr' (cs' ++ cs0) w) w (arun T n s) := by
  induction n with
  | zero =>
    intro μ s fr' cs' w h
    have hs := astep_ok (cs0 := cs0) C h
    show Goes P T B cs0 _ w (match astep T s with | .next s' => s' | _ => s)
    split
    · rename_i s' e; rw [e] at hs; exact hs
    · exact Goes.refl h
  | succ n ih =>
    intro μ s fr' cs' w h
    have h1 := ih (cs' := cs') h
    exact h1.trans (s' := arun T (n + 1) s) fun h2 => ih h2

/-! ### what is no longer asked for is forgotten -/
noncomputable def gcH (keep : List Nat) (h : Tr AObj) : Tr AObj :=
  match keep with
  | [] => .e
  | k :: r => (match h.get k with | some o => (gcH r h).put (some o) k | none => gcH r h)
theorem gcH_sub {h : Tr AObj} : ∀ {keep : List Nat} {k : Nat} {o : AObj}, (gcH keep h).get k = some o → h.get k = some o := by
  intro keep
  induction keep with
  | nil => intro k o hk; cases hk
  | cons a keep ih =>
    intro k o hk
    unfold gcH at hk
    split at hk
    · rename_i x hx
      rcases Tr.get_put hk with ⟨rfl, e⟩ | ⟨_, hk⟩
      · injection e with e; subst e; exact hx
      · exact ih hk
    · exact ih hk
theorem gcH_keep {h : Tr AObj} : ∀ {keep : List Nat} {k : Nat} {o : AObj}, k ∈ keep → k + 1 < 2 ^ 24 → h.get k = some o → (gcH keep h).get k = some o := by
  intro keep
  induction keep with
  | nil => intro k o hk; cases hk
  | cons a keep ih =>
    intro k o hk hlt ho
    unfold gcH
    by_cases e : a = k
    · subst e
      rw [ho]
      exact Tr.get_put_there _ _ _ hlt
    · have hk : k ∈ keep := by
        rcases List.mem_cons.1 hk with h | h
        · exact absurd h.symm e
        · exact h
      split
      · rw [Tr.get_put_other _ _ _ _ (Ne.symm e)]; exact ih hk hlt ho
      · exact ih hk hlt ho

noncomputable def isIn (h : Tr AObj) (l : List Nat) : List Nat :=
  match l with
  | [] => []
  | m :: r => (match h.get m with | some _ => m :: isIn h r | none => isIn h r)
theorem isIn_mem {h : Tr AObj} {m : Nat} {o : AObj} (ho : h.get m = some o) : ∀ {l : List Nat}, m ∈ l → m ∈ isIn h l := by
  intro l
  induction l with
  | nil => intro hm; cases hm
  | cons x l ih =>
    intro hm
    unfold isIn
    rcases List.mem_cons.1 hm with rfl | hm
    · rw [ho]; simp
    · split
      · exact List.mem_cons_of_mem _ (ih hm)
      · exact ih hm
noncomputable def gcF (fs : List Nat) (h : Tr AObj) (t : Tr (List Nat)) : Tr (List Nat) :=
  match fs with
  | [] => .e
  | f :: r => (match t.get f with | some l => (gcF r h t).put (some (isIn h l)) f | none => gcF r h t)
theorem gcF_get {h : Tr AObj} {t : Tr (List Nat)} : ∀ {fs : List Nat} {f : Nat} {l : List Nat}, f ∈ fs → f + 1 < 2 ^ 24 → t.get f = some l → (gcF fs h t).get f = some (isIn h l) := by
  intro fs
  induction fs with
  | nil => intro f l hf; cases hf
  | cons a fs ih =>
    intro f l hf hlt hl
    unfold gcF
    by_cases e : a = f
    · subst e
      rw [hl]
      exact Tr.get_put_there _ _ _ hlt
    · have hf : f ∈ fs := by
        rcases List.mem_cons.1 hf with h | h
        · exact absurd h.symm e
        · exact h
      split
      · rw [Tr.get_put_other _ _ _ _ (Ne.symm e)]; exact ih hf hlt hl
      · exact ih hf hlt hl
/-- Every block that append made keeps its family. -/
noncomputable def famsKept (keep fs : List Nat) (h : Tr AObj) : Bool :=
  match keep with
  | [] => true
  | k :: r =>
    (match h.get k with
      | some (.cells _ (.grown g)) => (match mem g.fam fs, Nat.blt g.fam 16000000 with | true, true => famsKept r fs h | _, _ => false)
      | _ => famsKept r fs h)
theorem famsKept_ok {fs : List Nat} {h : Tr AObj} : ∀ {keep : List Nat}, famsKept keep fs h = true → ∀ k ∈ keep, ∀ xs g, h.get k = some (.cells xs (.grown g)) → g.fam ∈ fs ∧ g.fam < 16000000 := by
  intro keep
  induction keep with
  | nil => intro _ k hk; cases hk
  | cons a keep ih =>
    intro hf k hk xs g ho
    unfold famsKept at hf
    rcases List.mem_cons.1 hk with rfl | hk
    · rw [ho] at hf
      simp only at hf
      split at hf
      · rename_i h1 h2; exact ⟨mem_eq.1 h1, by simpa using h2⟩
      · cases hf
    · refine ih ?_ k hk xs g ho
      split at hf
      · split at hf
        · exact hf
        · cases hf
      · exact hf
/-- The blocks of a region that draws its order are kept. -/
noncomputable def rangeKept (keep : List Nat) (h : Tr AObj) (ops : List Oper) (b : Nat) : Bool :=
  match ops with
  | [] => true
  | _ :: r =>
    (match h.get b with
      | none => rangeKept keep h r (Nat.succ b)
      | some _ => (match mem b keep, Nat.blt b 16000000 with | true, true => rangeKept keep h r (Nat.succ b) | _, _ => false))
theorem rangeKept_ok {keep : List Nat} {h : Tr AObj} : ∀ {ops : List Oper} {b : Nat}, rangeKept keep h ops b = true → ∀ j, j < ops.length → ∀ o, h.get (b + j) = some o → (gcH keep h).get (b + j) = some o := by
  intro ops
  induction ops with
  | nil => intro b _ j hj; cases hj
  | cons x ops ih =>
    intro b hk j hj o ho
    unfold rangeKept at hk
    cases j with
    | zero =>
      rw [Nat.add_zero] at ho ⊢
      rw [ho] at hk
      simp only at hk
      split at hk
      · rename_i h1 h2
        have h2 : b < 16000000 := by simpa using h2
        exact gcH_keep (mem_eq.1 h1) (by omega) ho
      · cases hk
    | succ j =>
      have e : b + (j + 1) = Nat.succ b + j := by omega
      rw [e] at ho ⊢
      refine ih ?_ j (by simpa using hj) o ho
      split at hk
      · exact hk
      · split at hk
        · exact hk
        · cases hk
noncomputable def frameKept (keep : List Nat) (h : Tr AObj) (fr : AFrame) : Bool :=
  match fr.todo with
  | .inDraw ops _ _ base :: _ => rangeKept keep h ops.toList base
  | _ => true
noncomputable def framesKept (keep : List Nat) (h : Tr AObj) (cs : List AFrame) : Bool :=
  match cs with
  | [] => true
  | c :: r => (match frameKept keep h c with | true => framesKept keep h r | false => false)

/-- Only these blocks and families. -/
noncomputable def gcS (keep fs : List Nat) (s : ASt) : ASt :=
  match famsKept keep fs s.A.heap, frameKept keep s.A.heap s.fr, framesKept keep s.A.heap s.cs with
  | true, true, true => { s with A := { heap := gcH keep s.A.heap, next := s.A.next, fams := gcF fs (gcH keep s.A.heap) s.A.fams } }
  | _, _, _ => s

theorem DInv.gc {μ : Mu} {A A' : AMem} {lo hi nt : Nat} {vars : List (Option Value)} {over : List (Nat × Value)} {ops : Array Oper} {t : Nat} {V : List (Nat × Value)} {base : Nat} {rest : List Nat} {tm : Array Value}
    (h : DInv T μ A lo hi nt vars over ops t V base rest tm) (hk : ∀ j, j < ops.toList.length → ∀ o, A.heap.get (base + j) = some o → A'.heap.get (base + j) = some o) : DInv T μ A' lo hi nt vars over ops t V base rest tm where
  ok := h.ok
  nt := h.nt
  lo := h.lo
  hi := h.hi
  ord := h.ord
  chain := h.chain
  done := h.done
  old := h.old
  pend := fun j o h1 h2 h3 => by
    obtain ⟨a, b⟩ := h.pend j o h1 h2 h3
    have hj := (Array.getElem?_eq_some_iff.1 h2).1
    exact ⟨a, fun v hv => (b v hv).mono (fun _ _ h => h) fun ob h5 _ => hk j (by simpa using hj) ob h5⟩

theorem gcS_ok {keep fs : List Nat} {μ : Mu} {s : ASt} {fr' : Frame} {cs' : List Frame} {w : World} (h : SRel T B μ s fr' cs' w) : SRel T B μ (gcS keep fs s) fr' cs' w := by
  unfold gcS
  split
  case h_2 => exact h
  rename_i k1 k2 k3
  obtain ⟨R, G, lo, hlo, hf, hst⟩ := h
  refine ⟨⟨R.base, fun b o e ho he => R.obj b o e (gcH_sub ho) he, R.dom, R.sep, ?_, fun b o ho => R.live b o (gcH_sub ho)⟩, G, lo, hlo, ?_, ?_⟩
  · intro b xs g ho
    obtain ⟨h1, l, h2, h3⟩ := R.memb b xs g (gcH_sub ho)
    refine ⟨h1, isIn (gcH keep s.A.heap) l, ?_, isIn_mem ho h3⟩
    have hb : b ∈ keep := by
      have : ∀ {keep : List Nat} {b : Nat} {o : AObj}, (gcH keep s.A.heap).get b = some o → b ∈ keep := by
        intro keep
        induction keep with
        | nil => intro b o hk; cases hk
        | cons a keep ih =>
          intro b o hk
          unfold gcH at hk
          split at hk
          · rcases Tr.get_put hk with ⟨rfl, _⟩ | ⟨_, hk⟩
            · simp
            · exact List.mem_cons_of_mem _ (ih hk)
          · exact List.mem_cons_of_mem _ (ih hk)
      exact this ho
    obtain ⟨a1, a2⟩ := famsKept_ok k1 b hb xs g (gcH_sub ho)
    exact gcF_get a1 (by omega) h2
  · cases hf with
    | plain hp => exact .plain hp
    | draw core run h1 h2 h3 h4 =>
      unfold frameKept at k2
      rw [h1] at k2
      exact .draw core run h1 h2 h3 (h4.gc fun j hj o ho => rangeKept_ok k2 j hj o ho)
  · clear hf
    have : ∀ {hi : Nat} {cs : List AFrame} {cs' : List Frame}, Stack T μ s.A hi cs cs' → framesKept keep s.A.heap cs = true → Stack T μ { heap := gcH keep s.A.heap, next := s.A.next, fams := gcF fs (gcH keep s.A.heap) s.A.fams } hi cs cs' := by
      intro hi cs cs' hst
      induction hst with
      | nil hi => intro _; exact .nil _
      | @cons lo hi c c' cs cs' hc hl ht ih =>
        intro k3
        unfold framesKept at k3
        split at k3
        case h_2 => cases k3
        rename_i k2
        refine .cons ?_ hl (ih k3)
        cases hc with
        | plain hp => exact .plain hp
        | wait core run h1 h2 h3 hcc h4 =>
          unfold frameKept at k2
          rw [h1] at k2
          exact .wait core run h1 h2 h3 hcc (h4.gc fun j hj o ho => rangeKept_ok k2 j hj o ho)
    exact this hst k3

/-- The machine comes to an end, with f's value v. -/
inductive Fin (T : Tab) (f : FuncId) (v : Value) : ASt → Prop
  | done {s : ASt} (h : astep T s = .done f v) : Fin T f v s
  | run {s s' : ASt} (n : Nat) (keep fs : List Nat) (h : gcS keep fs (arun T n s) = s') (k : Fin T f v s') : Fin T f v s
  | branch {s : ASt} {l : List ASt} (h : astep T s = .branch l) (k : ∀ s' ∈ l, Fin T f v s') : Fin T f v s

theorem fin_ok (C : Cert P T) {f : FuncId} {v : Value} {s : ASt} (hf : Fin T f v s) : ∀ {μ : Mu} {fr' : Frame} {cs' : List Frame} {w : World}, SRel T B μ s fr' cs' w →
    ∃ μ' fr2 w2 v', Steps P (lone fr' (cs' ++ cs0) w) (lone fr2 cs0 w2) ∧ Below B w w2 ∧ fr2.leaving P w2 (.returned v') ∧ VRel μ' v v' ∧ fr2.fn = f := by
  induction hf with
  | done h =>
    intro μ fr' cs' w hs
    have := astep_ok (cs0 := cs0) C hs
    rw [h] at this
    obtain ⟨μ', v', h1, h2, h3, rfl⟩ := this
    exact ⟨μ', fr', w, v', Steps.refl _ _, Below.refl _ _, h1, h2, h3⟩
  | run n keep fs h _ ih =>
    intro μ fr' cs' w hs
    obtain ⟨μ1, fr1, cs1, w1, a, b, c⟩ := arun_ok (cs0 := cs0) C n hs
    have a := gcS_ok (keep := keep) (fs := fs) a
    rw [h] at a
    obtain ⟨μ', fr2, w2, v', d, e, g⟩ := ih a
    exact ⟨μ', fr2, w2, v', b.trans d, c.trans e, g⟩
  | branch h _ ih =>
    intro μ fr' cs' w hs
    have := astep_ok (cs0 := cs0) C hs
    rw [h] at this
    obtain ⟨s', hm, μ1, fr1, cs1, w1, a, b, c⟩ := this
    obtain ⟨μ', fr2, w2, v', d, e, g⟩ := ih s' hm a
    exact ⟨μ', fr2, w2, v', b.trans d, c.trans e, g⟩

/-- The machine's memory as a call begins: the package's variables whose contents are known. -/
theorem closed_calls (C : Cert P T) {f : FuncId} {v : Value} {A : AMem} {w : World} {μ : Mu} (R : MRel μ B A w.heap) (G : GRel μ T.nglob) {fr : AFrame} (he : aEnter T f [] .normal = some fr)
    (hf : Fin T f v { fr := fr, cs := [], A := A }) : Calls P f #[] w fun e w' => ∃ μ' v', e = .returned v' ∧ VRel μ' v v' ∧ Below B w w' := by
  intro cs
  have hs : SRel T B μ { fr := fr, cs := [], A := A } (Frame.enter P f #[] .normal) [] w :=
    ⟨R, G, A.next, Nat.le_refl _, .plain (enter_ok C .nil he), .nil _⟩
  obtain ⟨μ', fr2, w2, v', h1, h2, h3, h4, h5⟩ := fin_ok (cs0 := cs) C hf hs
  exact ⟨.returned v', w2, fr2, ⟨μ', v', rfl, h4, h2⟩, h1, h5, h3⟩
end

section
/-- A tree of rows. -/
noncomputable def tput {α : Type} (l : List (Nat × α)) : Tr α :=
  match l with
  | [] => .e
  | p :: r => (tput r).put (some p.2) p.1
theorem tput_get {α : Type} {Q : Nat → α → Prop} : ∀ {l : List (Nat × α)}, (∀ p ∈ l, Q p.1 p.2) → ∀ {k : Nat} {a : α}, (tput l).get k = some a → Q k a := by
  intro l
  induction l with
  | nil => intro _ k a h; cases h
  | cons p l ih =>
    intro hq k a h
    unfold tput at h
    rcases Tr.get_put h with ⟨rfl, e⟩ | ⟨_, h⟩
    · injection e with e; subst e; exact hq p (by simp)
    · exact ih (fun q hm => hq q (by simp [hm])) h

noncomputable def mkTI (P : Program) (t : TypeId) : TI :=
  match P.underlying t, P.info? t with
  | some d, some i => ⟨d, i.size, i.bytes, (match i.zero with | some z => z | none => undef), i.comparable⟩
  | _, _ => ⟨.pointer 0, 0, 0, undef, false⟩
noncomputable def chkTI (P : Program) (t : TypeId) : Bool :=
  match P.underlying t, P.info? t with
  | some _, some i => (match i.zero with | some z => (match closedB z with | true => Nat.beq z.cells.size i.size | false => false) | none => false)
  | _, _ => false
theorem chkTI_ok {P : Program} {t : TypeId} (h : chkTI P t = true) :
    P.underlying t = some (mkTI P t).desc ∧ ∃ info, P.info? t = some info ∧ info.size = (mkTI P t).size ∧ info.bytes = (mkTI P t).bytes ∧ info.zero = some (mkTI P t).zero ∧ info.comparable = (mkTI P t).cmp ∧ closedB (mkTI P t).zero = true ∧ (mkTI P t).zero.cells.size = (mkTI P t).size := by
  unfold chkTI at h
  split at h
  · rename_i d i hu hi
    split at h
    case h_2 => cases h
    rename_i z hz
    split at h
    case h_2 => cases h
    rename_i hc
    have hn := Nat.eq_of_beq_eq_true h
    have he : mkTI P t = ⟨d, i.size, i.bytes, z, i.comparable⟩ := by unfold mkTI; rw [hu, hi]; simp only [hz]
    rw [he]
    exact ⟨hu, i, hi, rfl, rfl, hz, rfl, hc, hn⟩
  · cases h

noncomputable def mkF (P : Program) (f : FuncId) (nv : Nat) : AFn :=
  match P.funcs[f]? with
  | some fn => ⟨(match fn.body with | some b => b | none => .skip), fn.ntmps, nv, fn.results.toList⟩
  | none => ⟨.skip, 0, 0, []⟩
def chkF (P : Program) (f : FuncId) : Bool :=
  match P.funcs[f]? with
  | some fn => (match fn.body with | some _ => (match fn.name == "runtime.NumGoroutine" with | true => false | false => true) | none => false)
  | none => false
theorem chkF_ok {P : Program} {f : FuncId} {nv : Nat} (h : chkF P f = true) :
    ∃ fn, P.funcs[f]? = some fn ∧ fn.body = some (mkF P f nv).body ∧ fn.ntmps = (mkF P f nv).ntmps ∧ fn.results.toList = (mkF P f nv).results ∧ (fn.name == "runtime.NumGoroutine") = false := by
  unfold chkF at h
  split at h
  · rename_i fn hf
    split at h
    case h_2 => cases h
    rename_i b hb
    split at h
    · cases h
    rename_i hn
    have he : mkF P f nv = ⟨b, fn.ntmps, nv, fn.results.toList⟩ := by unfold mkF; rw [hf]; simp only [hb]
    rw [he]
    exact ⟨fn, hf, hb, rfl, rfl, hn⟩
  · cases h

def mkEq (P : Program) (t : TypeId) : List (TypeId × Nat) :=
  match P.underlying t with
  | some (.struct fs) => (fs.toList.filter fun f => decide (f.name ≠ "_")).map fun f => (f.type, f.offset)
  | _ => []
def chkEq (P : Program) (t : TypeId) : Bool :=
  match P.eqGuardType P.depth t with
  | true => false
  | false => (match P.underlying t with | some (.struct _) => (match P.stoodInHeld t with | true => false | false => true) | _ => true)
theorem chkEq_ok {P : Program} {t : TypeId} (h : chkEq P t = true) : P.eqGuardType P.depth t = false ∧
    (∀ fs, P.underlying t = some (.struct fs) → P.stoodInHeld t = false ∧ (fs.toList.filter fun f => decide (f.name ≠ "_")).map (fun f => (f.type, f.offset)) = mkEq P t) := by
  unfold chkEq at h
  split at h
  · cases h
  rename_i hg
  refine ⟨hg, fun fs hfs => ?_⟩
  rw [hfs] at h
  simp only at h
  refine ⟨?_, by unfold mkEq; rw [hfs]⟩
  cases hs : P.stoodInHeld t with
  | false => rfl
  | true => rw [hs] at h; cases h

def chkM1 (P : Program) (t : TypeId) (name : String) (f : FuncId) : Bool :=
  match P.info? t, P.underlying t with
  | some i, some d =>
    (match i.methods.find? (·.name == name) with
      | some m =>
        (match m.path.toList, m.func with
          | [], some (g, ptr) => (match Nat.beq g f with | true => (match d with | .pointer _ => ptr | _ => !ptr) | false => false)
          | _, _ => false)
      | none => false)
  | _, _ => false
theorem chkM1_ok {P : Program} {t : TypeId} {name : String} {f : FuncId} (h : chkM1 P t name f = true) (n : Nat) (v : Value) (w : World) : (method (n + 1) t v name).run P w = .ok (f, v) w := by
  unfold chkM1 at h
  split at h
  case h_2 => cases h
  rename_i i d hi hu
  split at h
  case h_2 => cases h
  rename_i m hm
  split at h
  case h_2 => cases h
  rename_i g ptr hp hf
  split at h
  case h_2 => cases h
  rename_i hg
  have hg := Nat.eq_of_beq_eq_true hg
  subst hg
  have hul : (underlying t).run P w = .ok d w := by simp [Go.underlying, hu]
  have hti : (typeInfo t).run P w = .ok i w := by simp [Go.typeInfo, hi]
  have hrec : ∀ wr, (receiverAt t (.val v) ptr wr).run P w = .ok v w := by
    intro wr
    simp only [receiverAt, Sem.run_bind, hul, Result.andThen_ok]
    cases d with
    | pointer e =>
      have : ptr = true := h
      subst this
      rfl
    | _ =>
      have : (!ptr) = true := h
      cases ptr with
      | true => cases this
      | false => rfl
  simp only [method, Sem.run_bind, hti, Result.andThen_ok, hm, hp, follow, Sem.run_pure, hf, hrec]

def chkMs (P : Program) (t : TypeId) (l : List (String × FuncId)) : Bool :=
  match l with
  | [] => true
  | p :: r => (match chkM1 P t p.1 p.2 with | true => chkMs P t r | false => false)
theorem chkMs_ok {P : Program} {t : TypeId} : ∀ {l : List (String × FuncId)}, chkMs P t l = true → ∀ name f, methOf l name = some f → chkM1 P t name f = true := by
  intro l
  induction l with
  | nil => intro _ name f h; cases h
  | cons p l ih =>
    obtain ⟨n, g⟩ := p
    intro h name f hm
    unfold chkMs at h
    split at h
    case h_2 => cases h
    rename_i h1
    unfold methOf at hm
    split at hm
    · rename_i e; injection hm with hm; subst hm; subst e; exact h1
    · exact ih h name f hm

def allB {α : Type} (p : α → Bool) (l : List α) : Bool := match l with | [] => true | x :: r => (match p x with | true => allB p r | false => false)
theorem allB_ok {α : Type} {p : α → Bool} : ∀ {l : List α}, allB p l = true → ∀ x ∈ l, p x = true := by
  intro l
  induction l with
  | nil => intro _ x h; cases h
  | cons y l ih =>
    intro h x hx
    unfold allB at h
    split at h
    case h_2 => cases h
    rename_i hy
    rcases List.mem_cons.1 hx with rfl | hx
    · exact hy
    · exact ih h x hx

/-- The tables: types, functions (each with how many of its temporaries are kept), types that are compared, methods. -/
noncomputable def mkTab (P : Program) (tys : List Nat) (fns : List (Nat × Nat)) (es : List Nat) (ms : List (Nat × List (String × FuncId))) (n : Nat) : Tab where
  ty := tput (tys.map fun t => (t, mkTI P t))
  fn := tput (fns.map fun p => (p.1, mkF P p.1 p.2))
  eqs := tput (es.map fun t => (t, mkEq P t))
  meth := tput ms
  nglob := n
theorem cert_of {P : Program} {tys : List Nat} {fns : List (Nat × Nat)} {es : List Nat} {ms : List (Nat × List (String × FuncId))} {n : Nat} (h1 : allB (chkTI P) tys = true) (h2 : allB (fun p : Nat × Nat => chkF P p.1) fns = true)
    (h3 : allB (chkEq P) es = true) (h4 : allB (fun p : Nat × List (String × FuncId) => chkMs P p.1 p.2) ms = true) (h5 : P.follows .mixedOrders = true) : Cert P (mkTab P tys fns es ms n) where
  ty := fun t ti h => tput_get (Q := fun t ti => P.underlying t = some ti.desc ∧ ∃ info, P.info? t = some info ∧ info.size = ti.size ∧ info.bytes = ti.bytes ∧ info.zero = some ti.zero ∧ info.comparable = ti.cmp ∧ closedB ti.zero = true ∧ ti.zero.cells.size = ti.size)
    (by intro p hp; obtain ⟨t, ht, rfl⟩ := List.mem_map.1 hp; exact chkTI_ok (allB_ok h1 t ht)) h
  fn := fun f a h => tput_get (Q := fun f (a : AFn) => ∃ fn, P.funcs[f]? = some fn ∧ fn.body = some a.body ∧ fn.ntmps = a.ntmps ∧ fn.results.toList = a.results ∧ (fn.name == "runtime.NumGoroutine") = false)
    (by intro p hp; obtain ⟨q, hq, rfl⟩ := List.mem_map.1 hp; exact chkF_ok (allB_ok h2 q hq)) h
  eqs := fun t l h => tput_get (Q := fun t l => P.eqGuardType P.depth t = false ∧ (∀ fs, P.underlying t = some (.struct fs) → P.stoodInHeld t = false ∧ (fs.toList.filter fun f => decide (f.name ≠ "_")).map (fun f => (f.type, f.offset)) = l))
    (by intro p hp; obtain ⟨t, ht, rfl⟩ := List.mem_map.1 hp; exact chkEq_ok (allB_ok h3 t ht)) h
  meth := fun t l name f h hm v w => by
    have := tput_get (Q := fun t l => chkMs P t l = true) (fun p hp => allB_ok h4 p hp) h
    have e : P.types.size + Made.depth = (P.types.size + (Made.depth - 1)) + 1 := by simp only [Made.depth]
    rw [e]
    exact chkM1_ok (chkMs_ok this name f hm) _ v w
  mixed := h5
end

section
def subC (c : Code) (i : Nat) : Code :=
  match c with
  | .seq a b => (match i with | 0 => a | _ + 1 => b)
  | .cond _ a b => (match i with | 0 => a | _ + 1 => b)
  | .rangeFunc _ _ a b => (match i with | 0 => a | _ + 1 => b)
  | .block _ b => b
  | .loop b => b
  | .scope b => b
  | c => c
def codeAt (c : Code) (p : List Nat) : Code := match p with | [] => c | i :: r => codeAt (subC c i) r
def bodyOf (P : Program) (f : Nat) : Code := match P.funcs[f]? with | some fn => (match fn.body with | some b => b | none => .skip) | none => .skip
def opsOf (c : Code) : Array Oper := match c with | .region _ ops _ => ops | _ => #[]
noncomputable def iR (c : Code) (i : Nat) : AItem := .inRegion (opsOf c) (dropN (opsOf c).toList i)
def iD (c : Code) (t : Nat) (V : List (Nat × Value)) (base : Nat) : AItem := .inDraw (opsOf c) t V base
def keys {α : Type} (l : List (Nat × α)) : List Nat := match l with | [] => [] | p :: r => p.1 :: keys r

def vt : Value := .bool true
def vf : Value := .bool false
def vi (n : Nat) : Value := .int .i64 (.ofNat n)
def vb (n : Nat) : Value := .int .u8 (.ofNat n)
def vu (n : Nat) : Value := .int .u64 (.ofNat n)
def bytesOf (l : List Nat) : List UInt8 := match l with | [] => [] | b :: r => UInt8.ofNat b :: bytesOf r
def vs (l : List Nat) : Value := .string ⟨⟨bytesOf l⟩⟩
def vp : Value := .pointer none
def va (b o : Nat) : Value := .pointer (some ⟨b, o, none⟩)
def vn : Value := .slice none 0 0
def vl (b o l c : Nat) : Value := .slice (some ⟨b, o, none⟩) l c
def vz : Value := .nilIface
def vg (l : List Value) : Value := .agg ⟨l⟩
def vq (l : List Value) : Value := .tuple ⟨l⟩
def no : Option Value := none
def so (v : Value) : Option Value := some v
def ob (l : List Value) : AObj := .cells l (.fixed false)
def og (l : List Value) (e f b : Nat) : AObj := .cells l (.grown ⟨e, f, b⟩)
end

end Go.Proofs.YtcjpedadnkddgaaGreatDoor.Sim
