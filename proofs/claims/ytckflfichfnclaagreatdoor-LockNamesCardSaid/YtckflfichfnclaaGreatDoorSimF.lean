/- A machine that runs closed calls of the program by the kernel: every step of the machine is followed by the model; runs. No condition. -/
import Derived.Test.YtckflfichfnclaaGreatDoorSimD
namespace Go.Proofs.YtckflfichfnclaaGreatDoor.Sim
open Go Go.RowKit
noncomputable section
section
theorem qop_aop {T : Tab} {A : Xd} {ev : Operand -> Option Value} {o : Op} {v : Value} (h : qop T A ev o = some v) : aop T A ev o = some (.val v A) := by
 have rpA : ∀ {r : Option Value} {u : Value} {A' : Xd}, rp A r = some (.val u A') -> A' = A := by
  intro r u A' h
  unfold rp at h
  split at h
  ·injection h with h; injection h with _ h; exact h.symm
  ·cases h
 unfold qop at h
 split at h
 ·cases h
 rename_i hq
 split at h
 case h_2 => cases h
 rename_i u A' ha
 have key : A' = A /\ u = v := by
  have hv : (∀ s d x, o ≠ .convert s d x) -> u = v := by
   intro hn
   split at h
   ·rename_i s d x; exact absurd rfl (hn s d x)
   ·injection h
  cases o with
  | move x => exact ⟨rpA ha, hv nofun⟩
  | assign x => exact ⟨rpA ha, hv nofun⟩
  | pick c a b =>
   refine ⟨?_, hv nofun⟩
   have ha : rPick A (ev c) (ev a) (ev b) = some (.val u A') := ha
   unfold rPick at ha
   split at ha
   ·exact rpA ha
   ·exact rpA ha
   ·cases ha
  | build t ps =>
   refine ⟨?_, hv nofun⟩
   have ha : (match evP ev ps.toList with | some l => rp A (opBuild T t l) | none => none) = some (.val u A') := ha
   split at ha
   ·exact rpA ha
   ·cases ha
  | load t a =>
   refine ⟨?_, hv nofun⟩
   have ha : (match ev a with | some v => rv (opLoad T A t v) | none => none) = some (.val u A') := ha
   split at ha
   case h_2 => cases ha
   unfold rv at ha
   split at ha
   case h_2 => cases ha
   rename_i x B hx
   injection ha with ha; injection ha with _ ha; subst ha
   unfold opLoad at hx
   split at hx
   case h_2 => cases hx
   split at hx
   case h_2 => cases hx
   split at hx
   ·split at hx
    ·injection hx with hx; injection hx with _ hx; exact hx.symm
    ·cases hx
   ·split at hx
    ·injection hx with hx; injection hx with _ hx; exact hx.symm
    ·cases hx
  | nilCheck x =>
   refine ⟨?_, hv nofun⟩
   have ha : (match ev x with | some v => rNil A v | none => none) = some (.val u A') := ha
   split at ha
   case h_2 => cases ha
   unfold rNil at ha
   split at ha <;> first | cases ha; done | (injection ha with ha; injection ha with _ ha; exact ha.symm)
  | binOp op t x y yt =>
   refine ⟨?_, hv nofun⟩
   have ha : (match ev x, ev y with | some v, some u => rp A (opBin T A op t x y v u) | _, _ => none) = some (.val u A') := ha
   split at ha
   ·exact rpA ha
   ·cases ha
  | unOp op t x =>
   refine ⟨?_, hv nofun⟩
   have ha : (match ev x with | some v => rp A (opUn op v) | none => none) = some (.val u A') := ha
   split at ha
   ·exact rpA ha
   ·cases ha
  | convert s d x =>
   have ha : (match ev x with | some v => rv (opConvert T A s d v) | none => none) = some (.val u A') := ha
   split at ha
   case h_2 => cases ha
   unfold rv at ha
   split at ha
   case h_2 => cases ha
   rename_i x B hx
   injection ha with ha; injection ha with ha1 ha; subst ha; subst ha1
   have hs : (∀ a n c, x ≠ .slice a n c) /\ x = v := by
    simp only at h
    split at h
    ·cases h
    ·rename_i hn; injection h with h; exact ⟨fun a n c e => hn a n c e, h⟩
   refine ⟨?_, hs.2⟩
   unfold opConvert at hx
   split at hx
   case h_2 => cases hx
   split at hx
   ·injection hx with hx; injection hx with _ hx; exact hx.symm
   ·injection hx with hx; injection hx with _ hx; exact hx.symm
   ·injection hx with hx; injection hx with _ hx; exact hx.symm
   ·split at hx
    case h_2 => cases hx
    split at hx
    case h_2 => cases hx
    split at hx
    case h_2 => cases hx
    injection hx with hx; injection hx with hx _
    exact absurd hx.symm (hs.1 _ _ _)
   ·split at hx
    case h_2 => cases hx
    split at hx
    case h_2 => cases hx
    split at hx
    case h_2 => cases hx
    split at hx
    ·split at hx
     ·injection hx with hx; injection hx with _ hx; exact hx.symm
     ·cases hx
    ·split at hx
     ·injection hx with hx; injection hx with _ hx; exact hx.symm
     ·split at hx
      case h_2 => cases hx
      split at hx
      ·injection hx with hx; injection hx with _ hx; exact hx.symm
      ·cases hx
    ·cases hx
   ·split at hx
    case h_2 => cases hx
    split at hx
    case h_2 => cases hx
    split at hx
    ·cases hx
    ·injection hx with hx; injection hx with _ hx; exact hx.symm
   ·cases hx
  | makeInterface t x =>
   refine ⟨?_, hv nofun⟩
   have ha : (match ev x with | some v => rp A (opIface T t v) | none => none) = some (.val u A') := ha
   split at ha
   ·exact rpA ha
   ·cases ha
  | makeFunc fn first captured =>
   refine ⟨?_, hv nofun⟩
   have ha : (match evL ev first.toList, evL ev captured.toList with | some a, some b => rFunV A fn a b | _, _ => none) = some (.val u A') := ha
   split at ha
   case h_2 => cases ha
   unfold rFunV at ha
   split at ha
   ·injection ha with ha; injection ha with _ ha; exact ha.symm
   ·cases ha
  | slice t x lo hi mx =>
   refine ⟨?_, hv nofun⟩
   cases mx with
   | some m =>
    cases hi with
    | none => cases ha
    | some hi =>
     have ha : (match ev x, evO ev lo, ev hi, ev m with | some v, some l, some h, some m => rp A (opSlice3 T A t v l h m) | _, _, _, _ => none) = some (.val u A') := ha
     split at ha
     ·exact rpA ha
     ·cases ha
   | none =>
    have ha : (match ev x, evO ev lo, evO ev hi with | some v, some l, some h => rp A (opSlice T A t v l h) | _, _, _ => none) = some (.val u A') := ha
    split at ha
    ·exact rpA ha
    ·cases ha
  | fieldAddr t x f =>
   refine ⟨?_, hv nofun⟩
   have ha : (match ev x with | some v => rp A (Y4 T t v f) | none => none) = some (.val u A') := ha
   split at ha
   ·exact rpA ha
   ·cases ha
  | field t x f =>
   refine ⟨?_, hv nofun⟩
   have ha : (match ev x with | some v => rp A (opField T t v f) | none => none) = some (.val u A') := ha
   split at ha
   ·exact rpA ha
   ·cases ha
  | indexAddr t x i =>
   refine ⟨?_, hv nofun⟩
   have ha : (match ev x, ev i with | some v, some u => rp A (Y3 T t v u) | _, _ => none) = some (.val u A') := ha
   split at ha
   ·exact rpA ha
   ·cases ha
  | index t x i =>
   refine ⟨?_, hv nofun⟩
   have ha : (match ev x, ev i with | some v, some u => rp A (opIndex T t v u) | _, _ => none) = some (.val u A') := ha
   split at ha
   ·exact rpA ha
   ·cases ha
  | lookup t x i ok =>
   refine ⟨?_, hv nofun⟩
   have ha : (match ev x, ev i with | some v, some u => rp A (opLookupX T A t v u ok) | _, _ => none) = some (.val u A') := ha
   split at ha
   ·exact rpA ha
   ·cases ha
  | entry it =>
   refine ⟨?_, hv nofun⟩
   have ha : (match ev it with | some v => rp A (opEntry A v) | none => none) = some (.val u A') := ha
   split at ha
   ·exact rpA ha
   ·cases ha
  | typeAssert x xt t ok =>
   refine ⟨?_, hv nofun⟩
   have ha : (match ev x with | some v => rp A (opAssert T v t ok) | none => none) = some (.val u A') := ha
   split at ha
   ·exact rpA ha
   ·cases ha
  | extract x i =>
   refine ⟨?_, hv nofun⟩
   have ha : (match ev x with | some v => rp A (Ko v i) | none => none) = some (.val u A') := ha
   split at ha
   ·exact rpA ha
   ·cases ha
  | call c =>
   refine ⟨?_, hv nofun⟩
   obtain ⟨callee, args, argTypes⟩ := c
   cases callee with
   | value f => cases hq
   | invoke r n => cases hq
   | builtin b =>
    have ha : (match evL ev args.toList with | some args => rBuiltin T A b argTypes.toList args | none => none) = some (.val u A') := ha
    split at ha
    case h_2 => cases ha
    cases b with
    | len =>
     unfold rBuiltin at ha
     split at ha <;> first | exact rpA ha | cases ha; done | (rename_i he _; cases he)
    | min =>
     unfold rBuiltin at ha
     split at ha <;> first | exact rpA ha | cases ha; done | (rename_i he _; cases he)
    | max =>
     unfold rBuiltin at ha
     split at ha <;> first | exact rpA ha | cases ha; done | (rename_i he _; cases he)
    | _ => cases hq
  | _ => cases hq
 rw [ha, key.1, key.2]
end
section
def Sub (V V' : List (Nat × Value)) : Prop := ∀ k u, Xp V k = some u -> Xp V' k = some u
theorem Sub.refl (V : List (Nat × Value)) : Sub V V := fun _ _ h => h
theorem Sub.trans {a b c : List (Nat × Value)} (h : Sub a b) (k : Sub b c) : Sub a c := fun x u hx => k x u (h x u hx)
theorem Sub.cons {V : List (Nat × Value)} {j : Nat} {v : Value} (h : Xp V j = none) : Sub V ((j, v) :: V) := by
 intro k u hk
 rw [XD]
 by_cases e : j = k
 ·subst e; rw [h] at hk; cases hk
 ·simp [e, hk]
theorem look_cons {V : List (Nat × Value)} {j k : Nat} {v : Value} (h : k ≠ j) : Xp ((j, v) :: V) k = Xp V k := by
 rw [XD]; simp [Ne.symm h]
theorem look_same {V : List (Nat × Value)} {j : Nat} {v : Value} : Xp ((j, v) :: V) j = some v := by
 rw [XD]; simp
def QVal (T : Tab) (D : DI) (A : Xd) (vars : List (Option Value)) (over : List (Nat × Value)) (Vi : List (Nat × Value)) (o : Oper) (j : Nat) (v : Value) : Prop :=
 (Ku D Vi o j = some true /\ qop T A (dev T.nglob D Vi vars over j) o.op = some v) \/ (Ku D Vi o j = some false /\ v = undef)
theorem al_not_quiet {o : Op} (h : isAl o = true) : Yy o = false := by
 cases o <;> first | rfl | cases h
theorem X8 (n j : Nat) : Nat.succ n + j = n + (j + 1) := by omega
theorem dpass_ok {T : Tab} {D : DI} {A : Xd} {vars : List (Option Value)} {over : List (Nat × Value)} {done pending : List Nat} : ∀ {ops : List Oper} {n : Nat} {V V1 : List (Nat × Value)},
  dpass T D A vars over done pending ops n V = some V1 ->
  Sub V V1 /\ (∀ k, (∀ j o, ops[j]? = some o -> Yy o.op = true -> k ≠ n + j) -> Xp V1 k = Xp V k) /\
  (∀ j o, ops[j]? = some o -> Yq D (n + j) pending = true -> Yr D (n + j) done = true -> Yy o.op = true -> ∃ Vi v, Sub Vi V1 /\ Xp V1 (n + j) = some v /\ QVal T D A vars over Vi o (n + j) v) /\
  (∀ j o, ops[j]? = some o -> Yq D (n + j) pending = true -> Yr D (n + j) done = true -> isAl o.op = true -> ∃ v, Xp V1 (n + j) = some v) := by
 intro ops
 induction ops with
 | nil =>
  intro n V V1 h
  injection h with h; subst h
  exact ⟨Sub.refl _, fun _ _ => rfl, fun j o h => by simp at h, fun j o h => by simp at h⟩
 | cons o ops ih =>
  intro n V V1 h
  unfold dpass at h
  -- what the rest gives, from a V' that may hold n
  have step : ∀ {V' : List (Nat × Value)}, Sub V V' -> (∀ k, k ≠ n -> Xp V' k = Xp V k) -> (Yy o.op = false -> V' = V) -> dpass T D A vars over done pending ops (Nat.succ n) V' = some V1 ->
    (Yq D n pending = true -> Yr D n done = true -> Yy o.op = true -> ∃ Vi v, Sub Vi V1 /\ Xp V1 n = some v /\ QVal T D A vars over Vi o n v) ->
    (Yq D n pending = true -> Yr D n done = true -> isAl o.op = true -> ∃ v, Xp V1 n = some v) ->
    Sub V V1 /\ (∀ k, (∀ j o', (o :: ops)[j]? = some o' -> Yy o'.op = true -> k ≠ n + j) -> Xp V1 k = Xp V k) /\
    (∀ j o', (o :: ops)[j]? = some o' -> Yq D (n + j) pending = true -> Yr D (n + j) done = true -> Yy o'.op = true -> ∃ Vi v, Sub Vi V1 /\ Xp V1 (n + j) = some v /\ QVal T D A vars over Vi o' (n + j) v) /\
    (∀ j o', (o :: ops)[j]? = some o' -> Yq D (n + j) pending = true -> Yr D (n + j) done = true -> isAl o'.op = true -> ∃ v, Xp V1 (n + j) = some v) := by
   intro V' h1 h2 h3 h4 h5 h6
   obtain ⟨a, b, c, d⟩ := ih h4
   refine ⟨h1.trans a, ?_, ?_, ?_⟩
   ·intro k hk
    have hb : Xp V1 k = Xp V' k := b k (fun j o' ho' hq => by rw [X8]; exact hk (j + 1) o' (by simpa using ho') hq)
    rw [hb]
    cases hq : Yy o.op with
    | false => rw [h3 hq]
    | true => exact h2 k (by simpa using hk 0 o rfl hq)
   ·intro j o' ho' hx hy hq
    cases j with
    | zero => simp at ho'; subst ho'; exact h5 hx hy hq
    | succ j => simp at ho'; rw [← X8] at hx hy ⊢; exact c j o' ho' hx hy hq
   ·intro j o' ho' hx hy hq
    cases j with
    | zero => simp at ho'; subst ho'; exact h6 hx hy hq
    | succ j => simp at ho'; rw [← X8] at hx hy ⊢; exact d j o' ho' hx hy hq
  split at h
  ·rename_i hq
   split at h
   ·cases h
   ·rename_i hne
    refine step (Sub.refl _) (fun _ _ => rfl) (fun _ => rfl) h (fun _ _ hq' => by rw [hq] at hq'; cases hq') ?_
    intro hx hy hal
    cases hv : Xp V n with
    | none => exact absurd hv (hne hal hx hy)
    | some v => exact ⟨v, (ih h).1 n v hv⟩
  ·rename_i hq
   split at h
   ·rename_i hx hy
    split at h
    case h_2 => cases h
    rename_i v hv
    have hqv : QVal T D A vars over V o n v := by
     split at hv
     ·rename_i hw; exact .inl ⟨hw, hv⟩
     ·rename_i hw; injection hv with hv; exact .inr ⟨hw, hv.symm⟩
     ·cases hv
    split at h
    ·rename_i hn
     have hs := (ih h).1
     refine step (Sub.cons hn) (fun k hk => look_cons hk) (fun hq' => by rw [hq] at hq'; cases hq') h (fun _ _ _ => ⟨V, v, (Sub.cons hn).trans hs, hs n v look_same, hqv⟩) (fun _ _ hal => by rw [al_not_quiet hal] at hq; cases hq)
    ·rename_i u hu
     split at h
     case h_2 => cases h
     rename_i he
     have he := vEq_eq he; subst he
     have hs := (ih h).1
     refine step (Sub.refl _) (fun _ _ => rfl) (fun _ => rfl) h (fun _ _ _ => ⟨V, u, hs, hs n u hu, hqv⟩) (fun _ _ hal => by rw [al_not_quiet hal] at hq; cases hq)
   ·rename_i hne
    refine step (Sub.refl _) (fun _ _ => rfl) (fun _ => rfl) h (fun hx hy _ => absurd hy (hne hx)) (fun hx hy _ => absurd hy (hne hx))
structure PreOk (T : Tab) (D : DI) (vars : List (Option Value)) (over : List (Nat × Value)) (base : Nat) (ops : List Oper) (n : Nat) (A : Xd) (V : List (Nat × Value)) (A1 : Xd) (V1 : List (Nat × Value)) : Prop where
 sub : Sub V V1
 next : A1.next = A.next
 fams : A1.fams = A.fams
 heap : ∀ b, (∀ j o, ops[j]? = some o -> isAl o.op = true -> Xp V (n + j) = none -> b ≠ base + (n + j)) -> A1.heap.get b = A.heap.get b
 new : ∀ b ob, A1.heap.get b = some ob -> A.heap.get b = some ob \/ (notGrownB ob = true /\ ∃ j o, ops[j]? = some o /\ isAl o.op = true /\ Xp V (n + j) = none /\ b = base + (n + j))
 pend : ∀ j o v, ops[j]? = some o -> isAl o.op = true -> Xp V (n + j) = none -> Xp V1 (n + j) = some v -> PendOk T A1 D V1 vars over base (n + j) o v
 look : ∀ k, (∀ j o, ops[j]? = some o -> k ≠ n + j) -> Xp V1 k = Xp V k
theorem dpre_ok {T : Tab} {D : DI} {vars : List (Option Value)} {over : List (Nat × Value)} {done pending : List Nat} {base : Nat} : ∀ {ops : List Oper} {n : Nat} {A : Xd} {V : List (Nat × Value)} {A1 : Xd} {V1 : List (Nat × Value)},
  dpre T D vars over done pending base ops n A V = some (A1, V1) -> PreOk T D vars over base ops n A V A1 V1 := by
 intro ops
 induction ops with
 | nil =>
  intro n A V A1 V1 h
  injection h with h; injection h with h1 h2; subst h1; subst h2
  exact ⟨Sub.refl _, rfl, rfl, fun _ _ => rfl, fun _ _ h => .inl h, fun j o v h => by simp at h, fun _ _ => rfl⟩
 | cons o ops ih =>
  intro n A V A1 V1 h
  unfold dpre at h
  -- the rest, where nothing is laid
  have step : ∀ {V' : List (Nat × Value)}, Sub V V' -> (∀ k, k ≠ n -> Xp V' k = Xp V k) -> dpre T D vars over done pending base ops (Nat.succ n) A V' = some (A1, V1) ->
    (∀ v, isAl o.op = true -> Xp V n = none -> Xp V1 n = some v -> PendOk T A1 D V1 vars over base n o v) -> PreOk T D vars over base (o :: ops) n A V A1 V1 := by
   intro V' h1 h2 h4 h5
   have k := ih h4
   have hn : ∀ j, n + (j + 1) ≠ n := fun j => by omega
   refine ⟨h1.trans k.sub, k.next, k.fams, ?_, ?_, ?_, ?_⟩
   ·intro b hb
    refine k.heap b fun j o' ho' hal hno => ?_
    rw [X8] at hno ⊢
    rw [h2 _ (hn j)] at hno
    exact hb (j + 1) o' (by simpa using ho') hal hno
   ·intro b ob hb
    rcases k.new b ob hb with h | ⟨h, j, o', a, b', c, d⟩
    ·exact .inl h
    ·rw [X8] at c d
     rw [h2 _ (hn j)] at c
     exact .inr ⟨h, j + 1, o', by simpa using a, b', c, d⟩
   ·intro j o' v ho' hal hno hv
    cases j with
    | zero => simp at ho'; subst ho'; exact h5 v hal hno hv
    | succ j =>
     simp at ho'
     rw [← h2 _ (hn j)] at hno
     rw [← X8] at hno hv ⊢
     exact k.pend j o' v ho' hal hno hv
   ·intro q hq
    rw [k.look q (fun j o' ho' => by rw [X8]; exact hq (j + 1) o' (by simpa using ho'))]
    exact h2 q (by simpa using hq 0 o rfl)
  have same : ∀ {V' : List (Nat × Value)}, dpre T D vars over done pending base ops (Nat.succ n) A V' = some (A1, V1) -> Xp V1 n = Xp V' n := by
   intro V' h4
   exact (ih h4).look n (fun j o' _ => by rw [X8]; omega)
  split at h
  ·rename_i hc
   refine step (Sub.refl _) (fun _ _ => rfl) h fun v hal => ?_
   unfold isChain at hc
   rw [hal, al_not_quiet hal] at hc; cases hc
  ·split at h
   ·rename_i u hu
    exact step (Sub.refl _) (fun _ _ => rfl) h fun v _ hno => by rw [hno] at hu; cases hu
   ·rename_i hno
    split at h
    ·split at h
     ·rename_i hw
      split at h
      ·rename_i hal
       split at h
       case h_2 => cases h
       rename_i ob mk ha
       split at h
       case h_2 => cases h
       rename_i hng hlt
       have hlt : base + n < 16000000 := by simpa using hlt
       have k := ih h
       have hn : ∀ j, n + (j + 1) ≠ n := fun j => by omega
       have h2 : ∀ k, k ≠ n -> Xp ((n, mk (Nat.add base n)) :: V) k = Xp V k := fun k hk => look_cons hk
       have hhead : A1.heap.get (base + n) = some ob := by
        rw [k.heap _ (fun j o' _ _ _ => by rw [X8]; omega)]
        exact Tr.get_put_there _ _ _ (by have : base.add n = base + n := rfl; omega)
       refine ⟨(Sub.cons hno).trans k.sub, k.next, k.fams, ?_, ?_, ?_, ?_⟩
       ·intro b hb
        rw [k.heap b fun j o' ho' hal' hno' => by
         rw [X8] at hno' ⊢
         rw [h2 _ (hn j)] at hno'
         exact hb (j + 1) o' (by simpa using ho') hal' hno']
        exact Tr.get_put_other _ _ _ _ (by simpa using hb 0 o rfl hal (by simpa using hno))
       ·intro b ob' hb
        rcases k.new b ob' hb with h | ⟨h, j, o', a, b', c, d⟩
        ·rcases Tr.get_put h with ⟨h1, h2⟩ | ⟨_, h2⟩
         ·injection h2 with h2; subst h2
          exact .inr ⟨hng, 0, o, rfl, hal, by simpa using hno, h1⟩
         ·exact .inl h2
        ·rw [X8] at c d
         rw [h2 _ (hn j)] at c
         exact .inr ⟨h, j + 1, o', by simpa using a, b', c, d⟩
       ·intro j o' v ho' hal' hno' hv
        cases j with
        | zero =>
         simp at ho'; subst ho'
         have hv1 := k.sub n _ (look_same (V := V) (j := n) (v := mk (Nat.add base n)))
         have hv : Xp V1 n = some v := hv
         rw [hv1] at hv; injection hv with hv; subst hv
         exact ⟨V, (Sub.cons hno).trans k.sub, .inr ⟨hw, ob, mk, ha, rfl, hhead, hng⟩⟩
        | succ j =>
         simp at ho'
         rw [← h2 _ (hn j)] at hno'
         rw [← X8] at hno' hv ⊢
         exact k.pend j o' v ho' hal' hno' hv
       ·intro q hq
        rw [k.look q (fun j o' ho' => by rw [X8]; exact hq (j + 1) o' (by simpa using ho'))]
        exact h2 q (by simpa using hq 0 o rfl)
      ·rename_i hal
       have hx : ∀ {v : Value} {X : Prop}, isAl o.op = true -> X := fun h => by rw [h] at hal; cases hal
       split at h
       ·exact step (Sub.cons hno) (fun k hk => look_cons hk) h fun v h => by rw [h] at hal; cases hal
       ·exact step (Sub.refl _) (fun _ _ => rfl) h fun v h => by rw [h] at hal; cases hal
     ·rename_i hw
      refine step (Sub.cons hno) (fun k hk => look_cons hk) h fun v hal _ hv => ?_
      rw [same h, look_same] at hv; injection hv with hv; subst hv
      exact ⟨V, (Sub.cons hno).trans (ih h).sub, .inl ⟨hw, rfl⟩⟩
     ·refine step (Sub.refl _) (fun _ _ => rfl) h fun v hal _ hv => ?_
      rw [same h, hno] at hv; cases hv
    ·refine step (Sub.refl _) (fun _ _ => rfl) h fun v hal _ hv => ?_
     rw [same h, hno] at hv; cases hv
end
section
variable {P : Program} {T : Tab} {B : Nat} {cs0 : List Frame}
structure SlotOk (T : Tab) (D : DI) (A1 : Xd) (vars : List (Option Value)) (over : List (Nat × Value)) (done pending : List Nat) (ops : Array Oper) (V1 : List (Nat × Value)) : Prop where
 quiet : ∀ j o, ops[j]? = some o -> Yq D j pending = true -> Yr D j done = true -> Yy o.op = true -> ∃ Vi v, Sub Vi V1 /\ Xp V1 j = some v /\ QVal T D A1 vars over Vi o j v
 als : ∀ j o, ops[j]? = some o -> Yq D j pending = true -> Yr D j done = true -> isAl o.op = true -> ∃ v, Xp V1 j = some v
theorem dslot_ok {D : DI} {A A1 : Xd} {vars : List (Option Value)} {over : List (Nat × Value)} {done pending : List Nat} {base : Nat} {ops : Array Oper} {V V1 : List (Nat × Value)}
  (h : dslot T D A vars over done pending base ops.toList V = some (A1, V1)) :
  ∃ Va, PreOk T D vars over base ops.toList 0 A V A1 Va /\ dpass T D A1 vars over done pending ops.toList 0 Va = some V1 := by
 unfold dslot at h
 split at h
 ·split at h
  case h_2 => cases h
  rename_i V2 h2
  injection h with h; injection h with h1 h3; subst h1; subst h3
  refine ⟨V, ⟨Sub.refl _, rfl, rfl, fun _ _ => rfl, fun _ _ h => .inl h, ?_, fun _ _ => rfl⟩, h2⟩
  intro j o v _ _ a b
  rw [a] at b; cases b
 ·split at h
  case h_2 => cases h
  rename_i A2 V2 h2
  split at h
  case h_2 => cases h
  rename_i V3 h3
  injection h with h; injection h with h1 h4; subst h1; subst h4
  exact ⟨V2, dpre_ok h2, h3⟩
theorem slot_ok {μ : Mu} {A A1 : Xd} {lo hi nt : Nat} {vars : List (Option Value)} {over : List (Nat × Value)} {ops : Array Oper} {t : Nat} {V V1 : List (Nat × Value)} {base : Nat} {rest : List Nat} {tm : Array Value} {hp : Array Obj} {done pending : List Nat}
  (h : Ki T μ A lo hi nt vars over ops t V base rest tm) (R : Xs μ B A hp) (hhi : hi <= A.next)
  (hs : dslot T (Xv ops.toList) A vars over done pending base ops.toList V = some (A1, V1)) :
  Ki T μ A1 lo hi nt vars over ops t V1 base rest tm /\ Xs μ B A1 hp /\ SlotOk T (Xv ops.toList) A1 vars over done pending ops V1 /\ A1.next = A.next /\ Kept lo μ A A1 := by
 obtain ⟨Va, hp1, hpass⟩ := dslot_ok hs
 obtain ⟨s1, s2, s3, s4⟩ := dpass_ok hpass
 have hsub := hp1.sub.trans s1
 have hget : ∀ {j : Nat} {o : Oper}, ops.toList[j]? = some o ↔ ops[j]? = some o := by intro j o; simp
 have hrest : ∀ {j : Nat} {o : Oper}, ops[j]? = some o -> Xp V j = none -> j ∈ rest := by
  intro j o ho hn
  rcases Classical.em (j ∈ rest) with h1 | h1
  ·exact h1
  ·obtain ⟨v, a, _⟩ := h.done j o h1 ho
   rw [hn] at a; cases a
 refine ⟨⟨h.ok, h.nt, h.lo, h.hi, h.ord, h.chain, ?_, h.old, ?_⟩, ?_, ?_, hp1.next, ?_⟩
 ·intro i o hi' ho
  obtain ⟨v, a, b⟩ := h.done i o hi' ho
  exact ⟨v, hsub i v a, b⟩
 ·intro j o hj ho hal
  obtain ⟨a, b⟩ := h.pend j o hj ho hal
  refine ⟨a, fun v hv => ?_⟩
  rw [s2 j (fun j' o' ho' hq => by
   rintro rfl
   rw [Nat.zero_add] at ho
   rw [Option.some.inj (ho'.symm.trans (hget.2 ho)), al_not_quiet hal] at hq; cases hq)] at hv
  cases hVj : Xp V j with
  | some v' =>
   have := hp1.sub j v' hVj
   rw [hv] at this; injection this with this; subst this
   refine (b v hVj).mono hsub fun ob h5 _ => ?_
   rw [hp1.heap _ (fun j' o' _ _ hn => by
    intro e
    have : j = j' := by omega
    subst this
    rw [Nat.zero_add, hVj] at hn; cases hn)]
   exact h5
  | none =>
   have := hp1.pend j o v (hget.2 ho) hal (by rw [Nat.zero_add]; exact hVj) (by rw [Nat.zero_add]; exact hv)
   rw [Nat.zero_add] at this
   exact this.mono s1 fun _ h _ => h
 ·refine ⟨R.base, ?_, ?_, R.sep, ?_, ?_⟩
  ·intro b o e hb he
   rcases hp1.new b o hb with h1 | ⟨_, j, o', ho', hal, hn, rfl⟩
   ·exact R.obj b o e h1 he
   ·rw [Nat.zero_add] at hn he
    have := (h.pend j o' (hrest (hget.1 ho') hn) (hget.1 ho') hal).1
    rw [this] at he; cases he
  ·intro b e he
   rw [hp1.next]; exact R.dom b e he
  ·intro b xs g hb
   rw [hp1.next, hp1.fams]
   rcases hp1.new b _ hb with h1 | ⟨hng, _⟩
   ·exact R.memb b xs g h1
   ·cases hng
  ·intro b o hb
   rw [hp1.next]
   rcases hp1.new b o hb with h1 | ⟨_, j, o', ho', _, _, rfl⟩
   ·exact R.live b o h1
   ·have := (Array.getElem?_eq_some_iff.1 (hget.1 ho')).1
    have := h.hi
    omega
 ·refine ⟨?_, ?_⟩
  ·intro j o ho hx hy hq
   have := s3 j o (hget.2 ho) (by rw [Nat.zero_add]; exact hx) (by rw [Nat.zero_add]; exact hy) hq
   rw [Nat.zero_add] at this; exact this
  ·intro j o ho hx hy hq
   have := s4 j o (hget.2 ho) (by rw [Nat.zero_add]; exact hx) (by rw [Nat.zero_add]; exact hy) hq
   rw [Nat.zero_add] at this; exact this
 ·intro b o hb _ ho _
  rw [hp1.heap b (fun j o' _ _ _ => by have := h.lo; omega)]
  exact ho
theorem chainOf_sorted : ∀ (ops : List Oper) (n : Nat), (Ka ops n).Pairwise (· < ·) /\ ∀ x ∈ Ka ops n, n <= x := by
 intro ops
 induction ops with
 | nil => intro n; exact ⟨List.Pairwise.nil, fun x h => by cases h⟩
 | cons o ops ih =>
  intro n
  obtain ⟨a, b⟩ := ih (Nat.succ n)
  unfold Ka
  split
  ·exact ⟨a, fun x hx => by have := b x hx; omega⟩
  ·refine ⟨List.pairwise_cons.2 ⟨fun x hx => b x hx, a⟩, fun x hx => ?_⟩
   rcases List.mem_cons.1 hx with rfl | hx
   ·exact Nat.le_refl _
   ·have := b x hx; omega
theorem openBef_of {D : DI} {j : Nat} {l : List Nat} (h : ∀ c ∈ l, X2 D c j = false) : Yq D j l = true := by
 induction l with
 | nil => rfl
 | cons c l ih =>
  unfold Yq
  rw [h c (by simp)]
  exact ih fun c' hc => h c' (by simp [hc])
theorem openAft_of {D : DI} {j : Nat} {l : List Nat} (h : ∀ c ∈ l, X2 D j c = false) : Yr D j l = true := by
 induction l with
 | nil => rfl
 | cons c l ih =>
  unfold Yr
  rw [h c (by simp)]
  exact ih fun c' hc => h c' (by simp [hc])
theorem takeL_eq : ∀ (l : List Nat) (n : Nat), takeL l n = l.take n := by
 intro l
 induction l with
 | nil => intro n; cases n <;> rfl
 | cons x l ih =>
  intro n
  cases n with
  | zero => rfl
  | succ n => exact congrArg (x :: ·) (ih n)
theorem head_open {μ : Mu} {A : Xd} {lo hi nt : Nat} {vars : List (Option Value)} {over : List (Nat × Value)} {ops : Array Oper} {t : Nat} {V : List (Nat × Value)} {base i : Nat} {rest : List Nat} {tm : Array Value}
  (h : Ki T μ A lo hi nt vars over ops t V base (i :: rest) tm) (hi : mem i (Xv ops.toList).chain = false) :
  Yq (Xv ops.toList) i (Xf (Xv ops.toList).chain t) = true /\ Yr (Xv ops.toList) i (takeL (Xv ops.toList).chain t) = true := by
 obtain ⟨S, h1, h2, h3⟩ := h.ord
 have hpw := List.pairwise_append.1 h1
 have hc := h.chain
 rw [List.filter_cons, hi] at hc
 simp only [Bool.false_eq_true, if_false] at hc
 refine ⟨openBef_of fun c hm => ?_, openAft_of fun c hm => ?_⟩
 ·rw [Yu, ← hc, List.mem_filter] at hm
  exact (List.pairwise_cons.1 hpw.2.1).1 c hm.1
 ·rw [takeL_eq] at hm
  have hch : c ∈ (Xv ops.toList).chain := List.mem_of_mem_take hm
  obtain ⟨o, _, ho, _⟩ := mem_chainOf.1 hch
  have hsz : c < ops.size := by
   have ho : ops[c]? = some o := by simpa using ho
   exact (Array.getElem?_eq_some_iff.1 ho).1
  have hne : c ≠ i := by rintro rfl; rw [mem_false] at hi; exact hi hch
  rcases List.mem_append.1 ((h3 c).2 hsz) with hS | hr
  ·exact hpw.2.2 c hS i (by simp)
  ·rcases List.mem_cons.1 hr with e | hr
   ·exact absurd e hne
   ·exfalso
    have : c ∈ (Xv ops.toList).chain.drop t := by rw [← hc, List.mem_filter]; exact ⟨hr, mem_eq.2 hch⟩
    have hs := (chainOf_sorted ops.toList 0).1
    have hs : (Xv ops.toList).chain.Pairwise (· < ·) := hs
    rw [← List.take_append_drop t (Xv ops.toList).chain] at hs
    have := (List.pairwise_append.1 hs).2.2 c hm c this
    omega
end
section
variable {P : Program} {T : Tab} {B : Nat} {cs0 : List Frame}
theorem step_oper {fr : Frame} {cs : List Frame} {w : World} {ops : Array Oper} {i : Nat} {rest : List Nat} {k : List Item} {o : Oper} (hm : fr.mode = .run) (ht : fr.todo = .inRegion ops (i :: rest) :: k)
  (ho : ops[i]? = some o) (hw : Region.wanted o (yielded ops fr.tmps) = true) (hd : fr.roundOf = none \/ ∀ c, o.op ≠ .defer c) :
  stepG P true { frame := fr, callers := cs, status := .running, dying := none } w = stepG.apply P true fr cs none (execOp fr.eval o) w := by
 simp only [stepG, stepG.exec, hm, ht, ho, Option.map_some, Option.getD_some, hw, if_true, stepG.oper, Frame.oper?]
 rcases hd with hd | hd
 ·simp only [hd]
 ·split
  ·rename_i h; exact absurd h (hd _)
  ·rfl
theorem step_val {fr : Frame} {cs : List Frame} {w w' : World} {ops : Array Oper} {i : Nat} {rest : List Nat} {k : List Item} {o : Oper} (hm : fr.mode = .run) (ht : fr.todo = .inRegion ops (i :: rest) :: k)
  (ho : ops[i]? = some o) (hw : Region.wanted o (yielded ops fr.tmps) = true) (hd : fr.roundOf = none \/ ∀ c, o.op ≠ .defer c) {v : Value} (hr : (execOp fr.eval o).run P w = .ok (.value v) w') :
  Steps P (lone fr cs w) (lone (fr.finish v) cs w') := by
 refine .one (step_lone_go ?_)
 rw [step_oper hm ht ho hw hd]
 simp only [stepG.apply, Sem.runT_eq, hr, if_true, GStep.bare_after, GStep.bare_go]
theorem step_nowant {fr : Frame} {cs : List Frame} {w : World} {ops : Array Oper} {i : Nat} {rest : List Nat} {k : List Item} {o : Oper} (hm : fr.mode = .run) (ht : fr.todo = .inRegion ops (i :: rest) :: k)
  (ho : ops[i]? = some o) (hw : Region.wanted o (yielded ops fr.tmps) = false) :
  Steps P (lone fr cs w) (lone (fr.finish undef) cs w) := by
 refine .one (step_lone_go ?_)
 simp [stepG, stepG.exec, hm, ht, ho, hw]
theorem YV {fr : Frame} {ops : Array Oper} {i : Nat} {rest : List Nat} {k : List Item} {o : Oper} (ht : fr.todo = .inRegion ops (i :: rest) :: k) (ho : ops[i]? = some o) (v : Value) :
  fr.finish v = { fr with tmps := putC fr.tmps o.dst v, todo := .inRegion ops rest :: k } := by
 simp only [Frame.finish, ht, ho, Option.bind_some]
 cases o.dst <;> rfl
theorem quiet_ndefer {o : Op} (h : Yy o = true \/ isAl o = true) : ∀ c, o ≠ .defer c := by
 rintro c rfl
 rcases h with h | h <;> cases h
theorem Ki.lohi {μ : Mu} {A : Xd} {lo hi nt : Nat} {vars : List (Option Value)} {over : List (Nat × Value)} {ops : Array Oper} {t : Nat} {V : List (Nat × Value)} {base : Nat} {rest : List Nat} {tm : Array Value}
  (h : Ki T μ A lo hi nt vars over ops t V base rest tm) : lo <= hi := by have := h.lo; have := h.hi; omega
theorem quiet_run (C : Xy P T) {A : Xd} {lo hi : Nat} {fr : Xh} {ops : Array Oper} {t : Nat} {V : List (Nat × Value)} {base : Nat} {k : List Item} {cs : List Frame} (hhi : hi <= A.next)
  (hs : SlotOk T (Xv ops.toList) A fr.vars fr.over (takeL (Xv ops.toList).chain t) (Xf (Xv ops.toList).chain t) ops V) :
  ∀ (rest : List Nat) {μ : Mu} {fr' : Frame} {w : World}, fr'.mode = .run -> fr'.todo = .inRegion ops rest :: k -> Ki T μ A lo hi fr.nt fr.vars fr.over ops t V base rest fr'.tmps -> Xs μ B A w.heap -> GRel μ T.nglob T.anc ->
  ∃ μ' tm w' rest', Mu.Ext lo μ μ' /\ Steps P (lone fr' cs w) (lone { fr' with tmps := tm, todo := .inRegion ops rest' :: k } cs w') /\ Below B w w' /\
   Ki T μ' A lo hi fr.nt fr.vars fr.over ops t V base rest' tm /\ Xs μ' B A w'.heap /\ (rest' = [] \/ ∃ c r, rest' = c :: r /\ mem c (Xv ops.toList).chain = true) := by
 intro rest
 induction rest with
 | nil =>
  intro μ fr' w _ ht hd R _
  refine ⟨μ, fr'.tmps, w, [], Mu.Ext.refl _ _, ?_, Below.refl _ _, hd, R, .inl rfl⟩
  rw [← ht]; exact Steps.refl _ _
 | cons i rest ih =>
  intro μ fr' w hm ht hd R G
  cases hc : mem i (Xv ops.toList).chain with
  | true =>
   refine ⟨μ, fr'.tmps, w, i :: rest, Mu.Ext.refl _ _, ?_, Below.refl _ _, hd, R, .inr ⟨i, rest, rfl, hc⟩⟩
   rw [← ht]; exact Steps.refl _ _
  | false =>
   obtain ⟨ho1, ho2⟩ := head_open hd hc
   obtain ⟨S, h1, h2, h3⟩ := hd.ord
   have hlt : i < ops.size := (h3 i).1 (by simp)
   obtain ⟨o, ho⟩ : ∃ o, ops[i]? = some o := ⟨_, Array.getElem?_eq_getElem hlt⟩
   -- what follows a step
   have go : ∀ {μ1 : Mu} {v v' : Value} {w1 : World}, Mu.Ext lo μ μ1 -> (∀ j, j ∈ rest -> μ (base + j) = none -> μ1 (base + j) = none) -> Xp V i = some v -> Xj μ1 v v' -> Xs μ1 B A w1.heap -> Below B w w1 ->
     Steps P (lone fr' cs w) (lone (fr'.finish v') cs w1) ->
     ∃ μ' tm w' rest', Mu.Ext lo μ μ' /\ Steps P (lone fr' cs w) (lone { fr' with tmps := tm, todo := .inRegion ops rest' :: k } cs w') /\ Below B w w' /\
      Ki T μ' A lo hi fr.nt fr.vars fr.over ops t V base rest' tm /\ Xs μ' B A w'.heap /\ (rest' = [] \/ ∃ c r, rest' = c :: r /\ mem c (Xv ops.toList).chain = true) := by
    intro μ1 v v' w1 hext hpd hv hvr R1 hb hst
    have hd1 := hd.exec' ho hvr hext.1 hpd (.inr ⟨hc, rfl⟩) (.inl ⟨rfl, hv⟩)
    rw [YV ht ho] at hst
    obtain ⟨μ', tm, w', rest', a, b, c, d, e, f⟩ := ih (fr' := { fr' with tmps := putC fr'.tmps o.dst v', todo := .inRegion ops rest :: k }) hm rfl hd1 R1 (G.mono hext.1)
    exact ⟨μ', tm, w', rest', ⟨hext.1.trans a.1, fun b hb hn => a.2 b hb (hext.2 b hb hn)⟩, hst.trans b, hb.trans c, d, e, f⟩
   have skip : ∀ {Vi : List (Nat × Value)}, Sub Vi V -> Ku (Xv ops.toList) Vi o i = some false -> Xp V i = some undef -> _ := fun {Vi} hVi hw hv =>
    go (Mu.Ext.refl _ μ) (fun _ _ h => h) hv (Xo.tuple .nil) R (Below.refl _ _) (step_nowant hm ht ho (Kx hd hVi ho hw))
   have hcl : Yy o.op = true \/ isAl o.op = true := by
    cases hq : Yy o.op with
    | true => exact .inl rfl
    | false =>
     cases ha : isAl o.op with
     | true => exact .inr rfl
     | false =>
      exfalso
      rw [mem_false] at hc
      refine hc (mem_chainOf.2 ⟨o, Nat.zero_le _, by simpa using ho, ?_⟩)
      unfold isChain; rw [hq, ha]
   rcases hcl with hq | hal
   ·obtain ⟨Vi, v, hVi, hv, hqv⟩ := hs.quiet i o ho ho1 ho2 hq
    rcases hqv with ⟨hw, hqo⟩ | ⟨hw, rfl⟩
    ·have hrho := rho_draw (fr' := fr') G hd hVi
     obtain ⟨v', w1, μ1, hr, hext, R1, hvr, hb, _⟩ := aop_ok C R hrho (o := o) (qop_aop hqo)
     refine go (hext.le (Nat.le_trans hd.lohi hhi)) ?_ hv hvr R1 hb (step_val hm ht ho (Kx hd hVi ho hw) (.inr (quiet_ndefer (.inl hq))) hr)
     intro j hj hn
     have hjs : j < ops.size := (h3 j).1 (by simp [hj])
     exact hext.2 _ (by have := hd.hi; omega) hn
    ·exact skip hVi hw hv
   ·obtain ⟨v, hv⟩ := hs.als i o ho ho1 ho2 hal
    obtain ⟨hmu, hp⟩ := hd.pend i o (by simp) ho hal
    obtain ⟨Vi, hVi, hp⟩ := hp v hv
    rcases hp with ⟨hw, rfl⟩ | ⟨hw, ob, mk, hao, rfl, hget, hng⟩
    ·exact skip hVi hw hv
    ·have hrho := rho_draw (fr' := fr') G hd hVi
     obtain ⟨s, he, o', v', hr, _, hor, hvr⟩ := alop_ok (w := w) C R.base hrho (o := o) hao
     have hle := Mu.le_add (e := ⟨w.heap.size, 0, none, 0⟩) hmu
     have R1 : Xs (μ.add (base + i) ⟨w.heap.size, 0, none, 0⟩) B A (w.alloc o').heap := R.map hmu (by have := hd.hi; omega) rfl rfl (fun g hg => by cases hg) (fun o2 ho2 => by
      rw [hget] at ho2; injection ho2 with ho2; subst ho2
      exact hor _ hle)
     refine go (μ1 := μ.add (base + i) ⟨w.heap.size, 0, none, 0⟩) ⟨hle, ?_⟩ ?_ hv (hvr _ _ (by simp)) R1 ((Below.refl _ _).alloc R.base _)
      (step_val hm ht ho (Kx hd hVi ho hw) (.inr (quiet_ndefer (.inr hal))) (v := v') (w' := w.alloc o') (by rw [he]; simp [hr]))
     ·intro b hb hn
      rw [Mu.add, if_neg (by have := hd.lo; omega)]; exact hn
     ·intro j hj hn
      have hne : j ≠ i := by
       rintro rfl
       have := h2.sublist (List.sublist_append_right _ _)
       exact (List.nodup_cons.1 this).1 hj
      rw [Mu.add, if_neg (by omega)]; exact hn
end
section
variable {P : Program} {T : Tab} {B : Nat} {cs0 : List Frame}
theorem tget_tset {vars : List (Option Value)} {over : List (Nat × Value)} {t u : Nat} {v x : Value} (h : Yl (tset vars over t v).1 (tset vars over t v).2 u = some x) : (u = t /\ x = v) \/ (u ≠ t /\ Yl vars over u = some x) := by
 by_cases e : u = t
 ·subst e
  left
  refine ⟨rfl, ?_⟩
  unfold tset at h
  split at h
  ·rename_i o ho
   rw [XT] at ho
   have hl := (List.getElem?_eq_some_iff.1 ho).1
   simp only [Yl, XT, lset_eq, List.getElem?_set, hl] at h
   simp at h
   exact h.symm
  ·rename_i hn
   simp only [Yl, hn, XD] at h
   simp at h
   exact h.symm
 ·right
  refine ⟨e, ?_⟩
  unfold tset at h
  split at h
  ·simp only [Yl, XT, lset_eq, List.getElem?_set] at h ⊢
   simpa [Ne.symm e] using h
  ·simp only [Yl, XD] at h ⊢
   simpa [Ne.symm e] using h
theorem put_some {fr fr1 : Xh} {t : Tmp} {v : Value} (h : fr.put (some t) v = some fr1) :
  fr1 = { fr with vars := fr1.vars, over := fr1.over } /\ ∀ u x, Yl fr1.vars fr1.over u = some x -> (u = t /\ x = v) \/ (u ≠ t /\ Yl fr.vars fr.over u = some x) := by
 have h : (match Nat.blt t fr.nt, tset fr.vars fr.over t v with | true, (vs, ov) => some { fr with vars := vs, over := ov } | false, _ => none) = some fr1 := h
 split at h
 ·rename_i vs ov _ he
  injection h with h; subst h
  refine ⟨rfl, fun u x hu => ?_⟩
  refine tget_tset ?_
  rw [he]; exact hu
 ·cases h
theorem dflush_ok {V : List (Nat × Value)} {Q : Nat -> Value -> Prop} : ∀ {ds : List (Nat × Nat)} {fr fr1 : Xh}, dflush V ds fr = some fr1 ->
  (∀ u v, Yl fr.vars fr.over u = some v -> (∀ j, (u, j) ∉ ds) -> Q u v) -> (∀ d j v, (d, j) ∈ ds -> Xp V j = some v -> Q d v) ->
  (∀ u v, Yl fr1.vars fr1.over u = some v -> Q u v) /\ fr1 = { fr with vars := fr1.vars, over := fr1.over } := by
 intro ds
 induction ds with
 | nil =>
  intro fr fr1 h h1 _
  injection h with h; subst h
  exact ⟨fun u v hu => h1 u v hu (fun j hj => by cases hj), rfl⟩
 | cons p ds ih =>
  obtain ⟨d, j⟩ := p
  intro fr fr1 h h1 h2
  unfold dflush at h
  split at h
  case h_2 => cases h
  rename_i v hv
  split at h
  case h_2 => cases h
  rename_i fr2 hp
  obtain ⟨e, hg⟩ := put_some hp
  obtain ⟨a, b⟩ := ih h (fun u x hu hn => by
   rcases hg u x hu with ⟨rfl, rfl⟩ | ⟨hne, hu⟩
   ·exact h2 u j x (by simp) hv
   ·refine h1 u x hu fun j' hj' => ?_
    rcases List.mem_cons.1 hj' with e | hj'
    ·injection e with e _; exact hne e
    ·exact hn j' hj') (fun d' j' v' hm hv' => h2 d' j' v' (by simp [hm]) hv')
  refine ⟨a, ?_⟩
  rw [b, e]
theorem flush_ok {μ : Mu} {A : Xd} {lo hi : Nat} {fr fr1 : Xh} {ops : Array Oper} {t : Nat} {V : List (Nat × Value)} {base : Nat} {tm : Array Value} {k : List Xt}
  (h : Ki T μ A lo hi fr.nt fr.vars fr.over ops t V base [] tm) (hf : dflush V (Xv ops.toList).dsts { fr with todo := k } = some fr1) :
  TRel μ fr.nt fr1.vars fr1.over tm /\ fr1 = { fr with vars := fr1.vars, over := fr1.over, todo := k } := by
 obtain ⟨a, b⟩ := dflush_ok (Q := fun u v => ∃ v', tm[u]? = some v' /\ Xj μ v v') hf (fun u v hu hn => h.old u v hu (fun k' hk' => absurd ((nodupD_look (YI h.ok).2.2.1).2 hk') (hn k')))
  (fun d j v hm hv => by
   obtain ⟨o, _, ho, hd⟩ := mem_dstsOf.1 hm
   obtain ⟨v2, x, y⟩ := h.done j o (by simp) (by simpa using ho)
   rw [hv] at x; injection x with x; subst x
   exact y d hd)
 exact ⟨⟨h.nt, a⟩, b⟩
theorem aop_ndefer {A : Xd} {ev : Operand -> Option Value} {o : Op} {r : XH} (h : aop T A ev o = some r) (hr : ∀ d, r ≠ .defer d) : ∀ c, o ≠ .defer c := by
 rintro c rfl
 have h : rDefer ev c = some r := h
 unfold rDefer at h
 split at h
 ·split at h
  ·injection h with h; exact hr _ h.symm
  ·cases h
 ·cases h
theorem chain_head {μ : Mu} {A : Xd} {lo hi nt : Nat} {vars : List (Option Value)} {over : List (Nat × Value)} {ops : Array Oper} {t : Nat} {V : List (Nat × Value)} {base : Nat} {rest : List Nat} {tm : Array Value}
  (h : Ki T μ A lo hi nt vars over ops t V base rest tm) (he : rest = [] \/ ∃ c r, rest = c :: r /\ mem c (Xv ops.toList).chain = true) :
  (nth (Xv ops.toList).chain t = none -> rest = []) /\ (∀ c, nth (Xv ops.toList).chain t = some c -> (∃ r, rest = c :: r) /\ mem c (Xv ops.toList).chain = true) := by
 have hc := h.chain
 constructor
 ·intro hn
  rw [XT, List.getElem?_eq_none_iff] at hn
  rw [List.drop_eq_nil_of_le hn] at hc
  rcases he with he | ⟨c, r, rfl, hm⟩
  ·exact he
  ·rw [List.filter_cons, hm] at hc; cases hc
 ·intro c hn
  rw [XT] at hn
  have hlt := (List.getElem?_eq_some_iff.1 hn).1
  have hd := List.drop_eq_getElem_cons hlt
  rw [(List.getElem?_eq_some_iff.1 hn).2] at hd
  rw [hd] at hc
  rcases he with rfl | ⟨c', r, rfl, hm⟩
  ·cases hc
  ·rw [List.filter_cons, hm] at hc
   simp only [if_true] at hc
   injection hc with hc _
   subst hc
   exact ⟨⟨r, rfl⟩, hm⟩
theorem aDraw_ok (C : Xy P T) {μ : Mu} {s : ASt} {fr' : Frame} {cs' : List Frame} {w : World} {lo : Nat} (R : Xs μ B s.A w.heap) (G : GRel μ T.nglob T.anc) (hlo : lo <= s.A.next) (hs : Kf T μ s.A lo s.cs cs')
  {ops : Array Oper} {t : Nat} {V : List (Nat × Value)} {base : Nat} {k : List Xt} {rest : List Nat} {k' : List Item} (core : Core μ s.fr fr') (run : s.fr.mode = .run)
  (h2 : fr'.todo = .inRegion ops rest :: k') (h3 : YM μ k k') (h4 : Ki T μ s.A lo s.A.next s.fr.nt s.fr.vars s.fr.over ops t V base rest fr'.tmps) :
  Out P T B cs0 fr' cs' w (aDraw T s ops t V base k) := by
 unfold aDraw
 split
 case h_2 => trivial
 rename_i A1 V1 hsl
 obtain ⟨hd1, R1, hso, hnx, hkept⟩ := slot_ok h4 R (Nat.le_refl _) hsl
 have hrun : fr'.mode = .run := by
  have := core.mode
  rw [run] at this
  generalize fr'.mode = mm at this
  cases this; rfl
 obtain ⟨μ1, tm, w1, rest1, hext, hst, hb, hd2, R2, hend⟩ := quiet_run (cs := cs' ++ cs0) C (by rw [hnx]; exact Nat.le_refl _) hso rest hrun h2 hd1 R1 G
 have hs2 : Kf T μ1 A1 lo s.cs cs' := hs.mono hext hkept (Nat.le_refl _)
 have G1 := G.mono hext.1
 obtain ⟨ch1, ch2⟩ := chain_head hd2 hend
 have core2 : ∀ {μ2 : Mu} {fr1 : Xh} {tm2 : Array Value} {td : List Item}, Mu.Le μ1 μ2 -> fr1.fn = s.fr.fn -> fr1.kind = s.fr.kind -> fr1.roundOf = s.fr.roundOf -> fr1.defers = s.fr.defers -> fr1.mode = s.fr.mode -> Core μ2 fr1 { fr' with tmps := tm2, todo := td } := by
  intro μ2 fr1 tm2 td hle e1 e2 e3 e4 e5
  have c := core.mono (hext.1.trans hle)
  exact ⟨by rw [e1]; exact c.fn, by rw [e2]; exact c.kind, by rw [e3]; exact c.round, by rw [e4]; exact c.defers, by rw [e5]; exact c.mode⟩
 split
 ·-- the region's end
  rename_i hn
  have := ch1 hn; subst this
  split
  case h_2 => trivial
  rename_i fr1 hf
  obtain ⟨ht, he⟩ := flush_ok hd2 hf
  have e1 : fr1.fn = s.fr.fn /\ fr1.kind = s.fr.kind /\ fr1.roundOf = s.fr.roundOf /\ fr1.defers = s.fr.defers /\ fr1.mode = s.fr.mode /\ fr1.todo = k /\ fr1.nt = s.fr.nt := by rw [he]; simp
  refine ⟨μ1, { fr' with tmps := tm, todo := k' }, cs', w1, ⟨R2, G1, lo, by show lo <= A1.next; rw [hnx]; exact hlo, .plain ⟨core2 (Mu.Le.refl _) e1.1 e1.2.1 e1.2.2.1 e1.2.2.2.1 e1.2.2.2.2.1, ?_, ?_⟩, hs2⟩, hst.trans ?_, hb⟩
  ·rw [e1.2.2.2.2.2.2]; exact ht
  ·intro _; rw [e1.2.2.2.2.2.1]; exact h3.mono hext.1
  ·refine .one (step_lone_go ?_)
   simp [stepG, stepG.exec, hrun]
 ·rename_i c hn
  obtain ⟨⟨r, rfl⟩, hmem⟩ := ch2 c hn
  split
  case h_2 => trivial
  rename_i o ho
  have ho : ops[c]? = some o := by rw [XT] at ho; simpa using ho
  split
  ·-- not wanted
   rename_i hw hno
   have hst2 := step_nowant (P := P) (fr := { fr' with tmps := tm, todo := .inRegion ops (c :: r) :: k' }) (cs := cs' ++ cs0) (w := w1) hrun rfl ho (Kx hd2 (Sub.refl _) ho hw)
   rw [YV rfl ho] at hst2
   have hd3 := hd2.exec ho (v := undef) (v' := undef) (Xo.tuple .nil) (.inl ⟨hmem, rfl⟩) (.inr ⟨rfl, hno⟩)
   exact ⟨μ1, _, cs', w1, ⟨R2, G1, lo, by show lo <= A1.next; rw [hnx]; exact hlo, .draw (core2 (Mu.Le.refl _) rfl rfl rfl rfl rfl) run rfl rfl (h3.mono hext.1) (by show Ki _ _ _ _ A1.next _ _ _ _ _ _ _ _ _; rw [hnx]; exact hd3), hs2⟩, hst.trans hst2, hb⟩
  ·rename_i hw hno
   have hwt := Kx hd2 (Sub.refl _) ho hw
   have hrho := rho_draw (fr' := { fr' with tmps := tm, todo := .inRegion ops (c :: r) :: k' }) G1 hd2 (Sub.refl _)
   split
   ·rename_i v A hop
    obtain ⟨v', w2, μ2, hr, hext2, R3, hvr, hb2, hkeep⟩ := aop_ok C R2 hrho (o := o) hop
    have hst2 := step_val (P := P) (fr := { fr' with tmps := tm, todo := .inRegion ops (c :: r) :: k' }) (cs := cs' ++ cs0) (w := w1) hrun rfl ho hwt (.inr (aop_ndefer hop nofun)) hr
    rw [YV rfl ho] at hst2
    have hd3 := (hd2.mono (by rw [hnx] at hext2; exact hext2) (hkeep.kept _) (by have := hkeep.1; rw [hnx] at this; exact this)).exec ho hvr (.inl ⟨hmem, rfl⟩) (.inr ⟨rfl, hno⟩)
    refine ⟨μ2, _, cs', w2, ⟨R3, G1.mono hext2.1, lo, ?_, .draw (core2 hext2.1 rfl rfl rfl rfl rfl) run rfl rfl (h3.mono (hext.1.trans hext2.1)) hd3, hs2.mono (hext2.le ?_) (hkeep.kept _) (Nat.le_refl _)⟩, hst.trans hst2, hb.trans hb2⟩
    ·show lo <= A.next
     have := hkeep.1; rw [hnx] at this; omega
    ·rw [hnx]; exact hlo
   ·rename_i A hop
    obtain ⟨w2, hr, R3, hb2, hkeep⟩ := aop_ok C R2 hrho (o := o) hop
    have hst2 : Steps P (lone { fr' with tmps := tm, todo := .inRegion ops (c :: r) :: k' } (cs' ++ cs0) w1) (lone (({ fr' with tmps := tm, todo := .inRegion ops (c :: r) :: k' } : Frame).finish undef) (cs' ++ cs0) w2) := by
     refine .one (step_lone_go ?_)
     rw [step_oper (fr := { fr' with tmps := tm, todo := .inRegion ops (c :: r) :: k' }) hrun rfl ho hwt (.inr (aop_ndefer hop nofun))]
     simp only [stepG.apply, Sem.runT_eq, hr, if_true, GStep.bare_after, GStep.bare_go]
    rw [YV rfl ho] at hst2
    have hd3 := (hd2.mono (Mu.Ext.refl _ _) (hkeep.kept _) (by have := hkeep.1; rw [hnx] at this; exact this)).exec ho (v := undef) (v' := undef) (Xo.tuple .nil) (.inl ⟨hmem, rfl⟩) (.inr ⟨rfl, hno⟩)
    refine ⟨μ1, _, cs', w2, ⟨R3, G1, lo, ?_, .draw (core2 (Mu.Le.refl _) rfl rfl rfl rfl rfl) run rfl rfl (h3.mono hext.1) hd3, hs2.mono (Mu.Ext.refl _ _) (hkeep.kept _) (Nat.le_refl _)⟩, hst.trans hst2, hb.trans hb2⟩
    show lo <= A.next
    have := hkeep.1; rw [hnx] at this; omega
   ·rename_i f args hop
    obtain ⟨args', hr, hargs, _⟩ := aop_ok C R2 hrho (o := o) hop
    split
    case h_2 => trivial
    rename_i fr1 hen
    have hstk : Kf T μ1 A1 A1.next ({ s.fr with todo := .inDraw ops (Nat.succ t) V1 base :: k } :: s.cs) ({ fr' with tmps := tm, todo := .inRegion ops (c :: r) :: k' } :: cs') := .cons (lo := lo) ?_ ?_ hs2
    obtain ⟨μ2, fr3, cs3, w3, k1, k2, k3⟩ := inM_ok (cs0 := cs0) C R2 G1 hargs hen hstk
    refine ⟨μ2, fr3, cs3, w3, k1, (hst.trans ?_).trans k2, hb.trans k3⟩
    rotate_left
    ·exact .wait (core2 (Mu.Le.refl _) rfl rfl rfl rfl rfl) run rfl rfl (h3.mono hext.1) hn (by rw [hnx]; exact hd2)
    ·rw [hnx]; exact hlo
    ·refine .one (step_lone_go ?_)
     rw [step_oper (fr := { fr' with tmps := tm, todo := .inRegion ops (c :: r) :: k' }) hrun rfl ho hwt (.inr (aop_ndefer hop nofun))]
     simp only [stepG.apply, Sem.runT_eq, hr, if_true, GStep.bare_after, GStep.bare_go]
     rfl
   ·exact True.intro
  ·exact True.intro
end
section
variable {P : Program} {T : Tab} {B : Nat} {cs0 : List Frame}
theorem run_mode {μ : Mu} {m : AMode} {m' : FrameMode} (h : Kg μ m m') (e : m = .run) : m' = .run := by
 cases h with
 | run => rfl
 | _ => cases e
theorem drawFinish_ok {μ : Mu} {A : Xd} {lo hi : Nat} {c c1 : Xh} {c' : Frame} (h : CRel T μ A lo hi c c') {v v' : Value} (hv : Xj μ v v') (hf : c.drawFinish v = some c1) : FRel T μ A lo hi c1 (c'.finish v') := by
 cases h with
 | plain h =>
  unfold Xh.drawFinish at hf
  split at hf
  ·rename_i ops t V base k hm ht
   have htd := h.todo hm
   rw [ht] at htd
   obtain ⟨y, k', _, hy, _⟩ := htd.cons_left
   cases hy
  ·rename_i hm _
   exact .plain (Ks h hm hv hf)
  ·cases hf
 | @wait ops t ci V base k rest k' core run h1 h2 h3 hc h4 =>
  unfold Xh.drawFinish at hf
  rw [run, h1] at hf
  simp only [Nat.succ_eq_add_one] at hf
  have hcn : nth (Ka ops.toList 0) t = some ci := hc
  rw [hcn] at hf
  simp only at hf
  split at hf
  case h_2 => cases hf
  rename_i hno
  injection hf with hf; subst hf
  obtain ⟨S, _, _, g3⟩ := h4.ord
  have hlt : ci < ops.size := (g3 ci).1 (by simp)
  obtain ⟨o, ho⟩ : ∃ o, ops[ci]? = some o := ⟨_, Array.getElem?_eq_getElem hlt⟩
  rw [YV h2 ho]
  have hm : mem ci (Xv ops.toList).chain = true := mem_eq.2 (by rw [XT] at hc; exact List.mem_of_getElem? hc)
  exact .draw ⟨core.fn, core.kind, core.round, core.defers, run ▸ core.mode⟩ rfl rfl rfl h3 (h4.exec ho hv (.inl ⟨hm, rfl⟩) (.inr ⟨rfl, hno⟩))
theorem okChain_pred {D : DI} : ∀ {C : List Nat} {c l : Nat}, okChain D (c :: C) = true -> l ∈ C -> ∃ p ∈ c :: C, X2 D p l = true := by
 intro C
 induction C with
 | nil => intro c l _ h; cases h
 | cons b C ih =>
  intro c l h hl
  unfold okChain at h
  split at h
  case h_2 => cases h
  rename_i hb
  rcases List.mem_cons.1 hl with rfl | hl
  ·exact ⟨c, by simp, hb⟩
  ·obtain ⟨p, hp, hx⟩ := ih h hl
   exact ⟨p, by simp at hp ⊢; exact .inr hp, hx⟩
theorem okChain_tail {D : DI} {c : Nat} {C : List Nat} (h : okChain D (c :: C) = true) : okChain D C = true := by
 cases C with
 | nil => rfl
 | cons b C =>
  unfold okChain at h
  split at h
  ·exact h
  ·cases h
theorem chain_eq {D : DI} : ∀ {C L : List Nat}, okChain D C = true -> (∀ x ∈ C, X2 D x x = false) -> C.Nodup -> L.Nodup -> (∀ x, x ∈ L ↔ x ∈ C) -> L.Pairwise (fun a b => X2 D b a = false) -> L = C := by
 intro C
 induction C with
 | nil =>
  intro L _ _ _ _ hm _
  cases L with
  | nil => rfl
  | cons l L => have := (hm l).1 (by simp); cases this
 | cons c C ih =>
  intro L hok hirr hc hl hm hp
  cases L with
  | nil => have := (hm c).2 (by simp); cases this
  | cons l L =>
   have hlc : l = c := by
    rcases List.mem_cons.1 ((hm l).1 (by simp)) with h | h
    ·exact h
    ·exfalso
     obtain ⟨p, hpm, hb⟩ := okChain_pred hok h
     have hne : p ≠ l := by
      rintro rfl
      rw [hirr p hpm] at hb; cases hb
     rcases List.mem_cons.1 ((hm p).2 hpm) with e | hpL
     ·exact hne e
     ·have := (List.pairwise_cons.1 hp).1 p hpL
      rw [hb] at this; cases this
   subst hlc
   rw [ih (okChain_tail hok) (fun x hx => hirr x (by simp [hx])) (List.nodup_cons.1 hc).2 (List.nodup_cons.1 hl).2 ?_ (List.pairwise_cons.1 hp).2]
   intro x
   have := hm x
   simp only [List.mem_cons] at this
   constructor
   ·intro h
    rcases this.1 (.inr h) with e | h2
    ·subst e; exact absurd h (List.nodup_cons.1 hl).1
    ·exact h2
   ·intro h
    rcases this.2 (.inr h) with e | h2
    ·subst e; exact absurd h (List.nodup_cons.1 hc).1
    ·exact h2
theorem Xs.bump {μ : Mu} {A : Xd} {h : Array Obj} (R : Xs μ B A h) (n : Nat) : Xs μ B { A with next := Nat.add A.next n } h := by
 have hle : A.next <= Nat.add A.next n := Nat.le_add_right _ _
 refine ⟨R.base, R.obj, ?_, R.sep, ?_, ?_⟩
 ·intro b e he
  obtain ⟨a, b', c, d⟩ := R.dom b e he
  exact ⟨Nat.lt_of_lt_of_le a hle, b', c, fun g hg => Nat.lt_of_lt_of_le (d g hg) hle⟩
 ·intro b xs g hb
  obtain ⟨a, c⟩ := R.memb b xs g hb
  exact ⟨Nat.lt_of_lt_of_le a hle, c⟩
 ·intro b o hb
  exact Nat.lt_of_lt_of_le (R.live b o hb) hle
theorem begin_ok {μ : Mu} {A : Xd} {h : Array Obj} (R : Xs μ B A h) {nt : Nat} {vars : List (Option Value)} {over : List (Nat × Value)} {tm : Array Value} (ht : TRel μ nt vars over tm) {ops : Array Oper} (hok : okDraw ops.toList nt = true) {lo : Nat} (hlo : lo <= A.next)
  (A' : Xd) (x : Nat) : Ki T μ A' lo (Nat.add A.next (len ops.toList)) nt vars over ops 0 [] A.next (Region.schedule true ops x) tm := by
 obtain ⟨h1, h2, h3, h4⟩ := YI hok
 have hed : ∀ j o, ops[j]? = some o -> okEdges o.after.toList j = true := by
  intro j o ho
  have := (okOps_spec h1 j o (by simpa using ho)).edges
  rw [Nat.zero_add] at this; exact this
 obtain ⟨s1, s2, s3⟩ := schedule_ok hed x
 have hlen : len ops.toList = ops.size := by rw [len_eq]; simp
 refine ⟨hok, ht.1, hlo, ?_, ⟨[], by simpa using s3, by simpa using s1, by simpa using s2⟩, ?_, ?_, fun u v hu _ => ht.2 u v hu, ?_⟩
 ·rw [hlen]; exact Nat.le_refl _
 ·rw [List.drop_zero]
  refine chain_eq h2 ?_ ?_ (s1.sublist List.filter_sublist) ?_ (s3.sublist List.filter_sublist)
  ·intro c hc
   obtain ⟨o, _, ho, _⟩ := mem_chainOf.1 hc
   have ho : ops[c]? = some o := by simpa using ho
   cases hb : X2 (Xv ops.toList) c c with
   | false => rfl
   | true => have := before_lt hok ho hb; omega
  ·exact (chainOf_sorted ops.toList 0).1.imp (fun h => by omega)
  ·intro c
   rw [List.mem_filter, mem_eq, s2]
   constructor
   ·rintro ⟨_, h⟩; exact h
   ·intro hc
    refine ⟨?_, hc⟩
    obtain ⟨o, _, ho, _⟩ := mem_chainOf.1 hc
    have ho : ops[c]? = some o := by simpa using ho
    exact (Array.getElem?_eq_some_iff.1 ho).1
 ·intro i o hi ho
  exact absurd ((s2 i).2 (Array.getElem?_eq_some_iff.1 ho).1) hi
 ·intro j o _ _ _
  refine ⟨?_, fun v hv => by rw [alook_nil] at hv; cases hv⟩
  cases hm : μ (A.next + j) with
  | none => rfl
  | some e => have := (R.dom _ e hm).1; omega
theorem opLoad_var (C : Xy P T) {μ : Mu} {A : Xd} {w : World} (R : Xs μ B A w.heap) {t : TypeId} {a a' : Value} (ha : Xj μ a a') {r : Value × Xd} (h : opLoad T A t a = some r) :
  ∃ ad v', a' = .pointer (some ad) /\ (loadVar t ad).run P w = .ok v' w /\ Xj μ r.1 v' := by
 unfold opLoad at h
 split at h
 ·rename_i b off
  cases ha with
  | @ptr _ _ e he =>
  split at h
  ·rename_i ti ht
   split at h
   ·rename_i hagg
    split at h
    ·rename_i ys hl
     injection h with h; subst h
     obtain ⟨zs, hz, hv, _⟩ := Yz P R he hl
     refine ⟨_, .agg zs, rfl, ?_, Xo.agg hv⟩
     simp [loadVar, C.isAgg ht, hagg, C.sizeOf ht, hz]
    ·cases h
   ·rename_i hagg
    split at h
    ·rename_i x xs hl
     injection h with h; subst h
     have hx : xs = [] := by
      obtain ⟨zs, _, hv, hn⟩ := Yz P R he hl
      cases xs with
      | nil => rfl
      | cons y ys => simp at hn
     subst hx
     obtain ⟨z, hz, hv⟩ := aload1_spec P R he hl
     refine ⟨_, z, rfl, ?_, hv⟩
     simp only [loadVar, Sem.run_bind, Result.andThen_ok, C.isAgg ht, hagg, Bool.false_eq_true, if_false]
     exact hz
    ·cases h
  ·cases h
 ·cases h
theorem dropRec_ok {μ : Mu} : ∀ {l l' : List PanicEntry}, XE (PERel μ) l l' -> XE (PERel μ) (dropRec l) (l'.dropWhile (!·.goexit)) := by
 intro l
 induction l with
 | nil => intro l' h; rw [h.nil_left]; exact .nil
 | cons x l ih =>
  intro l' h
  obtain ⟨y, o2, rfl, hxy, ho2⟩ := h.cons_left
  unfold dropRec
  rw [List.dropWhile_cons, List.dropWhile_cons, ← hxy.2.2]
  split
  ·exact ih ho2
  ·exact .cons hxy ho2
theorem results_ok (C : Xy P T) {μ : Mu} {A : Xd} {w : World} (R : Xs μ B A w.heap) {fr : Xh} {tm : Array Value} (ht : TRel μ fr.nt fr.vars fr.over tm) {a : AFn} (ha : T.fn.get fr.fn = some a) {vs : List Value}
  (h : aResults T A fr a.results = some vs) :
  ∃ fn v', P.funcs[fr.fn]? = some fn /\ (results fn tm).run P w = .ok v' w /\ Xj μ (tup vs) v' := by
 obtain ⟨fn, h1, _, _, h4, _⟩ := C.fn _ a ha
 have key : ∀ (rs : List ResultVar) (vs : List Value), aResults T A fr rs = some vs -> ∃ vs', (rs.mapM (fun (r : ResultVar) => (match r with | .tmp t => pure (tm.getD t undef) | .cell a t => do loadVar t (← asAddr (tm.getD a undef)) : Sem Value))).run P w = .ok vs' w /\ Xo μ vs vs' := by
  intro rs
  induction rs with
  | nil => intro vs h; injection h with h; subst h; exact ⟨[], by simp, .nil⟩
  | cons r rs ih =>
   intro vs h
   cases r with
   | tmp t =>
    simp only [aResults] at h
    split at h
    case h_2 => cases h
    rename_i v l hv hl
    injection h with h; subst h
    obtain ⟨vs', g1, g2⟩ := ih l hl
    obtain ⟨v', g3, g4⟩ := ht.2 t v hv
    refine ⟨v' :: vs', ?_, .cons g4 g2⟩
    simp only [List.mapM_cons, Sem.run_bind, Sem.run_pure, Result.andThen_ok, Array.getD_eq_getD_getElem?, g3, Option.getD_some]
    simp only [Array.getD_eq_getD_getElem?] at g1
    rw [g1]; rfl
   | cell p t =>
    simp only [aResults] at h
    split at h
    case h_2 => cases h
    rename_i pv hp
    split at h
    case h_2 => cases h
    rename_i v A' l hv hl
    injection h with h; subst h
    obtain ⟨vs', g1, g2⟩ := ih l hl
    obtain ⟨p', g3, g4⟩ := ht.2 p pv hp
    obtain ⟨ad, v', rfl, g5, g6⟩ := opLoad_var C R g4 hv
    refine ⟨v' :: vs', ?_, .cons g6 g2⟩
    simp only [List.mapM_cons, Sem.run_bind, Sem.run_pure, Array.getD_eq_getD_getElem?, g3, Option.getD_some, asAddr, Result.andThen_ok, g5]
    simp only [Array.getD_eq_getD_getElem?, asAddr] at g1
    rw [g1]; rfl
 obtain ⟨vs', g1, g2⟩ := key _ _ h
 rw [← h4] at g1
 have hrun : (results fn tm).run P w = .ok (if h : vs'.toArray.size = 1 then vs'.toArray[0] else .tuple vs'.toArray) w := by
  unfold results
  rw [Array.mapM_eq_mapM_toList]
  simp only [Sem.run_bind, Sem.run_map, Sem.run_pure]
  erw [g1]
  rfl
 refine ⟨fn, _, h1, hrun, ?_⟩
 rcases vs with _ | ⟨v, _ | ⟨u, vs⟩⟩
 ·rw [g2.nil_left]
  exact Xo.tuple .nil
 ·obtain ⟨v', l, rfl, hv, hl⟩ := g2.cons_left
  rw [hl.nil_left]
  simpa [tup] using hv
 ·have hsz : ¬ vs'.toArray.size = 1 := by
   intro e
   have hl := g2.1
   simp at e
   rw [e] at hl
   simp at hl
  rw [dif_neg hsz]
  exact Xo.tuple (by simpa using g2)
end
section
variable {P : Program} {T : Tab} {B : Nat} {cs0 : List Frame}
structure Pl (T : Tab) (B : Nat) (μ : Mu) (s : ASt) (fr' : Frame) (cs' : List Frame) (w : World) (lo : Nat) : Prop where
 R : Xs μ B s.A w.heap
 G : GRel μ T.nglob T.anc
 hlo : lo <= s.A.next
 p : YQ μ s.fr fr'
 st : Kf T μ s.A lo s.cs cs'
theorem Pl.frame {μ : Mu} {s : ASt} {fr' : Frame} {cs' : List Frame} {w : World} {lo : Nat} (h : Pl T B μ s fr' cs' w lo) {fr1 : Xh} {fr1' : Frame} (hp : YQ μ fr1 fr1') {m : Machine} (hst : Steps P m (lone fr1' (cs' ++ cs0) w)) {w0 : World} (hb : Below B w0 w) :
  ∃ μ fr' cs' w', SRel T B μ { s with fr := fr1 } fr' cs' w' /\ Steps P m (lone fr' (cs' ++ cs0) w') /\ Below B w0 w' :=
 ⟨μ, fr1', cs', w, ⟨h.R, h.G, lo, h.hlo, .plain hp, h.st⟩, hst, hb⟩
theorem round_none {μ : Mu} {a b : Option Nat} (h : KD μ a b) (e : a = none) : b = none := by
 cases h with
 | none => rfl
 | some _ => cases e
theorem round_some {μ : Mu} {a b : Option Nat} (h : KD μ a b) {l : Nat} (e : a = some l) : ∃ en, μ l = some en /\ b = some en.blk := by
 cases h with
 | none => cases e
 | some h => injection e with e; subst e; exact ⟨_, h, rfl⟩
theorem loop_set {μ : Mu} {A : Xd} {w : World} (R : Xs μ B A w.heap) {l : Nat} {L L' : ALoop} {e : Ent} (hl : A.heap.get l = some (.loop L)) (he : μ l = some e)
  (h1 : L'.fn = L.fn) (h2 : L'.vars = L.vars) (h3 : L'.over = L.over) (h4 : L'.nt = L.nt) (h5 : L'.params = L.params) (h6 : L'.assign = L.assign) (h7 : L'.body = L.body) (h8 : L'.defers = L.defers) :
  ∃ r : Loop, w.heap[e.blk]? = some (.loop r) /\ r.state = L.st /\ r.pending = L.pending /\ B <= e.blk /\
   Xs μ B (YT A l (.loop L')) (wr w e.blk (.loop { r with state := L'.st, pending := L'.pending })).heap /\ Ye μ A (YT A l (.loop L')) /\ Below B w (wr w e.blk (.loop { r with state := L'.st, pending := L'.pending })) := by
 obtain ⟨hg, hB, tm, ed, a, b, c⟩ := R.obj l _ e hl he
 have hb : e.blk < w.heap.size := (R.dom l e he).2.1
 obtain ⟨x, y, z⟩ := aset_spec (w := w) R he hg hB (o := .loop L') trivial (o' := .loop { state := L'.st, pending := L'.pending, fn := L.fn, tmps := tm, params := L.params.toArray, assign := L.assign, body := L.body, defers := ed.blk }) (by
  refine ⟨hg, hB, tm, ed, by rw [h8]; exact a, by rw [h4, h2, h3]; exact b, ?_⟩
  rw [YW hb, h1, h5, h6, h7])
 exact ⟨_, c, rfl, rfl, hB, x, y, z⟩
theorem aLeave_ok {μ : Mu} {s : ASt} {fr' : Frame} {cs' : List Frame} {w : World} {lo : Nat} (h : Pl T B μ s fr' cs' w lo) {jump : Option Code} {m : Machine}
  (k1 : fr'.roundOf = none -> (jump = none \/ jump = some .ret) -> Steps P m (lone { fr' with mode := .returning } (cs' ++ cs0) w))
  (k2 : ∀ l v w2, fr'.roundOf = some l -> (Instr.endRound l jump).run P w = .ok v w2 -> ∀ fr2 cs2 w3, (doReturn P true fr' (cs' ++ cs0) none v w2).bare = .go { frame := fr2, callers := cs2, status := .running, dying := none } w3 -> Steps P m (lone fr2 cs2 w3)) :
  (∀ s', aLeave s jump = .next s' -> Kh P T B cs0 m w s') /\ (∀ l, aLeave s jump ≠ .branch l) /\ (∀ f v, aLeave s jump ≠ .done f v) := by
 unfold aLeave
 split
 ·rename_i hro
  have hro' := round_none h.p.core.round hro
  have hret : YQ μ { s.fr with mode := .returning } { fr' with mode := .returning } := ⟨⟨h.p.core.fn, h.p.core.kind, h.p.core.round, h.p.core.defers, .returning⟩, h.p.tm, fun h => by cases h⟩
  split
  ·refine ⟨?_, nofun, nofun⟩
   intro s' e; injection e with e; subst e
   exact h.frame hret (k1 hro' (.inl rfl)) (Below.refl _ _)
  ·refine ⟨?_, nofun, nofun⟩
   intro s' e; injection e with e; subst e
   exact h.frame hret (k1 hro' (.inr rfl)) (Below.refl _ _)
  ·exact ⟨nofun, nofun, nofun⟩
 ·rename_i l hro
  obtain ⟨en, hen, hro'⟩ := round_some h.p.core.round hro
  split
  case h_2 => exact ⟨nofun, nofun, nofun⟩
  rename_i L c rest hl hcs hkd
  split
  case h_2 => exact ⟨nofun, nofun, nofun⟩
  rename_i c1 hf
  refine ⟨?_, nofun, nofun⟩
  intro s' e; injection e with e; subst e
  have hst := h.st
  rw [hcs] at hst
  generalize hcs' : cs' = cs2 at hst
  cases hst with
  | @cons lo2 _ _ c' _ cs2' hc hle ht =>
  subst hcs'
  obtain ⟨r, g1, g2, g3, g4, g5, g6, g7⟩ := loop_set (L' := { L with st := (if jump.isNone then .ready else .done), pending := jump }) h.R hl hen rfl rfl rfl rfl rfl rfl rfl rfl
  have hrun := run_endRound (P := P) jump g1
  have hfr := drawFinish_ok hc (.bool _) hf
  have hfr2 : FRel T μ (YT s.A l (.loop { L with st := (if jump.isNone then .ready else .done), pending := jump })) lo2 lo c1 (c'.finish (.bool jump.isNone)) := by
   cases hfr with
   | plain hp => exact .plain hp
   | draw core run h1 h2 h3 h4 => exact .draw core run h1 h2 h3 (h4.mono (Mu.Ext.refl _ _) (g6.kept _) (Nat.le_refl _))
  have hfr3 : FRel T μ (YT s.A l (.loop { L with st := (if jump.isNone then .ready else .done), pending := jump })) lo2 s.A.next c1 (c'.finish (.bool jump.isNone)) := by
   cases hfr2 with
   | plain hp => exact .plain hp
   | draw core run h1 h2 h3 h4 => exact .draw core run h1 h2 h3 ⟨h4.ok, h4.nt, h4.lo, Nat.le_trans h4.hi h.hlo, h4.ord, h4.chain, h4.done, h4.old, h4.pend⟩
  refine ⟨μ, c'.finish (.bool jump.isNone), cs2', _, ⟨g5, h.G, lo2, Nat.le_trans hle h.hlo, hfr3, ht.mono (Mu.Ext.refl _ _) (g6.kept _) (Nat.le_refl _)⟩, ?_, g7⟩
  refine k2 _ _ _ hro' hrun _ _ _ ?_
  have hkd' : fr'.kind = .normal := by rw [h.p.core.kind, hkd]
  simp [doReturn, hkd']
  rfl
theorem FRel.up {μ : Mu} {A : Xd} {lo hi hi' : Nat} {fr : Xh} {fr' : Frame} (h : FRel T μ A lo hi fr fr') (hh : hi <= hi') : FRel T μ A lo hi' fr fr' := by
 cases h with
 | plain hp => exact .plain hp
 | draw core run h1 h2 h3 h4 => exact .draw core run h1 h2 h3 ⟨h4.ok, h4.nt, h4.lo, Nat.le_trans h4.hi hh, h4.ord, h4.chain, h4.done, h4.old, h4.pend⟩
theorem trim_look {over : List (Nat × Value)} : ∀ t v, Xp (YH over) t = some v -> Xp over t = some v := by
 intro t v h
 unfold YH at h
 split at h
 ·rename_i a b c d l
  obtain ⟨a1, a2⟩ := a
  obtain ⟨b1, b2⟩ := b
  obtain ⟨c1, c2⟩ := c
  obtain ⟨d1, d2⟩ := d
  simp only [XD, alook_nil] at h ⊢
  split at h
  ·rename_i e; rw [if_pos e]; exact h
  ·rename_i e
   rw [if_neg e]
   split at h
   ·rename_i e; rw [if_pos e]; exact h
   ·rename_i e
    rw [if_neg e]
    split at h
    ·rename_i e; rw [if_pos e]; exact h
    ·rename_i e
     rw [if_neg e]
     split at h
     ·rename_i e; rw [if_pos e]; exact h
     ·cases h
 ·exact h
theorem wanted_plain {μ : Mu} {fr : Xh} {fr' : Frame} {ops : Array Oper} (hp : YQ μ fr fr') {o : Oper} {b : Bool} (h : Kd fr ops.toList o = some b) : Region.wanted o (yielded ops fr'.tmps) = b := by
 unfold Kd at h
 unfold Region.wanted
 split at h
 ·rename_i hg; injection h with h; subst h; simp [hg]
 ·rename_i g want hg
  rw [hg]
  split at h
  case h_2 => cases h
  rename_i og hog
  have hog : ops[g]? = some og := by rw [XT] at hog; simpa using hog
  split at h
  case h_2 => cases h
  rename_i t hd
  cases hv : Yl fr.vars fr.over t with
  | none => rw [hv] at h; cases want <;> cases h
  | some u =>
   rw [hv] at h
   obtain ⟨u', e, f⟩ := hp.tm.2 t u hv
   exact yield_ok hog hd e f h
end
section
variable {P : Program} {T : Tab} {B : Nat} {cs0 : List Frame}
theorem out_of {fr' : Frame} {cs' : List Frame} {w : World} {o : Xm} (h : (∀ s', o = .next s' -> Kh P T B cs0 (lone fr' (cs' ++ cs0) w) w s') /\ (∀ l, o = .branch l -> ∃ s' ∈ l, Kh P T B cs0 (lone fr' (cs' ++ cs0) w) w s') /\ ∀ f v, o ≠ .done f v) : Out P T B cs0 fr' cs' w o := by
 cases o with
 | next s' => exact h.1 s' rfl
 | branch l => exact h.2.1 l rfl
 | done f v => exact absurd rfl (h.2.2 f v)
 | stuck => exact True.intro
theorem out_of' {fr' : Frame} {cs' : List Frame} {w : World} {o : Xm} (h : (∀ s', o = .next s' -> Kh P T B cs0 (lone fr' (cs' ++ cs0) w) w s') /\ (∀ l, o ≠ .branch l) /\ ∀ f v, o ≠ .done f v) : Out P T B cs0 fr' cs' w o :=
 out_of ⟨h.1, fun l e => absurd e (h.2.1 l), h.2.2⟩
theorem leave_out {μ : Mu} {s : ASt} {fr' : Frame} {cs' : List Frame} {w : World} {lo : Nat} (h : Pl T B μ s fr' cs' w lo) (hrun : fr'.mode = .run) {jump : Option Code}
  (hx : (jump = none /\ fr'.todo = []) \/ (∃ k, jump = some .ret /\ fr'.todo = .code .ret :: k) \/ ∃ id k, jump = some (.exit id) /\ fr'.todo = .code (.exit id) :: k /\ exitTo id k = none) :
  Out P T B cs0 fr' cs' w (aLeave s jump) := by
 refine out_of' (aLeave_ok h ?_ ?_)
 ·intro hro hj
  refine .one (step_lone_go ?_)
  rcases hx with ⟨rfl, ht⟩ | ⟨k, rfl, ht⟩ | ⟨id, k, rfl, ht, he⟩
  ·simp [stepG, stepG.exec, hrun, ht, hro]
  ·simp [stepG, stepG.exec, hrun, ht, hro]
  ·rcases hj with hj | hj <;> cases hj
 ·intro l v w2 hro hr fr2 cs2 w3 hd
  refine .one (step_lone_go ?_)
  rcases hx with ⟨rfl, ht⟩ | ⟨k, rfl, ht⟩ | ⟨id, k, rfl, ht, he⟩
  ·simp only [stepG, stepG.exec, hrun, ht, hro, Sem.runT_eq, hr, GStep.bare_after]; exact hd
  ·simp only [stepG, stepG.exec, hrun, ht, hro, Sem.runT_eq, hr, GStep.bare_after]; exact hd
  ·simp only [stepG, stepG.exec, hrun, ht, hro, he, Option.elim, Sem.runT_eq, hr, GStep.bare_after]; exact hd
theorem enterLoop_in {w : World} {l₀ : Nat} {r₀ : Loop} (h : w.heap[l₀]? = some (.loop r₀)) (fn : FuncId) (tmps : Array Value) (ps : Array Tmp) (assign body : Code) :
  (Instr.enterLoop fn tmps ps assign body (some l₀)).run P w = .ok (w.heap.size, []) (w.alloc (.loop { state := .ready, pending := none, fn, tmps, params := ps, assign, body, defers := r₀.defers })) := by
 unfold Instr.enterLoop
 simp only [Sem.run_bind, run_getLoop h, run_newObj, Result.andThen, Sem.run_pure]
 rfl
theorem aCode_ok (C : Xy P T) {μ : Mu} {s : ASt} {fr' : Frame} {cs' : List Frame} {w : World} {lo : Nat} (h : Pl T B μ s fr' cs' w lo) (hrn : s.fr.mode = .run) (hrun : fr'.mode = .run) {c : Code} {k : List Xt}
  (ht : s.fr.todo = .code c :: k) : Out P T B cs0 fr' cs' w (aCode T s c k) := by
 obtain ⟨k', ht', hk⟩ : ∃ k', fr'.todo = .code c :: k' /\ YM μ k k' := by
  have := h.p.todo hrn
  rw [ht] at this
  obtain ⟨y, k', a, b, d⟩ := this.cons_left
  cases b
  exact ⟨k', a, d⟩
 have hc := h.p.core
 -- the frame's list alone turns
 have to : ∀ {td : List Xt} {td' : List Item}, YM μ td td' ->
   (stepG P true { frame := fr', callers := cs' ++ cs0, status := .running, dying := none } w).bare = .go { frame := { fr' with todo := td' }, callers := cs' ++ cs0, status := .running, dying := none } w ->
   Out P T B cs0 fr' cs' w (.next { s with fr := { s.fr with todo := td } }) := by
  intro td td' htd hst
  exact h.frame (fr1 := { s.fr with todo := td }) (fr1' := { fr' with todo := td' }) ⟨⟨hc.fn, hc.kind, hc.round, hc.defers, hc.mode⟩, h.p.tm, fun _ => htd⟩ (.one (step_lone_go hst)) (Below.refl _ _)
 cases c with
 | skip => exact to hk (by simp [stepG, stepG.exec, hrun, ht'])
 | label l => exact to hk (by simp [stepG, stepG.exec, hrun, ht'])
 | seq a b => exact to (.cons (.code a) (.cons (.code b) hk)) (by simp [stepG, stepG.exec, hrun, ht'])
 | cond c a b =>
  have hrho := rho_plain (fr' := fr') h.G h.p.tm
  show Out P T B cs0 fr' cs' w (aCond T s c a b k)
  unfold aCond
  split
  ·rename_i hv
   have := hrho _ _ hv
   generalize he : fr'.eval c = ev at this
   cases this
   exact to (.cons (.code a) hk) (by simp [stepG, stepG.exec, hrun, ht', he])
  ·rename_i hv
   have := hrho _ _ hv
   generalize he : fr'.eval c = ev at this
   cases this
   exact to (.cons (.code b) hk) (by simp [stepG, stepG.exec, hrun, ht', he])
  ·exact True.intro
 | block id b => exact to (.cons (.code b) (.cons (.inBlock id) hk)) (by simp [stepG, stepG.exec, hrun, ht'])
 | loop b => exact to (.cons (.code b) (.cons (.inLoop b) hk)) (by simp [stepG, stepG.exec, hrun, ht'])
 | scope b => exact to (.cons (.code b) (.cons (.inScope b) hk)) (by simp [stepG, stepG.exec, hrun, ht'])
 | exit id =>
  obtain ⟨e1, e2⟩ := exit_ok (id := id) hk
  show Out P T B cs0 fr' cs' w (aExit s id k)
  unfold aExit
  split
  ·rename_i r hr
   obtain ⟨r', hr', hrr⟩ := e1 r hr
   exact to hrr (by simp [stepG, stepG.exec, hrun, ht', hr'])
  ·rename_i hn
   exact leave_out h hrun (.inr (.inr ⟨id, k', rfl, ht', e2 hn⟩))
 | ret => exact leave_out h hrun (.inr (.inl ⟨k', rfl, ht'⟩))
 | region id ops draw =>
  cases draw with
  | false =>
   have htr : TRel μ s.fr.nt s.fr.vars (YH s.fr.over) fr'.tmps := h.p.tm.drop trim_look
   refine h.frame (fr1 := { s.fr with over := YH s.fr.over, todo := .inRegion ops ops.toList :: k }) (fr1' := { fr' with todo := .inRegion ops (List.range ops.size) :: k' }) ⟨⟨hc.fn, hc.kind, hc.round, hc.defers, hc.mode⟩, htr, fun _ => .cons ?_ hk⟩ (.one (step_lone_go (by simp [stepG, stepG.exec, hrun, ht']))) (Below.refl _ _)
   have := Yk.inRegion (μ := μ) (ops := ops) (i := 0) (Nat.zero_le _)
   simpa [List.range_eq_range'] using this
  | true =>
   show Out P T B cs0 fr' cs' w (aRegD s ops k)
   unfold aRegD
   split
   case h_2 => exact True.intro
   rename_i hok
   have htr : TRel μ s.fr.nt s.fr.vars (YH s.fr.over) fr'.tmps := h.p.tm.drop trim_look
   have hd := begin_ok (T := T) h.R htr hok h.hlo { s.A with next := Nat.add s.A.next (len ops.toList) } (w.tape w.drawn (.order fr'.fn id))
   have hle : s.A.next <= Nat.add s.A.next (len ops.toList) := Nat.le_add_right _ _
   refine ⟨μ, { fr' with todo := .inRegion ops (Region.schedule true ops (w.tape w.drawn (.order fr'.fn id))) :: k' }, cs', { w with drawn := w.drawn + 1 },
    ⟨h.R.bump _, h.G, lo, Nat.le_trans h.hlo hle, .draw ⟨hc.fn, hc.kind, hc.round, hc.defers, hc.mode⟩ ?_ rfl rfl hk hd, ?_⟩, .one (step_lone_go ?_), (Below.refl _ _).drew⟩
   ·have := hc.mode
    rw [hrun] at this
    show s.fr.mode = .run
    generalize s.fr.mode = mm at this
    cases this; rfl
   ·exact h.st.mono (Mu.Ext.refl _ _) (fun b o _ _ ho _ => ho) (Nat.le_refl _)
   ·simp [stepG, stepG.exec, hrun, ht', choose, Sem.run, Question.forced, Question.cut, C.mixed]
 | rangeFunc f params assign body =>
  show Out P T B cs0 fr' cs' w (aRF T s f params assign body k)
  unfold aRF
  simp only
  split
  case h_2 => exact True.intro
  rename_i fv hfv
  split
  case h_2 =>
   rename_i l hro
   obtain ⟨en, hen, hro'⟩ := round_some hc.round hro
   split
   case h_2 => exact True.intro
   rename_i L0 hl0
   split
   case h_2 => exact True.intro
   rename_i r hr
   obtain ⟨_, hB0, tm0, ed, hed, htr0, hob⟩ := h.R.obj l _ en hl0 hen
   obtain ⟨R1, K1, B1, E1⟩ := KB h.R (o := .loop { st := .ready, pending := none, fn := s.fr.fn, vars := s.fr.vars, over := s.fr.over, nt := s.fr.nt, params := params.toList, assign := assign, body := body, defers := L0.defers }) trivial
    (o' := .loop { state := .ready, pending := none, fn := fr'.fn, tmps := fr'.tmps, params, assign, body, defers := ed.blk }) (fun μ' hm => ⟨rfl, h.R.base, fr'.tmps, ed, hm _ _ hed, h.p.tm.mono hm, by
     rw [XB, hc.fn]⟩)
   have hE : Mu.Le μ (μ.add s.A.next ⟨w.heap.size, 0, none, 0⟩) := E1.1
   have hEx : Mu.Ext lo μ (μ.add s.A.next ⟨w.heap.size, 0, none, 0⟩) := ⟨hE, fun b hb hn => E1.2 b (Nat.lt_of_lt_of_le hb h.hlo) hn⟩
   generalize hμ2 : μ.add s.A.next ⟨w.heap.size, 0, none, 0⟩ = μ2 at *
   have hl : μ2 s.A.next = some ⟨w.heap.size, 0, none, 0⟩ := by rw [← hμ2]; simp
   have hfv' := (rho_plain (fr' := fr') h.G h.p.tm f fv hfv).mono hE
   obtain ⟨d, g1, g2⟩ := rFunc_ok C R1 hfv' (args' := [.func (.yield w.heap.size) #[] #[]]) (.cons (.yield hl) .nil) hr
   have hp2 : YQ μ2 { s.fr with todo := .inRangeFunc s.A.next :: k } { fr' with todo := .inRangeFunc w.heap.size :: k' } :=
    ⟨⟨hc.fn, hc.kind, hc.round.mono hE, hc.defers.mono fun _ _ => DefRel.mono hE, hc.mode.mono hE⟩, h.p.tm.mono hE, fun _ => .cons (Yk.inRangeFunc hl) (hk.mono hE)⟩
   have hst2 : Kf T μ2 (XX s.A (.loop { st := .ready, pending := none, fn := s.fr.fn, vars := s.fr.vars, over := s.fr.over, nt := s.fr.nt, params := params.toList, assign := assign, body := body, defers := L0.defers })) lo s.cs cs' := by
    refine h.st.mono hEx ?_ (Nat.le_refl _)
    intro b o hb hn ho hg
    exact K1.2 b o hn ho (notGrown_of hg)
   refine out_of (apply_ok C (s := { fr := { s.fr with todo := .inRangeFunc s.A.next :: k }, cs := s.cs, A := XX s.A (.loop { st := .ready, pending := none, fn := s.fr.fn, vars := s.fr.vars, over := s.fr.over, nt := s.fr.nt, params := params.toList, assign := assign, body := body, defers := L0.defers }) })
    (sem := (do let d ← resolve ({ fr' with todo := .inRangeFunc w.heap.size :: k' } : Frame).eval { callee := .value f, args := #[.const (.func (.yield w.heap.size) #[] #[])], argTypes := #[] } 0; invoke d.target d.args)) R1 (h.G.mono hE) ?_ hp2 hrn hst2 ?_ B1 (Kn.bind_ok (f := fun d => invoke d.target d.args) ?_ g2 rfl))
   ·have := K1.1; have := h.hlo
    show lo <= (XX s.A _).next
    omega
   ·intro fr2 cs2 w2 hb
    refine .one (step_lone_go ?_)
    have hrl := enterLoop_in (P := P) hob fr'.fn fr'.tmps params assign body
    simp only [stepG, stepG.exec, hrun, ht', hro', Sem.runT_eq, hrl, GStep.bare_after]
    simp only [hrun, hro'] at hb
    exact hb
   ·simpa [resolve, Frame.eval] using g1
  rename_i hro
  have hro' := round_none hc.round hro
  -- the two blocks
  obtain ⟨R1, K1, B1, E1⟩ := KB h.R (o := .deferred (some [])) trivial (o' := .deferred (some [])) (fun μ' _ => ⟨rfl, h.R.base, .inr ⟨[], [], rfl, XB _ _, .nil⟩⟩)
  have hsz : (w.alloc (.deferred (some []))).heap.size = w.heap.size + 1 := by simp
  obtain ⟨R2, K2, B2, E2⟩ := KB R1 (o := .loop { st := .ready, pending := none, fn := s.fr.fn, vars := s.fr.vars, over := s.fr.over, nt := s.fr.nt, params := params.toList, assign := assign, body := body, defers := s.A.next }) trivial
   (o' := .loop { state := .ready, pending := none, fn := fr'.fn, tmps := fr'.tmps, params, assign, body, defers := w.heap.size }) (fun μ' hm => ⟨rfl, by rw [hsz]; exact Nat.le_succ_of_le h.R.base, fr'.tmps, ⟨w.heap.size, 0, none, 0⟩, hm _ _ (by simp), h.p.tm.mono (E1.1.trans hm), by
    rw [XB, hc.fn]⟩)
  split
  case h_2 => exact True.intro
  rename_i r hr
  have hE : Mu.Le μ ((μ.add s.A.next ⟨w.heap.size, 0, none, 0⟩).add (XX s.A (.deferred (some []))).next ⟨(w.alloc (.deferred (some []))).heap.size, 0, none, 0⟩) := E1.1.trans E2.1
  have hEx : Mu.Ext lo μ ((μ.add s.A.next ⟨w.heap.size, 0, none, 0⟩).add (XX s.A (.deferred (some []))).next ⟨(w.alloc (.deferred (some []))).heap.size, 0, none, 0⟩) := by
   refine ⟨hE, fun b hb hn => E2.2 b ?_ (E1.2 b (Nat.lt_of_lt_of_le hb h.hlo) hn)⟩
   have := K1.1; have := h.hlo; omega
  generalize hμ2 : (μ.add s.A.next ⟨w.heap.size, 0, none, 0⟩).add (XX s.A (.deferred (some []))).next ⟨(w.alloc (.deferred (some []))).heap.size, 0, none, 0⟩ = μ2 at *
  have hl : μ2 (XX s.A (.deferred (some []))).next = some ⟨(w.alloc (.deferred (some []))).heap.size, 0, none, 0⟩ := by rw [← hμ2]; simp
  have hd : μ2 s.A.next = some ⟨w.heap.size, 0, none, 0⟩ := E2.1 _ _ (by simp)
  have hfv' := (rho_plain (fr' := fr') h.G h.p.tm f fv hfv).mono hE
  obtain ⟨d, g1, g2⟩ := rFunc_ok C R2 hfv' (args' := [.func (.yield (w.heap.size + 1)) #[] #[]]) (.cons (by rw [← hsz]; exact .yield hl) .nil) hr
  have hp2 : YQ μ2 { s.fr with todo := .inRangeFunc (XX s.A (.deferred (some []))).next :: k, defers := { target := .collected s.A.next, args := #[] } :: s.fr.defers }
    { fr' with todo := .inRangeFunc (w.heap.size + 1) :: k', defers := { target := .collected w.heap.size, args := #[] } :: fr'.defers } := by
   refine ⟨⟨hc.fn, hc.kind, hc.round.mono hE, .cons ⟨.collected hd, .nil⟩ (hc.defers.mono fun _ _ => DefRel.mono hE), hc.mode.mono hE⟩, h.p.tm.mono hE, fun _ => .cons ?_ (hk.mono hE)⟩
   have := Yk.inRangeFunc hl
   rw [hsz] at this; exact this
  have hst2 : Kf T μ2 (XX (XX s.A (.deferred (some []))) (.loop { st := .ready, pending := none, fn := s.fr.fn, vars := s.fr.vars, over := s.fr.over, nt := s.fr.nt, params := params.toList, assign := assign, body := body, defers := s.A.next })) lo s.cs cs' := by
   refine h.st.mono hEx ?_ (Nat.le_refl _)
   intro b o hb hn ho hg
   exact K2.2 b o (E1.2 b (Nat.lt_of_lt_of_le hb h.hlo) hn) (K1.2 b o hn ho (notGrown_of hg)) (notGrown_of hg)
  refine out_of (apply_ok C (s := { fr := { s.fr with todo := .inRangeFunc (XX s.A (.deferred (some []))).next :: k, defers := { target := .collected s.A.next, args := #[] } :: s.fr.defers }, cs := s.cs, A := XX (XX s.A (.deferred (some []))) (.loop { st := .ready, pending := none, fn := s.fr.fn, vars := s.fr.vars, over := s.fr.over, nt := s.fr.nt, params := params.toList, assign := assign, body := body, defers := s.A.next }) })
   (sem := (do let d ← resolve ({ fr' with todo := .inRangeFunc (w.heap.size + 1) :: k', defers := { target := .collected w.heap.size, args := #[] } :: fr'.defers } : Frame).eval { callee := .value f, args := #[.const (.func (.yield (w.heap.size + 1)) #[] #[])], argTypes := #[] } 0; invoke d.target d.args)) R2 (h.G.mono hE) ?_ hp2 hrn hst2 ?_ (B1.trans B2) (Kn.bind_ok (f := fun d => invoke d.target d.args) ?_ g2 rfl))
  ·have := K1.1; have := K2.1; have := h.hlo
   show lo <= (XX (XX s.A _) _).next
   omega
  ·intro fr2 cs2 w2 hb
   refine .one (step_lone_go ?_)
   have hrl := run_enterLoop_outer (P := P) (w := w) fr'.fn fr'.tmps params assign body
   simp only [stepG, stepG.exec, hrun, ht', hro', Sem.runT_eq, hrl, GStep.bare_after]
   simp only [hrun, hro'] at hb
   exact hb
  ·simpa [resolve, Frame.eval] using g1
 | goto l => exact True.intro
 | refuse why => exact True.intro
end
section
variable {P : Program} {T : Tab} {B : Nat} {cs0 : List Frame}
theorem aExec_plain (C : Xy P T) {μ : Mu} {s : ASt} {fr' : Frame} {cs' : List Frame} {w : World} {lo : Nat} (h : Pl T B μ s fr' cs' w lo) (run : s.fr.mode = .run) : Out P T B cs0 fr' cs' w (aExec T s) := by
 have hrun := run_mode h.p.core.mode run
 have hc := h.p.core
 have htd := h.p.todo run
 have to : ∀ {td : List Xt} {td' : List Item}, YM μ td td' ->
   (stepG P true { frame := fr', callers := cs' ++ cs0, status := .running, dying := none } w).bare = .go { frame := { fr' with todo := td' }, callers := cs' ++ cs0, status := .running, dying := none } w ->
   Out P T B cs0 fr' cs' w (.next { s with fr := { s.fr with todo := td } }) := by
  intro td td' htd hst
  exact h.frame (fr1 := { s.fr with todo := td }) (fr1' := { fr' with todo := td' }) ⟨⟨hc.fn, hc.kind, hc.round, hc.defers, hc.mode⟩, h.p.tm, fun _ => htd⟩ (.one (step_lone_go hst)) (Below.refl _ _)
 unfold aExec
 split
 ·rename_i ht
  rw [ht] at htd
  exact leave_out h hrun (.inl ⟨rfl, htd.nil_left⟩)
 ·rename_i it k ht
  rw [ht] at htd
  cases it with
  | code c => exact aCode_ok C h run hrun ht
  | inBlock id =>
   obtain ⟨y, k', ht', hy, hk⟩ := htd.cons_left
   cases hy
   exact to hk (by simp [stepG, stepG.exec, hrun, ht'])
  | inLoop b =>
   obtain ⟨y, k', ht', hy, hk⟩ := htd.cons_left
   cases hy
   exact to (.cons (.code b) (.cons (.inLoop b) hk)) (by simp [stepG, stepG.exec, hrun, ht'])
  | inScope b =>
   obtain ⟨y, k', ht', hy, hk⟩ := htd.cons_left
   cases hy
   exact to hk (by simp [stepG, stepG.exec, hrun, ht'])
  | inRegion ops rest =>
   cases rest with
   | nil =>
    obtain ⟨y, k', ht', hy, hk⟩ := htd.cons_left
    have : y = .inRegion ops [] := by
     generalize hx : Xt.inRegion ops [] = x at hy
     cases hy with
     | @inRegion ops' i hi =>
      injection hx with h1 h2
      subst h1
      have := List.drop_eq_nil_iff.1 h2.symm
      have : ops.size - i = 0 := by simp at this; omega
      rw [this]; rfl
     | _ => cases hx
    subst this
    exact to hk (by simp [stepG, stepG.exec, hrun, ht'])
   | cons o rest =>
    show Out P T B cs0 fr' cs' w (aOper T s ops o)
    unfold aOper
    obtain ⟨y, k', ht', hy, hk⟩ := htd.cons_left
    obtain ⟨i, hi, ho, hr, rfl⟩ := item_region hy
    split
    ·rename_i hw
     have hwt := wanted_plain h.p hw
     split
     case h_2 => exact True.intro
     rename_i r hop
     by_cases hd : s.fr.roundOf = none \/ ∀ c, o.op ≠ .defer c
     ·have hres := aop_ok (w := w) C h.R (rho_plain (fr' := fr') h.G h.p.tm) hop
      refine out_of (apply_ok C h.R h.G h.hlo h.p run h.st ?_ (Below.refl _ _) hres)
      intro fr2 cs2 w2 hb
      refine .one (step_lone_go ?_)
      rw [step_oper hrun ht' ho hwt (hd.imp (round_none hc.round) id)]
      exact hb
     ·simp only [not_or, Classical.not_forall, Classical.not_not] at hd
      obtain ⟨h1, c, h2⟩ := hd
      rw [h2] at hop
      have hop : rDefer _ c = some r := hop
      have hrd : ∃ d, r = .defer d := by
       unfold rDefer at hop
       split at hop
       ·split at hop
        ·injection hop with hop; exact ⟨_, hop.symm⟩
        ·cases hop
       ·cases hop
      obtain ⟨d, rfl⟩ := hrd
      cases hro : s.fr.roundOf with
      | none => exact absurd hro h1
      | some l => simp only [Yv, apDefer, hro]; exact True.intro
    ·rename_i hw
     have hwt := wanted_plain h.p hw
     split
     case h_2 => exact True.intro
     rename_i fr1 hf
     exact h.frame (Ks h.p run (Xo.tuple .nil) hf) (step_nowant hrun ht' ho hwt) (Below.refl _ _)
    ·exact True.intro
  | inDraw ops t V base =>
   obtain ⟨y, k', ht', hy, hk⟩ := htd.cons_left
   cases hy
  | beginRound =>
   show Out P T B cs0 fr' cs' w (aBegin s k)
   unfold aBegin
   obtain ⟨y, k', ht', hy, hk⟩ := htd.cons_left
   cases hy
   split
   case h_2 => exact True.intro
   rename_i l hro
   obtain ⟨en, hen, hro'⟩ := round_some hc.round hro
   split
   case h_2 => exact True.intro
   rename_i L hl
   split
   case h_2 => exact True.intro
   rename_i hst
   obtain ⟨r, g1, g2, g3, g4, g5, g6, g7⟩ := loop_set (L' := { L with st := .busy }) h.R hl hen rfl rfl rfl rfl rfl rfl rfl rfl
   have hrun2 := run_beginRound (P := P) g1 (by rw [g2]; exact hst)
   refine ⟨μ, { fr' with todo := k' }, cs', _, ⟨g5, h.G, lo, h.hlo, .plain ⟨⟨hc.fn, hc.kind, hc.round, hc.defers, hc.mode⟩, h.p.tm, fun _ => hk⟩, h.st.mono (Mu.Ext.refl _ _) (g6.kept _) (Nat.le_refl _)⟩, .one (step_lone_go ?_), g7⟩
   have hw : w.putObj en.blk (.loop { r with state := .busy }) = wr w en.blk (.loop { r with state := .busy, pending := L.pending }) := by rw [← g3]; rfl
   rw [hw] at hrun2
   simp [stepG, stepG.exec, hrun, ht', stepG.apply, hro', hrun2, Frame.finish]
  | endRangeFunc l =>
   show Out P T B cs0 fr' cs' w (aEndRF s l k)
   unfold aEndRF
   obtain ⟨y, k', ht', hy, hk⟩ := htd.cons_left
   cases hy with
   | @endRangeFunc _ en hen =>
   split
   case h_2 => exact True.intro
   rename_i L hl
   split
   ·exact True.intro
   rename_i hnb
   obtain ⟨r, g1, g2, g3, g4, g5, g6, g7⟩ := loop_set (L' := { L with st := .exhausted }) h.R hl hen rfl rfl rfl rfl rfl rfl rfl rfl
   have hrun2 := run_endLoop (P := P) g1 (by rw [g2]; exact hnb)
   have hw : w.putObj en.blk (.loop { r with state := .exhausted }) = wr w en.blk (.loop { r with state := .exhausted, pending := L.pending }) := by rw [← g3]; rfl
   rw [hw, g3] at hrun2
   have hkk : YM μ (match L.pending with | some c => .code c :: k | none => k) ((L.pending.map Item.code).toList ++ k') := by
    cases L.pending with
    | none => exact hk
    | some c => exact .cons (.code c) hk
   refine ⟨μ, { fr' with todo := (L.pending.map Item.code).toList ++ k' }, cs', _, ⟨g5, h.G, lo, h.hlo, .plain ⟨⟨hc.fn, hc.kind, hc.round, hc.defers, hc.mode⟩, h.p.tm, fun _ => hkk⟩, h.st.mono (Mu.Ext.refl _ _) (g6.kept _) (Nat.le_refl _)⟩, .one (step_lone_go ?_), g7⟩
   simp [stepG, stepG.exec, hrun, ht', hrun2]
  | inRangeFunc l => exact True.intro
theorem rais_run (m : AMode) (vs : List PanicEntry) : rais m vs ≠ .run := by
 intro h
 unfold rais at h
 split at h <;> cases h
theorem forget_get {u : Nat} {v : Value} : ∀ {ds : List (Nat × Nat)} {vars : List (Option Value)} {over : List (Nat × Value)}, Yl (forgetD ds vars) [] u = some v -> (∀ k, (u, k) ∉ ds) /\ Yl vars over u = some v := by
 intro ds
 induction ds with
 | nil =>
  intro vars over h
  refine ⟨fun k hk => (by cases hk), ?_⟩
  have h : (match nth vars u with | some o => o | none => Xp [] u) = some v := h
  show (match nth vars u with | some o => o | none => Xp over u) = some v
  cases ho : nth vars u with
  | some o => rw [ho] at h; exact h
  | none => rw [ho] at h; cases h
 | cons p ds ih =>
  obtain ⟨d, j⟩ := p
  intro vars over h
  have h : Yl (forgetD ds (lset none vars d)) [] u = some v := h
  obtain ⟨h1, h2⟩ := ih (over := []) h
  unfold Yl at h2
  split at h2
  case h_2 => cases h2
  rename_i o ho
  subst h2
  rw [XT, lset_eq, List.getElem?_set] at ho
  split at ho
  ·split at ho
   ·cases ho
   ·cases ho
  ·rename_i hne
   refine ⟨fun k hk => ?_, ?_⟩
   ·rcases List.mem_cons.1 hk with e | hk
    ·injection e with e _; exact hne e.symm
    ·exact h1 k hk
   ·unfold Yl
    rw [XT, ho]
theorem aUnwind_ok (C : Xy P T) {μ : Mu} {s : ASt} {fr' : Frame} {cs' : List Frame} {w : World} {lo : Nat} (h : Pl T B μ s fr' cs' w lo) (hne : s.fr.mode ≠ .run) : Out P T B cs0 fr' cs' w (aUnwind T s) := by
 have hc := h.p.core
 have hrun : fr'.mode ≠ .run := by
  intro e
  have := hc.mode
  rw [e] at this
  generalize hm : s.fr.mode = mm at this
  cases this; exact hne hm
 have hunw : stepG P true { frame := fr', callers := cs' ++ cs0, status := .running, dying := none } w = unwind P true fr' (cs' ++ cs0) none w := by
  cases hm : fr'.mode with
  | run => exact absurd hm hrun
  | _ => simp only [stepG, hm]
 have hdf := hc.defers
 unfold aUnwind
 split
 ·-- the calls that rounds deferred
  rename_i b args ds hds
  rw [hds] at hdf
  obtain ⟨d', ds', hds', hd', hdd⟩ := hdf.cons_left
  obtain ⟨tg, ar⟩ := d'
  obtain ⟨ht1, _⟩ := hd'
  have ht1 : TgRel μ (.collected b) tg := ht1
  cases ht1 with
  | @collected _ en hen =>
  split
  case h_2 => exact True.intro
  rename_i calls hb
  obtain ⟨hg, hB, hx⟩ := h.R.obj b _ en hb hen
  rcases hx with ⟨hx, _⟩ | ⟨l, l', hx, hy, hz⟩
  ·cases hx
  injection hx with hx; subst hx
  have hlt : en.blk < w.heap.size := (h.R.dom b en hen).2.1
  obtain ⟨R1, K1, B1⟩ := aset_spec (w := w) h.R hen hg hB (o := .deferred none) trivial (o' := .deferred none) ⟨hg, hB, .inl ⟨rfl, YW hlt _⟩⟩
  have hrun2 := run_takeDeferred (P := P) hy
  refine ⟨μ, { fr' with defers := l' ++ ds' }, cs', _, ⟨R1, h.G, lo, h.hlo, .plain ⟨⟨hc.fn, hc.kind, hc.round, ?_, hc.mode⟩, h.p.tm, h.p.todo⟩, h.st.mono (Mu.Ext.refl _ _) (K1.kept _) (Nat.le_refl _)⟩, .one (step_lone_go ?_), B1⟩
  ·show XE (DefRel μ) (app calls ds) (l' ++ ds')
   rw [Yi]; exact hz.app hdd
  ·rw [hunw]
   simp only [unwind, hds', Sem.runT_eq, hrun2, GStep.bare_after]
   rfl
 ·rename_i f captured args ds hds
  rw [hds] at hdf
  obtain ⟨d', ds', hds', hd', hdd⟩ := hdf.cons_left
  obtain ⟨tg, ar⟩ := d'
  obtain ⟨ht1, ha⟩ := hd'
  have ht1 : TgRel μ (.fn (.func f) captured) tg := ht1
  cases ht1 with
  | @fn _ hy _ ys hcap =>
  split
  case h_2 => exact True.intro
  rename_i fr1 hen
  have hfn : ∃ a, T.fn.get f = some a := by
   unfold YZ at hen
   split at hen
   ·rename_i a ha; exact ⟨a, ha⟩
   ·cases hen
  obtain ⟨a, hfn⟩ := hfn
  have hrun2 := run_callFunc C hfn (ar ++ ys) w
  have hargs : Xo μ (app args.toList captured.toList) (ar ++ ys).toList := by
   rw [Yi, Array.toList_append]
   exact ha.app hcap
  have hp1 : YQ μ { s.fr with defers := ds } { fr' with defers := ds' } := ⟨⟨hc.fn, hc.kind, hc.round, hdd, hc.mode⟩, h.p.tm, h.p.todo⟩
  refine ⟨μ, Frame.enter P f (ar ++ ys) .deferred, { fr' with defers := ds' } :: cs', w, ⟨h.R, h.G, s.A.next, Nat.le_refl _, .plain (enter_ok C hargs hen), .cons (.plain hp1) h.hlo h.st⟩, .one (step_lone_go ?_), Below.refl _ _⟩
  rw [hunw]
  simp only [unwind, hds', callDeferred]
  simp [invoke, hrun2]
 ·exact True.intro
 ·rename_i hds
  rw [hds] at hdf
  have hds' := hdf.nil_left
  split
  ·exact True.intro
  ·-- a panic leaves the frame
   rename_i chain hmode
   have hm := hc.mode
   rw [hmode] at hm
   generalize hm' : fr'.mode = mm at hm
   cases hm with
   | @panicking _ chain' hch =>
   split
   case h_2 => exact True.intro
   rename_i c rest a hcs hfn
   have hst := h.st
   rw [hcs] at hst
   generalize hcs' : cs' = cs2 at hst
   cases hst with
   | @cons lo2 _ _ c' _ cs2' hcr hle ht =>
   subst hcs'
   obtain ⟨fn, hf, _⟩ := C.fn _ a hfn
   rw [← hc.fn] at hf
   have hgo : ∀ {c1 : Xh}, YQ μ c1 (c'.raise chain') -> Kh P T B cs0 (lone fr' (c' :: cs2' ++ cs0) w) w { s with fr := c1, cs := rest } := by
    intro c1 hp1
    refine ⟨μ, c'.raise chain', cs2', w, ⟨h.R, h.G, lo2, Nat.le_trans hle h.hlo, .plain hp1, ht⟩, .one (step_lone_go ?_), Below.refl _ _⟩
    rw [hunw]
    simp [unwind, Frame.catches, hds', hm', hf]
   split
   ·rename_i ops t V base k htd
    cases hcr with
    | plain hp =>
     have hnr : c.mode ≠ .run := by
      intro hm
      have := hp.todo hm
      rw [htd] at this
      obtain ⟨y, k', _, hy, _⟩ := this.cons_left
      cases hy
     have hr := raise_plain hp hch
     refine hgo ⟨⟨hr.core.fn, hr.core.kind, hr.core.round, hr.core.defers, hr.core.mode⟩, ⟨hr.tm.1, fun u v hu => hr.tm.2 u v ?_⟩, fun hm => ?_⟩
     ·obtain ⟨_, hg⟩ := forget_get hu
      exact hg
     ·exact absurd hm (rais_run _ _)
    | wait core run h1 h2 h3 hcc h4 =>
     rw [htd] at h1
     injection h1 with h1 _
     injection h1 with e1 e2 e3 e4
     subst e1
     have hr := raise_core core hch
     refine hgo ⟨⟨hr.fn, hr.kind, hr.round, hr.defers, hr.mode⟩, ⟨?_, fun u v hu => ?_⟩, fun hm => ?_⟩
     ·have := h4.nt
      unfold Frame.raise; split <;> exact this
     ·obtain ⟨hno, hg⟩ := forget_get hu
      obtain ⟨v', x, y⟩ := h4.old u v hg (fun k hk => absurd ((nodupD_look (YI h4.ok).2.2.1).2 hk) (hno k))
      refine ⟨v', ?_, y⟩
      unfold Frame.raise; split <;> exact x
     ·exact absurd hm (rais_run _ _)
   ·rename_i hnd
    cases hcr with
    | wait core run h1 => exact absurd h1 (by intro e; exact hnd _ _ _ _ _ e)
    | plain hp => exact hgo (raise_plain hp hch)
  ·rename_i hmode
   have hm := hc.mode
   rw [hmode] at hm
   generalize hm' : fr'.mode = mm at hm
   cases hm
   split
   ·exact True.intro
   rename_i a hfn
   split
   ·exact True.intro
   rename_i vs hvs
   obtain ⟨fn, v', hf, hres, hv⟩ := results_ok C h.R h.p.tm hfn hvs
   rw [← hc.fn] at hf
   have hstep : ∀ {fr2 : Frame} {cs2 : List Frame} {w3 : World}, (doReturn P true fr' (cs' ++ cs0) none v' w).bare = .go { frame := fr2, callers := cs2, status := .running, dying := none } w3 -> Steps P (lone fr' (cs' ++ cs0) w) (lone fr2 cs2 w3) := by
    intro fr2 cs2 w3 hb
    refine .one (step_lone_go ?_)
    rw [hunw]
    simp only [unwind, hds', hm', hf, Sem.runT_eq, hres, GStep.bare_after]
    exact hb
   split
   ·rename_i hcs hkd hro
    have hst := h.st
    rw [hcs] at hst
    generalize hcs' : cs' = cs2 at hst
    cases hst
    exact ⟨μ, v', ⟨hm', hds', by rw [hc.kind, hkd], fn, hf, hres⟩, hv, hc.fn, rfl⟩
   ·rename_i c rest hcs hkd hro
    split
    case h_2 => exact True.intro
    rename_i c1 hfin
    have hst := h.st
    rw [hcs] at hst
    generalize hcs' : cs' = cs2 at hst
    cases hst with
    | @cons lo2 _ _ c' _ cs2' hcr hle ht =>
    subst hcs'
    refine ⟨μ, c'.finish v', cs2', w, ⟨h.R, h.G, lo2, Nat.le_trans hle h.hlo, (drawFinish_ok hcr hv hfin).up h.hlo, ht⟩, hstep ?_, Below.refl _ _⟩
    have hkd' : fr'.kind = .normal := by rw [hc.kind, hkd]
    simp [doReturn, hkd']
   ·rename_i c rest hcs hkd hro
    have hst := h.st
    rw [hcs] at hst
    generalize hcs' : cs' = cs2 at hst
    cases hst with
    | @cons lo2 _ _ c' _ cs2' hcr hle ht =>
    subst hcs'
    have hkd' : fr'.kind = .deferred := by rw [hc.kind, hkd]
    have hplain : c.mode ≠ .run -> YQ μ c c' := by
     intro hn
     cases hcr with
     | plain hp => exact hp
     | wait core run => exact absurd run hn
    split
    ·rename_i v gx older hcm
     have hp := hplain (by rw [hcm]; exact nofun)
     have hm2 := hp.core.mode
     rw [hcm] at hm2
     generalize hcm' : c'.mode = mm at hm2
     cases hm2 with
     | panicking hl2 =>
     obtain ⟨y, older', rfl, hy, hol⟩ := hl2.cons_left
     obtain ⟨v2, rc, gx'⟩ := y
     obtain ⟨hv2, hrc, hgx⟩ := hy
     have hrc : true = rc := hrc
     subst hrc
     have hdrop := dropRec_ok hol
     split
     ·rename_i hdr
      rw [hdr] at hdrop
      have hdr' := hdrop.nil_left
      refine ⟨μ, { c' with mode := .returning }, cs2', w, ⟨h.R, h.G, lo2, Nat.le_trans hle h.hlo, .plain ⟨⟨hp.core.fn, hp.core.kind, hp.core.round, hp.core.defers, .returning⟩, hp.tm, fun h => by cases h⟩, ht⟩, hstep ?_, Below.refl _ _⟩
      simp [doReturn, hkd', hcm', hdr']
     ·rename_i hdr
      generalize hr' : older'.dropWhile (!·.goexit) = r' at hdrop
      refine ⟨μ, { c' with mode := .panicking r' }, cs2', w, ⟨h.R, h.G, lo2, Nat.le_trans hle h.hlo, .plain ⟨⟨hp.core.fn, hp.core.kind, hp.core.round, hp.core.defers, .panicking hdrop⟩, hp.tm, fun h => by cases h⟩, ht⟩, hstep ?_, Below.refl _ _⟩
      have hne : r' ≠ [] := by
       rintro rfl
       have := hdrop.1
       simp at this
       exact hdr this
      cases r' with
      | nil => exact absurd rfl hne
      | cons x r' => simp [doReturn, hkd', hcm', hr']
    ·exact True.intro
    ·rename_i hn1 hn2
     have hp := hplain (fun e => hn2 e)
     have hcm' : ∀ v gx older, c'.mode ≠ .panicking ({ v := v, recovered := true, goexit := gx } :: older) := by
      intro v gx older e
      have hm2 := hp.core.mode
      rw [e] at hm2
      generalize hcm : c.mode = mm at hm2
      cases hm2 with
      | @panicking a _ hl2 =>
      cases a with
      | nil => have := hl2.1; simp at this
      | cons x a =>
       have hx := hl2.head
       obtain ⟨xv, xr, xg⟩ := x
       have : xr = true := hx.2.1
       subst this
       exact hn1 _ _ _ hcm
     refine ⟨μ, c', cs2', w, ⟨h.R, h.G, lo2, Nat.le_trans hle h.hlo, .plain hp, ht⟩, hstep ?_, Below.refl _ _⟩
     cases hcm2 : c'.mode with
     | run => simp [doReturn, hkd', hcm2]
     | returning => simp [doReturn, hkd', hcm2]
     | panicking ch =>
      cases ch with
      | nil => simp [doReturn, hkd', hcm2]
      | cons x ch =>
       obtain ⟨x1, x2, x3⟩ := x
       cases x2 with
       | true => exact absurd hcm2 (hcm' _ _ _)
       | false => simp [doReturn, hkd', hcm2]
   ·exact True.intro
theorem astep_ok (C : Xy P T) {μ : Mu} {s : ASt} {fr' : Frame} {cs' : List Frame} {w : World} (h : SRel T B μ s fr' cs' w) : Out P T B cs0 fr' cs' w (astep T s) := by
 obtain ⟨R, G, lo, hlo, hf, hst⟩ := h
 unfold astep
 split
 ·rename_i run
  cases hf with
  | plain hp => exact aExec_plain C ⟨R, G, hlo, hp, hst⟩ run
  | draw core run h1 h2 h3 h4 =>
   unfold aExec
   rw [h1]
   exact aDraw_ok C R G hlo hst core run h2 h3 h4
 ·rename_i hn
  cases hf with
  | plain hp => exact aUnwind_ok C ⟨R, G, hlo, hp, hst⟩ hn
  | draw core run => exact absurd run hn
end
section
def X0 (T : Tab) (ops : Array Oper) (k : List Xt) (rest : List Oper) : ASt -> Xm :=
 match rest with
 | [] => fun s => toS s k
 | o :: r => fun s =>
  match Kd s.fr ops.toList o with
  | some true =>
   (match aop T s.A (Xn T.nglob s.fr.vars s.fr.over) o.op with
    | some (.val v A) => (match s.fr.put o.dst v with | some fr => X0 T ops k r { s with fr := fr, A := A } | none => .stuck)
    | some (.skip A) => (match s.fr.put o.dst undef with | some fr => X0 T ops k r { s with fr := fr, A := A } | none => .stuck)
    | some res => Yv T { s with fr := { s.fr with todo := .inRegion ops (o :: r) :: k } } res
    | none => .stuck)
  | some false => (match s.fr.put o.dst undef with | some fr => X0 T ops k r { s with fr := fr } | none => .stuck)
  | none => .stuck
def fCode (T : Tab) (c : Code) : ASt -> List Xt -> Xm :=
 match c with
 | .seq a b => fun s k => fCode T a s (.code b :: k)
 | .cond x a b => fun s k => (match Xn T.nglob s.fr.vars s.fr.over x with | some (.bool true) => fCode T a s k | some (.bool false) => fCode T b s k | _ => .stuck)
 | .block id b => fun s k => fCode T b s (.inBlock id :: k)
 | .loop b => fun s k => fCode T b s (.inLoop b :: k)
 | .scope b => fun s k => fCode T b s (.inScope b :: k)
 | .region _ ops false => fun s k => X0 T ops k ops.toList { s with fr := { s.fr with over := YH s.fr.over } }
 | c => fun s k => aCode T { s with fr := { s.fr with todo := .code c :: k } } c k
def fExec (T : Tab) (s : ASt) : Xm :=
 match s.fr.todo with
 | .code c :: k => fCode T c s k
 | .inRegion ops rest :: k => X0 T ops k rest s
 | .inBlock _ :: .code c :: k => fCode T c s k
 | .inLoop b :: k => fCode T b s (.inLoop b :: k)
 | _ => aExec T s
def Kl (T : Tab) (s : ASt) : Xm :=
 match s.fr.mode with
 | .run => fExec T s
 | _ => aUnwind T s
def fNat (n : Nat) (k : Nat -> ASt) : ASt := Nat.rec (motive := fun _ => ASt) (k 0) (fun m _ => k (Nat.succ m)) n
def fLst {α : Type} (l : List α) (k : List α -> ASt) : ASt := List.rec (motive := fun _ => ASt) (k []) (fun a r _ => k (a :: r)) l
def fTr {α : Type} (t : Tr α) (k : Tr α -> ASt) : ASt := match t with | .e => k .e | .n l v r => k (.n l v r)
def fMode (m : AMode) (k : AMode -> ASt) : ASt := match m with | .run => k .run | .returning => k .returning | .panicking c => k (.panicking c)
def fCK (c : CallKind) (k : CallKind -> ASt) : ASt := match c with | .normal => k .normal | .deferred => k .deferred | c => k c
def fON (o : Option Nat) (k : Option Nat -> ASt) : ASt := match o with | none => k none | some n => k (some n)
theorem fNat_eq {n : Nat} {k : Nat -> ASt} : fNat n k = k n := by cases n <;> rfl
theorem fLst_eq {α : Type} {l : List α} {k : List α -> ASt} : fLst l k = k l := by cases l <;> rfl
theorem fTr_eq {α : Type} {t : Tr α} {k : Tr α -> ASt} : fTr t k = k t := by cases t <;> rfl
theorem fMode_eq {m : AMode} {k : AMode -> ASt} : fMode m k = k m := by cases m <;> rfl
theorem fCK_eq {c : CallKind} {k : CallKind -> ASt} : fCK c k = k c := by cases c <;> rfl
theorem fON_eq {o : Option Nat} {k : Option Nat -> ASt} : fON o k = k o := by cases o <;> rfl
def norm (s : ASt) : ASt :=
 match s with
 | ⟨⟨fn, nt, vars, over, todo, defers, mode, kind, ro⟩, cs, ⟨h, nx, fm⟩⟩ =>
  fMode mode fun mode => fNat fn fun fn => fNat nt fun nt => fLst vars fun vars => fLst over fun over => fLst todo fun todo => fLst defers fun defers => fCK kind fun kind => fON ro fun ro =>
   fLst cs fun cs => fTr h fun h => fNat nx fun nx => fTr fm fun fm => ⟨⟨fn, nt, vars, over, todo, defers, mode, kind, ro⟩, cs, ⟨h, nx, fm⟩⟩
theorem norm_eq (s : ASt) : norm s = s := by
 obtain ⟨⟨fn, nt, vars, over, todo, defers, mode, kind, ro⟩, cs, ⟨h, nx, fm⟩⟩ := s
 unfold norm
 simp only [fMode_eq, fNat_eq, fLst_eq, fCK_eq, fON_eq, fTr_eq]
def frun (T : Tab) (s : ASt) : ASt := match Kl T s with | .next s' => s' | .branch [s'] => s' | _ => s
def altN (o : Xm) : Nat := match o with | .branch l => len l | _ => 0
def altOf (o : Xm) (i : Nat) (s : ASt) : ASt := match o with | .branch l => (match nth l i with | some s' => s' | none => s) | _ => s
variable {P : Program} {T : Tab} {B : Nat} {cs0 : List Frame}
def OutM (P : Program) (T : Tab) (B : Nat) (cs0 : List Frame) (m : Machine) (w : World) : Xm -> Prop
 | .next s' => Kh P T B cs0 m w s'
 | .branch l => ∃ s' ∈ l, Kh P T B cs0 m w s'
 | .done f v => ∃ μ fr2 w2 v', Steps P m (lone fr2 cs0 w2) /\ Below B w w2 /\ fr2.leaving P w2 (.returned v') /\ Xj μ v v' /\ fr2.fn = f
 | .stuck => True
theorem Out.toM {fr' : Frame} {cs' : List Frame} {w : World} {o : Xm} (h : Out P T B cs0 fr' cs' w o) : OutM P T B cs0 (lone fr' (cs' ++ cs0) w) w o := by
 cases o with
 | next s => exact h
 | branch l => exact h
 | done f v =>
  obtain ⟨μ, v', h1, h2, h3, rfl⟩ := h
  exact ⟨μ, fr', w, v', Steps.refl _ _, Below.refl _ _, h1, h2, h3⟩
 | stuck => exact True.intro
theorem goes_pre {m : Machine} {w : World} {fr' : Frame} {cs' : List Frame} {w' : World} {s : ASt} (hs : Steps P m (lone fr' (cs' ++ cs0) w')) (hb : Below B w w') (h : Kh P T B cs0 (lone fr' (cs' ++ cs0) w') w' s) : Kh P T B cs0 m w s := by
 obtain ⟨μ, a, b, c, h1, h2, h3⟩ := h
 exact ⟨μ, a, b, c, h1, hs.trans h2, hb.trans h3⟩
theorem OutM.pre {m : Machine} {w : World} {fr' : Frame} {cs' : List Frame} {w' : World} {o : Xm} (hs : Steps P m (lone fr' (cs' ++ cs0) w')) (hb : Below B w w') (h : OutM P T B cs0 (lone fr' (cs' ++ cs0) w') w' o) : OutM P T B cs0 m w o := by
 cases o with
 | next s => exact goes_pre hs hb h
 | branch l => obtain ⟨s, hm, h⟩ := h; exact ⟨s, hm, goes_pre hs hb h⟩
 | done f v =>
  obtain ⟨μ, fr2, w2, v', h1, h2, h3⟩ := h
  exact ⟨μ, fr2, w2, v', hs.trans h1, hb.trans h2, h3⟩
 | stuck => exact True.intro
theorem YD {m : Machine} {w : World} {s : ASt} (h : Kh P T B cs0 m w s) (hd : ∀ ops t V base k, s.fr.todo ≠ .inDraw ops t V base :: k) {o : Xm}
  (k : ∀ {μ : Mu} {fr' : Frame} {cs' : List Frame} {w' : World} {lo : Nat}, Pl T B μ s fr' cs' w' lo -> OutM P T B cs0 (lone fr' (cs' ++ cs0) w') w' o) : OutM P T B cs0 m w o := by
 obtain ⟨μ, fr', cs', w', ⟨R, G, lo, hlo, hf, hst⟩, h1, h2⟩ := h
 cases hf with
 | plain hp => exact OutM.pre h1 h2 (k ⟨R, G, hlo, hp, hst⟩)
 | draw core run e1 e2 e3 e4 => exact absurd e1 (hd _ _ _ _ _)
theorem put_todo {fr fr1 : Xh} {td : List Xt} {d : Option Tmp} {v : Value} (h : fr.put d v = some fr1) : ({ fr with todo := td } : Xh).put d v = some { fr1 with todo := td } := by
 cases d with
 | none => injection h with h; subst h; rfl
 | some t =>
  have h : (match Nat.blt t fr.nt, tset fr.vars fr.over t v with | true, (vs, ov) => some { fr with vars := vs, over := ov } | false, _ => none) = some fr1 := h
  show (match Nat.blt t fr.nt, tset fr.vars fr.over t v with | true, (vs, ov) => some ({ fr with todo := td, vars := vs, over := ov } : Xh) | false, _ => none) = _
  split at h
  ·rename_i vs ov e1 e2
   injection h with h; subst h
   rfl
  ·cases h
theorem put_mode {fr fr1 : Xh} {d : Option Tmp} {v : Value} (h : fr.put d v = some fr1) : fr1.mode = fr.mode := by
 cases d with
 | none => injection h with h; subst h; rfl
 | some t => rw [(put_some h).1]
theorem fRegs_ok (C : Xy P T) {ops : Array Oper} {k : List Xt} : ∀ (rest : List Oper) {s : ASt} {μ : Mu} {fr' : Frame} {cs' : List Frame} {w : World} {lo : Nat}, s.fr.mode = .run ->
  Pl T B μ { s with fr := { s.fr with todo := .inRegion ops rest :: k } } fr' cs' w lo -> OutM P T B cs0 (lone fr' (cs' ++ cs0) w) w (X0 T ops k rest s) := by
 intro rest
 induction rest with
 | nil =>
  intro s μ fr' cs' w lo run h
  exact (aExec_plain C h run).toM
 | cons o r ih =>
  intro s μ fr' cs' w lo run h
  have h1 : OutM P T B cs0 (lone fr' (cs' ++ cs0) w) w (aOper T { s with fr := { s.fr with todo := .inRegion ops (o :: r) :: k } } ops o) := (aExec_plain C h run).toM
  -- a value was laid down: on with the rest
  have on : ∀ {v : Value} {A : Xd} {fr1 : Xh}, s.fr.put o.dst v = some fr1 -> aOper T { s with fr := { s.fr with todo := .inRegion ops (o :: r) :: k } } ops o = apVal { s with fr := { s.fr with todo := .inRegion ops (o :: r) :: k } } v A ->
    OutM P T B cs0 (lone fr' (cs' ++ cs0) w) w (X0 T ops k r { s with fr := fr1, A := A }) := by
   intro v A fr1 hp he
   rw [he] at h1
   have hf : ({ s.fr with todo := .inRegion ops (o :: r) :: k } : Xh).finish v = some { fr1 with todo := .inRegion ops r :: k } := put_todo (fr := s.fr) (td := .inRegion ops r :: k) hp
   have h2 : OutM P T B cs0 (lone fr' (cs' ++ cs0) w) w (.next { s with fr := { fr1 with todo := .inRegion ops r :: k }, A := A }) := by
    have : apVal { s with fr := { s.fr with todo := .inRegion ops (o :: r) :: k } } v A = .next { s with fr := { fr1 with todo := .inRegion ops r :: k }, A := A } := by
     unfold apVal
     rw [hf]
    rw [this] at h1
    exact h1
   refine YD h2 (fun _ _ _ _ _ e => by cases e) fun hpl => ?_
   exact ih (s := { s with fr := fr1, A := A }) (by show fr1.mode = .run; rw [put_mode hp]; exact run) hpl
  unfold X0
  simp only
  have hop : aOper T { s with fr := { s.fr with todo := .inRegion ops (o :: r) :: k } } ops o = (match Kd s.fr ops.toList o with
   | some true => (match aop T s.A (Xn T.nglob s.fr.vars s.fr.over) o.op with | some r' => Yv T { s with fr := { s.fr with todo := .inRegion ops (o :: r) :: k } } r' | none => .stuck)
   | some false => (match ({ s.fr with todo := .inRegion ops (o :: r) :: k } : Xh).finish undef with | some fr => .next { s with fr := fr } | none => .stuck)
   | none => .stuck) := rfl
  split
  ·rename_i hw
   split
   ·rename_i v A ha
    split
    ·rename_i fr1 hp
     refine on hp ?_
     rw [hop, hw, ha]; rfl
    ·exact True.intro
   ·rename_i A ha
    split
    ·rename_i fr1 hp
     refine on hp ?_
     rw [hop, hw, ha]; rfl
    ·exact True.intro
   ·rename_i res hn1 hn2 ha
    rw [hop, hw, ha] at h1
    exact h1
   ·exact True.intro
  ·rename_i hw
   split
   ·rename_i fr1 hp
    have := on (A := s.A) hp (by
     rw [hop, hw]
     unfold apVal
     rfl)
    exact this
   ·exact True.intro
  ·exact True.intro
theorem fCode_ok (C : Xy P T) : ∀ (c : Code) {s : ASt} {k : List Xt} {μ : Mu} {fr' : Frame} {cs' : List Frame} {w : World} {lo : Nat}, s.fr.mode = .run ->
  Pl T B μ { s with fr := { s.fr with todo := .code c :: k } } fr' cs' w lo -> OutM P T B cs0 (lone fr' (cs' ++ cs0) w) w (fCode T c s k) := by
 intro c
 have one : ∀ {c : Code} {s : ASt} {k : List Xt} {μ : Mu} {fr' : Frame} {cs' : List Frame} {w : World} {lo : Nat}, s.fr.mode = .run -> Pl T B μ { s with fr := { s.fr with todo := .code c :: k } } fr' cs' w lo ->
   OutM P T B cs0 (lone fr' (cs' ++ cs0) w) w (aCode T { s with fr := { s.fr with todo := .code c :: k } } c k) := fun run h => (aExec_plain C h run).toM
 induction c with
 | seq a b iha ihb =>
  intro s k μ fr' cs' w lo run h
  exact YD (one run h) (fun _ _ _ _ _ e => by cases e) fun hpl => iha run hpl
 | cond x a b iha ihb =>
  intro s k μ fr' cs' w lo run h
  have h1 := one run h
  have he : aCode T { s with fr := { s.fr with todo := .code (.cond x a b) :: k } } (.cond x a b) k = (match Xn T.nglob s.fr.vars s.fr.over x with
   | some (.bool true) => toS { s with fr := { s.fr with todo := .code (.cond x a b) :: k } } (.code a :: k) | some (.bool false) => toS { s with fr := { s.fr with todo := .code (.cond x a b) :: k } } (.code b :: k) | _ => .stuck) := rfl
  rw [he] at h1
  show OutM P T B cs0 _ w (match Xn T.nglob s.fr.vars s.fr.over x with | some (.bool true) => fCode T a s k | some (.bool false) => fCode T b s k | _ => .stuck)
  split
  ·rename_i hx
   rw [hx] at h1
   exact YD h1 (fun _ _ _ _ _ e => by cases e) fun hpl => iha run hpl
  ·rename_i hx
   rw [hx] at h1
   exact YD h1 (fun _ _ _ _ _ e => by cases e) fun hpl => ihb run hpl
  ·exact True.intro
 | block id b ih =>
  intro s k μ fr' cs' w lo run h
  exact YD (one run h) (fun _ _ _ _ _ e => by cases e) fun hpl => ih run hpl
 | loop b ih =>
  intro s k μ fr' cs' w lo run h
  exact YD (one run h) (fun _ _ _ _ _ e => by cases e) fun hpl => ih run hpl
 | scope b ih =>
  intro s k μ fr' cs' w lo run h
  exact YD (one run h) (fun _ _ _ _ _ e => by cases e) fun hpl => ih run hpl
 | region id ops draw =>
  intro s k μ fr' cs' w lo run h
  cases draw with
  | true => exact one run h
  | false =>
   refine YD (one run h) (fun _ _ _ _ _ e => by cases e) fun hpl => ?_
   exact fRegs_ok C ops.toList (s := { s with fr := { s.fr with over := YH s.fr.over } }) run hpl
 | _ => intro s k μ fr' cs' w lo run h; exact one run h
theorem fstep_ok (C : Xy P T) {μ : Mu} {s : ASt} {fr' : Frame} {cs' : List Frame} {w : World} (h : SRel T B μ s fr' cs' w) : OutM P T B cs0 (lone fr' (cs' ++ cs0) w) w (Kl T s) := by
 have h0 := h
 obtain ⟨R, G, lo, hlo, hf, hst⟩ := h
 unfold Kl
 split
 ·rename_i run
  have hplain : (∀ ops t V base k, s.fr.todo ≠ .inDraw ops t V base :: k) -> Pl T B μ s fr' cs' w lo := by
   intro hd
   cases hf with
   | plain hp => exact ⟨R, G, hlo, hp, hst⟩
   | draw core run e1 => exact absurd e1 (hd _ _ _ _ _)
  have hexec : OutM P T B cs0 (lone fr' (cs' ++ cs0) w) w (aExec T s) := by
   have := (astep_ok (cs0 := cs0) C h0).toM
   unfold astep at this
   rw [run] at this
   exact this
  have same : ∀ {td : List Xt}, s.fr.todo = td -> ({ s with fr := { s.fr with todo := td } } : ASt) = s := by
   intro td e; subst e; rfl
  unfold fExec
  split
  ·rename_i c k ht
   have hp := hplain (by rw [ht]; intro _ _ _ _ _ e; cases e)
   exact fCode_ok C c run (by rw [same ht]; exact hp)
  ·rename_i ops rest k ht
   have hp := hplain (by rw [ht]; intro _ _ _ _ _ e; cases e)
   exact fRegs_ok C rest run (by rw [same ht]; exact hp)
  ·rename_i id c k ht
   have he : aExec T s = toS s (.code c :: k) := by unfold aExec; rw [ht]; rfl
   rw [he] at hexec
   exact YD hexec (fun _ _ _ _ _ e => by cases e) fun hpl => fCode_ok C c run hpl
  ·rename_i b k ht
   have he : aExec T s = toS s (.code b :: .inLoop b :: k) := by unfold aExec; rw [ht]; rfl
   rw [he] at hexec
   exact YD hexec (fun _ _ _ _ _ e => by cases e) fun hpl => fCode_ok C b run hpl
  ·exact hexec
 ·rename_i hn
  have := (astep_ok (cs0 := cs0) C h0).toM
  unfold astep at this
  split at this
  ·rename_i run; exact absurd run hn
  ·exact this
end
section
section
variable {R : Type}
def vIntK (v : Value) : (IntKind -> Int -> R) -> R -> R :=
  Value.rec (motive_1 := fun _ => (IntKind -> Int -> R) -> R -> R) (motive_2 := fun _ => Unit) (motive_3 := fun _ => Unit)
    (fun _ _ d => d) (fun k n f _ => f k n) (fun _ _ _ d => d) (fun _ _ _ _ d => d) (fun _ _ d => d) (fun _ _ d => d) (fun _ _ _ _ d => d) (fun _ _ d => d) (fun _ _ d => d)
    (fun _ _ _ _ _ _ d => d) (fun _ d => d) (fun _ _ _ _ d => d) (fun _ d => d) (fun _ _ _ d => d) (fun _ _ _ d => d) (fun _ _ => ()) () (fun _ _ _ _ => ()) v
theorem vIntK_case (v : Value) (f : IntKind -> Int -> R) (d : R) : (∃ k n, v = .int k n /\ vIntK v f d = f k n) \/ vIntK v f d = d := by
  cases v <;> first | exact .inr rfl | exact .inl ⟨_, _, rfl, rfl⟩
def vBoolK (v : Value) : (Bool -> R) -> R -> R :=
  Value.rec (motive_1 := fun _ => (Bool -> R) -> R -> R) (motive_2 := fun _ => Unit) (motive_3 := fun _ => Unit)
    (fun b f _ => f b) (fun _ _ _ d => d) (fun _ _ _ d => d) (fun _ _ _ _ d => d) (fun _ _ d => d) (fun _ _ d => d) (fun _ _ _ _ d => d) (fun _ _ d => d) (fun _ _ d => d)
    (fun _ _ _ _ _ _ d => d) (fun _ d => d) (fun _ _ _ _ d => d) (fun _ d => d) (fun _ _ _ d => d) (fun _ _ _ d => d) (fun _ _ => ()) () (fun _ _ _ _ => ()) v
theorem vBoolK_case (v : Value) (f : Bool -> R) (d : R) : (∃ b, v = .bool b /\ vBoolK v f d = f b) \/ vBoolK v f d = d := by
  cases v <;> first | exact .inr rfl | exact .inl ⟨_, rfl, rfl⟩
def aK (a : Option Addr) (f : Nat -> Nat -> R) (d : R) : R :=
  Option.rec (motive := fun _ => R) d (fun p => Addr.rec (motive := fun _ => R) (fun b o s => Option.rec (motive := fun _ => R) (f b o) (fun _ => d) s) p) a
theorem aK_case (a : Option Addr) (f : Nat -> Nat -> R) (d : R) : (∃ b o, a = some ⟨b, o, none⟩ /\ aK a f d = f b o) \/ aK a f d = d := by
  rcases a with _ | ⟨b, o, _ | s⟩
  · exact .inr rfl
  · exact .inl ⟨_, _, rfl, rfl⟩
  · exact .inr rfl
def vPtrK (v : Value) : (Nat -> Nat -> R) -> R -> R :=
  Value.rec (motive_1 := fun _ => (Nat -> Nat -> R) -> R -> R) (motive_2 := fun _ => Unit) (motive_3 := fun _ => Unit)
    (fun _ _ d => d) (fun _ _ _ d => d) (fun _ _ _ d => d) (fun _ _ _ _ d => d) (fun _ _ d => d) (fun a f d => aK a f d) (fun _ _ _ _ d => d) (fun _ _ d => d) (fun _ _ d => d)
    (fun _ _ _ _ _ _ d => d) (fun _ d => d) (fun _ _ _ _ d => d) (fun _ d => d) (fun _ _ _ d => d) (fun _ _ _ d => d) (fun _ _ => ()) () (fun _ _ _ _ => ()) v
theorem vPtrK_case (v : Value) (f : Nat -> Nat -> R) (d : R) : (∃ b o, v = .pointer (some ⟨b, o, none⟩) /\ vPtrK v f d = f b o) \/ vPtrK v f d = d := by
  cases v
  case pointer a =>
    rcases aK_case a f d with ⟨b, o, rfl, e⟩ | e
    · exact .inl ⟨b, o, rfl, e⟩
    · exact .inr e
  all_goals exact .inr rfl
def vSlK (v : Value) : (Option Addr -> Nat -> Nat -> R) -> R -> R :=
  Value.rec (motive_1 := fun _ => (Option Addr -> Nat -> Nat -> R) -> R -> R) (motive_2 := fun _ => Unit) (motive_3 := fun _ => Unit)
    (fun _ _ d => d) (fun _ _ _ d => d) (fun _ _ _ d => d) (fun _ _ _ _ d => d) (fun _ _ d => d) (fun _ _ d => d) (fun a n c f _ => f a n c) (fun _ _ d => d) (fun _ _ d => d)
    (fun _ _ _ _ _ _ d => d) (fun _ d => d) (fun _ _ _ _ d => d) (fun _ d => d) (fun _ _ _ d => d) (fun _ _ _ d => d) (fun _ _ => ()) () (fun _ _ _ _ => ()) v
theorem vSlK_case (v : Value) (f : Option Addr -> Nat -> Nat -> R) (d : R) : (∃ a n c, v = .slice a n c /\ vSlK v f d = f a n c) \/ vSlK v f d = d := by
  cases v <;> first | exact .inr rfl | exact .inl ⟨_, _, _, rfl, rfl⟩
def vAggK (v : Value) : (List Value -> R) -> R -> R :=
  Value.rec (motive_1 := fun _ => (List Value -> R) -> R -> R) (motive_2 := fun _ => Unit) (motive_3 := fun _ => Unit)
    (fun _ _ d => d) (fun _ _ _ d => d) (fun _ _ _ d => d) (fun _ _ _ _ d => d) (fun _ _ d => d) (fun _ _ d => d) (fun _ _ _ _ d => d) (fun _ _ d => d) (fun _ _ d => d)
    (fun _ _ _ _ _ _ d => d) (fun _ d => d) (fun _ _ _ _ d => d) (fun _ d => d) (fun a _ f _ => f a.toList) (fun _ _ _ d => d) (fun _ _ => ()) () (fun _ _ _ _ => ()) v
theorem vAggK_case (v : Value) (f : List Value -> R) (d : R) : (∃ l, v = .agg ⟨l⟩ /\ vAggK v f d = f l) \/ vAggK v f d = d := by
  cases v <;> first | exact .inr rfl | exact .inl ⟨_, rfl, rfl⟩
def vTupK (v : Value) : (List Value -> R) -> R -> R :=
  Value.rec (motive_1 := fun _ => (List Value -> R) -> R -> R) (motive_2 := fun _ => Unit) (motive_3 := fun _ => Unit)
    (fun _ _ d => d) (fun _ _ _ d => d) (fun _ _ _ d => d) (fun _ _ _ _ d => d) (fun _ _ d => d) (fun _ _ d => d) (fun _ _ _ _ d => d) (fun _ _ d => d) (fun _ _ d => d)
    (fun _ _ _ _ _ _ d => d) (fun _ d => d) (fun _ _ _ _ d => d) (fun _ d => d) (fun _ _ _ d => d) (fun a _ f _ => f a.toList) (fun _ _ => ()) () (fun _ _ _ _ => ()) v
theorem vTupK_case (v : Value) (f : List Value -> R) (d : R) : (∃ l, v = .tuple ⟨l⟩ /\ vTupK v f d = f l) \/ vTupK v f d = d := by
  cases v <;> first | exact .inr rfl | exact .inl ⟨_, rfl, rfl⟩
def v1K (v : Value) : R -> R -> R :=
  Value.rec (motive_1 := fun _ => R -> R -> R) (motive_2 := fun _ => Unit) (motive_3 := fun _ => Unit)
    (fun _ f _ => f) (fun _ _ f _ => f) (fun _ _ _ d => d) (fun _ _ _ _ d => d) (fun _ f _ => f) (fun _ f _ => f) (fun _ _ _ f _ => f) (fun _ f _ => f) (fun _ _ d => d)
    (fun _ _ _ _ _ f _ => f) (fun f _ => f) (fun _ _ _ f _ => f) (fun f _ => f) (fun _ _ _ d => d) (fun _ _ _ d => d) (fun _ _ => ()) () (fun _ _ _ _ => ()) v
def oK {α : Type} (o : Option α) (f : α -> R) (d : R) : R := Option.rec (motive := fun _ => R) d f o
def nK (n : Int) (f : Nat -> R) (d : R) : R := Int.rec (motive := fun _ => R) f (fun _ => d) n
def bK (b : Bool) (f d : R) : R := Bool.rec (motive := fun _ => R) d f b
def cellsK (o : Xg) : (List Value -> R) -> R -> R :=
  Xg.rec (motive := fun _ => (List Value -> R) -> R -> R) (fun xs _ f _ => f xs) (fun _ _ _ d => d) (fun _ _ d => d) (fun _ _ _ d => d) (fun _ _ _ _ _ d => d) (fun _ _ d => d) (fun _ _ d => d) o
def ckK (k : CK) : R -> R -> R := CK.rec (motive := fun _ => R -> R -> R) (fun ro f d => Bool.rec (motive := fun _ => R) f d ro) (fun _ _ d => d) (fun _ d => d) k
def fixedK (o : Xg) : (List Value -> R) -> R -> R :=
  Xg.rec (motive := fun _ => (List Value -> R) -> R -> R) (fun xs k f d => ckK k (f xs) d) (fun _ _ _ d => d) (fun _ _ d => d) (fun _ _ _ d => d) (fun _ _ _ _ _ d => d) (fun _ _ d => d) (fun _ _ d => d) o
theorem fixedK_case (o : Xg) (f : List Value -> R) (d : R) : (∃ xs, o = .cells xs (.fixed false) /\ fixedK o f d = f xs) \/ fixedK o f d = d := by
  rcases o with ⟨xs, ⟨_ | _⟩ | g | _⟩ | _ | _ | _ | _ | _ | _ <;> first | exact .inl ⟨_, rfl, rfl⟩ | exact .inr rfl
theorem cellsK_case (o : Xg) (f : List Value -> R) (d : R) : (∃ xs k, o = .cells xs k /\ cellsK o f d = f xs) \/ cellsK o f d = d := by
  cases o <;> first | exact .inl ⟨_, _, rfl, rfl⟩ | exact .inr rfl
end
def kIdx (k : IntKind) : Nat := IntKind.rec (motive := fun _ => Nat) 0 1 2 3 4 5 6 7 k
theorem kIdx_eq {k k' : IntKind} : Nat.beq (kIdx k) (kIdx k') = decide (k = k') := by cases k <;> cases k' <;> rfl
def wI64 (n : Int) : Int := Int.rec (motive := fun _ => Int) (fun a => Bool.rec (motive := fun _ => Int) (YU .i64 (.ofNat a)) (.ofNat a) (Nat.blt a 9223372036854775808)) (fun a => Bool.rec (motive := fun _ => Int) (YU .i64 (.negSucc a)) (.negSucc a) (Nat.blt a 9223372036854775808)) n
def wUn (k : IntKind) (m : Nat) (n : Int) : Int := Int.rec (motive := fun _ => Int) (fun a => Bool.rec (motive := fun _ => Int) (YU k (.ofNat a)) (.ofNat a) (Nat.blt a m)) (fun a => YU k (.negSucc a)) n
def wrapQ (k : IntKind) : Int -> Int :=
  IntKind.rec (motive := fun _ => Int -> Int) (YU .i8) (YU .i16) (YU .i32) wI64 (wUn .u8 256) (YU .u16) (wUn .u32 4294967296) (wUn .u64 18446744073709551616) k
theorem bool_rec {R : Type} {b : Bool} {x y : R} : Bool.rec (motive := fun _ => R) x y b = match b with | true => y | false => x := by cases b <;> rfl
theorem wrapQ_eq (k : IntKind) (n : Int) : wrapQ k n = YU k n := by
  cases k <;> try rfl
  all_goals
    cases n <;> first
    | rfl
    | (rename_i a
       show (Bool.rec (motive := fun _ => Int) _ _ (Nat.blt a _)) = _
       rw [bool_rec]
       split
       · rename_i h; simp only [YU, fits, h]
       · rfl)
def iAddQ (x : Int) : Int -> Int :=
  Int.rec (motive := fun _ => Int -> Int) (fun a y => Int.rec (motive := fun _ => Int) (fun b => .ofNat (Nat.add a b)) (fun b => Int.add (.ofNat a) (.negSucc b)) y) (fun a y => Int.add (.negSucc a) y) x
theorem iAddQ_eq (x y : Int) : iAddQ x y = Int.add x y := by cases x <;> cases y <;> rfl
def iSubQ (x : Int) : Int -> Int :=
  Int.rec (motive := fun _ => Int -> Int) (fun a y => Int.rec (motive := fun _ => Int) (fun b => Bool.rec (motive := fun _ => Int) (.negSucc (Nat.pred (Nat.sub b a))) (.ofNat (Nat.sub a b)) (Nat.ble b a)) (fun b => Int.sub (.ofNat a) (.negSucc b)) y) (fun a y => Int.sub (.negSucc a) y) x
theorem iSubQ_eq (x y : Int) : iSubQ x y = Int.sub x y := by
  cases x <;> cases y <;> try rfl
  rename_i a b
  show (Bool.rec (motive := fun _ => Int) _ _ (Nat.ble b a)) = Int.ofNat a - Int.ofNat b
  rw [bool_rec]
  split
  · rename_i h
    have := Nat.le_of_ble_eq_true h
    show ((a - b : Nat) : Int) = (a : Int) - (b : Int)
    omega
  · rename_i h
    have : ¬ b <= a := fun hh => by rw [Nat.ble_eq_true_of_le hh] at h; cases h
    show Int.negSucc (b - a - 1) = (a : Int) - (b : Int)
    omega
def iLtQ (x : Int) : Int -> Bool :=
  Int.rec (motive := fun _ => Int -> Bool) (fun a y => Int.rec (motive := fun _ => Bool) (fun b => Nat.blt a b) (fun _ => false) y) (fun a y => Int.rec (motive := fun _ => Bool) (fun _ => true) (fun b => Nat.blt b a) y) x
theorem iLtQ_eq (x y : Int) : iLtQ x y = iLt x y := by cases x <;> cases y <;> rfl
def iLeQ (x : Int) : Int -> Bool :=
  Int.rec (motive := fun _ => Int -> Bool) (fun a y => Int.rec (motive := fun _ => Bool) (fun b => Nat.ble a b) (fun _ => false) y) (fun a y => Int.rec (motive := fun _ => Bool) (fun _ => true) (fun b => Nat.ble b a) y) x
theorem iLeQ_eq (x y : Int) : iLeQ x y = iLe x y := by cases x <;> cases y <;> rfl
def iEqQ (x : Int) : Int -> Bool :=
  Int.rec (motive := fun _ => Int -> Bool) (fun a y => Int.rec (motive := fun _ => Bool) (fun b => Nat.beq a b) (fun _ => false) y) (fun a y => Int.rec (motive := fun _ => Bool) (fun _ => false) (fun b => Nat.beq a b) y) x
theorem iEqQ_eq (x y : Int) : iEqQ x y = iEq x y := by cases x <;> cases y <;> rfl
structure F2 where
  go : IntKind -> Int -> IntKind -> Int -> (Value -> Xm) -> Xm -> Xm
def same2 (f : IntKind -> Int -> Int -> Value) : F2 := ⟨fun k a k' b K d => bK (Nat.beq (kIdx k) (kIdx k')) (K (f k a b)) d⟩
def same2o (f : IntKind -> Int -> Int -> Option Value) : F2 := ⟨fun k a k' b K d => bK (Nat.beq (kIdx k) (kIdx k')) (oK (f k a b) K d) d⟩
def cBinI (op : BinOp) : F2 :=
  match op with
  | .add => same2 fun k x y => .int k (wrapQ k (iAddQ x y))
  | .sub => same2 fun k x y => .int k (wrapQ k (iSubQ x y))
  | .eql => same2 fun _ x y => .bool (iEqQ x y)
  | .neq => same2 fun _ x y => .bool (!(iEqQ x y))
  | .lss => same2 fun _ x y => .bool (iLtQ x y)
  | .leq => same2 fun _ x y => .bool (iLeQ x y)
  | .gtr => same2 fun _ x y => .bool (iLtQ y x)
  | .geq => same2 fun _ x y => .bool (iLeQ y x)
  | .and => same2o (bitsF .and)
  | .or => same2o (bitsF .or)
  | .xor => same2o (bitsF .xor)
  | .mul => same2o (arithF .mul)
  | .quo => same2o (arithF .quo)
  | .rem => same2o (arithF .rem)
  | op => ⟨fun k a k' b K d => oK (intF op k a k' b) K d⟩
theorem cBinI_eq (op : BinOp) (k k' : IntKind) (a b : Int) (K : Value -> Xm) (d : Xm) : (cBinI op).go k a k' b K d = oK (intF op k a k' b) K d := by
  have key : ∀ {f : IntKind -> Int -> Int -> Value}, (match decide (k = k') with | false => none | true => some (f k a b)) = intF op k a k' b -> (same2 f).go k a k' b K d = oK (intF op k a k' b) K d := by
    intro f h
    rw [← h]
    show (Bool.rec (motive := fun _ => Xm) _ _ (Nat.beq (kIdx k) (kIdx k'))) = _
    rw [kIdx_eq]
    cases decide (k = k') <;> rfl
  have key2 : ∀ {f : IntKind -> Int -> Int -> Option Value}, (match decide (k = k') with | false => none | true => f k a b) = intF op k a k' b -> (same2o f).go k a k' b K d = oK (intF op k a k' b) K d := by
    intro f h
    rw [← h]
    show (Bool.rec (motive := fun _ => Xm) _ _ (Nat.beq (kIdx k) (kIdx k'))) = _
    rw [kIdx_eq]
    cases decide (k = k') <;> rfl
  cases op
  case add => exact key (by simp only [wrapQ_eq, iAddQ_eq]; rfl)
  case sub => exact key (by simp only [wrapQ_eq, iSubQ_eq]; rfl)
  case eql => exact key (by simp only [iEqQ_eq]; rfl)
  case neq => exact key (by simp only [iEqQ_eq]; rfl)
  case lss => exact key (by simp only [iLtQ_eq]; rfl)
  case leq => exact key (by simp only [iLeQ_eq]; rfl)
  case gtr => exact key (by simp only [iLtQ_eq]; rfl)
  case geq => exact key (by simp only [iLeQ_eq]; rfl)
  case and => exact key2 rfl
  case or => exact key2 rfl
  case xor => exact key2 rfl
  case mul => exact key2 rfl
  case quo => exact key2 rfl
  case rem => exact key2 rfl
  all_goals rfl
structure Rd where
  get : List (Option Value) -> List (Nat × Value) -> (Value -> Xm) -> Xm -> Xm
def tgK (o : Option (Option Value)) (over : List (Nat × Value)) (t : Nat) (f : Value -> Xm) (d : Xm) : Xm :=
  Option.rec (motive := fun _ => Xm) (oK (Xp over t) f d) (fun a => oK a f d) o
def cRd (T : Tab) (x : Operand) : Rd :=
  match x with
  | .tmp t => ⟨fun vars over f d => tgK (nth vars t) over t f d⟩
  | .const v => (match X5 v with | true => ⟨fun _ _ f _ => f v⟩ | false => ⟨fun _ _ _ d => d⟩)
  | .global g => (match Nat.blt g T.nglob with | true => ⟨fun _ _ f _ => f (.pointer (some ⟨g, 0, none⟩))⟩ | false => ⟨fun _ _ _ d => d⟩)
  | .func g => ⟨fun _ _ f _ => f (.func (.func g) #[] #[])⟩
theorem YS (T : Tab) (x : Operand) (vars : List (Option Value)) (over : List (Nat × Value)) (f : Value -> Xm) (d : Xm) : (cRd T x).get vars over f d = oK (Xn T.nglob vars over x) f d := by
  cases x with
  | tmp t =>
    show tgK (nth vars t) over t f d = oK (Yl vars over t) f d
    unfold Yl
    cases nth vars t <;> rfl
  | const v =>
    show (match X5 v with | true => (⟨fun _ _ f _ => f v⟩ : Rd) | false => ⟨fun _ _ _ d => d⟩).get vars over f d = oK (match X5 v with | true => some v | false => none) f d
    cases X5 v <;> rfl
  | global g =>
    show (match Nat.blt g T.nglob with | true => (⟨fun _ _ f _ => f (.pointer (some ⟨g, 0, none⟩))⟩ : Rd) | false => ⟨fun _ _ _ d => d⟩).get vars over f d = oK (match Nat.blt g T.nglob with | true => some (.pointer (some ⟨g, 0, none⟩)) | false => none) f d
    cases Nat.blt g T.nglob <;> rfl
  | func g => rfl
structure XL where
  run : List (Option Value) -> List (Nat × Value) -> (List Value -> Xm) -> Xm -> Xm
def cArgs (T : Tab) (xs : List Operand) : XL :=
  List.rec (motive := fun _ => XL) ⟨fun _ _ f _ => f []⟩ (fun x _ r => ⟨fun vars over f d => (cRd T x).get vars over (fun v => r.run vars over (fun l => f (v :: l)) d) d⟩) xs
theorem cArgs_eq (T : Tab) (vars : List (Option Value)) (over : List (Nat × Value)) : ∀ (xs : List Operand) (f : List Value -> Xm) (d : Xm), (cArgs T xs).run vars over f d = oK (evL (Xn T.nglob vars over) xs) f d := by
  intro xs
  induction xs with
  | nil => intro f d; rfl
  | cons x xs ih =>
    intro f d
    show (cRd T x).get vars over (fun v => (cArgs T xs).run vars over (fun l => f (v :: l)) d) d = _
    rw [YS, evL_cons]
    cases Xn T.nglob vars over x with
    | none => rfl
    | some v =>
      show (cArgs T xs).run vars over (fun l => f (v :: l)) d = _
      rw [ih]
      cases evL (Xn T.nglob vars over) xs <;> rfl
def Yb (r : Option XH) (K : Value -> Xd -> Xm) (En : FuncId -> List Value -> Xm) (Ot : XH -> Xm) : Xm :=
  match r with
  | some (.val v A) => K v A
  | some (.skip A) => K undef A
  | some (.enter f a) => En f a
  | some r => Ot r
  | none => .stuck
structure XO where
  run : List (Option Value) -> List (Nat × Value) -> Xd -> (Value -> Xd -> Xm) -> (FuncId -> List Value -> Xm) -> Xm -> Xm
def XO.Ok (T : Tab) (o : Op) (X : XO) : Prop :=
  ∀ vars over A K En Ot, X.run vars over A K En (Yb (aop T A (Xn T.nglob vars over) o) K En Ot) = Yb (aop T A (Xn T.nglob vars over) o) K En Ot
def arK (r : Option XH) (K : Value -> Xd -> Xm) (En : FuncId -> List Value -> Xm) (S : Xm) : Xm :=
  Option.rec (motive := fun _ => Xm) S (fun res => XH.rec (motive := fun _ => (Value -> Xd -> Xm) -> (FuncId -> List Value -> Xm) -> Xm -> Xm)
    (fun v A K _ _ => K v A) (fun A K _ _ => K undef A) (fun f a _ En _ => En f a) (fun _ _ _ S => S) (fun _ _ S => S) (fun _ _ _ S => S) (fun _ _ _ _ _ _ S => S) (fun _ _ _ S => S) res K En S) r
theorem arK_eq (r : Option XH) (K : Value -> Xd -> Xm) (En : FuncId -> List Value -> Xm) (Ot : XH -> Xm) : arK r K En (Yb r K En Ot) = Yb r K En Ot := by
  rcases r with _ | res
  · rfl
  · cases res <;> rfl
def xGen (r : List (Option Value) -> List (Nat × Value) -> Xd -> Option XH) : XO := ⟨fun vars over A K En S => arK (r vars over A) K En S⟩
theorem Kt {T : Tab} {o : Op} {r : List (Option Value) -> List (Nat × Value) -> Xd -> Option XH} (h : ∀ vars over A, r vars over A = aop T A (Xn T.nglob vars over) o) : (xGen r).Ok T o := by
  intro vars over A K En Ot
  show arK (r vars over A) K En _ = _
  rw [h]
  exact arK_eq _ _ _ _
theorem Y9 {r : Option XH} {v : Value} {A : Xd} {K : Value -> Xd -> Xm} {En : FuncId -> List Value -> Xm} {Ot : XH -> Xm} (h : r = some (.val v A)) : K v A = Yb r K En Ot := by rw [h]; rfl
theorem disp_skip {r : Option XH} {A : Xd} {K : Value -> Xd -> Xm} {En : FuncId -> List Value -> Xm} {Ot : XH -> Xm} (h : r = some (.skip A)) : K undef A = Yb r K En Ot := by rw [h]; rfl
theorem disp_enter {r : Option XH} {f : FuncId} {l : List Value} {K : Value -> Xd -> Xm} {En : FuncId -> List Value -> Xm} {Ot : XH -> Xm} (h : r = some (.enter f l)) : En f l = Yb r K En Ot := by rw [h]; rfl
def kv (A : Xd) (K : Value -> Xd -> Xm) (v : Value) : Xm := K v A
def xMove (T : Tab) (x : Operand) : XO := ⟨fun vars over A K _ S => (cRd T x).get vars over (kv A K) S⟩
theorem xMove_ok {T : Tab} {x : Operand} {o : Op} (h : ∀ A ev, aop T A ev o = rp A (ev x)) : (xMove T x).Ok T o := by
  intro vars over A K En Ot
  show (cRd T x).get vars over (kv A K) _ = _
  rw [YS]
  cases he : Xn T.nglob vars over x with
  | none => rfl
  | some v => exact Y9 (by rw [h, he]; rfl)
theorem take1 : ∀ (xs : List Value) (off : Nat), YP (Xf xs off) 1 = match nth xs off with | some x => some [x] | none => none
  | [], off => by cases off <;> rfl
  | x :: xs, 0 => by
    show Option.rec (motive := fun _ => Option (List Value)) none (fun r => some (x :: r)) (YP xs 0) = _
    have : YP xs 0 = some [] := by cases xs <;> rfl
    rw [this]
    rfl
  | x :: xs, off + 1 => take1 xs off
def ldX (off : Nat) (A : Xd) (K : Value -> Xd -> Xm) (S : Xm) (xs : List Value) : Xm := oK (nth xs off) (kv A K) S
def ldO (off : Nat) (A : Xd) (K : Value -> Xd -> Xm) (S : Xm) (o : Xg) : Xm := cellsK o (ldX off A K S) S
def ldP (A : Xd) (K : Value -> Xd -> Xm) (S : Xm) (b off : Nat) : Xm := oK (A.heap.get b) (ldO off A K S) S
def ldV (A : Xd) (K : Value -> Xd -> Xm) (S : Xm) (p : Value) : Xm := vPtrK p (ldP A K S) S
def kag (A : Xd) (K : Value -> Xd -> Xm) (ys : List Value) : Xm := K (.agg ⟨ys⟩) A
def laX (n off : Nat) (A : Xd) (K : Value -> Xd -> Xm) (S : Xm) (xs : List Value) : Xm := oK (YP (Xf xs off) n) (kag A K) S
def laO (n off : Nat) (A : Xd) (K : Value -> Xd -> Xm) (S : Xm) (o : Xg) : Xm := cellsK o (laX n off A K S) S
def laP (n : Nat) (A : Xd) (K : Value -> Xd -> Xm) (S : Xm) (b off : Nat) : Xm := oK (A.heap.get b) (laO n off A K S) S
def laV (n : Nat) (A : Xd) (K : Value -> Xd -> Xm) (S : Xm) (p : Value) : Xm := vPtrK p (laP n A K S) S
def xLoad (T : Tab) (t : TypeId) (a : Operand) : XO :=
  match T.ty.get t with
  | some ti => (match isAggD ti.desc with
    | true => ⟨fun vars over A K _ S => (cRd T a).get vars over (laV ti.size A K S) S⟩
    | false => ⟨fun vars over A K _ S => (cRd T a).get vars over (ldV A K S) S⟩)
  | none => xGen fun vars over A => aoLoad T A (Xn T.nglob vars over) t a
theorem xLoad_ok {T : Tab} {t : TypeId} {a : Operand} : (xLoad T t a).Ok T (.load t a) := by
  unfold xLoad
  split
  case h_2 => exact Kt fun _ _ _ => rfl
  rename_i ti ht
  split
  · rename_i hagg
    intro vars over A K En Ot
    show (cRd T a).get vars over _ _ = _
    rw [YS]
    cases he : Xn T.nglob vars over a with
    | none => rfl
    | some p =>
      show vPtrK p _ _ = _
      rcases vPtrK_case p (laP ti.size A K (Yb (aop T A (Xn T.nglob vars over) (.load t a)) K En Ot)) (Yb (aop T A (Xn T.nglob vars over) (.load t a)) K En Ot) with ⟨b, off, rfl, e⟩ | e
      · rw [e]
        unfold laP
        cases ho : A.heap.get b with
        | none => rfl
        | some o =>
          show cellsK o _ _ = _
          rcases cellsK_case o (laX ti.size off A K (Yb (aop T A (Xn T.nglob vars over) (.load t a)) K En Ot)) (Yb (aop T A (Xn T.nglob vars over) (.load t a)) K En Ot) with ⟨xs, k, rfl, e⟩ | e
          · rw [e]
            unfold laX
            cases hx : YP (Xf xs off) ti.size with
            | none => rfl
            | some ys =>
              refine Y9 ?_
              show aoLoad T A (Xn T.nglob vars over) t a = _
              unfold aoLoad
              rw [he]
              simp only [opLoad, ht, hagg, YG, ho, hx]
              rfl
          · exact e
      · exact e
  · rename_i hagg
    intro vars over A K En Ot
    show (cRd T a).get vars over _ _ = _
    rw [YS]
    cases he : Xn T.nglob vars over a with
    | none => rfl
    | some p =>
      show vPtrK p _ _ = _
      rcases vPtrK_case p (ldP A K (Yb (aop T A (Xn T.nglob vars over) (.load t a)) K En Ot)) (Yb (aop T A (Xn T.nglob vars over) (.load t a)) K En Ot) with ⟨b, off, rfl, e⟩ | e
      · rw [e]
        unfold ldP
        cases ho : A.heap.get b with
        | none => rfl
        | some o =>
          show cellsK o _ _ = _
          rcases cellsK_case o (ldX off A K (Yb (aop T A (Xn T.nglob vars over) (.load t a)) K En Ot)) (Yb (aop T A (Xn T.nglob vars over) (.load t a)) K En Ot) with ⟨xs, k, rfl, e⟩ | e
          · rw [e]
            unfold ldX
            cases hx : nth xs off with
            | none => rfl
            | some x =>
              refine Y9 ?_
              show aoLoad T A (Xn T.nglob vars over) t a = _
              unfold aoLoad
              rw [he]
              simp only [opLoad, ht, hagg, YG, ho, take1, hx]
              rfl
          · exact e
      · exact e
theorem v1K_case {R : Type} (v : Value) (f d : R) : (v.oneCell' = true /\ v.cells = #[v] /\ v1K v f d = f) \/ v1K v f d = d := by
  cases v <;> first | exact .inr rfl | exact .inl ⟨rfl, rfl, rfl⟩
def asetF (A : Xd) (b : Nat) (o : Xg) : Xd := Xd.rec (motive := fun _ => Xd) (fun h nx fm => ⟨h.put (some o) b, nx, fm⟩) A
theorem asetF_eq (A : Xd) (b : Nat) (o : Xg) : asetF A b o = { A with heap := A.heap.put (some o) b } := by cases A; rfl
def stY (A : Xd) (K : Value -> Xd -> Xm) (b : Nat) (xs : List Value) : Xm := K undef (asetF A b (.cells xs (.fixed false)))
def stX (v : Value) (A : Xd) (K : Value -> Xd -> Xm) (S : Xm) (b off : Nat) (xs : List Value) : Xm := oK (putN [v] xs off) (stY A K b) S
def stO (v : Value) (A : Xd) (K : Value -> Xd -> Xm) (S : Xm) (b off : Nat) (o : Xg) : Xm := fixedK o (stX v A K S b off) S
def stP (v : Value) (A : Xd) (K : Value -> Xd -> Xm) (S : Xm) (b off : Nat) : Xm := oK (A.heap.get b) (stO v A K S b off) S
def stV (p : Value) (A : Xd) (K : Value -> Xd -> Xm) (S' : Value -> Xm) (v : Value) : Xm := v1K v (vPtrK p (stP v A K (S' v)) (S' v)) (S' v)
def stS (T : Tab) (t : TypeId) (p : Value) (A : Xd) (K : Value -> Xd -> Xm) (En : FuncId -> List Value -> Xm) (S : Xm) (v : Value) : Xm := arK (ru (opStore T A t p v)) K En S
def xStore (T : Tab) (t : TypeId) (a x : Operand) : XO :=
  match T.ty.get t with
  | some ti => (match Nat.beq 1 ti.size with
    | true => ⟨fun vars over A K En S => (cRd T a).get vars over (fun p => (cRd T x).get vars over (stV p A K (stS T t p A K En S)) S) S⟩
    | false => xGen fun vars over A => aoStore T A (Xn T.nglob vars over) t a x)
  | none => xGen fun vars over A => aoStore T A (Xn T.nglob vars over) t a x
theorem xStore_ok {T : Tab} {t : TypeId} {a x : Operand} : (xStore T t a x).Ok T (.store t a x) := by
  unfold xStore
  split
  case h_2 => exact Kt fun _ _ _ => rfl
  rename_i ti ht
  split
  case h_2 => exact Kt fun _ _ _ => rfl
  rename_i hsz
  intro vars over A K En Ot
  show (cRd T a).get vars over _ _ = _
  rw [YS]
  cases ha : Xn T.nglob vars over a with
  | none => rfl
  | some p =>
    show (cRd T x).get vars over _ _ = _
    rw [YS]
    cases hx : Xn T.nglob vars over x with
    | none => rfl
    | some v =>
      have hop : aop T A (Xn T.nglob vars over) (.store t a x) = ru (opStore T A t p v) := by
        show aoStore T A (Xn T.nglob vars over) t a x = _
        unfold aoStore
        rw [ha, hx]
      have hS : stS T t p A K En (Yb (aop T A (Xn T.nglob vars over) (.store t a x)) K En Ot) v = Yb (aop T A (Xn T.nglob vars over) (.store t a x)) K En Ot := by
        unfold stS
        rw [hop]
        exact arK_eq _ _ _ _
      show v1K v (vPtrK p (stP v A K (stS T t p A K En _ v)) (stS T t p A K En _ v)) (stS T t p A K En _ v) = _
      rw [hS]
      rcases v1K_case v (vPtrK p (stP v A K (Yb (aop T A (Xn T.nglob vars over) (.store t a x)) K En Ot)) (Yb (aop T A (Xn T.nglob vars over) (.store t a x)) K En Ot)) (Yb (aop T A (Xn T.nglob vars over) (.store t a x)) K En Ot) with ⟨h1, h2, e⟩ | e
      · rw [e]
        rcases vPtrK_case p (stP v A K (Yb (aop T A (Xn T.nglob vars over) (.store t a x)) K En Ot)) (Yb (aop T A (Xn T.nglob vars over) (.store t a x)) K En Ot) with ⟨b, off, rfl, e⟩ | e
        · rw [e]
          unfold stP
          cases ho : A.heap.get b with
          | none => rfl
          | some o =>
            show fixedK o _ _ = _
            rcases fixedK_case o (stX v A K (Yb (aop T A (Xn T.nglob vars over) (.store t a x)) K En Ot) b off) (Yb (aop T A (Xn T.nglob vars over) (.store t a x)) K En Ot) with ⟨xs, rfl, e⟩ | e
            · rw [e]
              unfold stX
              cases hp : putN [v] xs off with
              | none => rfl
              | some xs' =>
                refine disp_skip ?_
                rw [hop]
                have hl : v.cells.toList = [v] := by rw [h2]
                have hsz' : Nat.beq (len v.cells.toList) ti.size = true := by rw [hl]; exact hsz
                have hones : ones [v] = true := by
                  show (match v.oneCell' with | true => true | false => false) = true
                  rw [h1]
                simp only [opStore, ht, hl, astore, hones, ho, hp, asetF_eq]
                rw [show Nat.beq (len [v]) ti.size = true from hsz]
                rfl
            · exact e
        · exact e
      · exact e
def bnA (A : Xd) (K : Value -> Xd -> Xm) (S' : Xm) (F : F2) (k : IntKind) (a : Int) (u : Value) : Xm := vIntK u (fun k' b => F.go k a k' b (kv A K) S') S'
def bnV (F : F2) (A : Xd) (K : Value -> Xd -> Xm) (S' : Xm) (v u : Value) : Xm := vIntK v (fun k a => bnA A K S' F k a u) S'
def xBin (T : Tab) (op : BinOp) (t : TypeId) (x y : Operand) : XO :=
  ⟨fun vars over A K _ S => (cRd T x).get vars over (fun v => (cRd T y).get vars over (fun u => bnV (cBinI op) A K (oK (opBin T A op t x y v u) (kv A K) S) v u) S) S⟩
theorem xBin_ok {T : Tab} {op : BinOp} {t u : TypeId} {x y : Operand} : (xBin T op t x y).Ok T (.binOp op t x y u) := by
  intro vars over A K En Ot
  show (cRd T x).get vars over _ _ = _
  rw [YS]
  cases hx : Xn T.nglob vars over x with
  | none => rfl
  | some v =>
    show (cRd T y).get vars over _ _ = _
    rw [YS]
    cases hy : Xn T.nglob vars over y with
    | none => rfl
    | some u' =>
      have hop : aop T A (Xn T.nglob vars over) (.binOp op t x y u) = rp A (opBin T A op t x y v u') := by
        show aoBinOp T A (Xn T.nglob vars over) op t x y = _
        unfold aoBinOp
        rw [hx, hy]
      have hS : oK (opBin T A op t x y v u') (kv A K) (Yb (aop T A (Xn T.nglob vars over) (.binOp op t x y u)) K En Ot) = Yb (aop T A (Xn T.nglob vars over) (.binOp op t x y u)) K En Ot := by
        rw [hop]
        cases opBin T A op t x y v u' <;> rfl
      show bnV (cBinI op) A K (oK (opBin T A op t x y v u') (kv A K) (Yb (aop T A (Xn T.nglob vars over) (.binOp op t x y u)) K En Ot)) v u' = _
      unfold bnV
      rcases vIntK_case v (fun k a => bnA A K (oK (opBin T A op t x y v u') (kv A K) (Yb (aop T A (Xn T.nglob vars over) (.binOp op t x y u)) K En Ot)) (cBinI op) k a u') (oK (opBin T A op t x y v u') (kv A K) (Yb (aop T A (Xn T.nglob vars over) (.binOp op t x y u)) K En Ot)) with ⟨k, a, rfl, e⟩ | e
      · rw [e]
        unfold bnA
        rcases vIntK_case u' (fun k' b => (cBinI op).go k a k' b (kv A K) (oK (opBin T A op t x y (.int k a) u') (kv A K) (Yb (aop T A (Xn T.nglob vars over) (.binOp op t x y u)) K En Ot))) (oK (opBin T A op t x y (.int k a) u') (kv A K) (Yb (aop T A (Xn T.nglob vars over) (.binOp op t x y u)) K En Ot)) with ⟨k', b, rfl, e⟩ | e
        · rw [e, cBinI_eq]
          have hb : opBin T A op t x y (.int k a) (.int k' b) = intF op k a k' b := rfl
          rw [hb] at hS ⊢
          cases hi : intF op k a k' b with
          | none => rw [hi] at hS; exact hS
          | some r => rw [hi] at hS; exact hS
        · rw [e]; exact hS
      · rw [e]; exact hS
def faOff (T : Tab) (t : TypeId) (f : Nat) : Option Nat :=
  match T.ty.get t with
  | some { desc := .struct ⟨fs⟩, .. } =>
    (match nth fs f with
      | some fd => (match T.ty.get fd.type with
        | some ti => (match ti.size with | 0 => none | _ + 1 => some fd.offset)
        | none => none)
      | none => none)
  | _ => none
def faP (o : Nat) (A : Xd) (K : Value -> Xd -> Xm) (b off : Nat) : Xm := K (.pointer (some ⟨b, Nat.add off o, none⟩)) A
def faV (o : Nat) (A : Xd) (K : Value -> Xd -> Xm) (S : Xm) (p : Value) : Xm := vPtrK p (faP o A K) S
def xFieldAddr (T : Tab) (t : TypeId) (x : Operand) (f : Nat) : XO :=
  match faOff T t f with
  | some o => ⟨fun vars over A K _ S => (cRd T x).get vars over (faV o A K S) S⟩
  | none => xGen fun vars over A => aoFieldAddr T A (Xn T.nglob vars over) t x f
theorem xFieldAddr_ok {T : Tab} {t : TypeId} {x : Operand} {f : Nat} : (xFieldAddr T t x f).Ok T (.fieldAddr t x f) := by
  unfold xFieldAddr
  split
  case h_2 => exact Kt fun _ _ _ => rfl
  rename_i o ho
  intro vars over A K En Ot
  show (cRd T x).get vars over _ _ = _
  rw [YS]
  cases hx : Xn T.nglob vars over x with
  | none => rfl
  | some p =>
    show vPtrK p _ _ = _
    rcases vPtrK_case p (faP o A K) (Yb (aop T A (Xn T.nglob vars over) (.fieldAddr t x f)) K En Ot) with ⟨b, off, rfl, e⟩ | e
    · rw [e]
      refine Y9 ?_
      show aoFieldAddr T A (Xn T.nglob vars over) t x f = _
      unfold aoFieldAddr
      rw [hx]
      unfold faOff at ho
      split at ho
      case h_2 => cases ho
      rename_i fs _ _ _ _ ht
      split at ho
      case h_2 => cases ho
      rename_i fd hf
      split at ho
      case h_2 => cases ho
      rename_i ti hti
      split at ho
      · cases ho
      · rename_i n hn
        injection ho with ho; subst ho
        simp only [Y4, ht, hf, hti, hn]
        rfl
    · exact e
def iaSz (T : Tab) (t : TypeId) : Option Nat :=
  match T.ty.get t with
  | some { desc := .slice el, .. } => (match T.ty.get el with | some ti => some ti.size | none => none)
  | _ => none
def iaP (sz i n : Nat) (A : Xd) (K : Value -> Xd -> Xm) (S : Xm) (b off : Nat) : Xm := bK (Nat.blt i n) (K (.pointer (some ⟨b, Nat.add off (Nat.mul i sz), none⟩)) A) S
def iaS (sz i : Nat) (A : Xd) (K : Value -> Xd -> Xm) (S : Xm) (a : Option Addr) (n _c : Nat) : Xm := aK a (iaP sz i n A K S) S
def iaN (sz : Nat) (x : Value) (A : Xd) (K : Value -> Xd -> Xm) (S : Xm) (i : Nat) : Xm := vSlK x (iaS sz i A K S) S
def iaV (sz : Nat) (x : Value) (A : Xd) (K : Value -> Xd -> Xm) (S : Xm) (iv : Value) : Xm := vIntK iv (fun _ n => nK n (iaN sz x A K S) S) S
def xIndexAddr (T : Tab) (t : TypeId) (x i : Operand) : XO :=
  match iaSz T t with
  | some sz => ⟨fun vars over A K _ S => (cRd T x).get vars over (fun v => (cRd T i).get vars over (iaV sz v A K S) S) S⟩
  | none => xGen fun vars over A => aoIndexAddr T A (Xn T.nglob vars over) t x i
theorem xIndexAddr_ok {T : Tab} {t : TypeId} {x i : Operand} : (xIndexAddr T t x i).Ok T (.indexAddr t x i) := by
  unfold xIndexAddr
  split
  case h_2 => exact Kt fun _ _ _ => rfl
  rename_i sz hsz
  intro vars over A K En Ot
  show (cRd T x).get vars over _ _ = _
  rw [YS]
  cases hx : Xn T.nglob vars over x with
  | none => rfl
  | some v =>
    show (cRd T i).get vars over _ _ = _
    rw [YS]
    cases hi : Xn T.nglob vars over i with
    | none => rfl
    | some iv =>
      show vIntK iv _ _ = _
      rcases vIntK_case iv (fun _ n => nK n (iaN sz v A K (Yb (aop T A (Xn T.nglob vars over) (.indexAddr t x i)) K En Ot)) (Yb (aop T A (Xn T.nglob vars over) (.indexAddr t x i)) K En Ot)) (Yb (aop T A (Xn T.nglob vars over) (.indexAddr t x i)) K En Ot) with ⟨k, n, rfl, e⟩ | e
      · rw [e]
        cases n with
        | negSucc m => rfl
        | ofNat j =>
          show vSlK v _ _ = _
          rcases vSlK_case v (iaS sz j A K (Yb (aop T A (Xn T.nglob vars over) (.indexAddr t x i)) K En Ot)) (Yb (aop T A (Xn T.nglob vars over) (.indexAddr t x i)) K En Ot) with ⟨a, n, c, rfl, e⟩ | e
          · rw [e]
            unfold iaS
            rcases aK_case a (iaP sz j n A K (Yb (aop T A (Xn T.nglob vars over) (.indexAddr t x i)) K En Ot)) (Yb (aop T A (Xn T.nglob vars over) (.indexAddr t x i)) K En Ot) with ⟨b, off, rfl, e⟩ | e
            · rw [e]
              unfold iaP
              cases hlt : Nat.blt j n with
              | false => rfl
              | true =>
                refine Y9 ?_
                show aoIndexAddr T A (Xn T.nglob vars over) t x i = _
                unfold aoIndexAddr
                rw [hx, hi]
                unfold iaSz at hsz
                split at hsz
                case h_2 => cases hsz
                rename_i el _ _ _ _ ht
                split at hsz
                case h_2 => cases hsz
                rename_i ti hti
                injection hsz with hsz; subst hsz
                simp only [Y3, ht, hti, hlt]
                rfl
            · exact e
          · exact e
      · exact e
def exL (i : Nat) (A : Xd) (K : Value -> Xd -> Xm) (S : Xm) (l : List Value) : Xm := oK (nth l i) (kv A K) S
def exV (i : Nat) (A : Xd) (K : Value -> Xd -> Xm) (S : Xm) (v : Value) : Xm := vTupK v (exL i A K S) S
def xExtract (T : Tab) (x : Operand) (i : Nat) : XO := ⟨fun vars over A K _ S => (cRd T x).get vars over (exV i A K S) S⟩
theorem xExtract_ok {T : Tab} {x : Operand} {i : Nat} : (xExtract T x i).Ok T (.extract x i) := by
  intro vars over A K En Ot
  show (cRd T x).get vars over _ _ = _
  rw [YS]
  cases hx : Xn T.nglob vars over x with
  | none => rfl
  | some v =>
    show vTupK v _ _ = _
    rcases vTupK_case v (exL i A K (Yb (aop T A (Xn T.nglob vars over) (.extract x i)) K En Ot)) (Yb (aop T A (Xn T.nglob vars over) (.extract x i)) K En Ot) with ⟨l, rfl, e⟩ | e
    · rw [e]
      unfold exL
      cases hl : nth l i with
      | none => rfl
      | some u =>
        refine Y9 ?_
        show aoExtract A (Xn T.nglob vars over) x i = _
        unfold aoExtract
        rw [hx]
        rw [XT] at hl
        have : Ko (.tuple ⟨l⟩) i = some u := by
          exact hl
        show rp A (Ko (.tuple ⟨l⟩) i) = _
        rw [this]
        rfl
    · exact e
def fdOff (T : Tab) (t : TypeId) (f : Nat) : Option (Nat × Option Nat) :=
  match T.ty.get t with
  | some { desc := .struct ⟨fs⟩, .. } =>
    (match nth fs f with
      | some fd => (match T.ty.get fd.type with
        | some ti => some (fd.offset, (match isAggD ti.desc with | true => some ti.size | false => none))
        | none => none)
      | none => none)
  | _ => none
def fdV1 (o : Nat) (A : Xd) (K : Value -> Xd -> Xm) (S : Xm) (v : Value) : Xm := vAggK v (ldX o A K S) S
def fdVn (o n : Nat) (A : Xd) (K : Value -> Xd -> Xm) (S : Xm) (v : Value) : Xm := vAggK v (laX n o A K S) S
def xField (T : Tab) (t : TypeId) (x : Operand) (f : Nat) : XO :=
  match fdOff T t f with
  | some (o, none) => ⟨fun vars over A K _ S => (cRd T x).get vars over (fdV1 o A K S) S⟩
  | some (o, some n) => ⟨fun vars over A K _ S => (cRd T x).get vars over (fdVn o n A K S) S⟩
  | none => xGen fun vars over A => aoField T A (Xn T.nglob vars over) t x f
theorem fdOff_eq {T : Tab} {t : TypeId} {f o : Nat} {m : Option Nat} (h : fdOff T t f = some (o, m)) (cs : List Value) : opField T t (.agg ⟨cs⟩) f = match m with | some n => (match YP (Xf cs o) n with | some ys => some (.agg ⟨ys⟩) | none => none) | none => nth cs o := by
  unfold fdOff at h
  split at h
  case h_2 => cases h
  rename_i fs _ _ _ _ ht
  split at h
  case h_2 => cases h
  rename_i fd hf
  split at h
  case h_2 => cases h
  rename_i ti hti
  cases hag : isAggD ti.desc with
  | true =>
    rw [hag] at h
    injection h with h; injection h with h1 h2; subst h1; subst h2
    simp only [opField, ht, hf, Km, hti, hag]
    rfl
  | false =>
    rw [hag] at h
    injection h with h; injection h with h1 h2; subst h1; subst h2
    simp only [opField, ht, hf, Km, hti, hag]
theorem xField_ok {T : Tab} {t : TypeId} {x : Operand} {f : Nat} : (xField T t x f).Ok T (.field t x f) := by
  unfold xField
  split
  case h_3 => exact Kt fun _ _ _ => rfl
  · rename_i o ho
    intro vars over A K En Ot
    show (cRd T x).get vars over _ _ = _
    rw [YS]
    cases hx : Xn T.nglob vars over x with
    | none => rfl
    | some v =>
      show vAggK v _ _ = _
      rcases vAggK_case v (ldX o A K (Yb (aop T A (Xn T.nglob vars over) (.field t x f)) K En Ot)) (Yb (aop T A (Xn T.nglob vars over) (.field t x f)) K En Ot) with ⟨l, rfl, e⟩ | e
      · rw [e]
        unfold ldX
        cases hl : nth l o with
        | none => rfl
        | some u =>
          refine Y9 ?_
          show aoField T A (Xn T.nglob vars over) t x f = _
          unfold aoField
          rw [hx]
          simp only [fdOff_eq ho, hl]
          rfl
      · exact e
  · rename_i o n ho
    intro vars over A K En Ot
    show (cRd T x).get vars over _ _ = _
    rw [YS]
    cases hx : Xn T.nglob vars over x with
    | none => rfl
    | some v =>
      show vAggK v _ _ = _
      rcases vAggK_case v (laX n o A K (Yb (aop T A (Xn T.nglob vars over) (.field t x f)) K En Ot)) (Yb (aop T A (Xn T.nglob vars over) (.field t x f)) K En Ot) with ⟨l, rfl, e⟩ | e
      · rw [e]
        unfold laX
        cases hl : YP (Xf l o) n with
        | none => rfl
        | some u =>
          refine Y9 ?_
          show aoField T A (Xn T.nglob vars over) t x f = _
          unfold aoField
          rw [hx]
          simp only [fdOff_eq ho, hl]
          rfl
      · exact e
def lnS (A : Xd) (K : Value -> Xd -> Xm) (_a : Option Addr) (n _c : Nat) : Xm := K (.int .i64 (.ofNat n)) A
def lnV (A : Xd) (K : Value -> Xd -> Xm) (S : Xm) (v : Value) : Xm := vSlK v (lnS A K) S
def isSl (T : Tab) (t : TypeId) : Bool := match T.ty.get t with | some { desc := .slice _, .. } => true | _ => false
def enC (En : FuncId -> List Value -> Xm) (f : FuncId) (l : List Value) : Xm := En f l
def xCall (T : Tab) (c : Call) : XO :=
  match c with
  | { callee := .value (.func f), args := args, .. } =>
    (match T.fn.get f with
      | some _ => ⟨fun vars over _ _ En S => (cArgs T args.toList).run vars over (enC En f) S⟩
      | none => xGen fun vars over A => rCall T A (Xn T.nglob vars over) c)
  | { callee := .builtin .len, args := ⟨[x]⟩, argTypes := ⟨[t]⟩ } =>
    (match isSl T t with
      | true => ⟨fun vars over A K _ S => (cRd T x).get vars over (lnV A K S) S⟩
      | false => xGen fun vars over A => rCall T A (Xn T.nglob vars over) c)
  | c => xGen fun vars over A => rCall T A (Xn T.nglob vars over) c
theorem xCall_ok {T : Tab} {c : Call} : (xCall T c).Ok T (.call c) := by
  unfold xCall
  split
  case h_3 => exact Kt fun _ _ _ => rfl
  · rename_i f args ats
    split
    case h_2 => exact Kt fun _ _ _ => rfl
    rename_i fn hf
    intro vars over A K En Ot
    show (cArgs T args.toList).run vars over (enC En f) _ = _
    rw [cArgs_eq]
    have hop : aop T A (Xn T.nglob vars over) (.call { callee := .value (.func f), args := args, argTypes := ats }) = (match evL (Xn T.nglob vars over) args.toList with | some l => rFunc T A (.func (.func f) #[] #[]) l | none => none) := by
      show rCall T A (Xn T.nglob vars over) _ = _
      unfold rCall
      cases evL (Xn T.nglob vars over) args.toList <;> rfl
    cases hl : evL (Xn T.nglob vars over) args.toList with
    | none => rfl
    | some l =>
      refine disp_enter ?_
      rw [hop, hl]
      show rFunc T A (.func (.func f) ⟨[]⟩ ⟨[]⟩) l = _
      unfold rFunc
      simp only [hf]
      have : app (app [] l) [] = l := by simp
      rw [this]
  · rename_i x t
    split
    case h_2 => exact Kt fun _ _ _ => rfl
    rename_i hsl
    intro vars over A K En Ot
    show (cRd T x).get vars over _ _ = _
    rw [YS]
    cases hx : Xn T.nglob vars over x with
    | none => rfl
    | some v =>
      show vSlK v _ _ = _
      rcases vSlK_case v (lnS A K) (Yb (aop T A (Xn T.nglob vars over) (.call { callee := .builtin .len, args := ⟨[x]⟩, argTypes := ⟨[t]⟩ })) K En Ot) with ⟨a, n, c, rfl, e⟩ | e
      · rw [e]
        refine Y9 ?_
        show rCall T A (Xn T.nglob vars over) _ = _
        have hl : evL (Xn T.nglob vars over) [x] = some [.slice a n c] := by rw [evL_cons, hx]; rfl
        unfold rCall
        simp only [hl]
        show rp A (opLen T A [t] (.slice a n c)) = _
        unfold isSl at hsl
        split at hsl
        case h_2 => cases hsl
        rename_i el _ _ _ _ ht
        simp only [opLen, ht]
        rfl
      · exact e
def cOp (T : Tab) (o : Op) : XO :=
  match o with
  | .move x => xMove T x
  | .assign x => xMove T x
  | .load t a => xLoad T t a
  | .store t a x => xStore T t a x
  | .binOp op t x y _ => xBin T op t x y
  | .fieldAddr t x f => xFieldAddr T t x f
  | .field t x f => xField T t x f
  | .indexAddr t x i => xIndexAddr T t x i
  | .extract x i => xExtract T x i
  | .call c => xCall T c
  | .alloc t => xGen fun _ _ A => rv (opAlloc T A t)
  | .box _ x => xGen fun vars over A => aoBox A (Xn T.nglob vars over) x
  | .build t ps => xGen fun vars over A => aoBuild T A (Xn T.nglob vars over) t ps
  | .buildSlice t n ps => xGen fun vars over A => aoBuildSlice T A (Xn T.nglob vars over) t n ps
  | .nilCheck x => xGen fun vars over A => aoNilCheck A (Xn T.nglob vars over) x
  | .unOp op _ x => xGen fun vars over A => aoUnOp A (Xn T.nglob vars over) op x
  | .convert s d x => xGen fun vars over A => aoConvert T A (Xn T.nglob vars over) s d x
  | .makeInterface t x => xGen fun vars over A => aoMakeInterface T A (Xn T.nglob vars over) t x
  | .makeSlice t l c => xGen fun vars over A => aoMakeSlice T A (Xn T.nglob vars over) t l c
  | .slice t x lo hi none => xGen fun vars over A => aoSlice T A (Xn T.nglob vars over) t x lo hi
  | .index t x i => xGen fun vars over A => aoIndex T A (Xn T.nglob vars over) t x i
  | .lookup t x i ok => xGen fun vars over A => aoLookup T A (Xn T.nglob vars over) t x i ok
  | .mapUpdate t m k x => xGen fun vars over A => aoMapUpdate T A (Xn T.nglob vars over) t m k x
  | .typeAssert x _ t ok => xGen fun vars over A => aoTypeAssert T A (Xn T.nglob vars over) x t ok
  | o => xGen fun vars over A => aop T A (Xn T.nglob vars over) o
theorem cOp_ok {T : Tab} {o : Op} : (cOp T o).Ok T o := by
  unfold cOp
  split <;> first
    | exact xMove_ok fun _ _ => rfl
    | exact xLoad_ok
    | exact xStore_ok
    | exact xBin_ok
    | exact xFieldAddr_ok
    | exact xField_ok
    | exact xIndexAddr_ok
    | exact xExtract_ok
    | exact xCall_ok
    | exact Kt fun _ _ _ => rfl
abbrev MkFr := List (Option Value) -> List (Nat × Value) -> List Xt -> Xh
def Ym (fn : FuncId) (nt : Nat) (defers : List Deferred) (mode : AMode) (kind : CallKind) (ro : Option Nat) : MkFr := fun vars over todo => ⟨fn, nt, vars, over, todo, defers, mode, kind, ro⟩
structure XR where
  run : MkFr -> Nat -> List Xh -> List Xt -> List Xt -> List (Option Value) -> List (Nat × Value) -> Xd -> Xm
def setK (xr : XR) (mk : MkFr) (nt : Nat) (cs : List Xh) (k td : List Xt) (vars : List (Option Value)) (over : List (Nat × Value)) (t : Nat) (v : Value) (A : Xd) : Xm :=
  bK (Nat.blt t nt) (Option.rec (motive := fun _ => Xm) (xr.run mk nt cs k td vars ((t, v) :: over) A) (fun _ => xr.run mk nt cs k td (lset (some v) vars t) over A) (nth vars t)) .stuck
structure XS where
  set : XR -> MkFr -> Nat -> List Xh -> List Xt -> List Xt -> List (Option Value) -> List (Nat × Value) -> Value -> Xd -> Xm
def cSet (d : Option Tmp) : XS :=
  match d with
  | none => ⟨fun xr mk nt cs k td vars over _ A => xr.run mk nt cs k td vars over A⟩
  | some t => ⟨fun xr mk nt cs k td vars over v A => setK xr mk nt cs k td vars over t v A⟩
def enR (T : Tab) (mk : MkFr) (cs : List Xh) (td : List Xt) (vars : List (Option Value)) (over : List (Nat × Value)) (A : Xd) (f : FuncId) (l : List Value) : Xm :=
  oK (YZ T f l .normal) (fun fr => oK (mTry T f l A) (fun p => .next ⟨retFrame f p.1 p.2.1, mk vars over td :: cs, p.2.2⟩) (.next ⟨fr, mk vars over td :: cs, A⟩)) .stuck
def gdK (want : Bool) (f g S : Xm) (v : Value) : Xm := vBoolK v (fun b => bK want (bK b f g) (bK b g f)) S
def cReg1 (T : Tab) (ops : Array Oper) (o : Oper) (r : List Oper) (xr : XR) : XR :=
  match o.guard with
  | none => ⟨fun mk nt cs k td vars over A => (cOp T o.op).run vars over A ((cSet o.dst).set xr mk nt cs k td vars over) (enR T mk cs (.inRegion ops (o :: r) :: k) vars over A) (X0 T ops k (o :: r) ⟨mk vars over td, cs, A⟩)⟩
  | some (j, want) =>
    (match nth ops.toList j with
      | some g => (match g.dst with
        | some t => ⟨fun mk nt cs k td vars over A => tgK (nth vars t) over t (gdK want
            ((cOp T o.op).run vars over A ((cSet o.dst).set xr mk nt cs k td vars over) (enR T mk cs (.inRegion ops (o :: r) :: k) vars over A) (X0 T ops k (o :: r) ⟨mk vars over td, cs, A⟩))
            ((cSet o.dst).set xr mk nt cs k td vars over undef A) (X0 T ops k (o :: r) ⟨mk vars over td, cs, A⟩)) (X0 T ops k (o :: r) ⟨mk vars over td, cs, A⟩)⟩
        | none => ⟨fun mk _ cs k td vars over A => X0 T ops k (o :: r) ⟨mk vars over td, cs, A⟩⟩)
      | none => ⟨fun mk _ cs k td vars over A => X0 T ops k (o :: r) ⟨mk vars over td, cs, A⟩⟩)
def cRegs (T : Tab) (ops : Array Oper) (rest : List Oper) : XR :=
  List.rec (motive := fun _ => XR) ⟨fun mk _ cs k _ vars over A => .next ⟨mk vars over k, cs, A⟩⟩ (fun o r xr => cReg1 T ops o r xr) rest
theorem cSet_eq {T : Tab} {ops : Array Oper} {r : List Oper} {xr : XR} {fn nt : Nat} {defers : List Deferred} {mode : AMode} {kind : CallKind} {ro : Option Nat}
    (hr : ∀ cs k td vars over A, xr.run (Ym fn nt defers mode kind ro) nt cs k td vars over A = X0 T ops k r ⟨Ym fn nt defers mode kind ro vars over td, cs, A⟩)
    (d : Option Tmp) (cs : List Xh) (k td : List Xt) (vars : List (Option Value)) (over : List (Nat × Value)) (v : Value) (A : Xd) (cs0 : List Xh) (A0 : Xd) (hcs : cs0 = cs) :
    (cSet d).set xr (Ym fn nt defers mode kind ro) nt cs k td vars over v A =
      (match (Ym fn nt defers mode kind ro vars over td).put d v with | some fr => X0 T ops k r { ({ fr := Ym fn nt defers mode kind ro vars over td, cs := cs0, A := A0 } : ASt) with fr := fr, A := A } | none => .stuck) := by
  subst hcs
  cases d with
  | none => exact hr _ _ _ _ _ _
  | some t =>
    show setK xr (Ym fn nt defers mode kind ro) nt cs0 k td vars over t v A = (match (match Nat.blt t nt, tset vars over t v with | true, (vs, ov) => some ({ Ym fn nt defers mode kind ro vars over td with vars := vs, over := ov } : Xh) | false, _ => none) with
      | some fr => X0 T ops k r { ({ fr := Ym fn nt defers mode kind ro vars over td, cs := cs0, A := A0 } : ASt) with fr := fr, A := A } | none => .stuck)
    unfold setK tset
    cases Nat.blt t nt with
    | false => cases nth vars t <;> rfl
    | true =>
      cases nth vars t with
      | none => exact hr _ _ _ _ _ _
      | some a => exact hr _ _ _ _ _ _
theorem cRegs_eq (T : Tab) (ops : Array Oper) {fn nt : Nat} {defers : List Deferred} {mode : AMode} {kind : CallKind} {ro : Option Nat} : ∀ (rest : List Oper) (cs : List Xh) (k td : List Xt) (vars : List (Option Value)) (over : List (Nat × Value)) (A : Xd),
    (cRegs T ops rest).run (Ym fn nt defers mode kind ro) nt cs k td vars over A = X0 T ops k rest ⟨Ym fn nt defers mode kind ro vars over td, cs, A⟩ := by
  intro rest
  induction rest with
  | nil => intro cs k td vars over A; rfl
  | cons o r ih =>
    intro cs k td vars over A
    have hrun : ∀ {S : Xm}, S = X0 T ops k (o :: r) ⟨Ym fn nt defers mode kind ro vars over td, cs, A⟩ -> Kd (Ym fn nt defers mode kind ro vars over td) ops.toList o = some true ->
        (cOp T o.op).run vars over A ((cSet o.dst).set (cRegs T ops r) (Ym fn nt defers mode kind ro) nt cs k td vars over) (enR T (Ym fn nt defers mode kind ro) cs (.inRegion ops (o :: r) :: k) vars over A) S = S := by
      intro S hS hw
      have key : S = Yb (aop T A (Xn T.nglob vars over) o.op) ((cSet o.dst).set (cRegs T ops r) (Ym fn nt defers mode kind ro) nt cs k td vars over) (enR T (Ym fn nt defers mode kind ro) cs (.inRegion ops (o :: r) :: k) vars over A)
          (fun res => Yv T ⟨Ym fn nt defers mode kind ro vars over (.inRegion ops (o :: r) :: k), cs, A⟩ res) := by
        rw [hS]
        unfold X0
        simp only
        rw [hw]
        simp only
        show (match aop T A (Xn T.nglob vars over) o.op with
          | some (.val v A') => (match (Ym fn nt defers mode kind ro vars over td).put o.dst v with | some fr => X0 T ops k r _ | none => .stuck)
          | some (.skip A') => (match (Ym fn nt defers mode kind ro vars over td).put o.dst undef with | some fr => X0 T ops k r _ | none => .stuck)
          | some res => Yv T _ res
          | none => .stuck) = _
        cases aop T A (Xn T.nglob vars over) o.op with
        | none => rfl
        | some res =>
          cases res with
          | val v A' => exact (cSet_eq ih o.dst cs k td vars over v A' cs A rfl).symm
          | skip A' => exact (cSet_eq ih o.dst cs k td vars over undef A' cs A rfl).symm
          | enter f l =>
            show Yv T _ (.enter f l) = enR T _ cs _ vars over A f l
            show apEnter T _ f l = _
            unfold apEnter enR
            cases YZ T f l .normal with
            | none => rfl
            | some fr => unfold inM; cases mTry T f l A <;> rfl
          | _ => rfl
      rw [key]
      exact cOp_ok _ _ _ _ _ _
    show (cReg1 T ops o r (cRegs T ops r)).run _ _ _ _ _ _ _ _ = _
    unfold cReg1
    split
    · rename_i hg
      refine hrun rfl ?_
      unfold Kd
      rw [hg]
    · rename_i j want hg
      split
      case h_2 => rfl
      rename_i g hj
      split
      case h_2 => rfl
      rename_i t ht
      have hw : Kd (Ym fn nt defers mode kind ro vars over td) ops.toList o = aYielded (Yl vars over t) want := by
        unfold Kd
        rw [hg]
        simp only [hj, ht]
        rfl
      have hskip : aYielded (Yl vars over t) want = some false -> (cSet o.dst).set (cRegs T ops r) (Ym fn nt defers mode kind ro) nt cs k td vars over undef A = X0 T ops k (o :: r) ⟨Ym fn nt defers mode kind ro vars over td, cs, A⟩ := by
        intro hy
        rw [cSet_eq ih o.dst cs k td vars over undef A cs A rfl]
        conv => rhs; unfold X0
        simp only
        rw [hw, hy]
        all_goals rfl
      have hval : ∀ v, Yl vars over t = some v -> gdK want
            ((cOp T o.op).run vars over A ((cSet o.dst).set (cRegs T ops r) (Ym fn nt defers mode kind ro) nt cs k td vars over) (enR T (Ym fn nt defers mode kind ro) cs (.inRegion ops (o :: r) :: k) vars over A) (X0 T ops k (o :: r) ⟨Ym fn nt defers mode kind ro vars over td, cs, A⟩))
            ((cSet o.dst).set (cRegs T ops r) (Ym fn nt defers mode kind ro) nt cs k td vars over undef A) (X0 T ops k (o :: r) ⟨Ym fn nt defers mode kind ro vars over td, cs, A⟩) v = X0 T ops k (o :: r) ⟨Ym fn nt defers mode kind ro vars over td, cs, A⟩ := by
        intro v hv
        unfold gdK
        rcases vBoolK_case v (fun b => bK want (bK b ((cOp T o.op).run vars over A ((cSet o.dst).set (cRegs T ops r) (Ym fn nt defers mode kind ro) nt cs k td vars over) (enR T (Ym fn nt defers mode kind ro) cs (.inRegion ops (o :: r) :: k) vars over A) (X0 T ops k (o :: r) ⟨Ym fn nt defers mode kind ro vars over td, cs, A⟩))
            ((cSet o.dst).set (cRegs T ops r) (Ym fn nt defers mode kind ro) nt cs k td vars over undef A)) (bK b ((cSet o.dst).set (cRegs T ops r) (Ym fn nt defers mode kind ro) nt cs k td vars over undef A) ((cOp T o.op).run vars over A ((cSet o.dst).set (cRegs T ops r) (Ym fn nt defers mode kind ro) nt cs k td vars over) (enR T (Ym fn nt defers mode kind ro) cs (.inRegion ops (o :: r) :: k) vars over A) (X0 T ops k (o :: r) ⟨Ym fn nt defers mode kind ro vars over td, cs, A⟩)))) (X0 T ops k (o :: r) ⟨Ym fn nt defers mode kind ro vars over td, cs, A⟩) with ⟨b, rfl, e⟩ | e
        · rw [e]
          cases b <;> cases want
          · exact hrun rfl (by rw [hw, hv]; rfl)
          · exact hskip (by rw [hv]; rfl)
          · exact hskip (by rw [hv]; rfl)
          · exact hrun rfl (by rw [hw, hv]; rfl)
        · exact e
      show tgK (nth vars t) over t _ _ = _
      unfold tgK
      cases hn : nth vars t with
      | none =>
        show oK (Xp over t) _ _ = _
        cases hl : Xp over t with
        | none => rfl
        | some v => exact hval v (by unfold Yl; rw [hn]; exact hl)
      | some a =>
        show oK a _ _ = _
        cases a with
        | none => rfl
        | some v => exact hval v (by unfold Yl; rw [hn])
structure XC where
  run : MkFr -> Nat -> List Xh -> List Xt -> List Xt -> List (Option Value) -> List (Nat × Value) -> Xd -> Xm
def condK (xa xb : XC) (mk : MkFr) (nt : Nat) (cs : List Xh) (k td : List Xt) (vars : List (Option Value)) (over : List (Nat × Value)) (A : Xd) (b : Bool) : Xm :=
  bK b (xa.run mk nt cs k td vars over A) (xb.run mk nt cs k td vars over A)
def condV (xa xb : XC) (mk : MkFr) (nt : Nat) (cs : List Xh) (k td : List Xt) (vars : List (Option Value)) (over : List (Nat × Value)) (A : Xd) (v : Value) : Xm :=
  vBoolK v (condK xa xb mk nt cs k td vars over A) .stuck
def xcGen (T : Tab) (c : Code) : XC := ⟨fun mk _ cs k _ vars over A => aCode T ⟨mk vars over (.code c :: k), cs, A⟩ c k⟩
def xcExit (id : Nat) : XC := ⟨fun mk _ cs k _ vars over A => oK (Kv id k) (fun k' => .next ⟨mk vars over k', cs, A⟩) (aLeave ⟨mk vars over (.code (.exit id) :: k), cs, A⟩ (some (.exit id)))⟩
def xcReg (T : Tab) (id : Nat) (ops : Array Oper) (draw : Bool) : XC :=
  match draw with
  | false => ⟨fun mk nt cs k td vars over A => (cRegs T ops ops.toList).run mk nt cs k td vars (YH over) A⟩
  | true => xcGen T (.region id ops true)
def cCode (T : Tab) (c : Code) : XC :=
  Code.rec (motive := fun _ => XC) (xcGen T .skip) (fun id ops draw => xcReg T id ops draw)
    (fun _ b xa _ => ⟨fun mk nt cs k td vars over A => xa.run mk nt cs (.code b :: k) td vars over A⟩)
    (fun x _ _ xa xb => ⟨fun mk nt cs k td vars over A => (cRd T x).get vars over (condV xa xb mk nt cs k td vars over A) .stuck⟩)
    (fun id _ xb => ⟨fun mk nt cs k td vars over A => xb.run mk nt cs (.inBlock id :: k) td vars over A⟩)
    (fun b xb => ⟨fun mk nt cs k td vars over A => xb.run mk nt cs (.inLoop b :: k) td vars over A⟩)
    (fun f ps a b _ _ => xcGen T (.rangeFunc f ps a b))
    (fun id => xcExit id)
    (fun b xb => ⟨fun mk nt cs k td vars over A => xb.run mk nt cs (.inScope b :: k) td vars over A⟩)
    (fun l => xcGen T (.label l)) (fun l => xcGen T (.goto l)) (xcGen T .ret) (fun w => xcGen T (.refuse w)) c
theorem cCode_eq (T : Tab) {fn nt : Nat} {defers : List Deferred} {mode : AMode} {kind : CallKind} {ro : Option Nat} : ∀ (c : Code) (cs : List Xh) (k td : List Xt) (vars : List (Option Value)) (over : List (Nat × Value)) (A : Xd),
    (cCode T c).run (Ym fn nt defers mode kind ro) nt cs k td vars over A = fCode T c ⟨Ym fn nt defers mode kind ro vars over td, cs, A⟩ k := by
  intro c
  induction c with
  | seq a b iha ihb => intro cs k td vars over A; exact iha _ _ _ _ _ _
  | cond x a b iha ihb =>
    intro cs k td vars over A
    show (cRd T x).get vars over _ _ = (match Xn T.nglob vars over x with | some (.bool true) => fCode T a ⟨Ym fn nt defers mode kind ro vars over td, cs, A⟩ k | some (.bool false) => fCode T b ⟨Ym fn nt defers mode kind ro vars over td, cs, A⟩ k | _ => .stuck)
    rw [YS]
    cases hx : Xn T.nglob vars over x with
    | none => rfl
    | some v =>
      cases v with
      | bool q => cases q with
        | true => exact iha _ _ _ _ _ _
        | false => exact ihb _ _ _ _ _ _
      | _ => rfl
  | block id b ih => intro cs k td vars over A; exact ih _ _ _ _ _ _
  | loop b ih => intro cs k td vars over A; exact ih _ _ _ _ _ _
  | scope b ih => intro cs k td vars over A; exact ih _ _ _ _ _ _
  | region id ops draw =>
    intro cs k td vars over A
    cases draw with
    | true => rfl
    | false => exact cRegs_eq T ops ops.toList cs k td vars (YH over) A
  | exit id =>
    intro cs k td vars over A
    show oK (Kv id k) _ _ = aExit ⟨Ym fn nt defers mode kind ro vars over (.code (.exit id) :: k), cs, A⟩ id k
    unfold aExit
    cases Kv id k <;> rfl
  | _ => intro cs k td vars over A; rfl
def normO (o : Xm) : Xm := match o with | .next s => .next (norm s) | o => o
theorem normO_eq (o : Xm) : normO o = o := by
  cases o with
  | next s => show Xm.next (norm s) = _; rw [norm_eq]
  | _ => rfl
def gItem (T : Tab) (i : Xt) (k : List Xt) (S : Xm) (mk : MkFr) (nt : Nat) (cs : List Xh) (td : List Xt) (vars : List (Option Value)) (over : List (Nat × Value)) (A : Xd) : Xm :=
  match i with
  | .code c => (cCode T c).run mk nt cs k td vars over A
  | .inRegion ops rest => (cRegs T ops rest).run mk nt cs k td vars over A
  | .inBlock _ => (match k with | .code c :: k' => (cCode T c).run mk nt cs k' td vars over A | _ => S)
  | .inLoop b => (cCode T b).run mk nt cs (.inLoop b :: k) td vars over A
  | _ => S
def gstep (T : Tab) (s : ASt) : Xm :=
  match s with
  | ⟨⟨fn, nt, vars, over, todo, defers, mode, kind, ro⟩, cs, A⟩ =>
    match mode, todo with
    | .run, i :: k => gItem T i k (normO (aExec T ⟨⟨fn, nt, vars, over, i :: k, defers, .run, kind, ro⟩, cs, A⟩)) (Ym fn nt defers .run kind ro) nt cs (i :: k) vars over A
    | m, td => normO (Kl T ⟨⟨fn, nt, vars, over, td, defers, m, kind, ro⟩, cs, A⟩)
theorem gstep_eq (T : Tab) (s : ASt) : gstep T s = Kl T s := by
  obtain ⟨⟨fn, nt, vars, over, todo, defers, mode, kind, ro⟩, cs, A⟩ := s
  unfold gstep
  simp only
  split
  · rename_i i k
    rw [normO_eq]
    cases i with
    | code c => exact cCode_eq T c cs k _ vars over A
    | inRegion ops rest => exact cRegs_eq T ops rest cs k _ vars over A
    | inLoop b => exact cCode_eq T b cs _ _ vars over A
    | inBlock id =>
      rcases k with _ | ⟨i, k⟩
      · rfl
      · cases i with
        | code c => exact cCode_eq T c cs k _ vars over A
        | _ => rfl
    | _ => rfl
  · exact normO_eq _
def grun (T : Tab) (s : ASt) : ASt := match gstep T s with | .next s' => s' | .branch [s'] => norm s' | _ => s
theorem grun_eq (T : Tab) (s : ASt) : grun T s = norm (frun T s) := by
  unfold grun frun
  rw [gstep_eq, norm_eq]
  rcases Kl T s with s' | l | ⟨f, v⟩ | _
  · rfl
  · rcases l with _ | ⟨a, _ | ⟨b, l⟩⟩
    · rfl
    · exact norm_eq _
    · rfl
  · rfl
  · rfl
def arun (T : Tab) (n : Nat) : ASt -> ASt :=
  Nat.rec (motive := fun _ => ASt -> ASt) (fun s => grun T s) (fun _ ih s => match ih s with | ⟨fr, cs, A⟩ => ih ⟨fr, cs, A⟩) n
def Xc (T : Tab) (ns : List Nat) (s : ASt) : ASt := match ns with | [] => s | n :: r => Xc T r (arun T n s)
end
section
variable {P : Program} {T : Tab} {B : Nat} {cs0 : List Frame}
theorem Kh.trans {m : Machine} {w : World} {s s' : ASt} (h : Kh P T B cs0 m w s) (k : ∀ {μ : Mu} {fr' : Frame} {cs' : List Frame} {w' : World}, SRel T B μ s fr' cs' w' -> Kh P T B cs0 (lone fr' (cs' ++ cs0) w') w' s') : Kh P T B cs0 m w s' := by
 obtain ⟨μ, fr', cs', w', h1, h2, h3⟩ := h
 obtain ⟨μ2, fr2, cs2, w2, k1, k2, k3⟩ := k h1
 exact ⟨μ2, fr2, cs2, w2, k1, h2.trans k2, h3.trans k3⟩
theorem Kh.refl {μ : Mu} {s : ASt} {fr' : Frame} {cs' : List Frame} {w : World} (h : SRel T B μ s fr' cs' w) : Kh P T B cs0 (lone fr' (cs' ++ cs0) w) w s :=
 ⟨μ, fr', cs', w, h, Steps.refl _ _, Below.refl _ _⟩
theorem arun_ok (C : Xy P T) (n : Nat) : ∀ {μ : Mu} {s : ASt} {fr' : Frame} {cs' : List Frame} {w : World}, SRel T B μ s fr' cs' w -> Kh P T B cs0 (lone fr' (cs' ++ cs0) w) w (arun T n s) := by
 induction n with
 | zero =>
  intro μ s fr' cs' w h
  have hs := fstep_ok (cs0 := cs0) C h
  show Kh P T B cs0 _ w (grun T s)
  rw [grun_eq, norm_eq]
  unfold frun
  split
  ·rename_i s' e; rw [e] at hs; exact hs
  ·rename_i s' e
   rw [e] at hs
   obtain ⟨s2, hm, hg⟩ := hs
   rw [List.mem_singleton] at hm
   subst hm; exact hg
  ·exact Kh.refl h
 | succ n ih =>
  intro μ s fr' cs' w h
  have h1 := ih (cs' := cs') h
  exact h1.trans (s' := arun T (n + 1) s) fun h2 => ih h2
theorem aruns_ok (C : Xy P T) : ∀ (ns : List Nat) {μ : Mu} {s : ASt} {fr' : Frame} {cs' : List Frame} {w : World}, SRel T B μ s fr' cs' w -> Kh P T B cs0 (lone fr' (cs' ++ cs0) w) w (Xc T ns s) := by
 intro ns
 induction ns with
 | nil => intro μ s fr' cs' w h; exact Kh.refl h
 | cons n ns ih =>
  intro μ s fr' cs' w h
  exact (arun_ok C n h).trans fun h2 => ih h2
def gcH (keep : List Nat) (h : Tr Xg) : Tr Xg :=
 match keep with
 | [] => .e
 | k :: r => (match h.get k with | some o => (gcH r h).put (some o) k | none => gcH r h)
theorem gcH_sub {h : Tr Xg} : ∀ {keep : List Nat} {k : Nat} {o : Xg}, (gcH keep h).get k = some o -> h.get k = some o := by
 intro keep
 induction keep with
 | nil => intro k o hk; cases hk
 | cons a keep ih =>
  intro k o hk
  unfold gcH at hk
  split at hk
  ·rename_i x hx
   rcases Tr.get_put hk with ⟨rfl, e⟩ | ⟨_, hk⟩
   ·injection e with e; subst e; exact hx
   ·exact ih hk
  ·exact ih hk
theorem gcH_keep {h : Tr Xg} : ∀ {keep : List Nat} {k : Nat} {o : Xg}, k ∈ keep -> k + 1 < 2 ^ 24 -> h.get k = some o -> (gcH keep h).get k = some o := by
 intro keep
 induction keep with
 | nil => intro k o hk; cases hk
 | cons a keep ih =>
  intro k o hk hlt ho
  unfold gcH
  by_cases e : a = k
  ·subst e
   rw [ho]
   exact Tr.get_put_there _ _ _ hlt
  ·have hk : k ∈ keep := by
    rcases List.mem_cons.1 hk with h | h
    ·exact absurd h.symm e
    ·exact h
   split
   ·rw [Tr.get_put_other _ _ _ _ (Ne.symm e)]; exact ih hk hlt ho
   ·exact ih hk hlt ho
def isIn (h : Tr Xg) (l : List Nat) : List Nat :=
 match l with
 | [] => []
 | m :: r => (match h.get m with | some _ => m :: isIn h r | none => isIn h r)
theorem isIn_mem {h : Tr Xg} {m : Nat} {o : Xg} (ho : h.get m = some o) : ∀ {l : List Nat}, m ∈ l -> m ∈ isIn h l := by
 intro l
 induction l with
 | nil => intro hm; cases hm
 | cons x l ih =>
  intro hm
  unfold isIn
  rcases List.mem_cons.1 hm with rfl | hm
  ·rw [ho]; simp
  ·split
   ·exact List.mem_cons_of_mem _ (ih hm)
   ·exact ih hm
def gcF (fs : List Nat) (h : Tr Xg) (t : Tr (List Nat)) : Tr (List Nat) :=
 match fs with
 | [] => .e
 | f :: r => (match t.get f with | some l => (gcF r h t).put (some (isIn h l)) f | none => gcF r h t)
theorem gcF_sub {h : Tr Xg} {t : Tr (List Nat)} : ∀ {fs : List Nat} {f : Nat} {l : List Nat}, (gcF fs h t).get f = some l -> ∃ l0, t.get f = some l0 /\ l = isIn h l0 := by
 intro fs
 induction fs with
 | nil => intro f l hf; cases hf
 | cons a fs ih =>
  intro f l hf
  unfold gcF at hf
  split at hf
  ·rename_i x hx
   rcases Tr.get_put hf with ⟨rfl, e⟩ | ⟨_, hf⟩
   ·injection e with e; exact ⟨x, hx, e.symm⟩
   ·exact ih hf
  ·exact ih hf
def famsKept (keep : List Nat) (fs : Tr (List Nat)) (h : Tr Xg) : Bool :=
 match keep with
 | [] => true
 | k :: r =>
  (match h.get k with
   | some (.cells _ (.grown g)) => (match fs.get g.fam with | some _ => famsKept r fs h | none => false)
   | _ => famsKept r fs h)
theorem famsKept_ok {fs : Tr (List Nat)} {h : Tr Xg} : ∀ {keep : List Nat}, famsKept keep fs h = true -> ∀ k ∈ keep, ∀ xs g, h.get k = some (.cells xs (.grown g)) -> ∃ l, fs.get g.fam = some l := by
 intro keep
 induction keep with
 | nil => intro _ k hk; cases hk
 | cons a keep ih =>
  intro hf k hk xs g ho
  unfold famsKept at hf
  rcases List.mem_cons.1 hk with rfl | hk
  ·rw [ho] at hf
   simp only at hf
   split at hf
   ·rename_i h1; exact ⟨_, h1⟩
   ·cases hf
  ·refine ih ?_ k hk xs g ho
   split at hf
   ·split at hf
    ·exact hf
    ·cases hf
   ·exact hf
def rangeKept (keep : List Nat) (h : Tr Xg) (ops : List Oper) (b : Nat) : Bool :=
 match ops with
 | [] => true
 | _ :: r =>
  (match h.get b with
   | none => rangeKept keep h r (Nat.succ b)
   | some _ => (match mem b keep, Nat.blt b 16000000 with | true, true => rangeKept keep h r (Nat.succ b) | _, _ => false))
theorem rangeKept_ok {keep : List Nat} {h : Tr Xg} : ∀ {ops : List Oper} {b : Nat}, rangeKept keep h ops b = true -> ∀ j, j < ops.length -> ∀ o, h.get (b + j) = some o -> (gcH keep h).get (b + j) = some o := by
 intro ops
 induction ops with
 | nil => intro b _ j hj; cases hj
 | cons x ops ih =>
  intro b hk j hj o ho
  unfold rangeKept at hk
  cases j with
  | zero =>
   rw [Nat.add_zero] at ho ⊢
   rw [ho] at hk
   simp only at hk
   split at hk
   ·rename_i h1 h2
    have h2 : b < 16000000 := by simpa using h2
    exact gcH_keep (mem_eq.1 h1) (by omega) ho
   ·cases hk
  | succ j =>
   have e : b + (j + 1) = Nat.succ b + j := by omega
   rw [e] at ho ⊢
   refine ih ?_ j (by simpa using hj) o ho
   split at hk
   ·exact hk
   ·split at hk
    ·exact hk
    ·cases hk
def frameKept (keep : List Nat) (h : Tr Xg) (fr : Xh) : Bool :=
 match fr.todo with
 | .inDraw ops _ _ base :: _ => rangeKept keep h ops.toList base
 | _ => true
def framesKept (keep : List Nat) (h : Tr Xg) (cs : List Xh) : Bool :=
 match cs with
 | [] => true
 | c :: r => (match frameKept keep h c with | true => framesKept keep h r | false => false)
def gcS (keep fs : List Nat) (nx : Nat) (s : ASt) : ASt :=
 match famsKept keep (gcF fs (gcH keep s.A.heap) s.A.fams) s.A.heap, frameKept keep s.A.heap s.fr, framesKept keep s.A.heap s.cs, Nat.ble s.A.next nx with
 | true, true, true, true => { s with A := { heap := gcH keep s.A.heap, next := nx, fams := gcF fs (gcH keep s.A.heap) s.A.fams } }
 | _, _, _, _ => s
theorem Ki.gc {μ : Mu} {A A' : Xd} {lo hi nt : Nat} {vars : List (Option Value)} {over : List (Nat × Value)} {ops : Array Oper} {t : Nat} {V : List (Nat × Value)} {base : Nat} {rest : List Nat} {tm : Array Value}
  (h : Ki T μ A lo hi nt vars over ops t V base rest tm) (hk : ∀ j, j < ops.toList.length -> ∀ o, A.heap.get (base + j) = some o -> A'.heap.get (base + j) = some o) : Ki T μ A' lo hi nt vars over ops t V base rest tm where
 ok := h.ok
 nt := h.nt
 lo := h.lo
 hi := h.hi
 ord := h.ord
 chain := h.chain
 done := h.done
 old := h.old
 pend := fun j o h1 h2 h3 => by
  obtain ⟨a, b⟩ := h.pend j o h1 h2 h3
  have hj := (Array.getElem?_eq_some_iff.1 h2).1
  exact ⟨a, fun v hv => (b v hv).mono (fun _ _ h => h) fun ob h5 _ => hk j (by simpa using hj) ob h5⟩
theorem gcS_ok {keep fs : List Nat} {nx : Nat} {μ : Mu} {s : ASt} {fr' : Frame} {cs' : List Frame} {w : World} (h : SRel T B μ s fr' cs' w) : SRel T B μ (gcS keep fs nx s) fr' cs' w := by
 unfold gcS
 split
 case h_2 => exact h
 rename_i k1 k2 k3 k4
 have hnx : s.A.next <= nx := Nat.le_of_ble_eq_true k4
 obtain ⟨R, G, lo, hlo, hf, hst⟩ := h
 refine ⟨⟨R.base, fun b o e ho he => R.obj b o e (gcH_sub ho) he, ?_, R.sep, ?_, fun b o ho => Nat.lt_of_lt_of_le (R.live b o (gcH_sub ho)) hnx⟩, G, lo, Nat.le_trans hlo hnx, ?_, ?_⟩
 ·intro b e he
  obtain ⟨a, b', c, d⟩ := R.dom b e he
  exact ⟨Nat.lt_of_lt_of_le a hnx, b', c, fun g hg => Nat.lt_of_lt_of_le (d g hg) hnx⟩
 ·intro b xs g ho
  obtain ⟨h1, l, h2, h3⟩ := R.memb b xs g (gcH_sub ho)
  refine ⟨Nat.lt_of_lt_of_le h1 hnx, isIn (gcH keep s.A.heap) l, ?_, isIn_mem ho h3⟩
  have hb : b ∈ keep := by
   have : ∀ {keep : List Nat} {b : Nat} {o : Xg}, (gcH keep s.A.heap).get b = some o -> b ∈ keep := by
    intro keep
    induction keep with
    | nil => intro b o hk; cases hk
    | cons a keep ih =>
     intro b o hk
     unfold gcH at hk
     split at hk
     ·rcases Tr.get_put hk with ⟨rfl, _⟩ | ⟨_, hk⟩
      ·simp
      ·exact List.mem_cons_of_mem _ (ih hk)
     ·exact List.mem_cons_of_mem _ (ih hk)
   exact this ho
  obtain ⟨l2, a1⟩ := famsKept_ok k1 b hb xs g (gcH_sub ho)
  obtain ⟨l0, a2, a3⟩ := gcF_sub a1
  rw [h2] at a2
  injection a2 with a2
  subst a2
  rw [a1, a3]
 ·refine FRel.up ?_ hnx
  cases hf with
  | plain hp => exact .plain hp
  | draw core run h1 h2 h3 h4 =>
   unfold frameKept at k2
   rw [h1] at k2
   exact .draw core run h1 h2 h3 (h4.gc fun j hj o ho => rangeKept_ok k2 j hj o ho)
 ·clear hf
  have : ∀ {hi : Nat} {cs : List Xh} {cs' : List Frame}, Kf T μ s.A hi cs cs' -> framesKept keep s.A.heap cs = true -> Kf T μ { heap := gcH keep s.A.heap, next := nx, fams := gcF fs (gcH keep s.A.heap) s.A.fams } hi cs cs' := by
   intro hi cs cs' hst
   induction hst with
   | nil hi => intro _; exact .nil _
   | @cons lo hi c c' cs cs' hc hl ht ih =>
    intro k3
    unfold framesKept at k3
    split at k3
    case h_2 => cases k3
    rename_i k2
    refine .cons ?_ hl (ih k3)
    cases hc with
    | plain hp => exact .plain hp
    | wait core run h1 h2 h3 hcc h4 =>
     unfold frameKept at k2
     rw [h1] at k2
     exact .wait core run h1 h2 h3 hcc (h4.gc fun j hj o ho => rangeKept_ok k2 j hj o ho)
  exact this hst k3
def Weaker (T : Tab) (s s' : ASt) : Prop := ∀ {B : Nat} {μ : Mu} {fr' : Frame} {cs' : List Frame} {w : World}, SRel T B μ s fr' cs' w -> SRel T B μ s' fr' cs' w
inductive Fin (T : Tab) (f : FuncId) (v : Value) : ASt -> Prop
 | done {s : ASt} (h : Kl T s = .done f v) : Fin T f v s
 | run {s s' : ASt} (n : Nat) (keep fs : List Nat) (nx : Nat) (h : gcS keep fs nx (arun T n s) = s') (k : Fin T f v s') : Fin T f v s
 | runs {s s' : ASt} (ns : List Nat) (keep fs : List Nat) (nx : Nat) (h : gcS keep fs nx (Xc T ns s) = s') (k : Fin T f v s') : Fin T f v s
 | branch {s : ASt} {l : List ASt} (h : Kl T s = .branch l) (k : ∀ s' ∈ l, Fin T f v s') : Fin T f v s
 | weak {s s' : ASt} (h : Weaker T s s') (k : Fin T f v s') : Fin T f v s
 | ren {s s' : ASt} (h : ∀ {B : Nat} {μ : Mu} {fr' : Frame} {cs' : List Frame} {w : World}, SRel T B μ s fr' cs' w -> ∃ μ', SRel T B μ' s' fr' cs' w) (k : Fin T f v s') : Fin T f v s
 | bare {s : ASt} (ns : List Nat) (k : Fin T f v (Xc T ns s)) : Fin T f v s
theorem Fin.two {T : Tab} {f : FuncId} {v : Value} {s s' : ASt} (n0 n1 keep fs : List Nat) (nx : Nat) (h : altN (Kl T s) = 2) (h0 : gcS keep fs nx (Xc T n0 (altOf (Kl T s) 0 s)) = s')
  (h1 : gcS keep fs nx (Xc T n1 (altOf (Kl T s) 1 s)) = s') (k : Fin T f v s') : Fin T f v s := by
 cases ho : Kl T s with
 | branch l =>
  rw [ho] at h h0 h1
  rcases l with _ | ⟨a, _ | ⟨b, _ | ⟨c, l⟩⟩⟩
  ·cases h
  ·cases h
  ·refine .branch ho fun x hx => ?_
   rcases List.mem_cons.1 hx with rfl | hx
   ·exact .runs n0 keep fs nx h0 k
   ·rw [List.mem_singleton] at hx
    subst hx
    exact .runs n1 keep fs nx h1 k
  ·have h : Nat.succ (Nat.succ (Nat.succ (len l))) = 2 := h
   omega
 | _ => rw [ho] at h; cases h
theorem fin_ok (C : Xy P T) {f : FuncId} {v : Value} {s : ASt} (hf : Fin T f v s) : ∀ {μ : Mu} {fr' : Frame} {cs' : List Frame} {w : World}, SRel T B μ s fr' cs' w ->
  ∃ μ' fr2 w2 v', Steps P (lone fr' (cs' ++ cs0) w) (lone fr2 cs0 w2) /\ Below B w w2 /\ fr2.leaving P w2 (.returned v') /\ Xj μ' v v' /\ fr2.fn = f := by
 induction hf with
 | done h =>
  intro μ fr' cs' w hs
  have := fstep_ok (cs0 := cs0) C hs
  rw [h] at this
  exact this
 | run n keep fs nx h _ ih =>
  intro μ fr' cs' w hs
  obtain ⟨μ1, fr1, cs1, w1, a, b, c⟩ := arun_ok (cs0 := cs0) C n hs
  have a := gcS_ok (keep := keep) (fs := fs) (nx := nx) a
  rw [h] at a
  obtain ⟨μ', fr2, w2, v', d, e, g⟩ := ih a
  exact ⟨μ', fr2, w2, v', b.trans d, c.trans e, g⟩
 | runs ns keep fs nx h _ ih =>
  intro μ fr' cs' w hs
  obtain ⟨μ1, fr1, cs1, w1, a, b, c⟩ := aruns_ok (cs0 := cs0) C ns hs
  have a := gcS_ok (keep := keep) (fs := fs) (nx := nx) a
  rw [h] at a
  obtain ⟨μ', fr2, w2, v', d, e, g⟩ := ih a
  exact ⟨μ', fr2, w2, v', b.trans d, c.trans e, g⟩
 | weak h _ ih =>
  intro μ fr' cs' w hs
  exact ih (h hs)
 | ren h _ ih =>
  intro μ fr' cs' w hs
  obtain ⟨μ', h'⟩ := h hs
  exact ih h'
 | bare ns _ ih =>
  intro μ fr' cs' w hs
  obtain ⟨μ1, fr1, cs1, w1, a, b, c⟩ := aruns_ok (cs0 := cs0) C ns hs
  obtain ⟨μ', fr2, w2, v', d, e, g⟩ := ih a
  exact ⟨μ', fr2, w2, v', b.trans d, c.trans e, g⟩
 | branch h _ ih =>
  intro μ fr' cs' w hs
  have := fstep_ok (cs0 := cs0) C hs
  rw [h] at this
  obtain ⟨s', hm, μ1, fr1, cs1, w1, a, b, c⟩ := this
  obtain ⟨μ', fr2, w2, v', d, e, g⟩ := ih s' hm a
  exact ⟨μ', fr2, w2, v', b.trans d, c.trans e, g⟩
theorem open_calls (C : Xy P T) {f : FuncId} {v : Value} {A : Xd} {w : World} {μ : Mu} (R : Xs μ B A w.heap) (G : GRel μ T.nglob T.anc) {args : List Value} {args' : Array Value} (ha : Xo μ args args'.toList)
  {fr : Xh} (he : YZ T f args .normal = some fr) (hf : Fin T f v { fr := fr, cs := [], A := A }) : Calls P f args' w fun e w' => ∃ μ' v', e = .returned v' /\ Xj μ' v v' /\ Below B w w' := by
 intro cs
 have hs : SRel T B μ { fr := fr, cs := [], A := A } (Frame.enter P f args' .normal) [] w :=
  ⟨R, G, A.next, Nat.le_refl _, .plain (enter_ok C ha he), .nil _⟩
 obtain ⟨μ', fr2, w2, v', h1, h2, h3, h4, h5⟩ := fin_ok (cs0 := cs) C hf hs
 exact ⟨.returned v', w2, fr2, ⟨μ', v', rfl, h4, h2⟩, h1, h5, h3⟩
end
end
end Go.Proofs.YtckflfichfnclaaGreatDoor.Sim
