import PyProof.Rows.All
import Wide.All
import OpenK.AllK
import Wide.FinOn
import HandS.ForMost
import HandS.Exc
import HandS.ExcOwn
import HandS.TryOnly
import HandS.WordsExc
import HandS.CallSlots
import HandS.IsInst
import HandS.Rev
import HandS.Zip
import HandS.TupAny
import HandS.FStr
import HandS.Flow
import HandS.Conv
import HandS.Defaults
import HandS.ExcInit
import HandS.ExcField
import HandS.Wide
import KE.KExcInit
import PyProof.ExcBaseAll.ZeroDivisionError
import PyProof.ExcBaseAll.LookupError
import PyProof.ExcBaseAll.IndexError
import HandS.Head0
import HandS.Head1
import HandS.Head2
import HandS.HeadEnd
import HandS.HeadHook1
import HandS.HeadHook2
import HandS.HeadHook3
import HandS.HeadHook4
import HandS.HeadWalk
import KE.GoesEnum
import KE.GoesMore
import HandS.Style
import KE.KRevSl
import KE.GoesZip
import PyProof.Rows.FactsT2
import HandS.ExcIs
import HandS.More
import HandS.Lambda
import HandS.SetFor
import HandS.Strs
import HandS.TryMany
import HandS.SortKw
import KE.KMinKey
import HandS.IntHex
import HandS.Text
import PySem.Challenge.RW_surechalk_k92_refusals_and_their_kinds
import PyProof.Rows.StrPartPair
import KE.IntTextText
set_option Elab.async false
set_option linter.all false
set_option maxRecDepth 100000
namespace DL
open PySem PySem.Spec PyProof.Rows L2

/-- plain data: what a value of the program is, without addresses; `bag` is the law's own store of draws -/
inductive D where
  | non | bl (b : Bool) | int (i : Int) | str (x : Str) | tup (xs : List D) | lst (xs : List D) | bag | ty (n : String) | obj (a : Addr) | ins (C : Addr) (fs : List (Str × D)) | exc (a d C : Addr) (fs : List (Str × D)) | exi (C : Addr) (fs : List (Str × D))

mutual
/-- value v bears the data d over the frozen heap F; the bag stands at B -/
inductive Rp (K : PySem.W.Frag) (B : Option Addr) (F : Hp) : V → D → Prop
  | non : Rp K B F .non .non
  | bl (b : Bool) : Rp K B F (.bl b) (.bl b)
  | int (i : Int) : Rp K B F (.int i) (.int i)
  | str (x : Str) : Rp K B F (.str x) (.str x)
  | tup {a : Addr} {xs : List V} {ds : List D} : SqT K F a xs → RpL K B F xs ds → Rp K B F (.ref a) (.tup ds)
  | lst {a : Addr} {xs : List V} {ds : List D} : SqL K F a xs → RpL K B F xs ds → Rp K B F (.ref a) (.lst ds)
  | bag {a : Addr} : B = some a → Rp K B F (.ref a) .bag
  | ty (n : String) : Rp K B F (.ty n) (.ty n)
  | obj (a : Addr) : Rp K B F (.ref a) (.obj a)
  | ins {a C dx : Addr} {fs : List (Str × V)} {gs : List (Str × D)} : F a = some (.ins C dx fs) → RpF K B F fs gs → Rp K B F (.ref a) (.ins C gs)
  | exc {a d C : Addr} {fs : List (Str × V)} {gs : List (Str × D)} : F d = some (.xd fs) → RpF K B F fs gs → Rp K B F (.ref a) (.exc a d C gs)
  | exi {a d C : Addr} {fs : List (Str × V)} {gs : List (Str × D)} : F a = some (exo a C (some d)) → F d = some (exd d fs) → RpF K B F fs gs → Rp K B F (.ref a) (.exi C gs)
inductive RpL (K : PySem.W.Frag) (B : Option Addr) (F : Hp) : List V → List D → Prop
  | nil : RpL K B F [] []
  | cons {v : V} {vs : List V} {d : D} {ds : List D} : Rp K B F v d → RpL K B F vs ds → RpL K B F (v :: vs) (d :: ds)
inductive RpF (K : PySem.W.Frag) (B : Option Addr) (F : Hp) : List (Str × V) → List (Str × D) → Prop
  | nil : RpF K B F [] []
  | cons {n : Str} {v : V} {vs : List (Str × V)} {d : D} {ds : List (Str × D)} : Rp K B F v d → RpF K B F vs ds → RpF K B F ((n, v) :: vs) ((n, d) :: ds)
end
section
variable {K : PySem.W.Frag} {B B' : Option Addr} {F F' : Hp}
theorem sqT_mono {a : Addr} {xs : List V} (e : Same F F') (h : SqT K F a xs) : SqT K F' a xs := by
  rcases h with (h | ⟨o, h⟩) | h
  · exact .inl (.inl (e _ _ h))
  · exact .inl (.inr ⟨o, e _ _ h⟩)
  · exact .inr h
mutual
theorem Rp.mono (e : Same F F') (hb : ∀ b, B = some b → B' = some b) : ∀ {v : V} {d : D}, Rp K B F v d → Rp K B' F' v d
  | _, _, .non => .non
  | _, _, .bl b => .bl b
  | _, _, .int i => .int i
  | _, _, .str x => .str x
  | _, _, .tup h r => .tup (sqT_mono e h) (RpL.mono e hb r)
  | _, _, .lst h r => .lst (e.seq h) (RpL.mono e hb r)
  | _, _, .bag h => .bag (hb _ h)
  | _, _, .ty n => .ty n
  | _, _, .obj a => .obj a
  | _, _, .ins h r => .ins (e _ _ h) (RpF.mono e hb r)
  | _, _, .exc h r => .exc (e _ _ h) (RpF.mono e hb r)
  | _, _, .exi h h2 r => .exi (e _ _ h) (e _ _ h2) (RpF.mono e hb r)
theorem RpL.mono (e : Same F F') (hb : ∀ b, B = some b → B' = some b) : ∀ {v : List V} {d : List D}, RpL K B F v d → RpL K B' F' v d
  | _, _, .nil => .nil
  | _, _, .cons h t => .cons (Rp.mono e hb h) (RpL.mono e hb t)
theorem RpF.mono (e : Same F F') (hb : ∀ b, B = some b → B' = some b) : ∀ {v : List (Str × V)} {d : List (Str × D)}, RpF K B F v d → RpF K B' F' v d
  | _, _, .nil => .nil
  | _, _, .cons h t => .cons (Rp.mono e hb h) (RpF.mono e hb t)
end
theorem RpL.length : ∀ {vs : List V} {ds : List D}, RpL K B F vs ds → vs.length = ds.length
  | _, _, .nil => rfl
  | _, _, .cons _ t => congrArg (· + 1) (RpL.length t)
theorem RpL.get : ∀ {vs : List V} {ds : List D} {i : Nat} {v : V}, RpL K B F vs ds → vs[i]? = some v → ∃ d, ds[i]? = some d ∧ Rp K B F v d
  | _, _, _, _, .nil, h => by simp at h
  | _, _, 0, _, .cons r _, h => by simp at h; subst h; exact ⟨_, rfl, r⟩
  | _, _, i + 1, v, .cons _ t, h => RpL.get (i := i) t (by simpa using h)
theorem RpL.get' : ∀ {vs : List V} {ds : List D} {i : Nat} {d : D}, RpL K B F vs ds → ds[i]? = some d → ∃ v, vs[i]? = some v ∧ Rp K B F v d
  | _, _, _, _, .nil, h => by simp at h
  | _, _, 0, _, .cons r _, h => by simp at h; subst h; exact ⟨_, rfl, r⟩
  | _, _, i + 1, v, .cons _ t, h => RpL.get' (i := i) t (by simpa using h)
theorem RpL.append : ∀ {vs ws : List V} {ds es : List D}, RpL K B F vs ds → RpL K B F ws es → RpL K B F (vs ++ ws) (ds ++ es)
  | _, _, _, _, .nil, s => s
  | _, _, _, _, .cons r t, s => .cons r (RpL.append t s)
theorem RpL.take : ∀ {vs : List V} {ds : List D} (n : Nat), RpL K B F vs ds → RpL K B F (vs.take n) (ds.take n)
  | _, _, 0, _ => .nil
  | _, _, _ + 1, .nil => .nil
  | _, _, n + 1, .cons r t => .cons r (RpL.take n t)
theorem RpL.drop : ∀ {vs : List V} {ds : List D} (n : Nat), RpL K B F vs ds → RpL K B F (vs.drop n) (ds.drop n)
  | _, _, 0, h => h
  | _, _, _ + 1, .nil => .nil
  | _, _, n + 1, .cons r t => RpL.drop n t
theorem RpL.set : ∀ {vs : List V} {ds : List D} (n : Nat) {v : V} {d : D}, Rp K B F v d → RpL K B F vs ds → RpL K B F (vs.set n v) (ds.set n d)
  | _, _, _, _, _, _, .nil => .nil
  | _, _, 0, _, _, h, .cons _ t => .cons h t
  | _, _, n + 1, _, _, h, .cons r t => .cons r (RpL.set n h t)
theorem RpL.reverse {vs : List V} {ds : List D} (h : RpL K B F vs ds) : RpL K B F vs.reverse ds.reverse := by
  induction vs generalizing ds with
  | nil => cases h; exact .nil
  | cons v vs ih =>
    cases h with
    | cons r t =>
      rw [List.reverse_cons, List.reverse_cons]
      exact (ih t).append (.cons r .nil)
theorem RpL.dropLast {vs : List V} {ds : List D} (h : RpL K B F vs ds) : RpL K B F vs.dropLast ds.dropLast := by
  rw [List.dropLast_eq_take, List.dropLast_eq_take, h.length]
  exact h.take _
theorem RpL.ints : ∀ ns : List Int, RpL K B F (ns.map V.int) (ns.map D.int)
  | [] => .nil
  | n :: r => .cons (.int n) (RpL.ints r)
theorem RpF.lookup : ∀ {vs : List (Str × V)} {ds : List (Str × D)} {n : Str} {d : D}, RpF K B F vs ds → ds.lookup n = some d → ∃ v, vs.lookup n = some v ∧ Rp K B F v d
  | _, _, n, d, .nil, h => by simp at h
  | _, _, n, d, .cons (n := m) r t, h => by
    rw [List.lookup_cons] at h ⊢
    split at h
    · cases h; exact ⟨_, rfl, r⟩
    · exact RpF.lookup t h
end

/-- what a slot of a frame holds: nothing that is known, data that stays, a list that this slot alone holds -/
inductive Sl where
  | no | sh (d : D) | ow (ds : List D)
abbrev DE := List Sl
/-- what an expression gives: data that stays, or a new list that nobody else holds -/
inductive Rz where
  | sh (d : D) | nw (ds : List D)
@[simp] def Rz.dat : Rz → D
  | .sh d => d
  | .nw ds => .lst ds
structure Exn where
  cls : Addr
  fs : List (Str × D)

/-- the law's bag: a list of a list of ints and three ints -/
def Bagged (K : PySem.W.Frag) (F H : Hp) (b : Addr) : Prop :=
  ∃ (c : Addr) (ns : List Int) (x y z : Int), H b = some (.lst [.ref c, .int x, .int y, .int z]) ∧ SqL K F c (ns.map V.int) ∧ 0 ≤ x ∧ 0 ≤ z ∧ z < 2147483648

/-- what a frame was entered with: the written part, the frozen heap, the heap, the bag's place -/
structure Gx where
  K : PySem.W.Frag
  F0 : Hp
  H0 : Hp
  B0 : Option Addr

structure Fr0 (G : Gx) (B : Option Addr) (F H : Hp) : Prop where
  sub : Same F H
  low : Same G.F0 F
  new : ∀ a o, F a = some o → G.F0 a = some o ∨ G.H0 a = none
  keep : ∀ a o, G.H0 a = some o → G.B0 ≠ some a → H a = some o
  bag0 : ∀ b, G.B0 = some b → B = some b
  bagn : G.B0 = none → ∀ b, B = some b → G.H0 b = none
  bag : ∀ b, B = some b → F b = none ∧ Bagged G.K F H b

def SloR (G : Gx) (B : Option Addr) (F H : Hp) : Sl → Option V → Prop
  | .no, _ => True
  | .sh d, some v => Rp G.K B F v d
  | .ow ds, some v => ∃ p xs, v = .ref p ∧ G.H0 p = none ∧ F p = none ∧ B ≠ some p ∧ H p = some (.lst xs) ∧ RpL G.K B F xs ds
  | .sh _, none => False
  | .ow _, none => False
def Own (δ : DE) (σ : L2.St) (a : Addr) : Prop := ∃ (i : Nat) (ds : List D), δ[i]? = some (Sl.ow ds) ∧ σ[i]? = some (some (V.ref a))
structure Rs (G : Gx) (B : Option Addr) (F H : Hp) (δ : DE) (σ : L2.St) : Prop extends Fr0 G B F H where
  len : δ.length = σ.length
  sl : ∀ (i : Nat) (s : Sl), δ[i]? = some s → ∃ ov, σ[i]? = some ov ∧ SloR G B F H s ov
  dis : ∀ (i j : Nat) (ds es : List D) (p : Addr), δ[i]? = some (.ow ds) → δ[j]? = some (.ow es) → σ[i]? = some (some (.ref p)) → σ[j]? = some (some (.ref p)) → i = j
/-- the result of an expression -/
def RzR (G : Gx) (Hs : Hp) (δs : DE) (B : Option Addr) (F H : Hp) (δ : DE) (σ : L2.St) : Rz → V → Prop
  | .sh d, v => Rp G.K B F v d
  | .nw ds, v => ∃ p xs, v = .ref p ∧ G.H0 p = none ∧ F p = none ∧ B ≠ some p ∧ H p = some (.lst xs) ∧ RpL G.K B F xs ds ∧ ¬ Own δ σ p ∧ (Hs p = none ∨ Own δs σ p)
/-- an exception's class and dict -/
def ExR (G : Gx) (B : Option Addr) (F H : Hp) (x : Exn) (c : Value) (d : Option Addr) : Prop :=
  c = .ref x.cls ∧ ∃ da fs, d = some da ∧ G.H0 da = none ∧ F da = none ∧ B ≠ some da ∧ H da = some (.xd fs) ∧ RpF G.K B F fs x.fs
/-- from one state to the next, the slots' values the same -/
structure Stp (B : Option Addr) (F H : Hp) (δ : DE) (σ : L2.St) (B' : Option Addr) (F' H' : Hp) (δ' : DE) : Prop where
  le : Same F F'
  bl : ∀ b, B = some b → B' = some b
  bn : ∀ a, B' = some a → B = some a ∨ H a = none
  nw : ∀ a o, F' a = some o → F a = some o ∨ H a = none ∨ Own δ σ a
  kp : ∀ a o, H a = some o → B ≠ some a → ¬ Own δ σ a → H' a = some o
  dm : ∀ a o, H a = some o → ∃ o', H' a = some o'
  ow : ∀ (i : Nat) (ds : List D), δ'[i]? = some (Sl.ow ds) → ∃ es, δ[i]? = some (Sl.ow es)
section
variable {G : Gx} {B B1 B2 : Option Addr} {F F1 F2 H H1 H2 : Hp} {δ δ1 δ2 : DE} {σ : L2.St}
theorem none_back {H H' : Hp} (dm : ∀ a o, H a = some o → ∃ o', H' a = some o') {a : Addr} (h : H' a = none) : H a = none := by
  cases q : H a with
  | none => rfl
  | some o =>
    obtain ⟨o', e⟩ := dm a o q
    rw [h] at e; cases e
theorem Stp.refl : Stp B F H δ σ B F H δ :=
  ⟨Same.refl _, fun _ h => h, fun _ h => .inl h, fun _ _ h => .inl h, fun _ _ h _ _ => h, fun _ o h => ⟨o, h⟩, fun _ ds h => ⟨ds, h⟩⟩
theorem Stp.own (s : Stp B F H δ σ B1 F1 H1 δ1) {a : Addr} (h : Own δ1 σ a) : Own δ σ a := by
  obtain ⟨i, ds, e, q⟩ := h
  obtain ⟨es, e'⟩ := s.ow i ds e
  exact ⟨i, es, e', q⟩
theorem Stp.trans (a : Stp B F H δ σ B1 F1 H1 δ1) (b : Stp B1 F1 H1 δ1 σ B2 F2 H2 δ2) : Stp B F H δ σ B2 F2 H2 δ2 where
  le := a.le.trans b.le
  bl := fun c h => b.bl c (a.bl c h)
  bn := fun c h => by
    rcases b.bn c h with h | h
    · exact a.bn c h
    · exact .inr (none_back a.dm h)
  nw := fun c o h => by
    rcases b.nw c o h with h | h | h
    · exact a.nw c o h
    · exact .inr (.inl (none_back a.dm h))
    · exact .inr (.inr (a.own h))
  kp := fun c o h hB ho => b.kp c o (a.kp c o h hB ho) (fun e => by
    rcases a.bn c e with e | e
    · exact hB e
    · rw [h] at e; cases e) fun q => ho (a.own q)
  dm := fun c o h => by
    obtain ⟨o1, e1⟩ := a.dm c o h
    exact b.dm c o1 e1
  ow := fun i ds h => by
    obtain ⟨es, e⟩ := b.ow i ds h
    exact a.ow i es e
theorem Stp.back (s : Stp B F H δ σ B1 F1 H1 δ1) {p : Addr} (h : H1 p = none ∨ Own δ1 σ p) : H p = none ∨ Own δ σ p := h.imp (none_back s.dm) s.own
theorem RzR.back (s : Stp B F H δ σ B1 F1 H1 δ1) {r : Rz} {v : V} (h : RzR G H1 δ1 B2 F2 H2 δ2 σ r v) : RzR G H δ B2 F2 H2 δ2 σ r v := by
  cases r with
  | sh d => exact h
  | nw ds =>
    obtain ⟨p, xs, e1, e2, e3, e4, e5, e6, e7, e8⟩ := h
    exact ⟨p, xs, e1, e2, e3, e4, e5, e6, e7, s.back e8⟩
theorem Stp.rp {K : PySem.W.Frag} (s : Stp B F H δ σ B1 F1 H1 δ1) {v : V} {d : D} (r : Rp K B F v d) : Rp K B1 F1 v d := r.mono s.le s.bl
theorem Stp.rpl {K : PySem.W.Frag} (s : Stp B F H δ σ B1 F1 H1 δ1) {v : List V} {d : List D} (r : RpL K B F v d) : RpL K B1 F1 v d := r.mono s.le s.bl
theorem Fr0.bagH (f : Fr0 G B F H) {b : Addr} (h : B = some b) : ∃ o, H b = some o := by
  obtain ⟨_, c, ns, x, y, z, e, _⟩ := f.bag b h
  exact ⟨_, e⟩
/-- a call: the callee's frame over this state -/
theorem Rs.call (r : Rs G B F H δ σ) (c : Fr0 ⟨G.K, F, H, B⟩ B1 F1 H1) : Rs G B1 F1 H1 δ σ ∧ Stp B F H δ σ B1 F1 H1 δ := by
  have tr : ∀ a o, G.H0 a = some o → ∃ o', H a = some o' := fun a o h => by
    by_cases hb : G.B0 = some a
    · exact r.bagH (r.bag0 a hb)
    · exact ⟨o, r.keep a o h hb⟩
  have dm : ∀ a o, H a = some o → ∃ o', H1 a = some o' := fun a o h => by
    by_cases hb : B = some a
    · exact c.bagH (c.bag0 a hb)
    · exact ⟨o, c.keep a o h hb⟩
  have bn : ∀ a, B1 = some a → B = some a ∨ H a = none := fun a h => by
    cases q : B with
    | none => exact .inr (c.bagn q a h)
    | some b =>
      have := c.bag0 b q
      rw [h] at this; cases this
      exact .inl rfl
  have st : Stp B F H δ σ B1 F1 H1 δ := ⟨c.low, c.bag0, bn, fun a o h => by
    rcases c.new a o h with h | h
    · exact .inl h
    · exact .inr (.inl h), fun a o h hb _ => c.keep a o h hb, dm, fun _ ds h => ⟨ds, h⟩⟩
  refine ⟨⟨⟨c.sub, r.low.trans c.low, fun a o h => ?_, fun a o h hb => ?_, fun b h => c.bag0 b (r.bag0 b h), fun h b hb => ?_, c.bag⟩, r.len, fun i s h => ?_, r.dis⟩, st⟩
  · rcases c.new a o h with h | h
    · exact r.new a o h
    · exact .inr (none_back tr h)
  · refine c.keep a o (r.keep a o h hb) fun e => ?_
    cases q : G.B0 with
    | none => rw [r.bagn q a e] at h; cases h
    | some b =>
      have := r.bag0 b q
      rw [this] at e; cases e
      exact hb q
  · rcases bn b hb with e | e
    · exact r.bagn h b e
    · exact none_back tr e
  · obtain ⟨ov, e, q⟩ := r.sl i s h
    refine ⟨ov, e, ?_⟩
    cases s with
    | no => exact q
    | sh d =>
      cases ov with
      | none => exact q
      | some v => exact Rp.mono c.low c.bag0 q
    | ow ds =>
      cases ov with
      | none => exact q
      | some v =>
        obtain ⟨p, xs, e1, e2, e3, e4, e5, e6⟩ := q
        refine ⟨p, xs, e1, e2, ?_, fun z => ?_, c.keep p _ e5 e4, e6.mono c.low c.bag0⟩
        · cases z : F1 p with
          | none => rfl
          | some o =>
            rcases c.new p o z with z | z
            · have z' : F p = some o := z
              rw [e3] at z'; cases z'
            · have z' : H p = none := z
              rw [e5] at z'; cases z'
        · rcases bn p z with z | z
          · exact e4 z
          · rw [e5] at z; cases z
theorem Fr0.here (r : Fr0 G B F H) : Fr0 ⟨G.K, F, H, B⟩ B F H :=
  ⟨r.sub, Same.refl _, fun _ _ h => .inl h, fun _ _ h _ => h, fun _ h => h, fun h b hb => (by
    have h' : B = none := h
    rw [h'] at hb; cases hb), r.bag⟩
theorem bagged_keep {K : PySem.W.Frag} {b : Addr} (h : Bagged K F H b) (e : Same F F1) (k : ∀ o, H b = some o → H1 b = some o) : Bagged K F1 H1 b := by
  obtain ⟨c, ns, x, y, z, e1, e2, e3⟩ := h
  exact ⟨c, ns, x, y, z, k _ e1, e.seq e2, e3⟩
theorem same_upd {H : Hp} {p : Addr} {o : HO} (h : H p = none) : Same H (upd H p o) := fun b x e => by
  rw [upd_ne (ne_of_none e h)]; exact e
/-- a new object that is tracked; frozen at once -/
theorem Fr0.newF (r : Fr0 G B F H) {p : Addr} {o : HO} (h : H p = none) : Fr0 ⟨G.K, F, H, B⟩ B (upd F p o) (upd H p o) := by
  have hF : F p = none := by
    cases q : F p with
    | none => rfl
    | some u => rw [r.sub p u q] at h; cases h
  have ne : ∀ b, B = some b → b ≠ p := fun b hb e => by
    obtain ⟨u, hu⟩ := r.bagH hb
    rw [e, h] at hu; cases hu
  refine ⟨fun a u e => ?_, same_upd hF, fun a u e => ?_, fun a u e _ => same_upd h a u e, fun _ q => q, fun q b hb => ?_, fun b hb => ⟨?_, ?_⟩⟩
  · by_cases ha : a = p
    · rw [ha, upd_same] at e ⊢; exact e
    · rw [upd_ne ha] at e ⊢; exact r.sub a u e
  · by_cases ha : a = p
    · exact .inr (by rw [ha]; exact h)
    · rw [upd_ne ha] at e; exact .inl e
  · have q' : B = none := q
    rw [q'] at hb; cases hb
  · rw [upd_ne (ne b hb)]; exact (r.bag b hb).1
  · exact bagged_keep (r.bag b hb).2 (same_upd hF) fun o e => same_upd h b o e
/-- .. left to its maker -/
theorem Fr0.newH (r : Fr0 G B F H) {p : Addr} {o : HO} (h : H p = none) : Fr0 ⟨G.K, F, H, B⟩ B F (upd H p o) :=
  ⟨fun a u e => same_upd h a u (r.sub a u e), Same.refl _, fun _ _ e => .inl e, fun a u e _ => same_upd h a u e, fun _ q => q, fun q b hb => (by
    have q' : B = none := q
    rw [q'] at hb; cases hb), fun b hb => ⟨(r.bag b hb).1, bagged_keep (r.bag b hb).2 (Same.refl _) fun o e => same_upd h b o e⟩⟩
theorem Fr0.noF (r : Fr0 G B F H) {p : Addr} (h : H p = none) : F p = none := by
  cases q : F p with
  | none => rfl
  | some u => rw [r.sub p u q] at h; cases h
theorem Fr0.noB (r : Fr0 G B F H) {p : Addr} (h : H p = none) : B ≠ some p := fun e => by
  obtain ⟨o, q⟩ := r.bagH e
  rw [h] at q; cases q
theorem Rs.noH0 (r : Rs G B F H δ σ) {p : Addr} (h : H p = none) : G.H0 p = none := by
  cases q : G.H0 p with
  | none => rfl
  | some o =>
    by_cases hb : G.B0 = some p
    · obtain ⟨o', e⟩ := r.bagH (r.bag0 p hb)
      rw [h] at e; cases e
    · rw [r.keep p o q hb] at h; cases h
theorem Rs.noOwn (r : Rs G B F H δ σ) {p : Addr} (h : H p = none) : ¬ Own δ σ p := by
  rintro ⟨i, ds, e, q⟩
  obtain ⟨ov, e1, s⟩ := r.sl i _ e
  rw [q] at e1; cases e1
  obtain ⟨p', xs, z, _, _, _, hp, _⟩ := s
  cases z
  rw [h] at hp; cases hp
/-- a slot that holds a list of its own gives it away: from now on it is frozen -/
theorem Rs.freeze (r : Rs G B F H δ σ) {p : Addr} {xs : List V} {ds : List D} (h0 : G.H0 p = none) (hF : F p = none) (hB : B ≠ some p) (hp : H p = some (.lst xs)) (hr : RpL G.K B F xs ds) (ho : ¬ Own δ σ p) :
    Rs G B (upd F p (.lst xs)) H δ σ ∧ Rp G.K B (upd F p (.lst xs)) (.ref p) (.lst ds) := by
  have le : Same F (upd F p (.lst xs)) := same_upd hF
  refine ⟨⟨⟨fun a u e => ?_, r.low.trans le, fun a u e => ?_, r.keep, r.bag0, r.bagn, fun b hb => ⟨?_, ?_⟩⟩, r.len, fun i s h => ?_, r.dis⟩, .lst (.inl (.inl upd_same)) (hr.mono le fun _ h => h)⟩
  · by_cases ha : a = p
    · rw [ha, upd_same] at e; cases e; rw [ha]; exact hp
    · rw [upd_ne ha] at e; exact r.sub a u e
  · by_cases ha : a = p
    · exact .inr (by rw [ha]; exact h0)
    · rw [upd_ne ha] at e; exact r.new a u e
  · rw [upd_ne (fun e => hB (by rw [hb, e]))]; exact (r.bag b hb).1
  · exact bagged_keep (r.bag b hb).2 le fun _ e => e
  · obtain ⟨ov, e, q⟩ := r.sl i s h
    refine ⟨ov, e, ?_⟩
    cases s with
    | no => exact q
    | sh d =>
      cases ov with
      | none => exact q
      | some v => exact Rp.mono le (fun _ h => h) q
    | ow es =>
      cases ov with
      | none => exact q
      | some v =>
        obtain ⟨p', ys, e1, e2, e3, e4, e5, e6⟩ := q
        subst e1
        have ne : p' ≠ p := fun z => ho ⟨i, es, h, by rw [e, z]⟩
        exact ⟨p', ys, rfl, e2, by rw [upd_ne ne]; exact e3, e4, e5, e6.mono le fun _ h => h⟩
/-- an exception's dict is frozen -/
theorem Rs.freezeX (r : Rs G B F H δ σ) {p : Addr} {xs : List (Str × V)} (h0 : G.H0 p = none) (hF : F p = none) (hB : B ≠ some p) (hp : H p = some (.xd xs)) : Rs G B (upd F p (.xd xs)) H δ σ := by
  have le : Same F (upd F p (.xd xs)) := same_upd hF
  refine ⟨⟨fun a u e => ?_, r.low.trans le, fun a u e => ?_, r.keep, r.bag0, r.bagn, fun b hb => ⟨?_, ?_⟩⟩, r.len, fun i s h => ?_, r.dis⟩
  · by_cases ha : a = p
    · rw [ha, upd_same] at e; cases e; rw [ha]; exact hp
    · rw [upd_ne ha] at e; exact r.sub a u e
  · by_cases ha : a = p
    · exact .inr (by rw [ha]; exact h0)
    · rw [upd_ne ha] at e; exact r.new a u e
  · rw [upd_ne (fun e => hB (by rw [hb, e]))]; exact (r.bag b hb).1
  · exact bagged_keep (r.bag b hb).2 le fun _ e => e
  · obtain ⟨ov, e, q⟩ := r.sl i s h
    refine ⟨ov, e, ?_⟩
    cases s with
    | no => exact q
    | sh d =>
      cases ov with
      | none => exact q
      | some v => exact Rp.mono le (fun _ h => h) q
    | ow es =>
      cases ov with
      | none => exact q
      | some v =>
        obtain ⟨p', ys, e1, e2, e3, e4, e5, e6⟩ := q
        subst e1
        have ne : p' ≠ p := fun z => by
          rw [z, hp] at e5; cases e5
        exact ⟨p', ys, rfl, e2, by rw [upd_ne ne]; exact e3, e4, e5, e6.mono le fun _ h => h⟩
/-- a slot is forgotten, or its list told as data -/
theorem Rs.drop (r : Rs G B F H δ σ) (i : Nat) : Rs G B F H (δ.set i .no) σ := by
  refine ⟨r.toFr0, by rw [List.length_set]; exact r.len, fun j s h => ?_, fun j k ds es p h1 h2 => ?_⟩
  · by_cases hj : i = j
    · subst hj
      rw [List.getElem?_set] at h
      split at h
      · split at h
        · cases h
          rename_i hl
          rw [r.len] at hl
          exact ⟨σ[i], by simp [hl], trivial⟩
        · cases h
      · rename_i h9; exact absurd rfl h9
    · rw [List.getElem?_set_ne hj] at h
      exact r.sl j s h
  · have hs : ∀ {m : Nat} {ws : List D}, (δ.set i Sl.no)[m]? = some (Sl.ow ws) → δ[m]? = some (Sl.ow ws) := fun {m ws} h => by
      by_cases hm : i = m
      · subst hm
        rw [List.getElem?_set] at h
        split at h
        · split at h <;> cases h
        · rename_i h9; exact absurd rfl h9
      · rw [List.getElem?_set_ne hm] at h; exact h
    exact r.dis j k ds es p (hs h1) (hs h2)
theorem set_get {α : Type} {l : List α} {i j : Nat} {x y : α} (h : (l.set i x)[j]? = some y) : (j = i ∧ y = x ∧ i < l.length) ∨ (j ≠ i ∧ l[j]? = some y) := by
  by_cases hj : i = j
  · subst hj
    rw [List.getElem?_set] at h
    split at h
    · split at h
      · cases h; exact .inl ⟨rfl, rfl, by assumption⟩
      · cases h
    · rename_i h9; exact absurd rfl h9
  · rw [List.getElem?_set_ne hj] at h
    exact .inr ⟨fun e => hj e.symm, h⟩
/-- a slot of the frame is stored: data -/
theorem Rs.setSh (r : Rs G B F H δ σ) {i : Nat} {v : V} {d : D} (h : Rp G.K B F v d) : Rs G B F H (δ.set i (.sh d)) (σ.set i (some v)) := by
  refine ⟨r.toFr0, by rw [List.length_set, List.length_set]; exact r.len, fun j s e => ?_, fun j k ds es p h1 h2 h3 h4 => ?_⟩
  · rcases set_get e with ⟨rfl, rfl, hl⟩ | ⟨hj, e⟩
    · rw [r.len] at hl
      exact ⟨some v, by rw [List.getElem?_set_self hl], h⟩
    · obtain ⟨ov, e1, q⟩ := r.sl j s e
      exact ⟨ov, by rw [List.getElem?_set_ne (Ne.symm hj)]; exact e1, q⟩
  · rcases set_get h1 with ⟨_, z, _⟩ | ⟨hj, h1⟩
    · cases z
    · rcases set_get h2 with ⟨_, z, _⟩ | ⟨hk, h2⟩
      · cases z
      · rw [List.getElem?_set_ne (Ne.symm hj)] at h3
        rw [List.getElem?_set_ne (Ne.symm hk)] at h4
        exact r.dis j k ds es p h1 h2 h3 h4
/-- a slot of the frame is stored: a list of its own -/
theorem Rs.setOw (r : Rs G B F H δ σ) {i : Nat} {p : Addr} {xs : List V} {ds : List D} (h0 : G.H0 p = none) (hF : F p = none) (hB : B ≠ some p) (hp : H p = some (.lst xs)) (hr : RpL G.K B F xs ds) (ho : ¬ Own δ σ p) :
    Rs G B F H (δ.set i (.ow ds)) (σ.set i (some (.ref p))) := by
  refine ⟨r.toFr0, by rw [List.length_set, List.length_set]; exact r.len, fun j s e => ?_, fun j k es gs q h1 h2 h3 h4 => ?_⟩
  · rcases set_get e with ⟨rfl, rfl, hl⟩ | ⟨hj, e⟩
    · rw [r.len] at hl
      exact ⟨some (.ref p), by rw [List.getElem?_set_self hl], p, xs, rfl, h0, hF, hB, hp, hr⟩
    · obtain ⟨ov, e1, q⟩ := r.sl j s e
      exact ⟨ov, by rw [List.getElem?_set_ne (Ne.symm hj)]; exact e1, q⟩
  · rcases set_get h1 with ⟨e1, _, hl⟩ | ⟨hj, g1⟩
    · rcases set_get h2 with ⟨e2, _, _⟩ | ⟨hk, g2⟩
      · rw [e1, e2]
      · rw [r.len] at hl
        rw [e1, List.getElem?_set_self hl] at h3
        rw [List.getElem?_set_ne (Ne.symm hk)] at h4
        cases h3
        exact absurd ⟨k, gs, g2, h4⟩ ho
    · rw [List.getElem?_set_ne (Ne.symm hj)] at h3
      rcases set_get h2 with ⟨e2, _, hl⟩ | ⟨hk, g2⟩
      · rw [r.len] at hl
        rw [e2, List.getElem?_set_self hl] at h4
        cases h4
        exact absurd ⟨j, es, g1, h3⟩ ho
      · rw [List.getElem?_set_ne (Ne.symm hk)] at h4
        exact r.dis j k es gs q g1 g2 h3 h4
end
end DL

set_option Elab.async false
set_option linter.all false
set_option maxRecDepth 100000
namespace DL
open PySem PySem.Spec PyProof.Rows L2

/-! ### readings over data -/
abbrev KX := Exn → DE → Prop
abbrev UG (α : Type) := DE → (α → DE → Prop) → KX → Prop
abbrev UV := UG D
abbrev UE := UG Rz
abbrev UT := UG Bool
abbrev UA := UG (List D)

def Le (B : Option Addr) (F : Hp) (B' : Option Addr) (F' : Hp) : Prop := Same F F' ∧ ∀ b, B = some b → B' = some b
theorem Le.refl {B : Option Addr} {F : Hp} : Le B F B F := ⟨Same.refl _, fun _ h => h⟩
theorem Le.trans {B B1 B2 : Option Addr} {F F1 F2 : Hp} (a : Le B F B1 F1) (b : Le B1 F1 B2 F2) : Le B F B2 F2 := ⟨a.1.trans b.1, fun c h => b.2 c (a.2 c h)⟩
theorem Stp.toLe {B B1 : Option Addr} {F F1 H H1 : Hp} {δ δ1 : DE} {σ : L2.St} (s : Stp B F H δ σ B1 F1 H1 δ1) : Le B F B1 F1 := ⟨s.le, s.bl⟩
def XOk (G : Gx) (B : Option Addr) (F : Hp) (W : WX) (σ : L2.St) (R : KX) : Prop := ∀ x δ', R x δ' → ∀ B' F' H' c da, Le B F B' F' → Rs G B' F' H' δ' σ → ExR G B' F' H' x c da → W c da σ H'
abbrev Rel (α β : Type) := Hp → DE → Option Addr → Hp → Hp → DE → L2.St → α → β → Prop
def tG (G : Gx) (W : WX) {α β : Type} (R : Rel α β) (u : UG α) : L2.St → Hp → (β → Hp → Prop) → Prop := fun σ H Q =>
  ∃ B F δ Qd Rd, Rs G B F H δ σ ∧ u δ Qd Rd ∧ (∀ a δ', Qd a δ' → ∀ B' F' H' b, Stp B F H δ σ B' F' H' δ' → Rs G B' F' H' δ' σ → R H δ B' F' H' δ' σ a b → Q b H') ∧ XOk G B F W σ Rd
theorem XOk.later {G : Gx} {B B1 : Option Addr} {F F1 : Hp} {W : WX} {σ : L2.St} {R : KX} (x : XOk G B F W σ R) (l : Le B F B1 F1) : XOk G B1 F1 W σ R := fun y δ' h B' F' H' c da l' => x y δ' h B' F' H' c da (l.trans l')
def relV (G : Gx) : Rel D V := fun _ _ B F _ _ _ d v => Rp G.K B F v d
def relE (G : Gx) : Rel Rz V := fun Hs δs B F H δ σ r v => RzR G Hs δs B F H δ σ r v
def relT : Rel Bool Bool := fun _ _ _ _ _ _ _ b k => k = b
def relA (G : Gx) : Rel (List D) (List V) := fun _ _ B F _ _ _ d v => RpL G.K B F v d
abbrev tV (G : Gx) (W : WX) (u : UV) : TE := tG G W (relV G) u
abbrev tE (G : Gx) (W : WX) (u : UE) : TE := tG G W (relE G) u
abbrev tT (G : Gx) (W : WX) (u : UT) : TT := tG G W relT u
abbrev tA (G : Gx) (W : WX) (u : UA) : TA := tG G W (relA G) u
abbrev QV (G : Gx) (W : WX) (X : Cx) (e : Expr) (u : UV) : Prop := PE X e (tV G W u)
abbrev QE (G : Gx) (W : WX) (X : Cx) (e : Expr) (u : UE) : Prop := PE X e (tE G W u)
abbrev QT (G : Gx) (W : WX) (X : Cx) (e : Expr) (u : UT) : Prop := PT X e (tT G W u)
abbrev QW (G : Gx) (W : WX) (X : Cx) (e : Expr) (u : UT) : Prop := PW X e (tT G W u)
abbrev QA (G : Gx) (W : WX) (X : Cx) (es : List Expr) (u : UA) : Prop := PA X es (tA G W u)

section
variable {X : Cx} {e : Expr} {es : List Expr}
theorem pe_mono {t t' : TE} (h : PE X e t) (m : ∀ σ H Q, t' σ H Q → t σ H Q) : PE X e t' := ⟨fun pins s σ H Q I q => h.run pins s σ H Q I (m σ H Q q)⟩
theorem pt_mono {t t' : TT} (h : PT X e t) (m : ∀ σ H Q, t' σ H Q → t σ H Q) : PT X e t' := ⟨fun pins s σ H Q I q => h.run pins s σ H Q I (m σ H Q q)⟩
theorem pw_mono {t t' : TT} (h : PW X e t) (m : ∀ σ H Q, t' σ H Q → t σ H Q) : PW X e t' := ⟨fun wh pins s σ H Q I q => h.run wh pins s σ H Q I (m σ H Q q)⟩
theorem pa_mono {t t' : TA} (h : PA X es t) (m : ∀ σ H Q, t' σ H Q → t σ H Q) : PA X es t' := ⟨fun pos pins s σ H Q I q => h.run pos pins s σ H Q I (m σ H Q q)⟩
end

/-- one step of a reading: what comes behind is read again, from the state that it left -/
theorem tG_then {G : Gx} {W : WX} {α β : Type} {R : Rel α β} {u : UG α} {σ : L2.St} {H : Hp} {Q : β → Hp → Prop} {B : Option Addr} {F : Hp} {δ : DE} {Qd : α → DE → Prop} {Rd : KX} (rs : Rs G B F H δ σ) (h : u δ Qd Rd) (x : XOk G B F W σ Rd)
    (k : ∀ a δ', Qd a δ' → ∀ B' F' H' b, Stp B F H δ σ B' F' H' δ' → Rs G B' F' H' δ' σ → R H δ B' F' H' δ' σ a b → Q b H') : tG G W R u σ H Q := ⟨B, F, δ, Qd, Rd, rs, h, k, x⟩

section
variable {G : Gx} {W : WX} {X : Cx} {e a b c : Expr} {es : List Expr} {pos : Pos}

/-! ### names, constants -/
@[simp] def uNm (i : Nat) : UV := fun δ Q _ => match δ[i]? with
  | some (.sh d) => Q d δ
  | some (.ow ds) => Q (.lst ds) (δ.set i (.sh (.lst ds)))
  | _ => False
@[simp] def uMv (i : Nat) : UE := fun δ Q _ => match δ[i]? with
  | some (.sh d) => Q (.sh d) δ
  | some (.ow ds) => Q (.nw ds) (δ.set i .no)
  | _ => False
theorem Rs.owAt {B : Option Addr} {F H : Hp} {δ : DE} {σ : L2.St} (r : Rs G B F H δ σ) {i : Nat} {ds : List D} (h : δ[i]? = some (.ow ds)) :
    ∃ p xs, σ[i]? = some (some (.ref p)) ∧ G.H0 p = none ∧ F p = none ∧ B ≠ some p ∧ H p = some (.lst xs) ∧ RpL G.K B F xs ds := by
  obtain ⟨ov, e, q⟩ := r.sl i _ h
  cases ov with
  | none => exact q.elim
  | some v =>
    obtain ⟨p, xs, e1, e2⟩ := q
    subst e1
    exact ⟨p, xs, e, e2⟩
theorem Rs.shAt {B : Option Addr} {F H : Hp} {δ : DE} {σ : L2.St} (r : Rs G B F H δ σ) {i : Nat} {d : D} (h : δ[i]? = some (.sh d)) : ∃ v, σ[i]? = some (some v) ∧ Rp G.K B F v d := by
  obtain ⟨ov, e, q⟩ := r.sl i _ h
  cases ov with
  | none => exact q.elim
  | some v => exact ⟨v, e, q⟩
theorem no_own_drop {δ : DE} {σ : L2.St} {i : Nat} {p : Addr} {ds : List D} (dis : ∀ (i j : Nat) (ds es : List D) (p : Addr), δ[i]? = some (.ow ds) → δ[j]? = some (.ow es) → σ[i]? = some (some (.ref p)) → σ[j]? = some (some (.ref p)) → i = j)
    (h : δ[i]? = some (.ow ds)) (hp : σ[i]? = some (some (.ref p))) {s : Sl} (hs : ∀ es, s ≠ .ow es) : ¬ Own (δ.set i s) σ p := by
  rintro ⟨j, es, e, q⟩
  rcases set_get e with ⟨_, z, _⟩ | ⟨hj, e⟩
  · exact hs es z.symm
  · exact hj (dis j i es ds p e h q hp)
theorem stp_set {B : Option Addr} {F H : Hp} {δ : DE} {σ : L2.St} {i : Nat} {s : Sl} (hs : ∀ es, s ≠ .ow es) : Stp B F H δ σ B F H (δ.set i s) :=
  ⟨Same.refl _, fun _ h => h, fun _ h => .inl h, fun _ _ h => .inl h, fun _ _ h _ _ => h, fun _ o h => ⟨o, h⟩, fun j ds h => by
    rcases set_get h with ⟨_, z, _⟩ | ⟨_, h⟩
    · exact absurd z.symm (hs ds)
    · exact ⟨ds, h⟩⟩
theorem qe_mv {i : Nat} (h : PE X e (tVar i)) : QE G W X e (uMv i) := pe_mono h fun σ H Q ⟨B, F, δ, Qd, Rd, rs, h, k, x⟩ => by
  unfold uMv at h
  split at h
  · rename_i d hd
    obtain ⟨v, e1, r⟩ := rs.shAt hd
    exact ⟨v, e1, k _ _ h B F H v Stp.refl rs r⟩
  · rename_i ds hd
    obtain ⟨p, xs, e1, e2, e3, e4, e5, e6⟩ := rs.owAt hd
    exact ⟨.ref p, e1, k _ _ h B F H _ (stp_set (by intro _ z; cases z)) (rs.drop i) ⟨p, xs, rfl, e2, e3, e4, e5, e6, no_own_drop rs.dis hd e1 (by intro _ z; cases z), .inr ⟨i, ds, hd, e1⟩⟩⟩
  · exact h.elim
theorem Rs.put {B : Option Addr} {F H : Hp} {δ : DE} {σ : L2.St} (r : Rs G B F H δ σ) {i : Nat} {v : V} {d : D} (hv : σ[i]? = some (some v)) (h : Rp G.K B F v d) : Rs G B F H (δ.set i (.sh d)) σ := by
  have e := r.setSh (i := i) h
  have hl : i < σ.length := (List.getElem?_eq_some_iff.mp hv).1
  have q : σ.set i (some v) = σ := by
    refine List.ext_getElem? fun j => ?_
    by_cases hj : i = j
    · subst hj
      rw [List.getElem?_set_self hl, hv]
    · rw [List.getElem?_set_ne hj]
  rw [q] at e
  exact e
/-- freezing a list that an expression gave -/
@[simp] def uFz (u : UE) : UV := fun δ Q R => u δ (fun r δ' => Q r.dat δ') R
theorem stp_freeze {B : Option Addr} {F H : Hp} {δ : DE} {σ : L2.St} {B1 : Option Addr} {F1 H1 : Hp} {δ1 : DE} (s : Stp B F H δ σ B1 F1 H1 δ1) {p : Addr} {o : HO} (hF : F1 p = none) (hp : H p = none ∨ Own δ σ p) : Stp B F H δ σ B1 (upd F1 p o) H1 δ1 :=
  ⟨s.le.trans (same_upd hF), s.bl, s.bn, fun a u h => by
    by_cases ha : a = p
    · rw [ha]; exact .inr hp
    · rw [upd_ne ha] at h; exact s.nw a u h, s.kp, s.dm, s.ow⟩
theorem qv_nm {i : Nat} (h : PE X e (tVar i)) : QV G W X e (uNm i) := pe_mono h fun σ H Q ⟨B, F, δ, Qd, Rd, rs, h, k, x⟩ => by
  unfold uNm at h
  split at h
  · rename_i d hd
    obtain ⟨v, e1, r⟩ := rs.shAt hd
    exact ⟨v, e1, k _ _ h B F H v Stp.refl rs r⟩
  · rename_i ds hd
    obtain ⟨p, xs, e1, e2, e3, e4, e5, e6⟩ := rs.owAt hd
    obtain ⟨rs1, rp⟩ := (rs.drop i).freeze e2 e3 e4 e5 e6 (no_own_drop rs.dis hd e1 (by intro _ z; cases z))
    have rs2 := rs1.put e1 rp
    have e : (δ.set i Sl.no).set i (Sl.sh (.lst ds)) = δ.set i (.sh (.lst ds)) := List.set_set ..
    rw [e] at rs2
    exact ⟨.ref p, e1, k _ _ h B _ H _ (stp_freeze (stp_set (by intro _ z; cases z)) e3 (.inr ⟨i, ds, hd, e1⟩)) rs2 rp⟩
  · exact h.elim
/-- is the result of an expression new to those who called it, or a slot's own -/
theorem qv_fz {u : UE} (h : QE G W X e u) : QV G W X e (uFz u) := pe_mono h fun σ H Q ⟨B, F, δ, Qd, Rd, rs, h, k, x⟩ =>
  tG_then rs h x fun r δ' q B' F' H' v st rs' rr => by
    cases r with
    | sh d => exact k _ _ q B' F' H' v st rs' rr
    | nw ds =>
      obtain ⟨p, xs, e1, e2, e3, e4, e5, e6, e7, e8⟩ := rr
      subst e1
      obtain ⟨rs1, rp⟩ := rs'.freeze e2 e3 e4 e5 e6 e7
      exact k _ _ q B' _ H' _ (stp_freeze st e3 e8) rs1 rp
@[simp] def uSh (u : UV) : UE := fun δ Q R => u δ (fun d δ' => Q (.sh d) δ') R
theorem qe_sh {u : UV} (h : QV G W X e u) : QE G W X e (uSh u) := pe_mono h fun σ H Q ⟨B, F, δ, Qd, Rd, rs, h, k, x⟩ => tG_then rs h x fun d δ' q B' F' H' v st rs' rr => k _ _ q B' F' H' v st rs' rr

@[simp] def uC (d : D) : UV := fun δ Q _ => Q d δ
theorem qv_c {v : V} {d : D} (h : PE X e (tC v)) (r : ∀ B F, Rp G.K B F v d) : QV G W X e (uC d) := pe_mono h fun σ H Q ⟨B, F, δ, Qd, Rd, rs, h, k, x⟩ => k _ _ h B F H v Stp.refl rs (r B F)
theorem qv_int {i : Int} {j : Nat} : QV G W X (.Constant (.int i) j pos) (uC (.int i)) := qv_c pe_int fun _ _ => .int i
theorem qv_bl {b : Bool} {j : Nat} : QV G W X (.Constant (.bool b) j pos) (uC (.bl b)) := qv_c pe_bl fun _ _ => .bl b
theorem qv_non {j : Nat} : QV G W X (.Constant .none j pos) (uC .non) := qv_c pe_non fun _ _ => .non
theorem qv_str {x : Str} {j : Nat} : QV G W X (.Constant (.str x) j pos) (uC (.str x)) := qv_c pe_str fun _ _ => .str x
/-- a built-in class by its name -/
theorem qv_ty {x : Str} {n : String} (hg : Gl X x) (hm : X.mg x = none) (hv : bootBuiltins x = some (.type n)) (hn : x ≠ "__name__" := by decide) (hd : (x == ("__debug__" : Str)) = false := by decide) : QV G W X (.Name x pos) (uC (.ty n)) :=
  qv_c (pe_bltn (v := .ty n) hg hm hv rfl hn hd) fun _ _ => .ty n
/-- a module's constant -/
theorem qv_glob {x : Str} {v : V} {u : Value} {d : D} (hg : Gl X x) (hm : X.mg x = some u) (r : RelV v u) (hr : ∀ B F, Rp G.K B F v d) (hd : (x == ("__debug__" : Str)) = false := by decide) : QV G W X (.Name x pos) (uC d) :=
  qv_c (pe_glob hg hm r hd) hr

/-! ### arguments, displays -/
@[simp] def uNil : UA := fun δ Q _ => Q [] δ
@[simp] def uCons (u : UV) (ur : UA) : UA := fun δ Q R => u δ (fun d δ1 => ur δ1 (fun ds δ2 => Q (d :: ds) δ2) R) R
theorem qa_nil : QA G W X [] uNil := pa_mono pa_nil fun σ H Q ⟨B, F, δ, Qd, Rd, rs, h, k, x⟩ => k _ _ h B F H [] Stp.refl rs .nil
theorem qa_cons {u : UV} {ur : UA} (ha : QV G W X e u) (hr : QA G W X es ur) (hs : starEach (e :: es) X.env = (false, eval e X.env) :: starEach es X.env := by rfl) : QA G W X (e :: es) (uCons u ur) :=
  pa_mono (pa_cons ha hr hs) fun σ H Q ⟨B, F, δ, Qd, Rd, rs, h, k, x⟩ =>
    tG_then rs h x fun d δ1 q B1 F1 H1 v st1 rs1 r1 => tG_then rs1 q (x.later st1.toLe) fun ds δ2 q2 B2 F2 H2 vs st2 rs2 r2 => k _ _ q2 B2 F2 H2 _ (st1.trans st2) rs2 (.cons (st2.rp r1) r2)
@[simp] def uTup (ua : UA) : UV := fun δ Q R => ua δ (fun ds δ' => ds.length ≤ 16777216 ∧ Q (.tup ds) δ') R
@[simp] def uLst (ua : UA) : UE := fun δ Q R => ua δ (fun ds δ' => ds.length ≤ 16777216 ∧ Q (.nw ds) δ') R
theorem qv_tup {ua : UA} {k : Nat} (h : QA G W X es ua) : QV G W X (.Tuple es k pos) (uTup ua) := pe_mono (pe_tup h) fun σ H Q ⟨B, F, δ, Qd, Rd, rs, h, k, x⟩ =>
  tG_then rs h x fun ds δ1 ⟨hl, q⟩ B1 F1 H1 vs st1 rs1 r1 => by
    refine ⟨by rw [r1.length, sizeLine_eq]; exact hl, fun p hp => ?_⟩
    obtain ⟨rs2, st2⟩ := rs1.call (rs1.toFr0.newF (o := .tup vs) hp)
    exact k _ _ q _ _ _ _ (st1.trans st2) rs2 (.tup (.inl (.inl upd_same)) (st2.rpl r1))
theorem qe_lst {ua : UA} (h : QA G W X es ua) : QE G W X (.List es pos) (uLst ua) := pe_mono (pe_lst h) fun σ H Q ⟨B, F, δ, Qd, Rd, rs, h, k, x⟩ =>
  tG_then rs h x fun ds δ1 ⟨hl, q⟩ B1 F1 H1 vs st1 rs1 r1 => by
    refine ⟨by rw [r1.length, sizeLine_eq]; exact hl, fun p hp => ?_⟩
    obtain ⟨rs2, st2⟩ := rs1.call (rs1.toFr0.newH (o := .lst vs) hp)
    exact k _ _ q _ _ _ _ (st1.trans st2) rs2 ⟨p, vs, rfl, rs1.noH0 hp, rs1.toFr0.noF hp, rs1.toFr0.noB hp, upd_same, r1, rs1.noOwn hp, .inl (none_back st1.dm hp)⟩

/-! ### operators on data that lay nothing -/
abbrev G2 := D → D → (D → Prop) → Prop
abbrev G1 := D → (D → Prop) → Prop
def OpD (K : PySem.W.Frag) (r : R2) (g : G2) : Prop := ∀ B F H v w x y (Qd : D → Prop) (Q : VK), Same F H → Rp K B F v x → Rp K B F w y → g x y Qd → (∀ d u, Qd d → Rp K B F u d → Q u H) → r v w H Q
def UnD (K : PySem.W.Frag) (r : V → Hp → VK → Prop) (g : G1) : Prop := ∀ B F H v x (Qd : D → Prop) (Q : VK), Same F H → Rp K B F v x → g x Qd → (∀ d u, Qd d → Rp K B F u d → Q u H) → r v H Q
@[simp] def uOp (g : G2) (ua ub : UV) : UV := fun δ Q R => ua δ (fun x δ1 => ub δ1 (fun y δ2 => g x y (fun d => Q d δ2)) R) R
@[simp] def uUn (g : G1) (ua : UV) : UV := fun δ Q R => ua δ (fun x δ1 => g x (fun d => Q d δ1)) R
theorem t_op {r : R2} {g : G2} {ua ub : UV} (ho : OpD G.K r g) {σ : L2.St} {H : Hp} {Q : VK} (t : tV G W (uOp g ua ub) σ H Q) : tOp r (tV G W ua) (tV G W ub) σ H Q := by
  obtain ⟨B, F, δ, Qd, Rd, rs, h, k, x⟩ := t
  exact tG_then rs h x fun a δ1 q B1 F1 H1 v st1 rs1 r1 => tG_then rs1 q (x.later st1.toLe) fun b δ2 q2 B2 F2 H2 w st2 rs2 r2 =>
    ho B2 F2 H2 v w a b _ _ rs2.sub (st2.rp r1) r2 q2 fun d u qd ru => k _ _ qd B2 F2 H2 u (st1.trans st2) rs2 ru
theorem qv_op {op : Operator} {r : R2} {g : G2} {ua ub : UV} (ho : OpR X (binaryOp op) r) (hd : OpD G.K r g) (ha : QV G W X a ua) (hb : QV G W X b ub) : QV G W X (.BinOp a op b pos) (uOp g ua ub) :=
  pe_mono (pe_op ho ha hb) fun σ H Q t => t_op hd t
theorem qv_cmp {op : CmpOp} {r : R2} {g : G2} {ua ub : UV} (ho : OpR X (compareOp op) r) (hd : OpD G.K r g) (ha : QV G W X a ua) (hb : QV G W X b ub) (hm : behindInMarks op b = false) : QV G W X (.Compare a [op] [b] pos) (uOp g ua ub) :=
  pe_mono (pe_cmpR ho ha hb hm) fun σ H Q t => t_op hd t
theorem qv_un {op : UnaryOp} {r : V → Hp → VK → Prop} {g : G1} {ua : UV} (ho : UnR X (unaryOp op) r) (hd : UnD G.K r g) (ha : QV G W X a ua) : QV G W X (.UnaryOp op a pos) (uUn g ua) :=
  pe_mono (pe_un ho ha) fun σ H Q ⟨B, F, δ, Qd, Rd, rs, h, k, x⟩ => tG_then rs h x fun d δ1 q B1 F1 H1 v st1 rs1 r1 => hd B1 F1 H1 v d _ _ rs1.sub r1 q fun d u qd ru => k _ _ qd B1 F1 H1 u st1 rs1 ru
section
variable {K : PySem.W.Frag} {B : Option Addr} {F : Hp} {v : V}
theorem rp_int {i : Int} (h : Rp K B F v (.int i)) : v = .int i := by cases h; rfl
theorem rp_bl {i : Bool} (h : Rp K B F v (.bl i)) : v = .bl i := by cases h; rfl
theorem rp_str {i : Str} (h : Rp K B F v (.str i)) : v = .str i := by cases h; rfl
theorem rp_non (h : Rp K B F v .non) : v = .non := by cases h; rfl
theorem rp_ty {n : String} (h : Rp K B F v (.ty n)) : v = .ty n := by cases h; rfl
theorem rp_tup {ds : List D} (h : Rp K B F v (.tup ds)) : ∃ a xs, v = .ref a ∧ SqT K F a xs ∧ RpL K B F xs ds := by cases h with | tup h r => exact ⟨_, _, rfl, h, r⟩
theorem rp_lst {ds : List D} (h : Rp K B F v (.lst ds)) : ∃ a xs, v = .ref a ∧ SqL K F a xs ∧ RpL K B F xs ds := by cases h with | lst h r => exact ⟨_, _, rfl, h, r⟩
end
@[simp] def gI (C : Int → Int → Prop) (f : Int → Int → D) : G2 := fun x y Q => match x, y with | .int i, .int j => C i j ∧ Q (f i j) | _, _ => False
@[simp] def gI0 (f : Int → Int → D) : G2 := fun x y Q => match x, y with | .int i, .int j => Q (f i j) | _, _ => False
theorem opd_I0 {f : Int → Int → Int} : OpD G.K (rI0 fun i j => .int (f i j)) (gI0 fun i j => .int (f i j)) := fun B F H v w x y Qd Q _ r1 r2 g k => by
  unfold gI0 at g
  split at g
  · exact ⟨_, _, rp_int r1, rp_int r2, k _ _ g (.int _)⟩
  · exact g.elim
theorem opd_B0 {f : Int → Int → Bool} : OpD G.K (rI0 fun i j => .bl (f i j)) (gI0 fun i j => .bl (f i j)) := fun B F H v w x y Qd Q _ r1 r2 g k => by
  unfold gI0 at g
  split at g
  · exact ⟨_, _, rp_int r1, rp_int r2, k _ _ g (.bl _)⟩
  · exact g.elim
theorem opd_I {C : Int → Int → Prop} {f : Int → Int → Int} : OpD G.K (rI C fun i j => .int (f i j)) (gI C fun i j => .int (f i j)) := fun B F H v w x y Qd Q _ r1 r2 g k => by
  unfold gI at g
  split at g
  · exact ⟨_, _, rp_int r1, rp_int r2, g.1, k _ _ g.2 (.int _)⟩
  · exact g.elim
theorem und_I {f : Int → Int} : UnD G.K (rU fun i => .int (f i)) (fun x Q => match x with | .int i => Q (.int (f i)) | _ => False) := fun B F H v x Qd Q _ r1 g k => by
  dsimp only at g
  split at g
  · exact ⟨_, rp_int r1, k _ _ g (.int _)⟩
  · exact g.elim
/-- products of any size below the model's line, divisions by what is below 2 ^ 9000 -/
def CMulX (i j : Int) : Prop := i.natAbs.log2 + j.natAbs.log2 < 100000000 ∨ i.natAbs < 2 ^ 62 ∨ j.natAbs < 2 ^ 62
def CDivX (_ j : Int) : Prop := j ≠ 0 ∧ j.natAbs.log2 < 9000
theorem CMulX.ok {i j : Int} (h : CMulX i j) : IntMulOk i j := by
  rcases h with h | h | h
  · have b : ∀ x : Int, Builtin.Int.intBits x ≤ x.natAbs.log2 + 1 := fun x => by
      unfold Builtin.Int.intBits
      split <;> omega
    have h1 := b i
    have h2 := b j
    have h3 : i.natAbs.log2 + j.natAbs.log2 < 100000000 := h
    have e : bitsLine = 134217728 := by decide
    unfold IntMulOk
    intro z
    rw [Bool.and_eq_true] at z
    have z2 := of_decide_eq_true z.2
    rw [e] at z2
    omega
  · exact .of_left (PySem.intBits_le_64 (by omega) (by omega))
  · exact .of_right (PySem.intBits_le_64 (by omega) (by omega))
theorem op_mulX : OpR X (binaryOp .Mult) (rI CMulX fun i j => .int (i * j)) := opI fun _ _ _ _ _ _ _ hc q => mul_int q hc.ok
theorem op_fdivX : OpR X (binaryOp .FloorDiv) (rI CDivX fun i j => .int (i.fdiv j)) := opI fun i j _ _ _ _ _ hc q => floordiv_int hc.1 q (.inl (PyProof.noPylong_of_log2 hc.2))
@[simp] def gAdd : G2 := gI0 fun i j => .int (i + j)
@[simp] def gSub : G2 := fun x y Q => match x, y with | .int i, .int j => Q (.int (i - j)) | .bl i, .bl j => Q (.int ((if i then 1 else 0) - (if j then 1 else 0))) | _, _ => False
@[simp] def gMul : G2 := gI CMulX fun i j => .int (i * j)
@[simp] def gFdv : G2 := gI CDivX fun i j => .int (i.fdiv j)
@[simp] def gMod : G2 := gI (fun _ j => j ≠ 0) fun i j => .int (i.fmod j)
@[simp] def gPow : G2 := gI CPow fun i j => .int (i ^ j.toNat)
@[simp] def gShl : G2 := gI CPow fun i j => .int (i * 2 ^ j.toNat)
@[simp] def gLt : G2 := gI0 fun i j => .bl (decide (i < j))
@[simp] def gLe : G2 := gI0 fun i j => .bl (decide (i ≤ j))
@[simp] def gGt : G2 := gI0 fun i j => .bl (decide (j < i))
@[simp] def gGe : G2 := gI0 fun i j => .bl (decide (j ≤ i))
@[simp] def gNeg : G1 := fun x Q => match x with | .int i => Q (.int (-i)) | _ => False
theorem op_sub_bb : OpR X (binaryOp .Sub) (fun x y H Q => ∃ i k, x = .bl i ∧ y = .bl k ∧ Q (.int ((if i then 1 else 0) - (if k then 1 else 0))) H) := by
  intro pins s σ H x y v u Q I r1 r2 h
  obtain ⟨i, k, rfl, rfl, q⟩ := h
  cases r1
  cases r2
  exact PyProof.Rows.sub_bool ⟨.int _, H, I.tok _, ⟨_, rfl⟩, q⟩
theorem qv_add {ua ub : UV} (ha : QV G W X a ua) (hb : QV G W X b ub) : QV G W X (.BinOp a .Add b pos) (uOp gAdd ua ub) := qv_op op_add opd_I0 ha hb
theorem qv_sub {ua ub : UV} (ha : QV G W X a ua) (hb : QV G W X b ub) : QV G W X (.BinOp a .Sub b pos) (uOp gSub ua ub) :=
  qv_op (OpR.or op_sub op_sub_bb) (fun B F H v w x y Qd Q _ r1 r2 g k => by
    unfold gSub at g
    split at g
    · exact .inl ⟨_, _, rp_int r1, rp_int r2, k _ _ g (.int _)⟩
    · exact .inr ⟨_, _, rp_bl r1, rp_bl r2, k _ _ g (.int _)⟩
    · exact g.elim) ha hb
theorem qv_mul {ua ub : UV} (ha : QV G W X a ua) (hb : QV G W X b ub) : QV G W X (.BinOp a .Mult b pos) (uOp gMul ua ub) := qv_op op_mulX opd_I ha hb
theorem qv_fdv {ua ub : UV} (ha : QV G W X a ua) (hb : QV G W X b ub) : QV G W X (.BinOp a .FloorDiv b pos) (uOp gFdv ua ub) := qv_op op_fdivX opd_I ha hb
theorem qv_mod {ua ub : UV} (ha : QV G W X a ua) (hb : QV G W X b ub) : QV G W X (.BinOp a .Mod b pos) (uOp gMod ua ub) := qv_op op_modN opd_I ha hb
theorem qv_pow {ua ub : UV} (ha : QV G W X a ua) (hb : QV G W X b ub) : QV G W X (.BinOp a .Pow b pos) (uOp gPow ua ub) := qv_op op_pow opd_I ha hb
theorem qv_shl {ua ub : UV} (ha : QV G W X a ua) (hb : QV G W X b ub) : QV G W X (.BinOp a .LShift b pos) (uOp gShl ua ub) := qv_op op_shl opd_I ha hb
theorem qv_neg {ua : UV} (ha : QV G W X a ua) : QV G W X (.UnaryOp .USub a pos) (uUn gNeg ua) := qv_un un_neg und_I ha
theorem qv_lt {ua ub : UV} (ha : QV G W X a ua) (hb : QV G W X b ub) : QV G W X (.Compare a [.Lt] [b] pos) (uOp gLt ua ub) := qv_cmp op_lt opd_B0 ha hb (nomark _)
theorem qv_le {ua ub : UV} (ha : QV G W X a ua) (hb : QV G W X b ub) : QV G W X (.Compare a [.LtE] [b] pos) (uOp gLe ua ub) := qv_cmp op_le opd_B0 ha hb (nomark _)
theorem qv_gt {ua ub : UV} (ha : QV G W X a ua) (hb : QV G W X b ub) : QV G W X (.Compare a [.Gt] [b] pos) (uOp gGt ua ub) := qv_cmp op_gt opd_B0 ha hb (nomark _)
theorem qv_ge {ua ub : UV} (ha : QV G W X a ua) (hb : QV G W X b ub) : QV G W X (.Compare a [.GtE] [b] pos) (uOp gGe ua ub) := qv_cmp op_ge opd_B0 ha hb (nomark _)
/-- is None -/
@[simp] def isNon : D → Bool
  | .non => true
  | _ => false
@[simp] def gIsN : G2 := fun x y Q => match y with | .non => Q (.bl (isNon x)) | _ => False
@[simp] def gNotN : G2 := fun x y Q => match y with | .non => Q (.bl (!isNon x)) | _ => False
theorem isNon_eq {K : PySem.W.Frag} {B : Option Addr} {F : Hp} {v : V} {d : D} (r : Rp K B F v d) : decide (v = .non) = isNon d := by
  cases r <;> first | rfl | exact decide_eq_false (fun z => nomatch z)
theorem qv_isN {ua ub : UV} (ha : QV G W X a ua) (hb : QV G W X b ub) : QV G W X (.Compare a [.Is] [b] pos) (uOp gIsN ua ub) :=
  qv_cmp op_isN (fun B F H v w x y Qd Q _ r1 r2 g k => by
    unfold gIsN at g
    split at g
    · exact ⟨rp_non r2, by rw [isNon_eq r1]; exact k _ _ g (.bl _)⟩
    · exact g.elim) ha hb (nomark _)
theorem qv_notN {ua ub : UV} (ha : QV G W X a ua) (hb : QV G W X b ub) : QV G W X (.Compare a [.IsNot] [b] pos) (uOp gNotN ua ub) :=
  qv_cmp op_notN (fun B F H v w x y Qd Q _ r1 r2 g k => by
    unfold gNotN at g
    split at g
    · exact ⟨rp_non r2, by rw [isNon_eq r1]; exact k _ _ g (.bl _)⟩
    · exact g.elim) ha hb (nomark _)
end
end DL

set_option Elab.async false
set_option linter.all false
set_option maxRecDepth 100000
namespace DL
open PySem PySem.Spec PyProof.Rows L2

/-! ### == over data -/
mutual
def D.py : D → PyData
  | .non => .none
  | .bl b => .bool b
  | .int i => .int i
  | .str x => .str x
  | .tup xs => .tuple (D.pyL xs)
  | .lst xs => .list (D.pyL xs)
  | .bag => .dict []
  | .ty _ => .dict []
  | .obj _ => .dict []
  | .ins _ _ => .dict []
  | .exc _ _ _ _ => .dict []
  | .exi _ _ => .dict []
def D.pyL : List D → List PyData
  | [] => []
  | x :: r => D.py x :: D.pyL r
end
section
variable {K : PySem.W.Frag} {B : Option Addr} {F H : Hp}
mutual
theorem dp_of (e : Same F H) : ∀ {v : V} {d : D}, Rp K B F v d → d.py.canLay0 = true → Dp K H v d.py
  | _, _, .non, _ => .non
  | _, _, .bl b, _ => .bl b
  | _, _, .int i, _ => .int i
  | _, _, .str x, _ => .str x
  | _, _, .tup h r, c => .tup (sqT_mono e h) (dpl_of e r (by simpa [D.py, PyData.canLay0] using c))
  | _, _, .lst h r, c => .lst (e.seq h) (dpl_of e r (by simpa [D.py, PyData.canLay0] using c))
  | _, _, .bag _, c => by simp [D.py, PyData.canLay0] at c
  | _, _, .ty _, c => by simp [D.py, PyData.canLay0] at c
  | _, _, .obj _, c => by simp [D.py, PyData.canLay0] at c
  | _, _, .ins _ _, c => by simp [D.py, PyData.canLay0] at c
  | _, _, .exc _ _, c => by simp [D.py, PyData.canLay0] at c
  | _, _, .exi _ _ _, c => by simp [D.py, PyData.canLay0] at c
theorem dpl_of (e : Same F H) : ∀ {vs : List V} {ds : List D}, RpL K B F vs ds → PyData.canLayAll0 (D.pyL ds) = true → DpAll K H vs (D.pyL ds)
  | _, _, .nil, _ => .nil
  | _, _, .cons h r, c => by
    have c' := c
    simp only [D.pyL, PyData.canLayAll0, Bool.and_eq_true] at c'
    exact .cons (dp_of e h c'.1) (dpl_of e r c'.2)
end
end
/-- data whose == is told -/
@[simp] def gEqG (neg : Bool) (x y : D) (Q : D → Prop) : Prop := SeqAt.shaped x.py = true ∧ SeqAt.shaped y.py = true ∧ Q (.bl (if neg then !PyData.eqv x.py y.py else PyData.eqv x.py y.py))
@[simp] def gEq : G2 := fun x y Q => match x, y with
  | .int i, .int j => Q (.bl (decide (i = j)))
  | .str i, .str j => Q (.bl (decide (i = j)))
  | .bl i, .bl j => Q (.bl (decide (i = j)))
  | .non, .non => Q (.bl true)
  | x, y => gEqG false x y Q
@[simp] def gNe : G2 := fun x y Q => match x, y with
  | .int i, .int j => Q (.bl (!decide (i = j)))
  | .str i, .str j => Q (.bl (!decide (i = j)))
  | .bl i, .bl j => Q (.bl (!decide (i = j)))
  | .non, .non => Q (.bl false)
  | x, y => gEqG true x y Q
section
variable {G : Gx} {W : WX} {X : Cx} {e a b c : Expr} {es : List Expr} {pos : Pos}
theorem opd_eq : OpD G.K (fun x y H Q => rEq x y H Q ∨ rEqD G.K x y H Q) gEq := fun B F H v w x y Qd Q e r1 r2 g k => by
  unfold gEq at g
  split at g
  · cases rp_int r1; cases rp_int r2
    refine .inl ⟨rfl, ?_⟩
    rw [dec_int, ← Bool.beq_eq_decide_eq] at *
    exact k _ _ g (.bl _)
  · cases rp_str r1; cases rp_str r2
    refine .inl ⟨rfl, ?_⟩
    rw [dec_str, ← Bool.beq_eq_decide_eq] at *
    exact k _ _ g (.bl _)
  · cases rp_bl r1; cases rp_bl r2
    refine .inl ⟨rfl, ?_⟩
    rw [dec_bl, ← Bool.beq_eq_decide_eq] at *
    exact k _ _ g (.bl _)
  · cases rp_non r1; cases rp_non r2
    exact .inl ⟨rfl, k _ _ g (.bl _)⟩
  · obtain ⟨s1, s2, g⟩ := g
    exact .inr ⟨_, _, dp_of e r1 (SeqAt.canLay_of_shaped s1), dp_of e r2 (SeqAt.canLay_of_shaped s2), s1, s2, k _ _ g (.bl _)⟩
theorem opd_ne : OpD G.K (fun x y H Q => rNe x y H Q ∨ rNeD G.K x y H Q) gNe := fun B F H v w x y Qd Q e r1 r2 g k => by
  unfold gNe at g
  split at g
  · cases rp_int r1; cases rp_int r2
    refine .inl ⟨rfl, ?_⟩
    rw [dec_int, ← Bool.beq_eq_decide_eq] at *
    exact k _ _ g (.bl _)
  · cases rp_str r1; cases rp_str r2
    refine .inl ⟨rfl, ?_⟩
    rw [dec_str, ← Bool.beq_eq_decide_eq] at *
    exact k _ _ g (.bl _)
  · cases rp_bl r1; cases rp_bl r2
    refine .inl ⟨rfl, ?_⟩
    rw [dec_bl, ← Bool.beq_eq_decide_eq] at *
    exact k _ _ g (.bl _)
  · cases rp_non r1; cases rp_non r2
    exact .inl ⟨rfl, k _ _ g (.bl _)⟩
  · obtain ⟨s1, s2, g⟩ := g
    exact .inr ⟨_, _, dp_of e r1 (SeqAt.canLay_of_shaped s1), dp_of e r2 (SeqAt.canLay_of_shaped s2), s1, s2, k _ _ g (.bl _)⟩

theorem qv_eq {ua ub : UV} (hu : X.A.units + 64 < cLine) (ha : QV G W X a ua) (hb : QV G W X b ub) (hk : X.K = G.K := by rfl) : QV G W X (.Compare a [.Eq] [b] pos) (uOp gEq ua ub) :=
  qv_cmp (OpR.or op_eq (op_eqD hu)) (by rw [hk]; exact opd_eq) ha hb (nomark _)
theorem qv_ne {ua ub : UV} (hu : X.A.units + 64 < cLine) (ha : QV G W X a ua) (hb : QV G W X b ub) (hk : X.K = G.K := by rfl) : QV G W X (.Compare a [.NotEq] [b] pos) (uOp gNe ua ub) :=
  qv_cmp (OpR.or op_ne (op_neD hu)) (by rw [hk]; exact opd_ne) ha hb (nomark _)

/-! ### tests -/
@[simp] def uTst (u : UV) : UT := fun δ Q R => u δ (fun d δ' => match d with | .bl b => Q b δ' | _ => False) R
theorem t_test {u : UV} {σ : L2.St} {H : Hp} {Q : Bool → Hp → Prop} (t : tT G W (uTst u) σ H Q) : tV G W u σ H (fun x H' => ∃ k, x = .bl k ∧ Q k H') := by
  obtain ⟨B, F, δ, Qd, Rd, rs, h, k, x⟩ := t
  refine tG_then rs h x fun d δ1 q B1 F1 H1 v st1 rs1 r1 => ?_
  split at q
  · exact ⟨_, rp_bl r1, k _ _ q B1 F1 H1 _ st1 rs1 rfl⟩
  · exact q.elim
theorem qt_val {u : UV} (h : QV G W X e u) (he : ∀ whole, isTrue e X.env whole = (do let v ← whole; standAt e.pos; holding [v] (truthy v)) := by intro _; rfl) : QT G W X e (uTst u) :=
  pt_mono (pt_val h he) fun σ H Q t => t_test t
theorem qt_cmp {op : CmpOp} {r : R2} {g : G2} {ua ub : UV} (ho : OpR X (compareOp op) r) (hd : OpD G.K r g) (ha : QV G W X a ua) (hb : QV G W X b ub) (hm : behindInMarks op b = false) : QT G W X (.Compare a [op] [b] pos) (uTst (uOp g ua ub)) :=
  pt_mono (pt_cmpR ho ha hb hm) fun σ H Q t => t_op hd (t_test t)
theorem qt_lt {ua ub : UV} (ha : QV G W X a ua) (hb : QV G W X b ub) : QT G W X (.Compare a [.Lt] [b] pos) (uTst (uOp gLt ua ub)) := qt_cmp op_lt opd_B0 ha hb (nomark _)
theorem qt_le {ua ub : UV} (ha : QV G W X a ua) (hb : QV G W X b ub) : QT G W X (.Compare a [.LtE] [b] pos) (uTst (uOp gLe ua ub)) := qt_cmp op_le opd_B0 ha hb (nomark _)
theorem qt_gt {ua ub : UV} (ha : QV G W X a ua) (hb : QV G W X b ub) : QT G W X (.Compare a [.Gt] [b] pos) (uTst (uOp gGt ua ub)) := qt_cmp op_gt opd_B0 ha hb (nomark _)
theorem qt_ge {ua ub : UV} (ha : QV G W X a ua) (hb : QV G W X b ub) : QT G W X (.Compare a [.GtE] [b] pos) (uTst (uOp gGe ua ub)) := qt_cmp op_ge opd_B0 ha hb (nomark _)
theorem qt_eq {ua ub : UV} (hu : X.A.units + 64 < cLine) (ha : QV G W X a ua) (hb : QV G W X b ub) (hk : X.K = G.K := by rfl) : QT G W X (.Compare a [.Eq] [b] pos) (uTst (uOp gEq ua ub)) :=
  qt_cmp (OpR.or op_eq (op_eqD hu)) (by rw [hk]; exact opd_eq) ha hb (nomark _)
theorem qt_ne {ua ub : UV} (hu : X.A.units + 64 < cLine) (ha : QV G W X a ua) (hb : QV G W X b ub) (hk : X.K = G.K := by rfl) : QT G W X (.Compare a [.NotEq] [b] pos) (uTst (uOp gNe ua ub)) :=
  qt_cmp (OpR.or op_ne (op_neD hu)) (by rw [hk]; exact opd_ne) ha hb (nomark _)
theorem opd_isN : OpD G.K (fun x y H Q => y = .non ∧ Q (.bl (decide (x = .non))) H) gIsN := fun B F H v w x y Qd Q _ r1 r2 g k => by
  unfold gIsN at g
  split at g
  · exact ⟨rp_non r2, by rw [isNon_eq r1]; exact k _ _ g (.bl _)⟩
  · exact g.elim
theorem opd_notN : OpD G.K (fun x y H Q => y = .non ∧ Q (.bl (!decide (x = .non))) H) gNotN := fun B F H v w x y Qd Q _ r1 r2 g k => by
  unfold gNotN at g
  split at g
  · exact ⟨rp_non r2, by rw [isNon_eq r1]; exact k _ _ g (.bl _)⟩
  · exact g.elim
theorem qt_isN {ua ub : UV} (ha : QV G W X a ua) (hb : QV G W X b ub) : QT G W X (.Compare a [.Is] [b] pos) (uTst (uOp gIsN ua ub)) := qt_cmp op_isN opd_isN ha hb (nomark _)
theorem qt_notN {ua ub : UV} (ha : QV G W X a ua) (hb : QV G W X b ub) : QT G W X (.Compare a [.IsNot] [b] pos) (uTst (uOp gNotN ua ub)) := qt_cmp op_notN opd_notN ha hb (nomark _)
/-- truth of any data -/
@[simp] def gTru : D → (Bool → Prop) → Prop := fun d Q => match d with
  | .non => Q false
  | .bl b => Q b
  | .int i => Q (i != 0)
  | .str y => y.length ≤ sizeLine ∧ Q ((y.length : Int) != 0)
  | .tup ds => Q (!ds.isEmpty)
  | .lst ds => Q (!ds.isEmpty)
  | _ => False
theorem rpl_empty {K : PySem.W.Frag} {B : Option Addr} {F : Hp} {xs : List V} {ds : List D} (h : RpL K B F xs ds) : xs.isEmpty = ds.isEmpty := by cases h <;> rfl
theorem tru_of {B : Option Addr} {F H : Hp} {v : V} {d : D} {Qd : Bool → Prop} (e : Same F H) (r : Rp G.K B F v d) (g : gTru d Qd) : ∃ k, TruV G.K v H k ∧ Qd k := by
  unfold gTru at g
  split at g
  · cases rp_non r; exact ⟨_, rfl, g⟩
  · cases rp_bl r; exact ⟨_, rfl, g⟩
  · cases rp_int r; exact ⟨_, rfl, g⟩
  · cases rp_str r; exact ⟨_, ⟨g.1, rfl⟩, g.2⟩
  · obtain ⟨p, xs, rfl, h, r⟩ := rp_tup r
    exact ⟨_, .inr (.inl ⟨xs, sqT_mono e h, rfl⟩), by rw [rpl_empty r]; exact g⟩
  · obtain ⟨p, xs, rfl, h, r⟩ := rp_lst r
    exact ⟨_, .inl ⟨xs, e.seq h, rfl⟩, by rw [rpl_empty r]; exact g⟩
  · exact g.elim
@[simp] def uTru (u : UV) : UT := fun δ Q R => u δ (fun d δ' => gTru d fun b => Q b δ') R
theorem qt_tru {u : UV} (h : QV G W X e u) (he : ∀ whole, isTrue e X.env whole = (do let v ← whole; standAt e.pos; holding [v] (truthy v)) := by intro _; rfl) (hk : X.K = G.K := by rfl) : QT G W X e (uTru u) :=
  pt_mono (pt_truth h he) fun σ H Q ⟨B, F, δ, Qd, Rd, rs, h, k, x⟩ => tG_then rs h x fun d δ1 q B1 F1 H1 v st1 rs1 r1 => by
    obtain ⟨c, t, q⟩ := tru_of rs1.sub r1 q
    exact ⟨c, by rw [hk]; exact t, k _ _ q B1 F1 H1 _ st1 rs1 rfl⟩
/-- .. of a name, its list left to it -/
@[simp] def uTruN (i : Nat) : UT := fun δ Q _ => match δ[i]? with
  | some (.sh d) => gTru d fun b => Q b δ
  | some (.ow ds) => Q (!ds.isEmpty) δ
  | _ => False
theorem qt_truN {i : Nat} (h : PE X e (tVar i)) (he : ∀ whole, isTrue e X.env whole = (do let v ← whole; standAt e.pos; holding [v] (truthy v)) := by intro _; rfl) (hk : X.K = G.K := by rfl) : QT G W X e (uTruN i) :=
  pt_mono (pt_truth h he) fun σ H Q ⟨B, F, δ, Qd, Rd, rs, h, k, x⟩ => by
    unfold uTruN at h
    split at h
    · rename_i d hd
      obtain ⟨v, e1, r⟩ := rs.shAt hd
      obtain ⟨c, t, q⟩ := tru_of rs.sub r h
      exact ⟨v, e1, c, by rw [hk]; exact t, k _ _ q B F H _ Stp.refl rs rfl⟩
    · rename_i ds hd
      obtain ⟨p, xs, e1, e2, e3, e4, e5, e6⟩ := rs.owAt hd
      exact ⟨.ref p, e1, _, .inl ⟨xs, SqL.of e5, rfl⟩, by rw [rpl_empty e6]; exact k _ _ h B F H _ Stp.refl rs rfl⟩
    · exact h.elim
@[simp] def uNot (u : UT) : UT := fun δ Q R => u δ (fun b δ' => Q (!b) δ') R
theorem qt_not {u : UT} (h : QT G W X e u) : QT G W X (.UnaryOp .Not e pos) (uNot u) := pt_mono (pt_not h) fun σ H Q ⟨B, F, δ, Qd, Rd, rs, h, k, x⟩ =>
  tG_then rs h x fun d δ1 q B1 F1 H1 v st1 rs1 r1 => by
    have ev : v = d := r1
    subst ev
    exact k _ _ q B1 F1 H1 _ st1 rs1 rfl
@[simp] def uAnd (ua ub : UT) : UT := fun δ Q R => ua δ (fun c δ1 => if c = true then ub δ1 Q R else Q false δ1) R
@[simp] def uOr (ua ub : UT) : UT := fun δ Q R => ua δ (fun c δ1 => if c = true then Q true δ1 else ub δ1 Q R) R
theorem qw_and1 {u : UT} (h : QT G W X a u) : QW G W X (.BoolOp .And [a] pos) u := pw_and1 h
theorem qw_or1 {u : UT} (h : QT G W X a u) : QW G W X (.BoolOp .Or [a] pos) u := pw_or1 h
theorem qw_and {ua ub : UT} (ha : QT G W X a ua) (hb : QW G W X (.BoolOp .And (b :: es) pos) ub) : QW G W X (.BoolOp .And (a :: b :: es) pos) (uAnd ua ub) := pw_mono (pw_and ha hb) fun σ H Q ⟨B, F, δ, Qd, Rd, rs, h, k, x⟩ =>
  tG_then rs h x fun d δ1 q B1 F1 H1 v st1 rs1 r1 => by
    have ev : v = d := r1
    subst ev
    cases v with
    | true => exact tG_then rs1 q (x.later st1.toLe) fun d δ2 q2 B2 F2 H2 v st2 rs2 r2 => k _ _ q2 B2 F2 H2 v (st1.trans st2) rs2 r2
    | false => exact k _ _ q B1 F1 H1 _ st1 rs1 rfl
theorem qw_or {ua ub : UT} (ha : QT G W X a ua) (hb : QW G W X (.BoolOp .Or (b :: es) pos) ub) : QW G W X (.BoolOp .Or (a :: b :: es) pos) (uOr ua ub) := pw_mono (pw_or ha hb) fun σ H Q ⟨B, F, δ, Qd, Rd, rs, h, k, x⟩ =>
  tG_then rs h x fun d δ1 q B1 F1 H1 v st1 rs1 r1 => by
    have ev : v = d := r1
    subst ev
    cases v with
    | true => exact k _ _ q B1 F1 H1 _ st1 rs1 rfl
    | false => exact tG_then rs1 q (x.later st1.toLe) fun d δ2 q2 B2 F2 H2 v st2 rs2 r2 => k _ _ q2 B2 F2 H2 v (st1.trans st2) rs2 r2
theorem qt_w {u : UT} (h : QW G W X e u) : QT G W X e u := h.pt
/-- and, or, not as values of bools -/
@[simp] def uAndV (ua ub : UV) : UV := fun δ Q R => ua δ (fun d δ1 => match d with | .bl c => (if c = true then ub δ1 Q R else Q (.bl false) δ1) | _ => False) R
@[simp] def uOrV (ua ub : UV) : UV := fun δ Q R => ua δ (fun d δ1 => match d with | .bl c => (if c = true then Q (.bl true) δ1 else ub δ1 Q R) | _ => False) R
theorem qv_one {op : BoolOp} {u : UV} (h : QV G W X a u) : QV G W X (.BoolOp op [a] pos) u := pe_one h
theorem qv_and {ua ub : UV} (ha : QV G W X a ua) (hb : QV G W X (.BoolOp .And (b :: es) pos) ub) : QV G W X (.BoolOp .And (a :: b :: es) pos) (uAndV ua ub) := pe_mono (pe_and ha hb) fun σ H Q ⟨B, F, δ, Qd, Rd, rs, h, k, x⟩ =>
  tG_then rs h x fun d δ1 q B1 F1 H1 v st1 rs1 r1 => by
    split at q
    · rename_i c
      refine ⟨c, rp_bl r1, ?_⟩
      cases c with
      | true => exact tG_then rs1 q (x.later st1.toLe) fun d δ2 q2 B2 F2 H2 v st2 rs2 r2 => k _ _ q2 B2 F2 H2 v (st1.trans st2) rs2 r2
      | false => exact k _ _ q B1 F1 H1 _ st1 rs1 (.bl _)
    · exact q.elim
theorem qv_or {ua ub : UV} (ha : QV G W X a ua) (hb : QV G W X (.BoolOp .Or (b :: es) pos) ub) : QV G W X (.BoolOp .Or (a :: b :: es) pos) (uOrV ua ub) := pe_mono (pe_or ha hb) fun σ H Q ⟨B, F, δ, Qd, Rd, rs, h, k, x⟩ =>
  tG_then rs h x fun d δ1 q B1 F1 H1 v st1 rs1 r1 => by
    split at q
    · rename_i c
      refine ⟨c, rp_bl r1, ?_⟩
      cases c with
      | true => exact k _ _ q B1 F1 H1 _ st1 rs1 (.bl _)
      | false => exact tG_then rs1 q (x.later st1.toLe) fun d δ2 q2 B2 F2 H2 v st2 rs2 r2 => k _ _ q2 B2 F2 H2 v (st1.trans st2) rs2 r2
    · exact q.elim
@[simp] def uNotV (ua : UV) : UV := fun δ Q R => ua δ (fun d δ1 => gTru d fun b => Q (.bl (!b)) δ1) R
theorem qv_not {ua : UV} (ha : QV G W X a ua) (hk : X.K = G.K := by rfl) : QV G W X (.UnaryOp .Not a pos) (uNotV ua) := pe_mono (pe_notT ha) fun σ H Q ⟨B, F, δ, Qd, Rd, rs, h, k, x⟩ =>
  tG_then rs h x fun d δ1 q B1 F1 H1 v st1 rs1 r1 => by
    obtain ⟨c, t, q⟩ := tru_of rs1.sub r1 q
    exact ⟨c, by rw [hk]; exact t, k _ _ q B1 F1 H1 _ st1 rs1 (.bl _)⟩
/-- x or y, x and y of any data -/
@[simp] def uOrT (ua ub : UV) : UV := fun δ Q R => ua δ (fun d δ1 => gTru d fun c => if c = true then Q d δ1 else ub δ1 Q R) R
@[simp] def uAndT (ua ub : UV) : UV := fun δ Q R => ua δ (fun d δ1 => gTru d fun c => if c = true then ub δ1 Q R else Q d δ1) R
theorem qv_orT {ua ub : UV} (ha : QV G W X a ua) (hb : QV G W X (.BoolOp .Or (b :: es) pos) ub) (hk : X.K = G.K := by rfl) : QV G W X (.BoolOp .Or (a :: b :: es) pos) (uOrT ua ub) := pe_mono (pe_orT ha hb) fun σ H Q ⟨B, F, δ, Qd, Rd, rs, h, k, x⟩ =>
  tG_then rs h x fun d δ1 q B1 F1 H1 v st1 rs1 r1 => by
    obtain ⟨c, t, q⟩ := tru_of rs1.sub r1 q
    refine ⟨c, by rw [hk]; exact t, ?_⟩
    cases c with
    | true => exact k _ _ q B1 F1 H1 _ st1 rs1 r1
    | false => exact tG_then rs1 q (x.later st1.toLe) fun d δ2 q2 B2 F2 H2 v st2 rs2 r2 => k _ _ q2 B2 F2 H2 v (st1.trans st2) rs2 r2
theorem qv_andT {ua ub : UV} (ha : QV G W X a ua) (hb : QV G W X (.BoolOp .And (b :: es) pos) ub) (hk : X.K = G.K := by rfl) : QV G W X (.BoolOp .And (a :: b :: es) pos) (uAndT ua ub) := pe_mono (pe_andT ha hb) fun σ H Q ⟨B, F, δ, Qd, Rd, rs, h, k, x⟩ =>
  tG_then rs h x fun d δ1 q B1 F1 H1 v st1 rs1 r1 => by
    obtain ⟨c, t, q⟩ := tru_of rs1.sub r1 q
    refine ⟨c, by rw [hk]; exact t, ?_⟩
    cases c with
    | true => exact tG_then rs1 q (x.later st1.toLe) fun d δ2 q2 B2 F2 H2 v st2 rs2 r2 => k _ _ q2 B2 F2 H2 v (st1.trans st2) rs2 r2
    | false => exact k _ _ q B1 F1 H1 _ st1 rs1 r1
/-- a if t else b -/
@[simp] def uIf {α : Type} (uc : UT) (ua ub : UG α) : UG α := fun δ Q R => uc δ (fun c δ1 => if c = true then ua δ1 Q R else ub δ1 Q R) R
theorem qv_if {uc : UT} {ua ub : UV} (hc : QT G W X c uc) (ha : QV G W X a ua) (hb : QV G W X b ub) : QV G W X (.IfExp c a b pos) (uIf uc ua ub) := pe_mono (pe_ifExp hc ha hb) fun σ H Q ⟨B, F, δ, Qd, Rd, rs, h, k, x⟩ =>
  tG_then rs h x fun d δ1 q B1 F1 H1 v st1 rs1 r1 => by
    have ev : v = d := r1
    subst ev
    cases v with
    | true => exact tG_then rs1 q (x.later st1.toLe) fun d δ2 q2 B2 F2 H2 v st2 rs2 r2 => k _ _ q2 B2 F2 H2 v (st1.trans st2) rs2 r2
    | false => exact tG_then rs1 q (x.later st1.toLe) fun d δ2 q2 B2 F2 H2 v st2 rs2 r2 => k _ _ q2 B2 F2 H2 v (st1.trans st2) rs2 r2
theorem qe_if {uc : UT} {ua ub : UE} (hc : QT G W X c uc) (ha : QE G W X a ua) (hb : QE G W X b ub) : QE G W X (.IfExp c a b pos) (uIf uc ua ub) := pe_mono (pe_ifExp hc ha hb) fun σ H Q ⟨B, F, δ, Qd, Rd, rs, h, k, x⟩ =>
  tG_then rs h x fun d δ1 q B1 F1 H1 v st1 rs1 r1 => by
    have ev : v = d := r1
    subst ev
    cases v with
    | true => exact tG_then rs1 q (x.later st1.toLe) fun d δ2 q2 B2 F2 H2 v st2 rs2 r2 => k _ _ q2 B2 F2 H2 v (st1.trans st2) rs2 (RzR.back st1 r2)
    | false => exact tG_then rs1 q (x.later st1.toLe) fun d δ2 q2 B2 F2 H2 v st2 rs2 r2 => k _ _ q2 B2 F2 H2 v (st1.trans st2) rs2 (RzR.back st1 r2)
/-- a <= b < c -/
@[simp] def uChn (g g' : G2) (ua ub uc : UV) : UV := fun δ Q R => ua δ (fun x δ1 => ub δ1 (fun y δ2 => g x y (fun z => match z with
  | .bl k => (if k = true then uc δ2 (fun w δ3 => g' y w (fun d => Q d δ3)) R else Q (.bl false) δ2)
  | _ => False)) R) R
theorem t_chain {r r' : R2} {g g' : G2} {ua ub uc : UV} (hd : OpD G.K r g) (hd' : OpD G.K r' g') {σ : L2.St} {H : Hp} {Q : VK} (t : tV G W (uChn g g' ua ub uc) σ H Q) : tChain r r' (tV G W ua) (tV G W ub) (tV G W uc) σ H Q := by
  obtain ⟨B, F, δ, Qd, Rd, rs, h, k, x⟩ := t
  refine tG_then rs h x fun a δ1 q B1 F1 H1 v st1 rs1 r1 => tG_then rs1 q (x.later st1.toLe) fun b δ2 q2 B2 F2 H2 w st2 rs2 r2 => ?_
  refine hd B2 F2 H2 v w a b _ _ rs2.sub (st2.rp r1) r2 q2 fun z u qz ru => ?_
  split at qz
  · rename_i c
    refine ⟨c, rp_bl ru, ?_⟩
    cases c with
    | true => exact tG_then rs2 qz ((x.later st1.toLe).later st2.toLe) fun d δ3 q3 B3 F3 H3 w3 st3 rs3 r3 => hd' B3 F3 H3 w w3 b d _ _ rs3.sub (st3.rp r2) r3 q3 fun d u qd ru => k _ _ qd B3 F3 H3 u ((st1.trans st2).trans st3) rs3 ru
    | false => exact k _ _ qz B2 F2 H2 _ (st1.trans st2) rs2 (.bl _)
  · exact qz.elim
theorem qv_chain {op op' : CmpOp} {r r' : R2} {g g' : G2} {ua ub uc : UV} (ho : OpR X (compareOp op) r) (ho' : OpR X (compareOp op') r') (hd : OpD G.K r g) (hd' : OpD G.K r' g') (ha : QV G W X a ua) (hb : QV G W X b ub) (hc : QV G W X c uc) (hm : lastMarks [op, op'] [b, c] = false) :
    QV G W X (.Compare a [op, op'] [b, c] pos) (uChn g g' ua ub uc) := pe_mono (pe_chain ho ho' ha hb hc hm) fun σ H Q t => t_chain hd hd' t
theorem qt_chain {op op' : CmpOp} {r r' : R2} {g g' : G2} {ua ub uc : UV} (ho : OpR X (compareOp op) r) (ho' : OpR X (compareOp op') r') (hd : OpD G.K r g) (hd' : OpD G.K r' g') (ha : QV G W X a ua) (hb : QV G W X b ub) (hc : QV G W X c uc) (hm : lastMarks [op, op'] [b, c] = false) :
    QT G W X (.Compare a [op, op'] [b, c] pos) (uTst (uChn g g' ua ub uc)) := pt_mono (pt_chain ho ho' ha hb hc hm) fun σ H Q t => t_chain hd hd' (t_test t)
end
end DL

set_option Elab.async false
set_option linter.all false
set_option maxRecDepth 100000
namespace DL
open PySem PySem.Spec PyProof.Rows L2
section
variable {G : Gx} {W : WX} {X : Cx} {e a b c : Expr} {es : List Expr} {pos : Pos}
/-! ### x[i] -/
theorem atI_rpl {K : PySem.W.Frag} {B : Option Addr} {F : Hp} {xs : List V} {ds : List D} {i : Int} {d : D} (r : RpL K B F xs ds) (h : atI ds i = some d) : ∃ v, atI xs i = some v ∧ Rp K B F v d := by
  unfold atI at h ⊢
  rw [r.length]
  cases q : ixN ds.length i with
  | none => rw [q] at h; cases h
  | some j =>
    rw [q] at h
    exact r.get' (show ds[j]? = some d from h)
@[simp] def gIx : G2 := fun x y Q => match x, y with
  | .tup ds, .int i => (match atI ds i with | some d => Q d | none => False)
  | .lst ds, .int i => (match atI ds i with | some d => Q d | none => False)
  | .str z, .int i => z.length ≤ sizeLine ∧ (match atI z.cps.toList i with | some c => Q (.str ⟨#[c]⟩) | none => False)
  | _, _ => False
theorem gIx_lst {ds : List D} {y : D} {Q : D → Prop} (q : gIx (.lst ds) y Q) : ∃ i d, y = .int i ∧ atI ds i = some d ∧ Q d := by
  cases y with
  | int i =>
    have q' : (match atI ds i with | some d => Q d | none => False) := q
    cases h : atI ds i with
    | none => rw [h] at q'; exact q'.elim
    | some d => rw [h] at q'; exact ⟨i, d, rfl, h, q'⟩
  | _ => exact False.elim q
theorem opd_ix : OpD G.K (rIx G.K) gIx := fun B F H v w x y Qd Q e r1 r2 g k => by
  unfold gIx at g
  split at g
  · obtain ⟨p, xs, rfl, h, r⟩ := rp_tup r1
    split at g
    · rename_i hd
      obtain ⟨u, hu, ru⟩ := atI_rpl r hd
      exact .inr (.inl ⟨p, xs, _, u, rfl, rp_int r2, sqT_mono e h, hu, k _ _ g ru⟩)
    · exact g.elim
  · obtain ⟨p, xs, rfl, h, r⟩ := rp_lst r1
    split at g
    · rename_i hd
      obtain ⟨u, hu, ru⟩ := atI_rpl r hd
      exact .inl ⟨p, xs, _, u, rfl, rp_int r2, e.seq h, hu, k _ _ g ru⟩
    · exact g.elim
  · obtain ⟨hl, g⟩ := g
    split at g
    · rename_i hc
      exact .inr (.inr ⟨_, _, _, rp_str r1, rp_int r2, hl, hc, k _ _ g (.str _)⟩)
    · exact g.elim
  · exact g.elim
theorem qv_ix {ua ub : UV} (ha : QV G W X a ua) (hb : QV G W X b ub) (hs : PlainIx b := by exact fun _ _ => rfl) (hk : X.K = G.K := by rfl) : QV G W X (.Subscript a b pos) (uOp gIx ua ub) :=
  pe_mono (pe_ix ix_seq ha hb hs) fun σ H Q t => t_op (by rw [hk]; exact opd_ix) t
/-- .. of a name, its list left to it -/
def notNo : Option Sl → Bool
  | some (.sh _) => true
  | some (.ow _) => true
  | _ => false
@[simp] def uIxN (i : Nat) (ub : UV) : UV := fun δ Q R => notNo δ[i]? = true ∧ ub δ (fun y δ1 => match δ1[i]? with
  | some (.ow ds) => gIx (.lst ds) y fun d => Q d δ1
  | some (.sh x) => gIx x y fun d => Q d δ1
  | _ => False) R
theorem Rs.has {B : Option Addr} {F H : Hp} {δ : DE} {σ : L2.St} (r : Rs G B F H δ σ) {i : Nat} (h : notNo δ[i]? = true) : ∃ v, σ[i]? = some (some v) := by
  unfold notNo at h
  split at h
  · rename_i hd; obtain ⟨v, e, _⟩ := r.shAt hd; exact ⟨v, e⟩
  · rename_i hd; obtain ⟨p, xs, e, _⟩ := r.owAt hd; exact ⟨_, e⟩
  · cases h
theorem qv_ixN {i : Nat} {ub : UV} (ha : PE X a (tVar i)) (hb : QV G W X b ub) (hs : PlainIx b := by exact fun _ _ => rfl) (hk : X.K = G.K := by rfl) : QV G W X (.Subscript a b pos) (uIxN i ub) :=
  pe_mono (pe_ix ix_seq ha hb hs) fun σ H Q ⟨B, F, δ, Qd, Rd, rs, h, k, x⟩ => by
    obtain ⟨hn, h⟩ := h
    obtain ⟨v, ev⟩ := rs.has hn
    refine ⟨v, ev, tG_then rs h x fun y δ1 q B1 F1 H1 w st1 rs1 r1 => ?_⟩
    rw [hk]
    split at q
    · rename_i ds hd
      obtain ⟨p, xs, e1, e2, e3, e4, e5, e6⟩ := rs1.owAt hd
      rw [ev] at e1; cases e1
      obtain ⟨i0, d, rfl, hat, q⟩ := gIx_lst q
      obtain ⟨u, hu, ru⟩ := atI_rpl e6 hat
      exact .inl ⟨p, xs, _, u, rfl, rp_int r1, SqL.of e5, hu, k _ _ q B1 F1 H1 u st1 rs1 ru⟩
    · rename_i d hd
      obtain ⟨v', e1, rv⟩ := rs1.shAt hd
      rw [ev] at e1; cases e1
      exact opd_ix B1 F1 H1 v w d y _ _ rs1.sub rv r1 q fun d u qd ru => k _ _ qd B1 F1 H1 u st1 rs1 ru
    · exact q.elim

/-! ### x[lo:hi] -/
def relO : Rel (Option Int) (Option Int) := fun _ _ _ _ _ _ _ b k => k = b
abbrev UO := UG (Option Int)
@[simp] def uNoP : UO := fun δ Q _ => Q none δ
@[simp] def uPart (u : UV) : UO := fun δ Q R => u δ (fun d δ1 => match d with | .int i => Q (some i) δ1 | _ => False) R
abbrev QO (G : Gx) (W : WX) (X : Cx) (e : Option Expr) (u : UO) : Prop := PO X e (tG G W relO u)
theorem po_mono {oe : Option Expr} {t t' : TO} (h : PO X oe t) (m : ∀ σ H Q, t' σ H Q → t σ H Q) : PO X oe t' := ⟨fun pins s σ H Q I q => h.run pins s σ H Q I (m σ H Q q)⟩
theorem qo_none : QO G W X none uNoP := po_mono po_none fun σ H Q ⟨B, F, δ, Qd, Rd, rs, h, k, x⟩ => k _ _ h B F H none Stp.refl rs rfl
theorem qo_some {u : UV} (h : QV G W X e u) : QO G W X (some e) (uPart u) := po_mono (po_some h) fun σ H Q ⟨B, F, δ, Qd, Rd, rs, h, k, x⟩ => tG_then rs h x fun d δ1 q B1 F1 H1 v st1 rs1 r1 => by
  split at q
  · exact ⟨_, rp_int r1, k _ _ q B1 F1 H1 _ st1 rs1 rfl⟩
  · exact q.elim
def cutD (xs : List D) (lo hi : Option Int) : List D := (xs.drop (HT.sIx xs.length 0 lo)).take (HT.sIx xs.length xs.length hi - HT.sIx xs.length 0 lo)
theorem rpl_cut {K : PySem.W.Frag} {B : Option Addr} {F : Hp} {xs : List V} {ds : List D} (r : RpL K B F xs ds) (lo hi : Option Int) : RpL K B F (cutV xs lo hi) (cutD ds lo hi) := by
  unfold cutV cutD
  rw [r.length]
  exact (r.drop _).take _
@[simp] def gSl (x : D) (lo hi : Option Int) (Q : Rz → Prop) : Prop := match x with
  | .lst ds => Q (.nw (cutD ds lo hi))
  | .tup ds => Q (.sh (.tup (cutD ds lo hi)))
  | .str z => z.length ≤ sizeLine ∧ Q (.sh (.str (cutS z lo hi)))
  | _ => False
@[simp] def uSl (ua : UV) (ul uh : UO) : UE := fun δ Q R => ua δ (fun x δ1 => ul δ1 (fun l δ2 => uh δ2 (fun h δ3 => gSl x l h fun r => Q r δ3) R) R) R
def rSlAll (K : PySem.W.Frag) : V → Option Int → Option Int → Hp → VK → Prop := fun x lo hi H Q => rSlL K x lo hi H Q ∨ rSlA K x lo hi H Q ∨ rSlS x lo hi H Q
theorem sl_all : SlR X (rSlAll X.K) := sl_list.or (sl_tupA.or sl_str)
theorem cut_whole {xs : List V} {lo hi : Option Int} (h : HT.sIx xs.length 0 lo = 0 ∧ HT.sIx xs.length xs.length hi = xs.length) : cutV xs lo hi = xs := by
  unfold cutV
  rw [h.1, h.2, List.drop_zero, Nat.sub_zero, List.take_length]
theorem t_sl {σ : L2.St} {δ0 : DE} {H0 : Hp} {B : Option Addr} {F H : Hp} {δ : DE} {x : D} {v : V} {lo hi : Option Int} {Qd : Rz → DE → Prop} {Q : VK} (rs : Rs G B F H δ σ) (dm : ∀ p, H p = none → H0 p = none) (r : Rp G.K B F v x) (g : gSl x lo hi fun r => Qd r δ)
    (k : ∀ r, Qd r δ → ∀ F' H' u, Stp B F H δ σ B F' H' δ → Rs G B F' H' δ σ → RzR G H0 δ0 B F' H' δ σ r u → Q u H') : rSlAll G.K v lo hi H Q := by
  unfold gSl at g
  split at g
  · obtain ⟨p, xs, rfl, h, r⟩ := rp_lst r
    refine .inl ⟨p, xs, rfl, rs.sub.seq h, fun p hp => ?_⟩
    obtain ⟨rs2, st2⟩ := rs.call (rs.toFr0.newH (o := .lst (cutV xs lo hi)) hp)
    exact k _ g _ _ _ st2 rs2 ⟨p, _, rfl, rs.noH0 hp, rs.toFr0.noF hp, rs.toFr0.noB hp, upd_same, rpl_cut r lo hi, rs.noOwn hp, .inl (dm p hp)⟩
  · obtain ⟨p, xs, rfl, h, r⟩ := rp_tup r
    refine .inr (.inl ⟨p, xs, rfl, sqT_mono rs.sub h, fun hw => ?_, fun hw p hp => ?_⟩)
    · have e := rpl_cut r lo hi
      rw [cut_whole hw] at e
      exact k _ g _ _ _ Stp.refl rs (.tup h e)
    · obtain ⟨rs2, st2⟩ := rs.call (rs.toFr0.newF (o := .tup (cutV xs lo hi)) hp)
      exact k _ g _ _ _ st2 rs2 (.tup (.inl (.inl upd_same)) (st2.rpl (rpl_cut r lo hi)))
  · exact .inr (.inr ⟨_, rp_str r, g.1, k _ g.2 _ _ _ Stp.refl rs (.str _)⟩)
  · exact g.elim
theorem qe_sl {ua : UV} {ul uh : UO} {lo hi : Option Expr} {p2 : Pos} (ha : QV G W X a ua) (hl : QO G W X lo ul) (hh : QO G W X hi uh) (hk : X.K = G.K := by rfl) : QE G W X (.Subscript a (.Slice lo hi none p2) pos) (uSl ua ul uh) :=
  pe_mono (pe_slice sl_all ha hl hh) fun σ H Q ⟨B, F, δ, Qd, Rd, rs, h, k, x⟩ =>
    tG_then rs h x fun d δ1 q B1 F1 H1 v st1 rs1 r1 => tG_then rs1 q (x.later st1.toLe) fun l δ2 q2 B2 F2 H2 l' st2 rs2 r2 => tG_then rs2 q2 ((x.later st1.toLe).later st2.toLe) fun u δ3 q3 B3 F3 H3 u' st3 rs3 r3 => by
      have e2 : l' = l := r2
      have e3 : u' = u := r3
      subst e2 e3
      rw [hk]
      have st := (st1.trans st2).trans st3
      exact t_sl (δ0 := δ) (H0 := H) rs3 (fun p hp => none_back st.dm hp) (st3.rp (st2.rp r1)) q3 fun r qr F' H' w st4 rs4 rr => k _ _ qr _ _ _ _ (st.trans st4) rs4 rr
/-- .. of a name, its list left to it -/
@[simp] def uSlN (i : Nat) (ul uh : UO) : UE := fun δ Q R => notNo δ[i]? = true ∧ ul δ (fun l δ2 => uh δ2 (fun h δ3 => match δ3[i]? with
  | some (.ow ds) => Q (.nw (cutD ds l h)) δ3
  | some (.sh x) => gSl x l h fun r => Q r δ3
  | _ => False) R) R
theorem qe_slN {i : Nat} {ul uh : UO} {lo hi : Option Expr} {p2 : Pos} (ha : PE X a (tVar i)) (hl : QO G W X lo ul) (hh : QO G W X hi uh) (hk : X.K = G.K := by rfl) : QE G W X (.Subscript a (.Slice lo hi none p2) pos) (uSlN i ul uh) :=
  pe_mono (pe_slice sl_all ha hl hh) fun σ H Q ⟨B, F, δ, Qd, Rd, rs, h, k, x⟩ => by
    obtain ⟨hn, h⟩ := h
    obtain ⟨v, ev⟩ := rs.has hn
    refine ⟨v, ev, tG_then rs h x fun l δ2 q2 B2 F2 H2 l' st2 rs2 r2 => tG_then rs2 q2 (x.later st2.toLe) fun u δ3 q3 B3 F3 H3 u' st3 rs3 r3 => ?_⟩
    have e2 : l' = l := r2
    have e3 : u' = u := r3
    subst e2 e3
    rw [hk]
    have st := st2.trans st3
    split at q3
    · rename_i ds hd
      obtain ⟨p, xs, e1, e2, e3, e4, e5, e6⟩ := rs3.owAt hd
      rw [ev] at e1; cases e1
      refine .inl ⟨p, xs, rfl, SqL.of e5, fun p hp => ?_⟩
      obtain ⟨rs4, st4⟩ := rs3.call (rs3.toFr0.newH (o := .lst (cutV xs l' u')) hp)
      exact k _ _ q3 _ _ _ _ (st.trans st4) rs4 ⟨p, _, rfl, rs3.noH0 hp, rs3.toFr0.noF hp, rs3.toFr0.noB hp, upd_same, rpl_cut e6 _ _, rs3.noOwn hp, .inl (none_back st.dm hp)⟩
    · rename_i d hd
      obtain ⟨v', e1, rv⟩ := rs3.shAt hd
      rw [ev] at e1; cases e1
      exact t_sl (δ0 := δ) (H0 := H) rs3 (fun p hp => none_back st.dm hp) rv q3 fun r qr F' H' w st4 rs4 rr => k _ _ qr _ _ _ _ (st.trans st4) rs4 rr
    · exact q3.elim

/-! ### calls of built-ins on data -/
abbrev GA := List D → (D → Prop) → Prop
def CaD (K : PySem.W.Frag) (r : List V → Hp → VK → Prop) (g : GA) : Prop := ∀ B F H vs ds (Qd : D → Prop) (Q : VK), Same F H → RpL K B F vs ds → g ds Qd → (∀ d u, Qd d → Rp K B F u d → Q u H) → r vs H Q
@[simp] def uCaB (g : GA) (ua : UA) : UV := fun δ Q R => ua δ (fun ds δ1 => g ds fun d => Q d δ1) R
theorem t_cb {r : List V → Hp → VK → Prop} {g : GA} {ua : UA} (hd : CaD G.K r g) {σ : L2.St} {H : Hp} {Q : VK} (t : tV G W (uCaB g ua) σ H Q) : tCB r (tA G W ua) σ H Q := by
  obtain ⟨B, F, δ, Qd, Rd, rs, h, k, x⟩ := t
  exact tG_then rs h x fun ds δ1 q B1 F1 H1 vs st1 rs1 r1 => hd B1 F1 H1 vs ds _ _ rs1.sub r1 q fun d u qd ru => k _ _ qd B1 F1 H1 u st1 rs1 ru
theorem qv_cb {id : String} {x : Str} {p : Pos} {r : List V → Hp → VK → Prop} {g : GA} {ua : UA} (hc : CallR X (.builtin id) r) (hd : CaD G.K r g) (hg : Gl X x) (hm : X.mg x = none) (hv : bootBuiltins x = some (.builtin id)) (ha : QA G W X (e :: es) ua)
    (hn : x ≠ "__name__" := by decide) (hdb : (x == ("__debug__" : Str)) = false := by decide) (he : starEach (e :: es) X.env = (false, eval e X.env) :: starEach es X.env := by rfl) (hpl : (backTo pos (starEach es X.env)).any (·.1) = false := by rfl) :
    QV G W X (.Call (.Name x p) (e :: es) [] pos) (uCaB g ua) := pe_mono (pe_callB hc hg hm hv ha hn hdb he hpl) fun σ H Q t => t_cb hd t
theorem qv_ct {T : String} {x : Str} {p : Pos} {r : List V → Hp → VK → Prop} {g : GA} {ua : UA} (hc : CallR X (.type T) r) (hd : CaD G.K r g) (hg : Gl X x) (hm : X.mg x = none) (hv : bootBuiltins x = some (.type T)) (ha : QA G W X (e :: es) ua)
    (hn : x ≠ "__name__" := by decide) (hdb : (x == ("__debug__" : Str)) = false := by decide) (he : starEach (e :: es) X.env = (false, eval e X.env) :: starEach es X.env := by rfl) (hpl : (backTo pos (starEach es X.env)).any (·.1) = false := by rfl) :
    QV G W X (.Call (.Name x p) (e :: es) [] pos) (uCaB g ua) := pe_mono (pe_callTy hc hg hm hv ha hn hdb he hpl) fun σ H Q t => t_cb hd t
section
variable {K : PySem.W.Frag} {B : Option Addr} {F : Hp}
theorem rpl1 {vs : List V} {d : D} (h : RpL K B F vs [d]) : ∃ v, vs = [v] ∧ Rp K B F v d := by
  cases h with | cons r t => cases t; exact ⟨_, rfl, r⟩
theorem rpl2 {vs : List V} {d d' : D} (h : RpL K B F vs [d, d']) : ∃ v v', vs = [v, v'] ∧ Rp K B F v d ∧ Rp K B F v' d' := by
  cases h with | cons r t => cases t with | cons r' t => cases t; exact ⟨_, _, rfl, r, r'⟩
end
def lenD : D → Option Nat
  | .tup ds => some ds.length
  | .lst ds => some ds.length
  | _ => none
@[simp] def gLen : GA := fun ds Q => match ds with
  | [.tup xs] => Q (.int xs.length)
  | [.lst xs] => Q (.int xs.length)
  | [.str z] => z.length ≤ sizeLine ∧ Q (.int z.length)
  | _ => False
theorem cad_len : CaD G.K (fun xs H Q => ∃ x n, xs = [x] ∧ LenV G.K x H n ∧ Q (.int n) H) gLen := fun B F H vs ds Qd Q e r g k => by
  unfold gLen at g
  split at g
  · obtain ⟨v, rfl, z⟩ := rpl1 r
    obtain ⟨p, xs, rfl, h, r⟩ := rp_tup z
    exact ⟨_, _, rfl, .inr ⟨xs, sqT_mono e h, rfl⟩, by rw [r.length]; exact k _ _ g (.int _)⟩
  · obtain ⟨v, rfl, z⟩ := rpl1 r
    obtain ⟨p, xs, rfl, h, r⟩ := rp_lst z
    exact ⟨_, _, rfl, .inl ⟨xs, e.seq h, rfl⟩, by rw [r.length]; exact k _ _ g (.int _)⟩
  · obtain ⟨v, rfl, z⟩ := rpl1 r
    cases rp_str z
    exact ⟨_, _, rfl, ⟨g.1, rfl⟩, k _ _ g.2 (.int _)⟩
  · exact g.elim
theorem qv_len {p : Pos} {ua : UA} (hg : Gl X "len") (hm : X.mg "len" = none) (ha : QA G W X [e] ua) (hk : X.K = G.K := by rfl) (he : starEach [e] X.env = (false, eval e X.env) :: starEach [] X.env := by rfl) : QV G W X (.Call (.Name "len" p) [e] [] pos) (uCaB gLen ua) :=
  qv_cb call_len (by rw [hk]; exact cad_len) hg hm PySem.boot_len ha (he := he)
/-- len of a name, its list left to it -/
@[simp] def uLenN (i : Nat) : UV := fun δ Q _ => match δ[i]? with
  | some (.ow ds) => Q (.int ds.length) δ
  | some (.sh x) => gLen [x] fun d => Q d δ
  | _ => False
theorem pa_one {te : TE} (h : PE X e te) (he : starEach [e] X.env = (false, eval e X.env) :: starEach [] X.env := by rfl) : PA X [e] (tCons te tNil) := pa_cons h pa_nil he
theorem qv_lenN {p : Pos} {i : Nat} (hg : Gl X "len") (hm : X.mg "len" = none) (ha : PE X e (tVar i)) (hk : X.K = G.K := by rfl) (he : starEach [e] X.env = (false, eval e X.env) :: starEach [] X.env := by rfl) : QV G W X (.Call (.Name "len" p) [e] [] pos) (uLenN i) :=
  pe_mono (pe_callB call_len hg hm PySem.boot_len (pa_one ha he) (he := he)) fun σ H Q ⟨B, F, δ, Qd, Rd, rs, h, k, x⟩ => by
    unfold uLenN at h
    rw [hk]
    split at h
    · rename_i ds hd
      obtain ⟨p, xs, e1, e2, e3, e4, e5, e6⟩ := rs.owAt hd
      exact ⟨_, e1, .ref p, _, rfl, .inl ⟨xs, SqL.of e5, rfl⟩, by rw [e6.length]; exact k _ _ h B F H _ Stp.refl rs (.int _)⟩
    · rename_i d hd
      obtain ⟨v, e1, r⟩ := rs.shAt hd
      exact ⟨v, e1, cad_len B F H [v] [d] _ _ rs.sub (.cons r .nil) h fun d u qd ru => k _ _ qd B F H u Stp.refl rs ru⟩
    · exact h.elim
@[simp] def gAbs : GA := fun ds Q => match ds with
  | [.int i] => Q (.int (if i < 0 then -i else i))
  | _ => False
theorem qv_abs {p : Pos} {ua : UA} (hg : Gl X "abs") (hm : X.mg "abs" = none) (ha : QA G W X [e] ua) (he : starEach [e] X.env = (false, eval e X.env) :: starEach [] X.env := by rfl) : QV G W X (.Call (.Name "abs" p) [e] [] pos) (uCaB gAbs ua) :=
  qv_cb call_abs (fun B F H vs ds Qd Q e r g k => by
    unfold gAbs at g
    split at g
    · obtain ⟨v, rfl, z⟩ := rpl1 r
      cases rp_int z
      exact ⟨_, rfl, k _ _ g (.int _)⟩
    · exact g.elim) hg hm (by decide +kernel) ha (he := he)
@[simp] def gMax2 : GA := fun ds Q => match ds with
  | [.int i, .int j] => Q (.int (if j > i then j else i))
  | _ => False
@[simp] def gMin2 : GA := fun ds Q => match ds with
  | [.int i, .int j] => Q (.int (if j < i then j else i))
  | _ => False
theorem qv_max2 {p : Pos} {ua : UA} (hc : X.calm = true) (hg : Gl X "max") (hm : X.mg "max" = none) (ha : QA G W X [a, b] ua) (he : starEach [a, b] X.env = (false, eval a X.env) :: starEach [b] X.env := by rfl) (hpl : (backTo pos (starEach [b] X.env)).any (·.1) = false := by rfl) : QV G W X (.Call (.Name "max" p) [a, b] [] pos) (uCaB gMax2 ua) :=
  qv_cb (call_max2 hc) (fun B F H vs ds Qd Q e r g k => by
    unfold gMax2 at g
    split at g
    · obtain ⟨v, v', rfl, z, z'⟩ := rpl2 r
      cases rp_int z; cases rp_int z'
      exact ⟨_, _, rfl, k _ _ g (.int _)⟩
    · exact g.elim) hg hm (by decide +kernel) ha (he := he) (hpl := hpl)
theorem qv_min2 {p : Pos} {ua : UA} (hc : X.calm = true) (hg : Gl X "min") (hm : X.mg "min" = none) (ha : QA G W X [a, b] ua) (he : starEach [a, b] X.env = (false, eval a X.env) :: starEach [b] X.env := by rfl) (hpl : (backTo pos (starEach [b] X.env)).any (·.1) = false := by rfl) : QV G W X (.Call (.Name "min" p) [a, b] [] pos) (uCaB gMin2 ua) :=
  qv_cb (call_min2 hc) (fun B F H vs ds Qd Q e r g k => by
    unfold gMin2 at g
    split at g
    · obtain ⟨v, v', rfl, z, z'⟩ := rpl2 r
      cases rp_int z; cases rp_int z'
      exact ⟨_, _, rfl, k _ _ g (.int _)⟩
    · exact g.elim) hg hm (by decide +kernel) ha (he := he) (hpl := hpl)
@[simp] def gInt : GA := fun ds Q => match ds with
  | [.int i] => Q (.int i)
  | [.bl b] => Q (.int (if b then 1 else 0))
  | _ => False
theorem qv_toInt {p : Pos} {ua : UA} (hg : Gl X "int") (hm : X.mg "int" = none) (ha : QA G W X [e] ua) (he : starEach [e] X.env = (false, eval e X.env) :: starEach [] X.env := by rfl) : QV G W X (.Call (.Name "int" p) [e] [] pos) (uCaB gInt ua) :=
  qv_ct call_int1 (fun B F H vs ds Qd Q e r g k => by
    unfold gInt at g
    split at g
    · obtain ⟨v, rfl, z⟩ := rpl1 r
      cases rp_int z
      exact .inl ⟨_, rfl, k _ _ g (.int _)⟩
    · obtain ⟨v, rfl, z⟩ := rpl1 r
      cases rp_bl z
      exact .inr ⟨_, rfl, k _ _ g (.int _)⟩
    · exact g.elim) hg hm (by decide +kernel) ha (he := he)
@[simp] def gStr : GA := fun ds Q => match ds with
  | [.int i] => i.natAbs.log2 < 1920 ∧ Q (.str (toString i))
  | _ => False
theorem qv_toStr {p : Pos} {ua : UA} (hg : Gl X "str") (hm : X.mg "str" = none) (ha : QA G W X [e] ua) (he : starEach [e] X.env = (false, eval e X.env) :: starEach [] X.env := by rfl) : QV G W X (.Call (.Name "str" p) [e] [] pos) (uCaB gStr ua) :=
  qv_ct call_str_int (fun B F H vs ds Qd Q e r g k => by
    unfold gStr at g
    split at g
    · obtain ⟨v, rfl, z⟩ := rpl1 r
      cases rp_int z
      exact ⟨_, rfl, g.1, k _ _ g.2 (.str _)⟩
    · exact g.elim) hg hm (by decide +kernel) ha (he := he)
/-- the built-in class of data -/
def D.cls : D → Option String
  | .non => some "NoneType"
  | .bl _ => some "bool"
  | .int _ => some "int"
  | .str _ => some "str"
  | .tup _ => some "tuple"
  | .lst _ => some "list"
  | _ => none
def isiD (d : D) (T : String) : Option Bool := d.cls.bind fun n => kitB n T
@[simp] theorem isi_non_bool  : isiD .non "bool" = some false := show kitB "NoneType" "bool" = _ from by decide +kernel
@[simp] theorem isi_non_int  : isiD .non "int" = some false := show kitB "NoneType" "int" = _ from by decide +kernel
@[simp] theorem isi_non_str  : isiD .non "str" = some false := show kitB "NoneType" "str" = _ from by decide +kernel
@[simp] theorem isi_non_tuple  : isiD .non "tuple" = some false := show kitB "NoneType" "tuple" = _ from by decide +kernel
@[simp] theorem isi_non_list  : isiD .non "list" = some false := show kitB "NoneType" "list" = _ from by decide +kernel
@[simp] theorem isi_non_dict  : isiD .non "dict" = some false := show kitB "NoneType" "dict" = _ from by decide +kernel
@[simp] theorem isi_bl_bool (b : Bool) : isiD (.bl b) "bool" = some true := show kitB "bool" "bool" = _ from by decide +kernel
@[simp] theorem isi_bl_int (b : Bool) : isiD (.bl b) "int" = some true := show kitB "bool" "int" = _ from by decide +kernel
@[simp] theorem isi_bl_str (b : Bool) : isiD (.bl b) "str" = some false := show kitB "bool" "str" = _ from by decide +kernel
@[simp] theorem isi_bl_tuple (b : Bool) : isiD (.bl b) "tuple" = some false := show kitB "bool" "tuple" = _ from by decide +kernel
@[simp] theorem isi_bl_list (b : Bool) : isiD (.bl b) "list" = some false := show kitB "bool" "list" = _ from by decide +kernel
@[simp] theorem isi_bl_dict (b : Bool) : isiD (.bl b) "dict" = some false := show kitB "bool" "dict" = _ from by decide +kernel
@[simp] theorem isi_int_bool (i : Int) : isiD (.int i) "bool" = some false := show kitB "int" "bool" = _ from by decide +kernel
@[simp] theorem isi_int_int (i : Int) : isiD (.int i) "int" = some true := show kitB "int" "int" = _ from by decide +kernel
@[simp] theorem isi_int_str (i : Int) : isiD (.int i) "str" = some false := show kitB "int" "str" = _ from by decide +kernel
@[simp] theorem isi_int_tuple (i : Int) : isiD (.int i) "tuple" = some false := show kitB "int" "tuple" = _ from by decide +kernel
@[simp] theorem isi_int_list (i : Int) : isiD (.int i) "list" = some false := show kitB "int" "list" = _ from by decide +kernel
@[simp] theorem isi_int_dict (i : Int) : isiD (.int i) "dict" = some false := show kitB "int" "dict" = _ from by decide +kernel
@[simp] theorem isi_str_bool (z : Str) : isiD (.str z) "bool" = some false := show kitB "str" "bool" = _ from by decide +kernel
@[simp] theorem isi_str_int (z : Str) : isiD (.str z) "int" = some false := show kitB "str" "int" = _ from by decide +kernel
@[simp] theorem isi_str_str (z : Str) : isiD (.str z) "str" = some true := show kitB "str" "str" = _ from by decide +kernel
@[simp] theorem isi_str_tuple (z : Str) : isiD (.str z) "tuple" = some false := show kitB "str" "tuple" = _ from by decide +kernel
@[simp] theorem isi_str_list (z : Str) : isiD (.str z) "list" = some false := show kitB "str" "list" = _ from by decide +kernel
@[simp] theorem isi_str_dict (z : Str) : isiD (.str z) "dict" = some false := show kitB "str" "dict" = _ from by decide +kernel
@[simp] theorem isi_tup_bool (ds : List D) : isiD (.tup ds) "bool" = some false := show kitB "tuple" "bool" = _ from by decide +kernel
@[simp] theorem isi_tup_int (ds : List D) : isiD (.tup ds) "int" = some false := show kitB "tuple" "int" = _ from by decide +kernel
@[simp] theorem isi_tup_str (ds : List D) : isiD (.tup ds) "str" = some false := show kitB "tuple" "str" = _ from by decide +kernel
@[simp] theorem isi_tup_tuple (ds : List D) : isiD (.tup ds) "tuple" = some true := show kitB "tuple" "tuple" = _ from by decide +kernel
@[simp] theorem isi_tup_list (ds : List D) : isiD (.tup ds) "list" = some false := show kitB "tuple" "list" = _ from by decide +kernel
@[simp] theorem isi_tup_dict (ds : List D) : isiD (.tup ds) "dict" = some false := show kitB "tuple" "dict" = _ from by decide +kernel
@[simp] theorem isi_lst_bool (ds : List D) : isiD (.lst ds) "bool" = some false := show kitB "list" "bool" = _ from by decide +kernel
@[simp] theorem isi_lst_int (ds : List D) : isiD (.lst ds) "int" = some false := show kitB "list" "int" = _ from by decide +kernel
@[simp] theorem isi_lst_str (ds : List D) : isiD (.lst ds) "str" = some false := show kitB "list" "str" = _ from by decide +kernel
@[simp] theorem isi_lst_tuple (ds : List D) : isiD (.lst ds) "tuple" = some false := show kitB "list" "tuple" = _ from by decide +kernel
@[simp] theorem isi_lst_list (ds : List D) : isiD (.lst ds) "list" = some true := show kitB "list" "list" = _ from by decide +kernel
@[simp] theorem isi_lst_dict (ds : List D) : isiD (.lst ds) "dict" = some false := show kitB "list" "dict" = _ from by decide +kernel
@[simp] def gIsi : GA := fun ds Q => match ds with
  | [d, .ty T] => (match isiD d T with | some b => Q (.bl b) | none => False)
  | _ => False
theorem tyx_of {B : Option Addr} {F H : Hp} {v : V} {d : D} {n : String} (e : Same F H) (r : Rp G.K B F v d) (h : d.cls = some n) : TyX G.K H v (.type n) := by
  cases r with
  | non => cases h; exact .base .non
  | bl b => cases h; exact .base (.bl b)
  | int i => cases h; exact .base (.int i)
  | str i => cases h; exact .base (.str i)
  | tup q r =>
    cases h
    rcases q with (q | ⟨o, q⟩) | ⟨o, its, n, q, c, _⟩
    · exact .base (.tup (e _ _ q))
    · exact .fTuple (e _ _ q)
    · exact .kTuple q c
  | lst q r =>
    cases h
    rcases q with (q | ⟨o, q⟩) | ⟨o, its, n, q, c, _⟩
    · exact .base (.lst (e _ _ q))
    · exact .base (.frz (e _ _ q))
    · exact .kList q c
  | bag _ => cases h
  | ty _ => cases h
  | obj _ => cases h
  | ins _ _ => cases h
  | exc _ _ => cases h
  | exi _ _ _ => cases h
theorem cad_isi : CaD G.K (rIsi G.K) gIsi := fun B F H vs ds Qd Q e r g k => by
  unfold gIsi at g
  split at g
  · obtain ⟨v, v', rfl, z, z'⟩ := rpl2 r
    cases rp_ty z'
    split at g
    · rename_i q
      unfold isiD at q
      obtain ⟨n, hn, hk⟩ := Option.bind_eq_some_iff.mp q
      exact ⟨v, _, _, _, _, rfl, .ty _, tyx_of e z hn, kit_ty hk, k _ _ g (.bl _)⟩
    · exact g.elim
  · exact g.elim
theorem qv_isi {p : Pos} {ua : UA} (hg : Gl X "isinstance") (hm : X.mg "isinstance" = none) (ha : QA G W X [a, b] ua) (hk : X.K = G.K := by rfl) (he : starEach [a, b] X.env = (false, eval a X.env) :: starEach [b] X.env := by rfl) (hpl : (backTo pos (starEach [b] X.env)).any (·.1) = false := by rfl) :
    QV G W X (.Call (.Name "isinstance" p) [a, b] [] pos) (uCaB gIsi ua) := qv_cb call_isi (by rw [hk]; exact cad_isi) hg hm (by decide +kernel) ha (he := he) (hpl := hpl)
def blsD : List D → Option (List Bool)
  | [] => some []
  | .bl b :: r => (blsD r).map (b :: ·)
  | _ => none
theorem blsD_rp {K : PySem.W.Frag} {B : Option Addr} {F : Hp} : ∀ {xs : List V} {ds : List D} {bs : List Bool}, RpL K B F xs ds → blsD ds = some bs → xs = bs.map V.bl
  | _, _, _, .nil, h => by cases h; rfl
  | _, .bl b :: ds, bs, .cons r t, h => by
    unfold blsD at h
    obtain ⟨cs, h1, h2⟩ := Option.map_eq_some_iff.mp h
    subst h2
    cases rp_bl r
    rw [blsD_rp t h1]; rfl
  | _, .non :: _, _, .cons _ _, h => by cases h
  | _, .int _ :: _, _, .cons _ _, h => by cases h
  | _, .str _ :: _, _, .cons _ _, h => by cases h
  | _, .tup _ :: _, _, .cons _ _, h => by cases h
  | _, .lst _ :: _, _, .cons _ _, h => by cases h
  | _, .bag :: _, _, .cons _ _, h => by cases h
  | _, .ty _ :: _, _, .cons _ _, h => by cases h
  | _, .obj _ :: _, _, .cons _ _, h => by cases h
  | _, .ins _ _ :: _, _, .cons _ _, h => by cases h
  | _, .exc _ _ _ _ :: _, _, .cons _ _, h => by cases h
  | _, .exi _ _ :: _, _, .cons _ _, h => by cases h
@[simp] def gAll : GA := fun ds Q => match ds with
  | [.lst xs] => (match blsD xs with | some bs => Q (.bl (bs.all id)) | none => False)
  | _ => False
@[simp] def gAny : GA := fun ds Q => match ds with
  | [.lst xs] => (match blsD xs with | some bs => Q (.bl (bs.any id)) | none => False)
  | _ => False
theorem qv_all {p : Pos} {ua : UA} (hc : X.calm = true) (hg : Gl X "all") (hm : X.mg "all" = none) (ha : QA G W X [e] ua) (hk : X.K = G.K := by rfl) (he : starEach [e] X.env = (false, eval e X.env) :: starEach [] X.env := by rfl) : QV G W X (.Call (.Name "all" p) [e] [] pos) (uCaB gAll ua) :=
  qv_cb (cr_all hc) (fun B F H vs ds Qd Q e r g k => by
    unfold gAll at g
    split at g
    · obtain ⟨v, rfl, z⟩ := rpl1 r
      obtain ⟨p, xs, rfl, h, r⟩ := rp_lst z
      split at g
      · rename_i q
        have ex := blsD_rp r q
        subst ex
        exact ⟨p, _, rfl, by rw [hk]; exact e.seq h, k _ _ g (.bl _)⟩
      · exact g.elim
    · exact g.elim) hg hm (by decide +kernel) ha (he := he)
theorem qv_any {p : Pos} {ua : UA} (hc : X.calm = true) (hg : Gl X "any") (hm : X.mg "any" = none) (ha : QA G W X [e] ua) (hk : X.K = G.K := by rfl) (he : starEach [e] X.env = (false, eval e X.env) :: starEach [] X.env := by rfl) : QV G W X (.Call (.Name "any" p) [e] [] pos) (uCaB gAny ua) :=
  qv_cb (cr_any hc) (fun B F H vs ds Qd Q e r g k => by
    unfold gAny at g
    split at g
    · obtain ⟨v, rfl, z⟩ := rpl1 r
      obtain ⟨p, xs, rfl, h, r⟩ := rp_lst z
      split at g
      · rename_i q
        have ex := blsD_rp r q
        subst ex
        exact ⟨p, _, rfl, by rw [hk]; exact e.seq h, k _ _ g (.bl _)⟩
      · exact g.elim
    · exact g.elim) hg hm (by decide +kernel) ha (he := he)
/-- tuple(x), list(x) -/
@[simp] def uTupOf (ua : UV) : UV := fun δ Q R => ua δ (fun d δ1 => match d with
  | .tup ds => Q (.tup ds) δ1
  | .lst ds => Q (.tup ds) δ1
  | _ => False) R
theorem qv_tupOf {p : Pos} {ua : UV} (hg : Gl X "tuple") (hm : X.mg "tuple" = none) (ha : QV G W X e ua) (hk : X.K = G.K := by rfl) (he : starEach [e] X.env = (false, eval e X.env) :: starEach [] X.env := by rfl) : QV G W X (.Call (.Name "tuple" p) [e] [] pos) (uTupOf ua) :=
  pe_mono (pe_callTy call_tuple_of hg hm (by decide +kernel) (pa_one ha he) (he := he)) fun σ H Q ⟨B, F, δ, Qd, Rd, rs, h, k, x⟩ => tG_then rs h x fun d δ1 q B1 F1 H1 v st1 rs1 r1 => by
    rw [hk]
    split at q
    · obtain ⟨p, xs, rfl, h, r⟩ := rp_tup r1
      exact ⟨p, xs, rfl, .inr ⟨sqT_mono rs1.sub h, k _ _ q B1 F1 H1 _ st1 rs1 (.tup h r)⟩⟩
    · obtain ⟨p, xs, rfl, h, r⟩ := rp_lst r1
      refine ⟨p, xs, rfl, .inl ⟨rs1.sub.seq h, fun l hl => ?_⟩⟩
      obtain ⟨rs2, st2⟩ := rs1.call (rs1.toFr0.newF (o := .tup xs) hl)
      exact k _ _ q _ _ _ _ (st1.trans st2) rs2 (.tup (.inl (.inl upd_same)) (st2.rpl r))
    · exact q.elim
@[simp] def uLstOf (ua : UV) : UE := fun δ Q R => ua δ (fun d δ1 => match d with
  | .tup ds => Q (.nw ds) δ1
  | .lst ds => Q (.nw ds) δ1
  | _ => False) R
theorem qe_lstOf {p : Pos} {ua : UV} (hg : Gl X "list") (hm : X.mg "list" = none) (ha : QV G W X e ua) (hk : X.K = G.K := by rfl) (he : starEach [e] X.env = (false, eval e X.env) :: starEach [] X.env := by rfl) : QE G W X (.Call (.Name "list" p) [e] [] pos) (uLstOf ua) :=
  pe_mono (pe_callTy call_list_of hg hm (by decide +kernel) (pa_one ha he) (he := he)) fun σ H Q ⟨B, F, δ, Qd, Rd, rs, h, k, x⟩ => tG_then rs h x fun d δ1 q B1 F1 H1 v st1 rs1 r1 => by
    rw [hk]
    split at q
    · obtain ⟨p, xs, rfl, h, r⟩ := rp_tup r1
      refine ⟨p, xs, rfl, .inr (sqT_mono rs1.sub h), fun l hl => ?_⟩
      obtain ⟨rs2, st2⟩ := rs1.call (rs1.toFr0.newH (o := .lst xs) hl)
      exact k _ _ q _ _ _ _ (st1.trans st2) rs2 ⟨l, xs, rfl, rs1.noH0 hl, rs1.toFr0.noF hl, rs1.toFr0.noB hl, upd_same, r, rs1.noOwn hl, .inl (none_back st1.dm hl)⟩
    · obtain ⟨p, xs, rfl, h, r⟩ := rp_lst r1
      refine ⟨p, xs, rfl, .inl (rs1.sub.seq h), fun l hl => ?_⟩
      obtain ⟨rs2, st2⟩ := rs1.call (rs1.toFr0.newH (o := .lst xs) hl)
      exact k _ _ q _ _ _ _ (st1.trans st2) rs2 ⟨l, xs, rfl, rs1.noH0 hl, rs1.toFr0.noF hl, rs1.toFr0.noB hl, upd_same, r, rs1.noOwn hl, .inl (none_back st1.dm hl)⟩
    · exact q.elim
end
end DL

set_option Elab.async false
set_option linter.all false
set_option maxRecDepth 100000
namespace DL
open PySem PySem.Spec PyProof.Rows L2

/-! ### promises over data -/
abbrev DSp := List D → (Rz → Prop) → (Exn → Prop) → Prop
def RtR (G : Gx) (B : Option Addr) (F H : Hp) : Rz → V → Prop
  | .sh d, v => Rp G.K B F v d
  | .nw ds, v => ∃ p xs, v = .ref p ∧ G.H0 p = none ∧ F p = none ∧ B ≠ some p ∧ H p = some (.lst xs) ∧ RpL G.K B F xs ds
def spD (K : PySem.W.Frag) (w : DSp) : Sp := fun vs H Q E => ∃ B F ds Qd Rd, Same F H ∧ (∀ b, B = some b → F b = none ∧ Bagged K F H b) ∧ RpL K B F vs ds ∧ w ds Qd Rd ∧
  (∀ r, Qd r → ∀ B' F' H' v, Fr0 ⟨K, F, H, B⟩ B' F' H' → RtR ⟨K, F, H, B⟩ B' F' H' r v → Q v H') ∧
  (∀ x, Rd x → ∀ B' F' H' c da, Fr0 ⟨K, F, H, B⟩ B' F' H' → ExR ⟨K, F, H, B⟩ B' F' H' x c da → E c da H')
@[simp] def uCall (w : DSp) (dds : List D) (ua : UA) : UE := fun δ Q R => ua δ (fun ds δ1 => w (ds ++ dds) (fun r => Q r δ1) (fun x => R x δ1)) R
section
variable {G : Gx} {W : WX} {X : Cx} {e a b c : Expr} {es : List Expr} {pos : Pos}
theorem Rs.exUp {B B' : Option Addr} {F H F' H' : Hp} {δ : DE} {σ : L2.St} {x : Exn} {c : Value} {da : Option Addr} (rs : Rs G B F H δ σ) (ex : ExR ⟨G.K, F, H, B⟩ B' F' H' x c da) : ExR G B' F' H' x c da := by
  obtain ⟨e1, d, fs, e2, e3, e4⟩ := ex
  exact ⟨e1, d, fs, e2, rs.noH0 e3, e4⟩
theorem t_call {w : DSp} {dds : List D} {dvs : List V} {ua : UA} (rd : ∀ B F, RpL G.K B F dvs dds) {σ : L2.St} {H : Hp} {Q : VK} (t : tE G W (uCall w dds ua) σ H Q) : tCallSD (spD G.K w) dvs (WE W) (tA G W ua) σ H Q := by
  obtain ⟨B, F, δ, Qd, Rd, rs, h, k, x⟩ := t
  refine tG_then rs h x fun ds δ1 q B1 F1 H1 vs st1 rs1 r1 => ⟨B1, F1, ds ++ dds, _, _, rs1.sub, rs1.bag, r1.append (rd _ _), q, fun r qr B' F' H' v fr rt => ?_, fun x' rx B' F' H' c da fr ex => x _ _ rx B' F' H' c da (st1.toLe.trans (rs1.call fr).2.toLe) (rs1.call fr).1 (rs1.exUp ex)⟩
  obtain ⟨rs2, st2⟩ := rs1.call fr
  refine k _ _ qr B' F' H' v (st1.trans st2) rs2 ?_
  cases r with
  | sh d => exact rt
  | nw ds =>
    obtain ⟨p, xs, e1, e2, e3, e4, e5, e6⟩ := rt
    have e2' : H1 p = none := e2
    exact ⟨p, xs, e1, rs1.noH0 e2', e3, e4, e5, e6, fun ho => rs1.noOwn e2' ho, .inl (none_back st1.dm e2')⟩
theorem qe_call {k : Nat} {f : Addr} {fd : FuncData} {ps : List Str} {w : DSp} {dds : List D} {dvs : List V} {dvl : List Value} {ua : UA} {x : Str} {p : Pos} (F : FnOk X.prog X.w X.K X.mg X.base (L2.CX X.prog X.w) k f fd ps (spD G.K w)) (hr : Room k X.A) (hg : Gl X x) (hm : X.mg x = some (.ref f))
    (hk : PySem.W.keepIn X.K (.ref f) = true) (hb : Binds X.K fd ps dvl) (hd : Vals dvs dvl) (rd : ∀ B F, RpL G.K B F dvs dds) (tk : Takes X W) (ha : QA G W X (e :: es) ua)
    (hdb : (x == ("__debug__" : Str)) = false := by decide) (he : starEach (e :: es) X.env = (false, eval e X.env) :: starEach es X.env := by rfl) (hpl : (backTo pos (starEach es X.env)).any (·.1) = false := by rfl) :
    QE G W X (.Call (.Name x p) (e :: es) [] pos) (uCall w dds ua) := pe_mono (pe_callSD F hr hg hm hk hb hd (fun σ => passAt tk σ) ha hdb he hpl) fun σ H Q t => t_call rd t

/-! ### statements -/
structure En where
  nx : DE → Prop
  rt : Rz → Prop
  bk : DE → Prop
  ct : DE → Prop
  ex : KX
abbrev US := En → DE → Prop
def EnK (G : Gx) (B : Option Addr) (F : Hp) (p : DE → Prop) (q : L2.St → Hp → Prop) : Prop := ∀ δ', p δ' → ∀ B' F' H' σ', Le B F B' F' → Rs G B' F' H' δ' σ' → q σ' H'
structure EnOk (G : Gx) (W : WX) (B : Option Addr) (F : Hp) (E : En) (D : Ends) : Prop where
  nx : EnK G B F E.nx D.nx
  bk : EnK G B F E.bk D.bk
  ct : EnK G B F E.ct D.ct
  rt : ∀ r, E.rt r → ∀ B' F' H' v, Fr0 G B' F' H' → RtR G B' F' H' r v → D.rt v H'
  ex : ∀ x δ', E.ex x δ' → ∀ B' F' H' σ' c da, Le B F B' F' → Rs G B' F' H' δ' σ' → ExR G B' F' H' x c da → W c da σ' H'
theorem EnK.later {B B1 : Option Addr} {F F1 : Hp} {p : DE → Prop} {q : L2.St → Hp → Prop} (k : EnK G B F p q) (l : Le B F B1 F1) : EnK G B1 F1 p q := fun δ' h B' F' H' σ' l' rs => k δ' h B' F' H' σ' (l.trans l') rs
theorem EnOk.later {B B1 : Option Addr} {F F1 : Hp} {E : En} {D : Ends} (k : EnOk G W B F E D) (l : Le B F B1 F1) : EnOk G W B1 F1 E D := ⟨k.nx.later l, k.bk.later l, k.ct.later l, k.rt, fun x δ' h B' F' H' σ' c da l' => k.ex x δ' h B' F' H' σ' c da (l.trans l')⟩
theorem EnOk.exl {B B1 : Option Addr} {F F1 : Hp} {E : En} {D : Ends} (k : EnOk G W B F E D) (l : Le B F B1 F1) : ∀ x δ', E.ex x δ' → ∀ B' F' H' σ' c da, Le B1 F1 B' F' → Rs G B' F' H' δ' σ' → ExR G B' F' H' x c da → W c da σ' H' := fun x δ' h B' F' H' σ' c da l' => k.ex x δ' h B' F' H' σ' c da (l.trans l')
theorem EnOk.xok {B : Option Addr} {F : Hp} {E : En} {D : Ends} (k : EnOk G W B F E D) {σ : L2.St} : XOk G B F W σ E.ex := fun x δ' h B' F' H' c da l rs ex => k.ex x δ' h B' F' H' σ c da l rs ex
def tS (G : Gx) (W : WX) (u : US) : TS := fun D σ H => ∃ B F δ E, Rs G B F H δ σ ∧ u E δ ∧ EnOk G W B F E D
abbrev QS (G : Gx) (W : WX) (X : Cx) (st : Stmt) (u : US) : Prop := PS X st (tS G W u)
abbrev QSs (G : Gx) (W : WX) (X : Cx) (st : List Stmt) (u : US) : Prop := PSs X st (tS G W u)
theorem ps_mono {st : Stmt} {t t' : TS} (h : PS X st t) (m : ∀ D σ H, t' D σ H → t D σ H) : PS X st t' := ⟨fun pins s σ H D I q => h.run pins s σ H D I (m D σ H q)⟩
theorem pss_mono {st : List Stmt} {t t' : TS} (h : PSs X st t) (m : ∀ D σ H, t' D σ H → t D σ H) : PSs X st t' := ⟨fun pins s σ H D I q => h.run pins s σ H D I (m D σ H q)⟩
variable {st : Stmt} {sts sts' : List Stmt}
@[simp] def uSkip : US := fun E δ => E.nx δ
@[simp] def uSeq (u1 u2 : US) : US := fun E δ => u1 { E with nx := u2 E } δ
theorem qss_nil : QSs G W X [] uSkip := pss_mono pss_nil fun D σ H ⟨B, F, δ, E, rs, h, k⟩ => k.nx _ h B F H σ Le.refl rs
theorem qss_cons {u1 u2 : US} (h1 : QS G W X st u1) (h2 : QSs G W X sts u2) : QSs G W X (st :: sts) (uSeq u1 u2) := pss_mono (pss_cons h1 h2) fun D σ H ⟨B, F, δ, E, rs, h, k⟩ =>
  ⟨B, F, δ, _, rs, h, ⟨fun δ' q B' F' H' σ' l rs' => ⟨B', F', δ', E, rs', q, k.later l⟩, k.bk, k.ct, k.rt, k.ex⟩⟩
theorem qss_one {u : US} (h : QS G W X st u) : QSs G W X [st] u := pss_one h
theorem qs_pass : QS G W X (.Pass pos) uSkip := ps_mono ps_pass fun D σ H ⟨B, F, δ, E, rs, h, k⟩ => k.nx _ h B F H σ Le.refl rs
@[simp] def uBrk : US := fun E δ => E.bk δ
@[simp] def uCnt : US := fun E δ => E.ct δ
theorem qs_brk : QS G W X (.Break pos) uBrk := ps_mono ps_break fun D σ H ⟨B, F, δ, E, rs, h, k⟩ => k.bk _ h B F H σ Le.refl rs
theorem qs_cnt : QS G W X (.Continue pos) uCnt := ps_mono ps_continue fun D σ H ⟨B, F, δ, E, rs, h, k⟩ => k.ct _ h B F H σ Le.refl rs
@[simp] def uIfS (uc : UT) (u1 u2 : US) : US := fun E δ => uc δ (fun b δ1 => if b = true then u1 E δ1 else u2 E δ1) E.ex
theorem qs_if {uc : UT} {u1 u2 : US} (hc : QT G W X c uc) (h1 : QSs G W X sts u1) (h2 : QSs G W X sts' u2) : QS G W X (.If c sts sts' pos) (uIfS uc u1 u2) := ps_mono (ps_if hc h1 h2) fun D σ H ⟨B, F, δ, E, rs, h, k⟩ =>
  tG_then rs h k.xok fun d δ1 q B1 F1 H1 v st1 rs1 r1 => by
    have ev : v = d := r1
    subst ev
    cases v with
    | true => exact ⟨B1, F1, δ1, E, rs1, q, k.later st1.toLe⟩
    | false => exact ⟨B1, F1, δ1, E, rs1, q, k.later st1.toLe⟩
@[simp] def Rz.sl : Rz → Sl
  | .sh d => .sh d
  | .nw ds => .ow ds
theorem Rs.setRz {B : Option Addr} {F H : Hp} {δ : DE} {σ : L2.St} (rs : Rs G B F H δ σ) {Hs : Hp} {δs : DE} {i : Nat} {r : Rz} {v : V} (h : RzR G Hs δs B F H δ σ r v) : Rs G B F H (δ.set i r.sl) (σ.set i (some v)) := by
  cases r with
  | sh d => exact rs.setSh h
  | nw ds =>
    obtain ⟨p, xs, rfl, e2, e3, e4, e5, e6, e7, _⟩ := h
    exact rs.setOw e2 e3 e4 e5 e6 e7
@[simp] def uSet (i : Nat) (u : UE) : US := fun E δ => u δ (fun r δ1 => E.nx (δ1.set i r.sl)) E.ex
theorem qs_set {i : Nat} {x : Str} {pos' : Pos} {u : UE} (hN : X.N.Nodup) (hi : X.N[i]? = some x) (hx : Loc X.env.scope x) (he : QE G W X e u) (hs : swapsWith e (some (.Name x pos')) pos.line X.env = pure false := by rfl) (hf : X.fn x = true ∨ X.env.scope.names.lookup x = some .local := by first | exact .inl rfl | exact .inr rfl | assumption) :
    QS G W X (.Assign [.Name x pos'] e pos) (uSet i u) := ps_mono (ps_set hN hi hx he hs hf) fun D σ H ⟨B, F, δ, E, rs, h, k⟩ =>
  tG_then rs h k.xok fun r δ1 q B1 F1 H1 v st1 rs1 r1 => k.nx _ q B1 F1 H1 _ st1.toLe (rs1.setRz r1)
theorem rt_of {B : Option Addr} {F H : Hp} {δ : DE} {σ : L2.St} {Hs : Hp} {δs : DE} {r : Rz} {v : V} (h : RzR G Hs δs B F H δ σ r v) : RtR G B F H r v := by
  cases r with
  | sh d => exact h
  | nw ds =>
    obtain ⟨p, xs, rfl, e2, e3, e4, e5, e6, e7, _⟩ := h
    exact ⟨p, xs, rfl, e2, e3, e4, e5, e6⟩
@[simp] def uRet (u : UE) : US := fun E δ => u δ (fun r _ => E.rt r) E.ex
theorem qs_ret {u : UE} (he : QE G W X e u) : QS G W X (.Return (some e) pos) (uRet u) := ps_mono (ps_ret he) fun D σ H ⟨B, F, δ, E, rs, h, k⟩ =>
  tG_then rs h k.xok fun r δ1 q B1 F1 H1 v st1 rs1 r1 => k.rt _ q B1 F1 H1 v rs1.toFr0 (rt_of r1)
@[simp] def uRetN : US := fun E _ => E.rt (.sh .non)
theorem qs_retN : QS G W X (.Return none pos) uRetN := ps_mono ps_retN fun D σ H ⟨B, F, δ, E, rs, h, k⟩ => k.rt _ h B F H _ rs.toFr0 .non
@[simp] def uDrop (u : UE) : US := fun E δ => u δ (fun _ δ1 => E.nx δ1) E.ex
theorem qs_expr {u : UE} (he : QE G W X e u) (hs : swapsWith e none pos.line X.env = pure false := by rfl) : QS G W X (.Expr e pos) (uDrop u) := ps_mono (ps_expr he hs) fun D σ H ⟨B, F, δ, E, rs, h, k⟩ =>
  tG_then rs h k.xok fun r δ1 q B1 F1 H1 v st1 rs1 r1 => k.nx _ q B1 F1 H1 σ st1.toLe rs1
/-- x op= e -/
@[simp] def uAug (i : Nat) (g : G2) (u : UV) : US := fun E δ => match δ[i]? with
  | some (.sh d) => u δ (fun y δ1 => g d y fun z => E.nx (δ1.set i (.sh z))) E.ex
  | _ => False
theorem qs_aug {i : Nat} {x : Str} {op : Operator} {r : R2} {g : G2} {pos' : Pos} {u : UV} (hN : X.N.Nodup) (hi : X.N[i]? = some x) (hx : Loc X.env.scope x) (he : QV G W X e u) (ho : OpR X (inplaceOp op) r) (hd : OpD G.K r g) (hf : X.fn x = true ∨ X.env.scope.names.lookup x = some .local := by first | exact .inl rfl | exact .inr rfl | assumption) :
    QS G W X (.AugAssign (.Name x pos') op e pos) (uAug i g u) := ps_mono (ps_aug (ti := r) hN hi hx he ho hf) fun D σ H ⟨B, F, δ, E, rs, h, k⟩ => by
  unfold uAug at h
  split at h
  · rename_i d hd'
    obtain ⟨v, e1, rv⟩ := rs.shAt hd'
    exact ⟨v, e1, tG_then rs h k.xok fun y δ1 q B1 F1 H1 w st1 rs1 r1 => hd B1 F1 H1 v w d y _ _ rs1.sub (st1.rp rv) r1 q fun z u qz ru => k.nx _ qz B1 F1 H1 _ st1.toLe (rs1.setSh ru)⟩
  · exact h.elim
/-- a, b = e1, e2 -/
@[simp] def uPar (i j : Nat) (ua : UA) : US := fun E δ => ua δ (fun ds δ1 => match ds with
  | [x, y] => E.nx ((δ1.set i (.sh x)).set j (.sh y))
  | _ => False) E.ex
theorem qs_par {i j : Nat} {x y : Str} {px py pt : Pos} {kt k2 : Nat} {pt2 : Pos} {ua : UA} (hc : X.calm = true) (hN : X.N.Nodup) (hi : X.N[i]? = some x) (hj : X.N[j]? = some y) (hij : i ≠ j) (hx : X.env.scope.names.lookup x = some .local) (hy : X.env.scope.names.lookup y = some .local) (ha : QA G W X [a, b] ua)
    (hw : swappedStores [.Tuple [.Name x px, .Name y py] kt pt] (.Tuple [a, b] k2 pt2) X.env = pure (some [x, y]) := by rfl) (hs : swapsWithSole [.Tuple [.Name x px, .Name y py] kt pt] (.Tuple [a, b] k2 pt2) pos.line X.env = pure false := by rfl) :
    QS G W X (.Assign [.Tuple [.Name x px, .Name y py] kt pt] (.Tuple [a, b] k2 pt2) pos) (uPar i j ua) := ps_mono (ps_par hc hN hi hj hij hx hy ha hw hs) fun D σ H ⟨B, F, δ, E, rs, h, k⟩ =>
  tG_then rs h k.xok fun ds δ1 q B1 F1 H1 vs st1 rs1 r1 => by
    split at q
    · obtain ⟨v, w, rfl, z, z'⟩ := rpl2 r1
      exact ⟨v, w, rfl, k.nx _ q B1 F1 H1 _ st1.toLe ((rs1.setSh z).setSh z')⟩
    · exact q.elim

/-! ### targets -/
abbrev UGt := D → DE → (DE → Prop) → Prop
abbrev UGts := List D → DE → (DE → Prop) → Prop
def tGt (G : Gx) (g : UGt) : TG := fun v σ H Q => ∃ B F δ d kd, Rs G B F H δ σ ∧ Rp G.K B F v d ∧ g d δ kd ∧ ∀ δ', kd δ' → ∀ σ', Rs G B F H δ' σ' → Q σ' H
def tGts (G : Gx) (g : UGts) : TGs := fun vs σ H Q => ∃ B F δ ds kd, Rs G B F H δ σ ∧ RpL G.K B F vs ds ∧ g ds δ kd ∧ ∀ δ', kd δ' → ∀ σ', Rs G B F H δ' σ' → Q σ' H
abbrev QG (G : Gx) (X : Cx) (e : Expr) (g : UGt) : Prop := PG X e (tGt G g)
abbrev QGs (G : Gx) (X : Cx) (es : List Expr) (g : UGts) : Prop := PGs X es (tGts G g)
theorem pg_mono {t t' : TG} (h : PG X e t) (m : ∀ v σ H Q, t' v σ H Q → t v σ H Q) : PG X e t' := ⟨fun pins s σ H v u Q I r q => h.run pins s σ H v u Q I r (m v σ H Q q)⟩
theorem pgs_mono {t t' : TGs} (h : PGs X es t) (m : ∀ v σ H Q, t' v σ H Q → t v σ H Q) : PGs X es t' := ⟨fun pins s σ H v u Q I r q => h.run pins s σ H v u Q I r (m v σ H Q q)⟩
@[simp] def uGN (i : Nat) : UGt := fun d δ k => k (δ.set i (.sh d))
theorem qg_name {i : Nat} {x : Str} (hN : X.N.Nodup) (hi : X.N[i]? = some x) (hx : Loc X.env.scope x) (hf : X.fn x = true ∨ X.env.scope.names.lookup x = some .local := by first | exact .inl rfl | exact .inr rfl | assumption) : QG G X (.Name x pos) (uGN i) :=
  pg_mono (pg_name hN hi hx hf) fun v σ H Q ⟨B, F, δ, d, kd, rs, r, h, k⟩ => k _ h _ (rs.setSh r)
@[simp] def uGNil : UGts := fun ds δ k => ds = [] ∧ k δ
@[simp] def uGCons (g : UGt) (gs : UGts) : UGts := fun ds δ k => match ds with
  | d :: r => g d δ fun δ1 => gs r δ1 k
  | [] => False
theorem qgs_nil : QGs G X [] uGNil := pgs_mono pgs_nil fun v σ H Q ⟨B, F, δ, d, kd, rs, r, h, k⟩ => by
  obtain ⟨rfl, h⟩ := h
  cases r
  exact ⟨rfl, k _ h _ rs⟩
theorem qgs_cons {g : UGt} {gs : UGts} (h1 : QG G X e g) (h2 : QGs G X es gs) (hs : (assignEach (e :: es) X.env).map (·.2) = assign e X.env :: (assignEach es X.env).map (·.2) := by rfl) : QGs G X (e :: es) (uGCons g gs) :=
  pgs_mono (pgs_cons h1 h2 hs) fun v σ H Q ⟨B, F, δ, d, kd, rs, r, h, k⟩ => by
    cases r with
    | nil => exact h.elim
    | cons r t => exact ⟨_, _, rfl, B, F, δ, _, _, rs, r, h, fun δ' q σ' rs' => ⟨B, F, δ', _, kd, rs', t, q, k⟩⟩
@[simp] def uGT (n : Nat) (gs : UGts) : UGt := fun d δ k => match d with
  | .tup ds => ds.length = n ∧ gs ds δ k
  | _ => False
theorem qg_tup {n : Nat} {k : Nat} {gs : UGts} (hc : X.calm = true) (h : QGs G X es gs) (hk : X.K = G.K := by rfl) (hn : (assignEach es X.env).length = n := by rfl) (hst : (assignEach es X.env).findIdx? (·.1) = none := by rfl) : QG G X (.Tuple es k pos) (uGT n gs) :=
  pg_mono (pg_tup hc h hn hst) fun v σ H Q ⟨B, F, δ, d, kd, rs, r, h, k⟩ => by
    unfold uGT at h
    split at h
    · obtain ⟨p, xs, rfl, hp, r⟩ := rp_tup r
      exact ⟨p, xs, rfl, by rw [hk]; exact sqT_mono rs.sub hp, r.length.trans h.1, B, F, δ, _, kd, rs, r, h.2, k⟩
    · exact h.elim
@[simp] def uAsg (u : UV) (g : UGt) : US := fun E δ => u δ (fun d δ1 => g d δ1 E.nx) E.ex
theorem qs_asg {u : UV} {g : UGt} (he : QV G W X e u) (hg : QG G X a g) (hs : swapsWithSole [a] e pos.line X.env = pure false := by rfl) (hw : swappedStores [a] e X.env = pure none := by rfl) (h1 : (assignEach [a] X.env).map (·.2) = [assign a X.env] := by rfl) :
    QS G W X (.Assign [a] e pos) (uAsg u g) := ps_mono (ps_asg he hg hs hw h1) fun D σ H ⟨B, F, δ, E, rs, h, k⟩ =>
  tG_then rs h k.xok fun d δ1 q B1 F1 H1 v st1 rs1 r1 => ⟨B1, F1, δ1, d, _, rs1, r1, q, fun δ' q' σ' rs' => k.nx _ q' B1 F1 H1 σ' st1.toLe rs'⟩

/-! ### a list of a slot's own is changed -/
theorem Rs.setOwn {B : Option Addr} {F H : Hp} {δ : DE} {σ : L2.St} (rs : Rs G B F H δ σ) {i : Nat} {ds : List D} {p : Addr} {ys : List V} {es : List D} (h : δ[i]? = some (.ow ds)) (hp : σ[i]? = some (some (.ref p))) (hr : RpL G.K B F ys es) :
    Rs G B F (upd H p (.lst ys)) (δ.set i (.ow es)) σ ∧ Stp B F H δ σ B F (upd H p (.lst ys)) (δ.set i (.ow es)) := by
  obtain ⟨p', xs, e1, e2, e3, e4, e5, e6⟩ := rs.owAt h
  rw [hp] at e1; cases e1
  have hl : i < δ.length := (List.getElem?_eq_some_iff.mp h).1
  have back : ∀ {j : Nat} {gs : List D}, (δ.set i (Sl.ow es))[j]? = some (Sl.ow gs) → ∃ hs, δ[j]? = some (Sl.ow hs) := fun {j gs} q => by
    rcases set_get q with ⟨e, _, _⟩ | ⟨_, q⟩
    · exact ⟨ds, by rw [e]; exact h⟩
    · exact ⟨gs, q⟩
  refine ⟨⟨⟨fun a o q => ?_, rs.low, rs.new, fun a o q hb => ?_, rs.bag0, rs.bagn, fun b hb => ⟨(rs.bag b hb).1, bagged_keep (rs.bag b hb).2 (Same.refl _) fun o q => ?_⟩⟩, by rw [List.length_set]; exact rs.len, fun j s q => ?_, fun j k gs gs' a h1 h2 h3 h4 => ?_⟩, ⟨Same.refl _, fun _ h => h, fun _ h => .inl h, fun _ _ h => .inl h, fun a o q hb ho => ?_, fun a o q => ?_, fun j gs q => back q⟩⟩
  · rw [upd_ne (fun z => by rw [z, e3] at q; cases q)]; exact rs.sub a o q
  · rw [upd_ne (fun z => by rw [z, e2] at q; cases q)]; exact rs.keep a o q hb
  · rw [upd_ne (fun z => e4 (by rw [hb, z]))]; exact q
  · rcases set_get q with ⟨rfl, rfl, _⟩ | ⟨hj, q⟩
    · exact ⟨_, hp, p, ys, rfl, e2, e3, e4, upd_same, hr⟩
    · obtain ⟨ov, q1, q2⟩ := rs.sl j s q
      refine ⟨ov, q1, ?_⟩
      cases s with
      | no => exact q2
      | sh d => cases ov <;> exact q2
      | ow gs =>
        cases ov with
        | none => exact q2
        | some v =>
          obtain ⟨p2, zs, z1, z2, z3, z4, z5, z6⟩ := q2
          subst z1
          have ne : p2 ≠ p := fun z => hj (rs.dis j i gs ds p q h (by rw [q1, z]) hp)
          exact ⟨p2, zs, rfl, z2, z3, z4, by rw [upd_ne ne]; exact z5, z6⟩
  · obtain ⟨hs, q1⟩ := back h1
    obtain ⟨hs', q2⟩ := back h2
    exact rs.dis j k hs hs' a q1 q2 h3 h4
  · rw [upd_ne (fun z => ho ⟨i, ds, h, by rw [hp, z]⟩)]; exact q
  · by_cases ha : a = p
    · exact ⟨_, by rw [ha]; exact upd_same⟩
    · exact ⟨o, by rw [upd_ne ha]; exact q⟩
/-- x[i] = e of a name that holds a list of its own -/
@[simp] def uSetIx (i : Nat) (ui ue : UV) : US := fun E δ => ue δ (fun d δ1 => notNo δ1[i]? = true ∧ ui δ1 (fun y δ2 => match δ2[i]?, y with
  | some (.ow ds), .int k => (match ixN ds.length k with | some j => E.nx (δ2.set i (.ow (ds.set j d))) | none => False)
  | _, _ => False) E.ex) E.ex
theorem qs_setIx {i : Nat} {ui ue : UV} {tpos : Pos} (ho : PE X a (tVar i)) (hi : QV G W X b ui) (he : QV G W X e ue)
    (ha : ∀ v, assign (.Subscript a b tpos) X.env v = (do
      let ov ← holding [v] (eval a X.env)
      let iv ← holding [v, ov] (eval b X.env)
      standAt tpos
      holding [v, ov, iv] (setItem ov iv v)
      release [v, ov, iv] []) := by intro _; rfl) (hs : swapsWithSole [.Subscript a b tpos] e pos.line X.env = pure false := by rfl) (hw : swappedStores [.Subscript a b tpos] e X.env = pure none := by rfl) (h1 : (assignEach [.Subscript a b tpos] X.env).map (·.2) = [assign (.Subscript a b tpos) X.env] := by rfl) :
    QS G W X (.Assign [.Subscript a b tpos] e pos) (uSetIx i ui ue) := ps_mono (ps_asg he (pg_sub ho hi set_list ha) hs hw h1) fun D σ H ⟨B, F, δ, E, rs, h, k⟩ =>
  tG_then rs h k.xok fun d δ1 q B1 F1 H1 v st1 rs1 r1 => by
    obtain ⟨hn, q⟩ := q
    obtain ⟨o, ov⟩ := rs1.has hn
    refine ⟨o, ov, tG_then rs1 q (k.xok.later st1.toLe) fun y δ2 q2 B2 F2 H2 w st2 rs2 r2 => ?_⟩
    split at q2
    · rename_i ds kk hd
      split at q2
      · rename_i j hj
        obtain ⟨p, xs, e1, e2, e3, e4, e5, e6⟩ := rs2.owAt hd
        rw [ov] at e1; cases e1
        obtain ⟨rs3, st3⟩ := rs2.setOwn hd ov (e6.set j (st2.rp r1))
        exact ⟨p, xs, _, j, rfl, rp_int r2, e5, by rw [e6.length]; exact hj, k.nx _ q2 B2 F2 _ σ ((st1.trans st2).trans st3).toLe rs3⟩
      · exact q2.elim
    · exact q2.elim
/-- x.append(e) -/
@[simp] def uApp (i : Nat) (u : UV) : UE := fun δ Q R => (∃ ds, δ[i]? = some (.ow ds)) ∧ u δ (fun d δ1 => match δ1[i]? with
  | some (.ow ds) => ds.length < 16777216 ∧ Q (.sh .non) (δ1.set i (.ow (ds ++ [d])))
  | _ => False) R
theorem qe_app {i : Nat} {u : UV} {apos cpos : Pos} (ho : PE X a (tVar i)) (he : QV G W X e u) (hk : X.K = G.K := by rfl)
    (hbase : attributeBase a "append" X.env (eval a X.env) = eval a X.env := by rfl)
    (hfew : ((backTo cpos (starEach [e] X.env)).all (fun x => !x.1) && (backToKw cpos (keywordEach [] X.env)).all (fun x => x.1.isSome)
      && decide (([e] : List Expr).length + ([] : List Keyword).length + (if ([] : List Keyword).isEmpty then 0 else 1) < 30)) = true := by rfl)
    (hline : (apos.endLine == cpos.line) = true := by rfl) (hs : starEach [e] X.env = (false, eval e X.env) :: starEach [] X.env := by rfl) (hplain : (backTo cpos (starEach [] X.env)).any (·.1) = false := by rfl) :
    QE G W X (.Call (.Attribute a "append" apos) [e] [] cpos) (uApp i u) :=
  pe_mono (pe_bm PySem.F.plainAttrs_list PySem.F.slot_list_append PySem.F.type_list_append mt_append ho (pa_one he hs) hbase hfew hline hs hplain) fun σ H Q ⟨B, F, δ, Qd, Rd, rs, h, k, x⟩ => by
    obtain ⟨⟨ds0, h0⟩, h⟩ := h
    obtain ⟨p, xs, e1, e2, e3, e4, e5, e6⟩ := rs.owAt h0
    refine ⟨.ref p, e1, .inl ⟨rfl, xs, .inl (.inl e5)⟩, tG_then rs h x fun d δ1 q B1 F1 H1 v st1 rs1 r1 => ?_⟩
    split at q
    · rename_i ds hd
      obtain ⟨p', ys, f1, f2, f3, f4, f5, f6⟩ := rs1.owAt hd
      rw [e1] at f1; cases f1
      obtain ⟨rs2, st2⟩ := rs1.setOwn hd e1 (f6.append (.cons r1 .nil))
      exact ⟨p, ys, v, rfl, rfl, f5, by rw [f6.length, sizeLine_eq]; exact q.1, k _ _ q.2 B1 F1 _ _ (st1.trans st2) rs2 .non⟩
    · exact q.elim
/-- x.pop() -/
@[simp] def uPop (i : Nat) : UV := fun δ Q _ => match δ[i]? with
  | some (.ow ds) => (match ds[ds.length - 1]? with | some d => Q d (δ.set i (.ow ds.dropLast)) | none => False)
  | _ => False
theorem qv_pop {i : Nat} {apos cpos : Pos} (ho : PE X a (tVar i)) (hbase : attributeBase a "pop" X.env (eval a X.env) = eval a X.env := by rfl) (hline : (apos.endLine == cpos.line) = true := by rfl) : QV G W X (.Call (.Attribute a "pop" apos) [] [] cpos) (uPop i) :=
  pe_mono (pe_bm0 PySem.F.plainAttrs_list PySem.F.slot_list_pop PySem.F.type_list_pop mt_pop ho hbase hline) fun σ H Q ⟨B, F, δ, Qd, Rd, rs, h, k, x⟩ => by
    unfold uPop at h
    split at h
    · rename_i ds hd
      obtain ⟨p, xs, e1, e2, e3, e4, e5, e6⟩ := rs.owAt hd
      split at h
      · rename_i d hat
        obtain ⟨v, hv, rv⟩ := e6.get' hat
        obtain ⟨rs2, st2⟩ := rs.setOwn hd e1 e6.dropLast
        exact ⟨.ref p, e1, .inl ⟨rfl, xs, .inl (.inl e5)⟩, p, xs, v, rfl, rfl, e5, by rw [e6.length]; exact hv, k _ _ h B F _ v st2 rs2 rv⟩
      · exact h.elim
    · exact h.elim
end
end DL

set_option Elab.async false
set_option linter.all false
set_option maxRecDepth 100000
namespace DL
open PySem PySem.Spec PyProof.Rows L2
section
variable {G : Gx} {W : WX} {X : Cx} {e a b c : Expr} {es : List Expr} {pos : Pos} {st : Stmt} {sts sts' : List Stmt} {tg iter : Expr}
/-! ### while -/
@[simp] def uWh (uc : UT) (ub : US) : US := fun E δ => ∃ (P : DE → Prop) (m : DE → Nat), P δ ∧ ∀ δ, P δ → uc δ (fun k δ1 => if k = true then ub { E with nx := fun δ2 => P δ2 ∧ m δ2 < m δ, ct := fun δ2 => P δ2 ∧ m δ2 < m δ, bk := E.nx } δ1 else E.nx δ1) E.ex
theorem qs_while {uc : UT} {ub : US} (hp : PassesOwn (model X.prog X.w) X.A X.env X.xe) (hc : QT G W X c uc) (hb : QSs G W X sts ub) : QS G W X (.While c sts [] pos) (uWh uc ub) := ps_mono (ps_while hp hc hb) fun D σ H ⟨B, F, δ, E, rs, h, k⟩ => by
  obtain ⟨P, m, h0, step⟩ := h
  refine ⟨fun n σ' H' => ∃ B' F' δ', n = m δ' ∧ P δ' ∧ Le B F B' F' ∧ Rs G B' F' H' δ' σ', ⟨m δ, B, F, δ, rfl, h0, Le.refl, rs⟩, ?_⟩
  rintro n σ1 H1 ⟨B1, F1, δ1, rfl, p1, l1, rs1⟩
  refine tG_then rs1 (step δ1 p1) (k.xok.later l1) fun d δ2 q B2 F2 H2 v st2 rs2 r2 => ?_
  have ev : v = d := r2
  subst ev
  have l2 := l1.trans st2.toLe
  cases v with
  | true =>
    refine ⟨fun σ' H' => ∃ B' F' δ', (P δ' ∧ m δ' < m δ1) ∧ Le B F B' F' ∧ Rs G B' F' H' δ' σ', fun σ' H' ⟨B', F', δ', ⟨p, lt⟩, l, rs'⟩ => ⟨m δ', lt, B', F', δ', rfl, p, l, rs'⟩, B2, F2, δ2, _, rs2, q, ?_⟩
    exact ⟨fun δ' q B' F' H' σ' l rs' => ⟨B', F', δ', q, l2.trans l, rs'⟩, k.nx.later l2, fun δ' q B' F' H' σ' l rs' => ⟨B', F', δ', q, l2.trans l, rs'⟩, k.rt, k.exl l2⟩
  | false => exact k.nx _ q B2 F2 H2 _ l2 rs2

/-! ### what is walked -/
def YR (K : PySem.W.Frag) (B : Option Addr) (F : Hp) (d : D) (H : Hp) (x : V) (H' : Hp) : Prop :=
  (H' = H ∧ Rp K B F x d) ∨ ∃ p vs es, x = .ref p ∧ H p = none ∧ H' = upd H p (.tup vs) ∧ d = .tup es ∧ RpL K B F vs es
structure ItD (K : PySem.W.Frag) (B : Option Addr) (F : Hp) (ds : List D) (J : It) : Prop where
  go : ∀ i H, Same F H → i < ds.length → J.go i H
  stop : ∀ i H, Same F H → ds.length ≤ i → J.stop i H
  yld : ∀ i H x H' d, Same F H → J.yld i H x H' → ds[i]? = some d → YR K B F d H x H'
abbrev UI := UG (List D)
def relI (G : Gx) : Rel (List D) It := fun _ _ B F _ _ _ ds J => ItD G.K B F ds J
abbrev QI (G : Gx) (W : WX) (X : Cx) (tg iter : Expr) (u : UI) : Prop := PI X tg iter (tG G W (relI G) u)
theorem pi_mono {t t' : TI} (h : PI X tg iter t) (m : ∀ σ H R, t' σ H R → t σ H R) : PI X tg iter t' := ⟨fun pins s σ H R I q => h.run pins s σ H R I (m σ H R q)⟩
/-- a list or a tuple -/
def iSeq (K : PySem.W.Frag) (te : TE) : TI := fun σ H R => te σ H fun x H1 => ∃ a, x = .ref a ∧ (((∃ xs, SqL K H1 a xs) ∧ R (Itl K a) H1) ∨ ((∃ xs, SqT K H1 a xs) ∧ R (Itt K a) H1))
theorem pi_seq {te : TE} (h : PE X e te) : PI X tg e (iSeq X.K te) := by
  refine ⟨fun pins s σ H R I w => thn (h.run pins s σ H _ I w) fun v s1 ⟨x, H1, I1, r1, q1⟩ => ?_⟩
  obtain ⟨a, ex, q1⟩ := q1
  subst ex
  obtain rfl : v = Value.ref a := r1
  rcases q1 with ⟨⟨xs, hq⟩, q⟩ | ⟨⟨xs, hq⟩, q⟩
  · obtain ⟨its, rv, p, hz⟩ := I1.list hq
    exact wpAny_pyIter_list p.isList (pi_one (tk := s1.toks) I1 _ (turn_list a _) ⟨_, Heap.get?_push_size _ rfl, rfl, rfl⟩ q)
  · obtain ⟨its, rv, p, hz⟩ := I1.tuple hq
    exact wpAny_pyIter_tuple (show s1.heap.IsTuple a its.toArray from p) (pi_one (tk := s1.toks) I1 _ (turn_tuple a _) ⟨_, Heap.get?_push_size _ rfl, rfl, rfl⟩ q)
theorem itd_list {K : PySem.W.Frag} {B : Option Addr} {F : Hp} {p : Addr} {xs : List V} {ds : List D} (h : SqL K F p xs) (r : RpL K B F xs ds) : ItD K B F ds (Itl K p) where
  go := fun i H e hi => ⟨xs, xs[i]'(by rw [r.length]; exact hi), e.seq h, List.getElem?_eq_getElem _⟩
  stop := fun i H e hi => ⟨xs, e.seq h, by rw [r.length]; exact hi⟩
  yld := fun i H x H' d e ⟨y1, y2⟩ hd => by
    obtain ⟨v, hv, rv⟩ := r.get' hd
    have z := y2 xs (e.seq h)
    rw [hv] at z; cases z
    exact .inl ⟨y1, rv⟩
theorem itd_tup {K : PySem.W.Frag} {B : Option Addr} {F : Hp} {p : Addr} {xs : List V} {ds : List D} (h : SqT K F p xs) (r : RpL K B F xs ds) : ItD K B F ds (Itt K p) where
  go := fun i H e hi => ⟨xs, xs[i]'(by rw [r.length]; exact hi), sqT_mono e h, List.getElem?_eq_getElem _⟩
  stop := fun i H e hi => ⟨xs, sqT_mono e h, by rw [r.length]; exact hi⟩
  yld := fun i H x H' d e ⟨y1, y2⟩ hd => by
    obtain ⟨v, hv, rv⟩ := r.get' hd
    have z := y2 xs (sqT_mono e h)
    rw [hv] at z; cases z
    exact .inl ⟨y1, rv⟩
@[simp] def seqD : D → Option (List D)
  | .tup ds => some ds
  | .lst ds => some ds
  | _ => none
@[simp] def uItV (u : UV) : UI := fun δ Q R => u δ (fun d δ1 => match seqD d with | some ds => Q ds δ1 | none => False) R
theorem qi_val {u : UV} (h : QV G W X e u) (hk : X.K = G.K := by rfl) : QI G W X tg e (uItV u) := pi_mono (pi_seq h) fun σ H R ⟨B, F, δ, Qd, Rd, rs, h, k, x⟩ => tG_then rs h x fun d δ1 q B1 F1 H1 v st1 rs1 r1 => by
  rw [hk]
  cases r1 with
  | lst hp r => exact ⟨_, rfl, .inl ⟨⟨_, rs1.sub.seq hp⟩, k _ _ q B1 F1 H1 _ st1 rs1 (itd_list hp r)⟩⟩
  | tup hp r => exact ⟨_, rfl, .inr ⟨⟨_, sqT_mono rs1.sub hp⟩, k _ _ q B1 F1 H1 _ st1 rs1 (itd_tup hp r)⟩⟩
  | _ => exact False.elim q
/-- reversed(x) -/
@[simp] def uItR (u : UV) : UI := fun δ Q R => u δ (fun d δ1 => match seqD d with | some ds => Q ds.reverse δ1 | none => False) R
theorem rev_at {α : Type} {xs : List α} {i : Nat} (h : i < xs.length) : xs.reverse[i]? = xs[xs.length - 1 - i]? := List.getElem?_reverse h
theorem itd_rev {K : PySem.W.Frag} {B : Option Addr} {F : Hp} {p : Addr} {xs : List V} {ds : List D} (h : SqL K F p xs) (r : RpL K B F xs ds) : ItD K B F ds.reverse (Itv K p xs.length) where
  go := fun i H e hi => by
    rw [List.length_reverse, ← r.length] at hi
    exact ⟨hi, xs, xs[xs.length - 1 - i]'(by omega), e.seq h, List.getElem?_eq_getElem _⟩
  stop := fun i H e hi => by
    rw [List.length_reverse, ← r.length] at hi
    exact hi
  yld := fun i H x H' d e ⟨y1, y2⟩ hd => by
    have hi : i < ds.length := by
      have := (List.getElem?_eq_some_iff.mp hd).1
      rwa [List.length_reverse] at this
    rw [rev_at hi] at hd
    obtain ⟨v, hv, rv⟩ := r.get' hd
    have z := y2 xs (e.seq h)
    rw [r.length, hv] at z; cases z
    exact .inl ⟨y1, rv⟩
theorem itd_revT {K : PySem.W.Frag} {B : Option Addr} {F : Hp} {p : Addr} {xs : List V} {ds : List D} (h : SqT K F p xs) (r : RpL K B F xs ds) : ItD K B F ds.reverse (RT.ItvT K p xs.length) where
  go := fun i H e hi => by
    rw [List.length_reverse, ← r.length] at hi
    exact ⟨hi, xs, xs[xs.length - 1 - i]'(by omega), sqT_mono e h, List.getElem?_eq_getElem _⟩
  stop := fun i H e hi => by
    rw [List.length_reverse, ← r.length] at hi
    exact hi
  yld := fun i H x H' d e ⟨y1, y2⟩ hd => by
    have hi : i < ds.length := by
      have := (List.getElem?_eq_some_iff.mp hd).1
      rwa [List.length_reverse] at this
    rw [rev_at hi] at hd
    obtain ⟨v, hv, rv⟩ := r.get' hd
    have z := y2 xs (sqT_mono e h)
    rw [r.length, hv] at z; cases z
    exact .inl ⟨y1, rv⟩
theorem qi_rev {u : UV} {p : Pos} (hg : Gl X "reversed") (hm : X.mg "reversed" = none) (h : QV G W X e u) (hk : X.K = G.K := by rfl) (hs : starEach [e] X.env = (false, eval e X.env) :: starEach [] X.env := by rfl) : QI G W X tg (.Call (.Name "reversed" p) [e] [] pos) (uItR u) :=
  pi_mono (RT.pi_revA hg hm h hs) fun σ H R ⟨B, F, δ, Qd, Rd, rs, h, k, x⟩ => tG_then rs h x fun d δ1 q B1 F1 H1 v st1 rs1 r1 => by
    rw [hk]
    cases r1 with
    | lst hp r => exact ⟨_, _, rfl, .inl ⟨rs1.sub.seq hp, k _ _ q B1 F1 H1 _ st1 rs1 (itd_rev hp r)⟩⟩
    | tup hp r => exact ⟨_, _, rfl, .inr ⟨sqT_mono rs1.sub hp, k _ _ q B1 F1 H1 _ st1 rs1 (itd_revT hp r)⟩⟩
    | _ => exact False.elim q
/-- ranges -/
def rgD (lo : Int) (n : Nat) : List D := (List.range n).map fun i => D.int (lo + (i : Nat))
def rgC (lo c : Int) (n : Nat) : List D := (List.range n).map fun i => D.int (lo + (i : Nat) * c)
theorem itd_rg {K : PySem.W.Frag} {B : Option Addr} {F : Hp} {lo : Int} {n : Nat} : ItD K B F (rgD lo n) (Itr lo n) where
  go := fun i H e hi => show i < n by simpa [rgD] using hi
  stop := fun i H e hi => show n ≤ i by simpa [rgD] using hi
  yld := fun i H x H' d e ⟨y1, y2⟩ hd => by
    refine .inl ⟨y1, ?_⟩
    subst y2
    unfold rgD at hd
    rw [List.getElem?_map] at hd
    obtain ⟨j, hj, rfl⟩ := Option.map_eq_some_iff.mp hd
    obtain ⟨hl, hj⟩ := List.getElem?_eq_some_iff.mp hj
    rw [List.getElem_range] at hj
    subst hj
    exact .int _
theorem itd_rgC {K : PySem.W.Frag} {B : Option Addr} {F : Hp} {lo c : Int} {n : Nat} : ItD K B F (rgC lo c n) (Itc lo c n) where
  go := fun i H e hi => show i < n by simpa [rgC] using hi
  stop := fun i H e hi => show n ≤ i by simpa [rgC] using hi
  yld := fun i H x H' d e ⟨y1, y2⟩ hd => by
    refine .inl ⟨y1, ?_⟩
    subst y2
    unfold rgC at hd
    rw [List.getElem?_map] at hd
    obtain ⟨j, hj, rfl⟩ := Option.map_eq_some_iff.mp hd
    obtain ⟨hl, hj⟩ := List.getElem?_eq_some_iff.mp hj
    rw [List.getElem_range] at hj
    subst hj
    exact .int _
def Sm (i : Int) : Prop := -(2 ^ 62) ≤ i ∧ i < 2 ^ 62
@[simp] def uRg1 (ua : UA) : UI := fun δ Q R => ua δ (fun ds δ1 => match ds with | [.int j] => Sm j ∧ Q (rgD 0 j.toNat) δ1 | _ => False) R
@[simp] def uRg2 (ua : UA) : UI := fun δ Q R => ua δ (fun ds δ1 => match ds with | [.int i, .int j] => Sm i ∧ Sm j ∧ Q (rgD i (j - i).toNat) δ1 | _ => False) R
@[simp] def uRg3 (ua : UA) : UI := fun δ Q R => ua δ (fun ds δ1 => match ds with | [.int i, .int j, .int c] => ∃ n, RgC i j c n ∧ Q (rgC i c n) δ1 | _ => False) R
theorem qi_rg1 {ua : UA} {p : Pos} (hg : Gl X "range") (hm : X.mg "range" = none) (ha : QA G W X [a] ua) (hs : starEach [a] X.env = [(false, eval a X.env)] := by rfl) : QI G W X tg (.Call (.Name "range" p) [a] [] pos) (uRg1 ua) :=
  pi_mono (pi_range1 hg hm ha hs) fun σ H R ⟨B, F, δ, Qd, Rd, rs, h, k, x⟩ => tG_then rs h x fun ds δ1 q B1 F1 H1 vs st1 rs1 r1 => by
    split at q
    · obtain ⟨v, rfl, z⟩ := rpl1 r1
      cases rp_int z
      exact ⟨_, rfl, q.1.1, q.1.2, k _ _ q.2 B1 F1 H1 _ st1 rs1 itd_rg⟩
    · exact q.elim
theorem qi_rg2 {ua : UA} {p : Pos} (hg : Gl X "range") (hm : X.mg "range" = none) (ha : QA G W X [a, b] ua) (hs : starEach [a, b] X.env = [(false, eval a X.env), (false, eval b X.env)] := by rfl) (hs2 : starEach [b] X.env = [(false, eval b X.env)] := by rfl) : QI G W X tg (.Call (.Name "range" p) [a, b] [] pos) (uRg2 ua) :=
  pi_mono (pi_range2 hg hm ha hs hs2) fun σ H R ⟨B, F, δ, Qd, Rd, rs, h, k, x⟩ => tG_then rs h x fun ds δ1 q B1 F1 H1 vs st1 rs1 r1 => by
    split at q
    · obtain ⟨v, v', rfl, z, z'⟩ := rpl2 r1
      cases rp_int z; cases rp_int z'
      exact ⟨_, _, rfl, ⟨q.1.1, q.1.2, q.2.1.1, q.2.1.2⟩, k _ _ q.2.2 B1 F1 H1 _ st1 rs1 itd_rg⟩
    · exact q.elim
theorem qi_rg3 {ua : UA} {p : Pos} (hg : Gl X "range") (hm : X.mg "range" = none) (ha : QA G W X [a, b, c] ua) (h : PI X tg (.Call (.Name "range" p) [a, b, c] [] pos) (iRng3 (tA G W ua))) : QI G W X tg (.Call (.Name "range" p) [a, b, c] [] pos) (uRg3 ua) :=
  pi_mono h fun σ H R ⟨B, F, δ, Qd, Rd, rs, h, k, x⟩ => tG_then rs h x fun ds δ1 q B1 F1 H1 vs st1 rs1 r1 => by
    split at q
    · cases r1 with
      | cons z t =>
        obtain ⟨v, v', rfl, z', z''⟩ := rpl2 t
        cases rp_int z; cases rp_int z'; cases rp_int z''
        obtain ⟨n, hn, q⟩ := q
        exact ⟨_, _, _, n, rfl, hn, k _ _ q B1 F1 H1 _ st1 rs1 itd_rgC⟩
    · exact q.elim

/-! ### for -/
@[simp] def forW (g : UGt) (ub : US) : List D → En → DE → Prop
  | [], E, δ => E.nx δ
  | d :: ds, E, δ => g d δ fun δ1 => ub { E with nx := forW g ub ds E, ct := forW g ub ds E, bk := E.nx } δ1
@[simp] def uFor (ui : UI) (g : UGt) (ub : US) : US := fun E δ => ui δ (fun ds δ1 => forW g ub ds E δ1) E.ex
theorem Rs.yr {B : Option Addr} {F H : Hp} {δ : DE} {σ : L2.St} (rs : Rs G B F H δ σ) {d : D} {x : V} {H' : Hp} (y : YR G.K B F d H x H') : ∃ F', Le B F B F' ∧ Rs G B F' H' δ σ ∧ Rp G.K B F' x d := by
  rcases y with ⟨rfl, r⟩ | ⟨p, vs, es, rfl, hp, rfl, rfl, r⟩
  · exact ⟨F, Le.refl, rs, r⟩
  · obtain ⟨rs2, st2⟩ := rs.call (rs.toFr0.newF (o := .tup vs) hp)
    exact ⟨_, st2.toLe, rs2, .tup (.inl (.inl upd_same)) (st2.rpl r)⟩
theorem ItD.later {K : PySem.W.Frag} {B B' : Option Addr} {F F' : Hp} {ds : List D} {J : It} (h : ItD K B F ds J) (l : Le B F B' F') : ItD K B' F' ds J :=
  ⟨fun i H e hi => h.go i H (l.1.trans e) hi, fun i H e hi => h.stop i H (l.1.trans e) hi, fun i H x H' d e y hd => by
    rcases h.yld i H x H' d (l.1.trans e) y hd with ⟨e1, r⟩ | ⟨p, vs, es, e1, e2, e3, e4, r⟩
    · exact .inl ⟨e1, r.mono l.1 l.2⟩
    · exact .inr ⟨p, vs, es, e1, e2, e3, e4, r.mono l.1 l.2⟩⟩
theorem qs_for {ui : UI} {g : UGt} {ub : US} (hp : PassesOwn (model X.prog X.w) X.A X.env X.xe) (hc : X.calm = true) (hi : QI G W X tg iter ui) (hg : QG G X tg g) (hb : QSs G W X sts ub)
    (hs : ∀ x, foldedSetIterable iter X.env x = pure x := by intro _; rfl) : QS G W X (.For tg iter sts [] pos) (uFor ui g ub) := ps_mono (ps_for hp hc hi hg hb hs) fun D σ H ⟨B, F, δ, E, rs, h, k⟩ =>
  tG_then rs h k.xok fun ds δ1 q B1 F1 H1 J st1 rs1 it => by
    refine ⟨fun i m σ' H' => ∃ B' F' δ', m = ds.length - i ∧ i ≤ ds.length ∧ forW g ub (ds.drop i) E δ' ∧ Le B1 F1 B' F' ∧ Rs G B' F' H' δ' σ', ⟨_, B1, F1, δ1, rfl, Nat.zero_le _, q, Le.refl, rs1⟩, ?_⟩
    rintro i m σ2 H2 ⟨B2, F2, δ2, rfl, hl, q2, l2, rs2⟩
    have it2 := it.later l2
    have l02 := st1.toLe.trans l2
    by_cases hlt : i < ds.length
    · refine .inr ⟨it2.go i H2 rs2.sub hlt, fun σ' H' => ∃ B' F' δ', forW g ub (ds.drop (i + 1)) E δ' ∧ Le B1 F1 B' F' ∧ Rs G B' F' H' δ' σ', fun σ' H' ⟨B', F', δ', w, l, rs'⟩ => ⟨ds.length - (i + 1), by omega, B', F', δ', rfl, hlt, w, l, rs'⟩, fun x H' y => ?_⟩
      rw [List.drop_eq_getElem_cons hlt] at q2
      obtain ⟨F3, l3, rs3, r3⟩ := rs2.yr (it2.yld i H2 x H' _ rs2.sub y (List.getElem?_eq_getElem hlt))
      have l03 := l02.trans l3
      refine ⟨B2, F3, δ2, ds[i], _, rs3, r3, q2, fun δ' w σ' rs' => ⟨B2, F3, δ', _, rs', w, ?_⟩⟩
      have l13 := l2.trans l3
      exact ⟨fun δ'' w B' F' H' σ' l rs' => ⟨B', F', δ'', w, l13.trans l, rs'⟩, k.nx.later l03, fun δ'' w B' F' H' σ' l rs' => ⟨B', F', δ'', w, l13.trans l, rs'⟩, k.rt, k.exl l03⟩
    · have e : i = ds.length := by omega
      subst e
      rw [List.drop_length] at q2
      exact .inl ⟨it2.stop _ H2 rs2.sub (Nat.le_refl _), k.nx _ q2 B2 F2 H2 σ2 l02 rs2⟩
end
end DL

set_option Elab.async false
set_option linter.all false
set_option maxRecDepth 100000
namespace DL
open PySem PySem.Spec PyProof.Rows L2
/-! ### comprehensions -/
def W0 : WX := fun _ _ _ _ => False
def R0 : KX := fun _ _ => False
@[simp] def wipeD (δ : DE) : List Nat → DE
  | [] => δ
  | v :: vs => (wipeD δ vs).set v .no
/-- behind a comprehension its own names' slots are what they were -/
@[simp] def back (δ1 δ2 : DE) : List Nat → DE
  | [] => δ2
  | v :: vs => match δ1[v]? with
    | some s => (back δ1 δ2 vs).set v s
    | none => back δ1 δ2 vs
@[simp] def lcW (g : UGt) (ut : UT) (ue : UV) (vs : List Nat) : List D → DE → (List D → DE → Prop) → Prop
  | [], δ, k => k [] δ
  | d :: ds, δ, k => g d (wipeD δ vs) fun δ1 => ut δ1 (fun b δ2 => if b = true then ue δ2 (fun y δ3 => lcW g ut ue vs ds δ3 fun ys δ4 => k (y :: ys) δ4) R0 else lcW g ut ue vs ds δ2 k) R0
@[simp] def uLc (ui : UI) (g : UGt) (ut : UT) (ue : UV) (vs : List Nat) : UE := fun δ Q R => ui δ (fun ds δ1 => ds.length ≤ 16777216 ∧ lcW g ut ue vs ds δ1 fun ys δ2 => Q (.nw ys) (back δ1 δ2 vs)) R
@[simp] def uYes : UT := fun δ Q _ => Q true δ
section
variable {G : Gx} {B : Option Addr} {F H : Hp} {δ : DE} {σ : L2.St}
theorem wipeD_length (δ : DE) : ∀ vs : List Nat, (wipeD δ vs).length = δ.length
  | [] => rfl
  | v :: vs => by unfold wipeD; rw [List.length_set, wipeD_length δ vs]
theorem wipeD_get {δ : DE} {i : Nat} {s : Sl} : ∀ {vs : List Nat}, (wipeD δ vs)[i]? = some s → (i ∈ vs ∧ s = .no) ∨ (i ∉ vs ∧ δ[i]? = some s)
  | [], h => .inr ⟨by simp, h⟩
  | v :: vs, h => by
    unfold wipeD at h
    rcases set_get h with ⟨rfl, rfl, _⟩ | ⟨hv, h⟩
    · exact .inl ⟨by simp, rfl⟩
    · rcases wipeD_get h with ⟨h1, h2⟩ | ⟨h1, h2⟩
      · exact .inl ⟨by simp [h1], h2⟩
      · exact .inr ⟨by simp [h1, hv], h2⟩
theorem wipe_get {σ : L2.St} {i : Nat} {o : Option V} : ∀ {vs : List Nat}, i ∉ vs → σ[i]? = some o → (wipe σ vs)[i]? = some o
  | [], _, h => h
  | v :: vs, hn, h => by
    unfold wipe
    rw [List.getElem?_set_ne (fun e => hn (by simp [e]))]
    exact wipe_get (fun z => hn (List.mem_cons_of_mem _ z)) h
theorem wipe_some {σ : L2.St} {i : Nat} {x : V} {vs : List Nat} (h : (wipe σ vs)[i]? = some (some x)) : σ[i]? = some (some x) ∧ i ∉ vs := L2.wipe_some h
theorem Rs.wiped (rs : Rs G B F H δ σ) (vs : List Nat) : Rs G B F H (wipeD δ vs) (wipe σ vs) := by
  refine ⟨rs.toFr0, by rw [wipeD_length, wipe_length]; exact rs.len, fun i s h => ?_, fun i j ds es p h1 h2 h3 h4 => ?_⟩
  · rcases wipeD_get h with ⟨hi, rfl⟩ | ⟨hi, h⟩
    · have hl : i < (wipe σ vs).length := by
        have := (List.getElem?_eq_some_iff.mp h).1
        rw [wipeD_length] at this
        rw [wipe_length, ← rs.len]; exact this
      exact ⟨(wipe σ vs)[i], List.getElem?_eq_getElem hl, trivial⟩
    · obtain ⟨ov, e, q⟩ := rs.sl i s h
      exact ⟨ov, wipe_get hi e, q⟩
  · rcases wipeD_get h1 with ⟨_, z⟩ | ⟨_, h1⟩
    · cases z
    · rcases wipeD_get h2 with ⟨_, z⟩ | ⟨_, h2⟩
      · cases z
      · exact rs.dis i j ds es p h1 h2 (wipe_some h3).1 (wipe_some h4).1
theorem own_wiped {δ : DE} {σ : L2.St} {vs : List Nat} {p : Addr} (h : Own (wipeD δ vs) (wipe σ vs) p) : Own δ σ p := by
  obtain ⟨i, ds, e, q⟩ := h
  rcases wipeD_get e with ⟨_, z⟩ | ⟨_, e⟩
  · cases z
  · exact ⟨i, ds, e, (wipe_some q).1⟩
theorem back_length (δ1 δ2 : DE) : ∀ vs : List Nat, (back δ1 δ2 vs).length = δ2.length
  | [] => rfl
  | v :: vs => by
    unfold back
    split
    · rw [List.length_set, back_length δ1 δ2 vs]
    · exact back_length δ1 δ2 vs
theorem back_get {δ1 δ2 : DE} {i : Nat} {s : Sl} (hl : δ1.length = δ2.length) : ∀ {vs : List Nat}, (back δ1 δ2 vs)[i]? = some s → (i ∈ vs ∧ δ1[i]? = some s) ∨ (i ∉ vs ∧ δ2[i]? = some s)
  | [], h => .inr ⟨by simp, h⟩
  | v :: vs, h => by
    unfold back at h
    split at h
    · rename_i s' hs
      rcases set_get h with ⟨rfl, rfl, _⟩ | ⟨hv, h⟩
      · exact .inl ⟨by simp, hs⟩
      · rcases back_get hl h with ⟨h1, h2⟩ | ⟨h1, h2⟩
        · exact .inl ⟨by simp [h1], h2⟩
        · exact .inr ⟨by simp [h1, hv], h2⟩
    · rename_i hs
      rcases back_get hl h with ⟨h1, h2⟩ | ⟨h1, h2⟩
      · exact .inl ⟨by simp [h1], h2⟩
      · refine .inr ⟨fun z => ?_, h2⟩
        rcases List.mem_cons.mp z with z | z
        · subst z
          have h3 := (List.getElem?_eq_some_iff.mp h2).1
          have h4 := List.getElem?_eq_none_iff.mp hs
          omega
        · exact h1 z
/-- from the comprehension's frame to the def's -/
theorem Rs.unwiped {B2 : Option Addr} {F2 H2 : Hp} {δ2 : DE} {vs : List Nat} (rs : Rs G B F H δ σ) (st : Stp B F H (wipeD δ vs) (wipe σ vs) B2 F2 H2 δ2) (rs2 : Rs G B2 F2 H2 δ2 (wipe σ vs)) : Rs G B2 F2 H2 (back δ δ2 vs) σ ∧ Stp B F H δ σ B2 F2 H2 (back δ δ2 vs) := by
  have hl : δ.length = δ2.length := by
    have h1 := rs.len
    have h2 := rs2.len
    rw [wipe_length] at h2
    omega
  have nown : ∀ {i : Nat} {ds : List D} {p : Addr}, i ∈ vs → δ[i]? = some (.ow ds) → σ[i]? = some (some (.ref p)) → ¬ Own (wipeD δ vs) (wipe σ vs) p := fun {i ds p} hi h hp ⟨j, es, e, q⟩ => by
    rcases wipeD_get e with ⟨_, z⟩ | ⟨hj, e⟩
    · cases z
    · exact hj (rs.dis i j ds es p h e hp (wipe_some q).1 ▸ hi)
  have stay : ∀ {i : Nat} {ds : List D}, i ∈ vs → δ[i]? = some (.ow ds) → ∃ p xs, σ[i]? = some (some (.ref p)) ∧ G.H0 p = none ∧ F2 p = none ∧ B2 ≠ some p ∧ H2 p = some (.lst xs) ∧ RpL G.K B2 F2 xs ds := fun {i ds} hi h => by
    obtain ⟨p, xs, e1, e2, e3, e4, e5, e6⟩ := rs.owAt h
    refine ⟨p, xs, e1, e2, ?_, fun z => ?_, st.kp p _ e5 e4 (nown hi h e1), e6.mono st.le st.bl⟩
    · cases z : F2 p with
      | none => rfl
      | some o =>
        rcases st.nw p o z with z | z | z
        · rw [e3] at z; cases z
        · rw [e5] at z; cases z
        · exact absurd z (nown hi h e1)
    · rcases st.bn p z with z | z
      · exact e4 z
      · rw [e5] at z; cases z
  refine ⟨⟨rs2.toFr0, by rw [back_length, ← hl]; exact rs.len, fun i s h => ?_, fun i j ds es p h1 h2 h3 h4 => ?_⟩, ⟨st.le, st.bl, st.bn, fun a o h => ?_, fun a o h hb ho => ?_, st.dm, fun i ds h => ?_⟩⟩
  · rcases back_get hl h with ⟨hi, h⟩ | ⟨hi, h⟩
    · obtain ⟨ov, e, q⟩ := rs.sl i s h
      refine ⟨ov, e, ?_⟩
      cases s with
      | no => trivial
      | sh d =>
        cases ov with
        | none => exact q
        | some v => exact Rp.mono st.le st.bl q
      | ow ds =>
        obtain ⟨p, xs, e1, e2, e3, e4, e5, e6⟩ := stay hi h
        rw [e] at e1; cases e1
        exact ⟨p, xs, rfl, e2, e3, e4, e5, e6⟩
    · obtain ⟨ov, e, q⟩ := rs2.sl i s h
      cases s with
      | no =>
        have hi2 : i < σ.length := by
          have := (List.getElem?_eq_some_iff.mp h).1
          rw [← hl, rs.len] at this; exact this
        exact ⟨σ[i], List.getElem?_eq_getElem hi2, trivial⟩
      | sh d =>
        cases ov with
        | none => exact q.elim
        | some v => exact ⟨some v, (wipe_some e).1, q⟩
      | ow ds =>
        cases ov with
        | none => exact q.elim
        | some v => exact ⟨some v, (wipe_some e).1, q⟩
  · have ow2 : ∀ {m : Nat} {ws : List D}, m ∉ vs → δ2[m]? = some (Sl.ow ws) → ∃ gs, δ[m]? = some (Sl.ow gs) := fun {m ws} hm h => by
      obtain ⟨gs, q⟩ := st.ow m ws h
      rcases wipeD_get q with ⟨z, _⟩ | ⟨_, q⟩
      · exact absurd z hm
      · exact ⟨gs, q⟩
    have all : ∀ {m : Nat} {ws : List D}, (back δ δ2 vs)[m]? = some (Sl.ow ws) → ∃ gs, δ[m]? = some (Sl.ow gs) := fun {m ws} h => by
      rcases back_get hl h with ⟨_, h⟩ | ⟨hm, h⟩
      · exact ⟨ws, h⟩
      · exact ow2 hm h
    obtain ⟨gs, g1⟩ := all h1
    obtain ⟨gs', g2⟩ := all h2
    exact rs.dis i j gs gs' p g1 g2 h3 h4
  · rcases st.nw a o h with h | h | h
    · exact .inl h
    · exact .inr (.inl h)
    · exact .inr (.inr (own_wiped h))
  · exact st.kp a o h hb fun z => ho (own_wiped z)
  · rcases back_get hl h with ⟨_, h⟩ | ⟨hm, h⟩
    · exact ⟨ds, h⟩
    · obtain ⟨gs, q⟩ := st.ow i ds h
      rcases wipeD_get q with ⟨_, z⟩ | ⟨_, q⟩
      · cases z
      · exact ⟨gs, q⟩

/-- an object that no slot holds is changed -/
theorem Rs.free (rs : Rs G B F H δ σ) {p : Addr} {o : HO} (h0 : G.H0 p = none) (hF : F p = none) (hB : B ≠ some p) (ho : ¬ Own δ σ p) : Rs G B F (upd H p o) δ σ := by
  refine ⟨⟨fun a u q => ?_, rs.low, rs.new, fun a u q hb => ?_, rs.bag0, rs.bagn, fun b hb => ⟨(rs.bag b hb).1, bagged_keep (rs.bag b hb).2 (Same.refl _) fun u q => ?_⟩⟩, rs.len, fun i s q => ?_, rs.dis⟩
  · rw [upd_ne (fun z => by rw [z, hF] at q; cases q)]; exact rs.sub a u q
  · rw [upd_ne (fun z => by rw [z, h0] at q; cases q)]; exact rs.keep a u q hb
  · rw [upd_ne (fun z => hB (by rw [hb, z]))]; exact q
  · obtain ⟨ov, q1, q2⟩ := rs.sl i s q
    refine ⟨ov, q1, ?_⟩
    cases s with
    | no => exact q2
    | sh d => cases ov <;> exact q2
    | ow gs =>
      cases ov with
      | none => exact q2
      | some v =>
        obtain ⟨p2, zs, z1, z2, z3, z4, z5, z6⟩ := q2
        subst z1
        have ne : p2 ≠ p := fun z => ho ⟨i, gs, q, by rw [q1, z]⟩
        exact ⟨p2, zs, rfl, z2, z3, z4, by rw [upd_ne ne]; exact z5, z6⟩
/-- what the target of a comprehension does -/
def LcT (G : Gx) (g : TG) (gd : UGt) (vs : List Nat) : Prop := ∀ B F H δ σ d v kd (Q : L2.St → Hp → Prop), Rs G B F H (wipeD δ vs) (wipe σ vs) → Rp G.K B F v d → gd d (wipeD δ vs) kd →
  (∀ δ' σ', kd δ' → Rs G B F H δ' σ' → wipe σ' vs = wipe σ vs → (∀ (i : Nat) (ds : List D), δ'[i]? = some (Sl.ow ds) → (wipeD δ vs)[i]? = some (Sl.ow ds) ∧ σ'[i]? = (wipe σ vs)[i]?) → Q σ' H) → g v (wipe σ vs) H Q
theorem wipe_in {τ : L2.St} {j : Nat} (hl : j < τ.length) : ∀ {vs : List Nat}, j ∈ vs → (wipe τ vs)[j]? = some none
  | [], h => by simp at h
  | v :: r, h => by
    unfold wipe
    by_cases e : v = j
    · subst e
      rw [List.getElem?_set_self (by rw [wipe_length]; exact hl)]
    · rw [List.getElem?_set_ne e]
      exact wipe_in hl ((List.mem_cons.mp h).resolve_left (fun z => e z.symm))
theorem wipe_off {τ : L2.St} {j : Nat} : ∀ {vs : List Nat}, j ∉ vs → (wipe τ vs)[j]? = τ[j]?
  | [], _ => rfl
  | v :: r, h => by
    unfold wipe
    rw [List.getElem?_set_ne (fun e => h (by simp [e]))]
    exact wipe_off fun z => h (List.mem_cons_of_mem _ z)
theorem wipe_eq {τ ρ : L2.St} {vs : List Nat} (hl : τ.length = ρ.length) (h : ∀ j, j ∉ vs → τ[j]? = ρ[j]?) : wipe τ vs = wipe ρ vs := by
  refine List.ext_getElem? fun j => ?_
  by_cases hj : j ∈ vs
  · by_cases hl' : j < τ.length
    · rw [wipe_in hl' hj, wipe_in (by rw [← hl]; exact hl') hj]
    · rw [List.getElem?_eq_none (by rw [wipe_length]; omega), List.getElem?_eq_none (by rw [wipe_length]; omega)]
  · rw [wipe_off hj, wipe_off hj, h j hj]
theorem wipe_set {τ : L2.St} {i : Nat} {o : Option V} {vs : List Nat} (hi : i ∈ vs) : wipe (τ.set i o) vs = wipe τ vs :=
  wipe_eq (by rw [List.length_set]) fun j hj => List.getElem?_set_ne fun e => hj (by rw [← e]; exact hi)
theorem wipe_idem {τ : L2.St} {vs : List Nat} : wipe (wipe τ vs) vs = wipe τ vs := wipe_eq (wipe_length _ _) fun j hj => wipe_off hj
theorem ow_set {δ : DE} {σ : L2.St} {i : Nat} {d : D} {v : V} {j : Nat} {ds : List D} (h : (δ.set i (.sh d))[j]? = some (Sl.ow ds)) : δ[j]? = some (Sl.ow ds) ∧ (σ.set i (some v))[j]? = σ[j]? := by
  rcases set_get h with ⟨_, z, _⟩ | ⟨hj, h⟩
  · cases z
  · exact ⟨h, List.getElem?_set_ne (Ne.symm hj)⟩
theorem lct_name {i : Nat} {vs : List Nat} (hi : i ∈ vs) : LcT G (gName i) (uGN i) vs := fun B F H δ σ d v kd Q rs r g k =>
  k _ _ g (rs.setSh r) ((wipe_set hi).trans wipe_idem) fun j ds h => ow_set h
theorem lct_pair {i j : Nat} {vs : List Nat} {n : Nat} (hi : i ∈ vs) (hj : j ∈ vs) : LcT G (gTup G.K n (gCons (gName i) (gCons (gName j) gNil))) (uGT n (uGCons (uGN i) (uGCons (uGN j) uGNil))) vs := fun B F H δ σ d v kd Q rs r g k => by
  unfold uGT at g
  split at g
  · obtain ⟨p, xs, rfl, hp, r⟩ := rp_tup r
    obtain ⟨hl, g⟩ := g
    refine ⟨p, xs, rfl, sqT_mono rs.sub hp, r.length.trans hl, ?_⟩
    cases r with
    | nil => exact g.elim
    | cons r1 t =>
      refine ⟨_, _, rfl, ?_⟩
      cases t with
      | nil => exact False.elim g
      | cons r2 t =>
        refine ⟨_, _, rfl, ?_⟩
        obtain ⟨e, g⟩ : _ = [] ∧ kd _ := g
        subst e
        cases t
        exact ⟨rfl, k _ _ g ((rs.setSh r1).setSh r2) ((wipe_set hj).trans ((wipe_set hi).trans wipe_idem)) fun m ds h => by
          obtain ⟨h1, h2⟩ := ow_set (σ := (wipe σ vs).set i (some _)) h
          obtain ⟨h3, h4⟩ := ow_set (σ := wipe σ vs) h1
          exact ⟨h3, h2.trans h4⟩⟩
  · exact g.elim
end
end DL

set_option Elab.async false
set_option linter.all false
set_option maxRecDepth 100000
namespace DL
open PySem PySem.Spec PyProof.Rows L2
section
variable {G : Gx} {W : WX} {X : Cx} {e a b c : Expr} {es : List Expr} {pos : Pos} {tg iter elt : Expr} {ifs : List Expr}
theorem Own.wiped {δ : DE} {σ σ' : L2.St} {δ' : DE} (h : ∀ (i : Nat) (ds : List D), δ'[i]? = some (Sl.ow ds) → δ[i]? = some (Sl.ow ds) ∧ σ'[i]? = σ[i]?) {p : Addr} (o : Own δ' σ' p) : Own δ σ p := by
  obtain ⟨i, ds, e, q⟩ := o
  obtain ⟨h1, h2⟩ := h i ds e
  exact ⟨i, ds, h1, by rw [← h2]; exact q⟩
theorem stp_reslot {B B1 : Option Addr} {F F1 H H1 : Hp} {δ δ' δ1 δ1' : DE} {σ σ' : L2.St} (st : Stp B F H δ' σ' B1 F1 H1 δ1) (h : ∀ (i : Nat) (ds : List D), δ'[i]? = some (Sl.ow ds) → δ[i]? = some (Sl.ow ds) ∧ σ'[i]? = σ[i]?)
    (h1 : ∀ (i : Nat) (ds : List D), δ1'[i]? = some (Sl.ow ds) → δ1[i]? = some (Sl.ow ds)) : Stp B F H δ σ B1 F1 H1 δ1' :=
  ⟨st.le, st.bl, st.bn, fun a o q => by
    rcases st.nw a o q with z | z | z
    · exact .inl z
    · exact .inr (.inl z)
    · exact .inr (.inr (Own.wiped h z)), fun a o q hb ho => st.kp a o q hb fun z => ho (Own.wiped h z), st.dm, fun i ds q => by
      obtain ⟨es, z⟩ := st.ow i ds (h1 i ds q)
      exact ⟨es, (h i es z).1⟩⟩
/-- the state between two turns: D holds what was made -/
structure LcS (G : Gx) (vs : List Nat) (σ : L2.St) (B1 : Option Addr) (F1 H1 : Hp) (δ1 : DE) (p : Addr) (acc : List D) (B : Option Addr) (F H : Hp) (δ : DE) : Prop where
  rs : Rs G B F H (wipeD δ vs) (wipe σ vs)
  st : Stp B1 F1 H1 (wipeD δ1 vs) (wipe σ vs) B F H (wipeD δ vs)
  fr : F p = none
  nb : B ≠ some p
  at_ : ∃ xs, H p = some (.lst xs) ∧ RpL G.K B F xs acc
  no : ¬ Own (wipeD δ vs) (wipe σ vs) p
theorem wipeD_ow {δ : DE} {vs : List Nat} {i : Nat} {ds : List D} (h : (wipeD δ vs)[i]? = some (Sl.ow ds)) : δ[i]? = some (Sl.ow ds) := by
  rcases wipeD_get h with ⟨_, z⟩ | ⟨_, h⟩
  · cases z
  · exact h
theorem LcS.step {vs : List Nat} {σ σ2 : L2.St} {B1 B B2 : Option Addr} {F1 H1 F H F2 H2 : Hp} {δ1 δ δ' δ2 : DE} {p : Addr} {acc : List D} (s : LcS G vs σ B1 F1 H1 δ1 p acc B F H δ) (hw : wipe σ2 vs = wipe σ vs)
    (h : ∀ (i : Nat) (ds : List D), δ'[i]? = some (Sl.ow ds) → (wipeD δ vs)[i]? = some (Sl.ow ds) ∧ σ2[i]? = (wipe σ vs)[i]?) (st : Stp B F H δ' σ2 B2 F2 H2 δ2) (rs2 : Rs G B2 F2 H2 δ2 σ2) : LcS G vs σ B1 F1 H1 δ1 p acc B2 F2 H2 δ2 := by
  have st' : Stp B F H (wipeD δ vs) (wipe σ vs) B2 F2 H2 (wipeD δ2 vs) := stp_reslot st h fun i ds q => wipeD_ow q
  have rs' := rs2.wiped vs
  rw [hw] at rs'
  obtain ⟨xs, e, r⟩ := s.at_
  refine ⟨rs', s.st.trans st', ?_, fun z => ?_, ⟨xs, st'.kp p _ e s.nb s.no, r.mono st'.le st'.bl⟩, fun z => s.no (st'.own z)⟩
  · cases q : F2 p with
    | none => rfl
    | some o =>
      rcases st'.nw p o q with z | z | z
      · rw [s.fr] at z; cases z
      · rw [e] at z; cases z
      · exact absurd z s.no
  · rcases st'.bn p z with z | z
    · exact s.nb z
    · rw [e] at z; cases z
theorem LcS.push {vs : List Nat} {σ : L2.St} {B1 B : Option Addr} {F1 H1 F H : Hp} {δ1 δ : DE} {p : Addr} {acc : List D} {xs : List V} {v : V} {d : D} (s : LcS G vs σ B1 F1 H1 δ1 p acc B F H δ) (h0 : G.H0 p = none) (hs : H1 p = none) (e : H p = some (.lst xs)) (r : RpL G.K B F xs acc) (rv : Rp G.K B F v d) :
    LcS G vs σ B1 F1 H1 δ1 p (acc ++ [d]) B F (upd H p (.lst (xs ++ [v]))) δ :=
  ⟨s.rs.free h0 s.fr s.nb s.no, ⟨s.st.le, s.st.bl, s.st.bn, s.st.nw, fun a o q hb ho => by
    rw [upd_ne (fun z => by rw [z, hs] at q; cases q)]
    exact s.st.kp a o q hb ho, fun a o q => by
    by_cases ha : a = p
    · exact ⟨_, by rw [ha]; exact upd_same⟩
    · obtain ⟨o', z⟩ := s.st.dm a o q
      exact ⟨o', by rw [upd_ne ha]; exact z⟩, s.st.ow⟩, s.fr, s.nb, ⟨_, upd_same, r.append (.cons rv .nil)⟩, s.no⟩
theorem no_own_wiped {vs : List Nat} {δ : DE} {σ : L2.St} {p : Addr} (h : ¬ Own δ σ p) : ¬ Own (wipeD δ vs) (wipe σ vs) p := fun z => h (own_wiped z)
theorem wipeD_idem {δ : DE} {vs : List Nat} {i : Nat} {ds : List D} (h : (wipeD (wipeD δ vs) vs)[i]? = some (Sl.ow ds)) : (wipeD δ vs)[i]? = some (Sl.ow ds) := wipeD_ow h
theorem back_in {δ1 δ2 : DE} (hl : δ1.length = δ2.length) {j : Nat} (hj : j < δ1.length) : ∀ {vs : List Nat}, j ∈ vs → (back δ1 δ2 vs)[j]? = δ1[j]?
  | [], h => by simp at h
  | v :: r, h => by
    unfold back
    by_cases e : v = j
    · subst e
      rw [List.getElem?_eq_getElem hj]
      exact List.getElem?_set_self (by rw [back_length, ← hl]; exact hj)
    · have ih := back_in hl hj ((List.mem_cons.mp h).resolve_left (fun z => e z.symm))
      split
      · rw [List.getElem?_set_ne e]; exact ih
      · exact ih
theorem back_off {δ1 δ2 : DE} {j : Nat} : ∀ {vs : List Nat}, j ∉ vs → (back δ1 δ2 vs)[j]? = δ2[j]?
  | [], _ => rfl
  | v :: r, h => by
    have ih := back_off (δ1 := δ1) (δ2 := δ2) (vs := r) (fun z => h (List.mem_cons_of_mem _ z))
    unfold back
    split
    · rw [List.getElem?_set_ne (fun e => h (by simp [e]))]; exact ih
    · exact ih
theorem wipeD_off {δ : DE} {j : Nat} : ∀ {vs : List Nat}, j ∉ vs → (wipeD δ vs)[j]? = δ[j]?
  | [], _ => rfl
  | v :: r, h => by
    unfold wipeD
    rw [List.getElem?_set_ne (fun e => h (by simp [e]))]
    exact wipeD_off fun z => h (List.mem_cons_of_mem _ z)
theorem back_wipe {δ1 δ2 : DE} {vs : List Nat} (hl : δ1.length = δ2.length) : back δ1 (wipeD δ2 vs) vs = back δ1 δ2 vs := by
  refine List.ext_getElem? fun j => ?_
  by_cases hj : j ∈ vs
  · by_cases h : j < δ1.length
    · rw [back_in (by rw [wipeD_length]; exact hl) h hj, back_in hl h hj]
    · rw [List.getElem?_eq_none (by rw [back_length, wipeD_length]; omega), List.getElem?_eq_none (by rw [back_length]; omega)]
  · rw [back_off hj, back_off hj, wipeD_off hj]
theorem t_lc {ui : UI} {g : TG} {gd : UGt} {ut : UT} {ue : UV} {vs : List Nat} (lt : LcT G g gd vs) {σ : L2.St} {H : Hp} {Q : VK} (t : tE G W (uLc ui gd ut ue vs) σ H Q) : tLc (tG G W (relI G) ui) g (tT G W0 ut) (tV G W0 ue) vs σ H Q := by
  obtain ⟨B, F, δ, Qd, Rd, rs, h, k, x⟩ := t
  refine tG_then rs h x fun ds δ1 ⟨hlen, q⟩ B1 F1 H1 J st1 rs1 it p hp => ?_
  have h0 := rs1.noH0 hp
  have no := rs1.noOwn hp
  have xr : ∀ {B : Option Addr} {F : Hp} {τ : L2.St}, XOk G B F W0 τ R0 := fun _ _ z => z.elim
  -- the state ahead of the first turn
  obtain ⟨rsN, stN⟩ := rs1.call (rs1.toFr0.newH (o := .lst []) hp)
  have s0 : LcS G vs σ B1 F1 H1 δ1 p [] B1 F1 (upd H1 p (.lst [])) δ1 := ⟨rsN.wiped vs, ⟨Same.refl _, fun _ h => h, fun _ h => .inl h, fun _ _ h => .inl h, fun a o q _ _ => same_upd hp a o q, fun a o q => ⟨o, same_upd hp a o q⟩, fun i ds q => ⟨ds, q⟩⟩,
    rs1.toFr0.noF hp, rs1.toFr0.noB hp, ⟨[], upd_same, .nil⟩, no_own_wiped no⟩
  refine ⟨fun i m H' => ∃ B' F' δ' acc kk, m = ds.length - i ∧ i ≤ ds.length ∧ acc.length ≤ i ∧ LcS G vs σ B1 F1 H1 δ1 p acc B' F' H' δ' ∧ lcW gd ut ue vs (ds.drop i) δ' kk ∧
    (∀ ys δ2, kk ys δ2 → Qd (.nw (acc ++ ys)) (back δ1 δ2 vs)), ⟨_, B1, F1, δ1, [], _, rfl, Nat.zero_le _, Nat.le_refl _, s0, q, fun ys δ2 z => z⟩, ?_⟩
  rintro i m H2 ⟨B2, F2, δ2, acc, kk, rfl, hi, ha, s, lw, kf⟩
  have it2 := it.later s.st.toLe
  by_cases hlt : i < ds.length
  · refine .inr ⟨it2.go i H2 s.rs.sub hlt, fun H' => ∃ B' F' δ' acc' kk', acc'.length ≤ i + 1 ∧ LcS G vs σ B1 F1 H1 δ1 p acc' B' F' H' δ' ∧ lcW gd ut ue vs (ds.drop (i + 1)) δ' kk' ∧ (∀ ys δ2, kk' ys δ2 → Qd (.nw (acc' ++ ys)) (back δ1 δ2 vs)),
      fun H' ⟨B', F', δ', acc', kk', z1, z2, z3, z4⟩ => ⟨ds.length - (i + 1), by omega, B', F', δ', acc', kk', rfl, hlt, z1, z2, z3, z4⟩, fun x' H' y => ?_⟩
    rw [List.drop_eq_getElem_cons hlt] at lw
    -- the item
    have yr := it2.yld i H2 x' H' _ s.rs.sub y (List.getElem?_eq_getElem hlt)
    obtain ⟨F3, s3, r3⟩ : ∃ F3, LcS G vs σ B1 F1 H1 δ1 p acc B2 F3 H' δ2 ∧ Rp G.K B2 F3 x' ds[i] := by
      rcases yr with ⟨rfl, r⟩ | ⟨t, us, es, rfl, ht, rfl, ed, r⟩
      · exact ⟨F2, s, r⟩
      · obtain ⟨rs3, st3⟩ := s.rs.call (s.rs.toFr0.newF (o := .tup us) ht)
        have s3 := s.step wipe_idem (fun i ds z => ⟨z, rfl⟩) st3 rs3
        have e3 : Rp G.K B2 (upd F2 t (.tup us)) (.ref t) ds[i] := by
          rw [ed]
          exact .tup (.inl (.inl upd_same)) (st3.rpl r)
        refine ⟨_, ⟨?_, ?_, s3.fr, s3.nb, s3.at_, fun z => ?_⟩, e3⟩
        · exact rs3
        · exact s.st.trans st3
        · exact s.no z
    refine lt B2 F3 H' δ2 σ _ x' _ _ s3.rs r3 lw fun δ' σ' hk rs' hw hsame => ⟨by rw [hw], ?_⟩
    have hw' : wipe σ' vs = wipe σ vs := hw
    refine tG_then rs' hk xr fun bb δ4 q4 B4 F4 H4 k4 st4 rs4 r4 => ?_
    have ek : k4 = bb := r4
    subst ek
    cases k4 with
    | false => exact ⟨B4, F4, δ4, acc, kk, Nat.le_succ_of_le ha, s3.step hw' hsame st4 rs4, q4, kf⟩
    | true =>
      refine tG_then rs4 q4 xr fun yd δ5 q5 B5 F5 H5 yv st5 rs5 r5 => ?_
      have s5 := s3.step hw' hsame (st4.trans st5) rs5
      obtain ⟨xs, e5, l5⟩ := s5.at_
      refine ⟨xs, e5, by rw [l5.length, sizeLine_eq]; omega, B5, F5, δ5, acc ++ [yd], _, by rw [List.length_append]; exact Nat.succ_le_succ ha, s5.push h0 hp e5 l5 r5, q5, fun ys δ6 z => ?_⟩
      have z' := kf _ _ z
      rw [List.append_assoc]
      exact z'
  · have e : i = ds.length := by omega
    subst e
    rw [List.drop_length] at lw
    refine .inl ⟨it2.stop _ H2 s.rs.sub (Nat.le_refl _), ?_⟩
    have z := kf _ _ lw
    rw [List.append_nil] at z
    obtain ⟨xs, e5, l5⟩ := s.at_
    obtain ⟨rsB, stB⟩ := rs1.unwiped s.st s.rs
    have eb : back δ1 (wipeD δ2 vs) vs = back δ1 δ2 vs := back_wipe (by
      have h1 := rs1.len
      have h2 := s.rs.len
      rw [wipeD_length, wipe_length] at h2
      omega)
    rw [eb] at rsB stB
    exact k _ _ z B2 F2 H2 _ (st1.trans stB) rsB ⟨p, xs, rfl, h0, s.fr, s.nb, e5, l5, fun o => no (stB.own o), .inl (none_back st1.dm hp)⟩
theorem qts_nil : PTs X [] (tT G W uYes) := ⟨fun pins s σ H Q I ⟨B, F, δ, Qd, Rd, rs, h, k, x⟩ => pts_nil.run pins s σ H Q I (k _ _ h B F H true Stp.refl rs rfl)⟩
theorem qts_one {c : Expr} {u : UT} (h : QT G W X c u) : PTs X [c] (tT G W u) := pts_one h
theorem qe_lc {scope : Scope} {own : List (Str × Nat)} {ui : UI} {g : TG} {gd : UGt} {ut : UT} {ue : UV} (hc : X.calm = true) (hN : X.N.Nodup) (hi : QI G W X tg iter ui) (ok : BlkOk X.N X.env.scope scope own)
    (hg : ∀ (s : Shared) (H : Hp) (C : Addr) (cl : List (Str × Addr)) (fp : List Addr), PG (X.blk s H scope (compEnvC scope cl C X.env) fp) tg g) (lt : LcT G g gd (own.map (·.2)))
    (ht : ∀ (s : Shared) (H : Hp) (C : Addr) (cl : List (Str × Addr)) (fp : List Addr), PTs (X.blk s H scope (compEnvC scope cl C X.env) fp) ifs (tT G W0 ut))
    (he : ∀ (s : Shared) (H : Hp) (C : Addr) (cl : List (Str × Addr)) (fp : List Addr), QV G W0 (X.blk s H scope (compEnvC scope cl C X.env) fp) elt ue) (hs : ∀ x, foldedSetIterable iter X.env x = pure x := by intro _; rfl) :
    QE G W X (.ListComp elt [⟨tg, iter, ifs, 0⟩] scope pos) (uLc ui gd ut ue (own.map (·.2))) := pe_mono (pe_lc hc hN hi ok hg ht he hs) fun σ H Q t => t_lc lt t
theorem qs_setLc {i : Nat} {y : Str} {py spos : Pos} {scope : Scope} {own : List (Str × Nat)} {ui : UI} {g : TG} {gd : UGt} {ut : UT} {ue : UV} (hc : X.calm = true) (hN : X.N.Nodup) (hy : X.N[i]? = some y) (hyl : X.env.scope.names.lookup y = some .local)
    (hsw : swapsWith (.ListComp elt [⟨tg, iter, ifs, 0⟩] scope pos) (some (.Name y py)) spos.line X.env = pure true) (hi : QI G W X tg iter ui) (ok : BlkOk X.N X.env.scope scope own)
    (hg : ∀ (s : Shared) (H : Hp) (C : Addr) (cl : List (Str × Addr)) (fp : List Addr), PG (X.blk s H scope (compEnvC scope cl C X.env) fp) tg g) (lt : LcT G g gd (own.map (·.2)))
    (ht : ∀ (s : Shared) (H : Hp) (C : Addr) (cl : List (Str × Addr)) (fp : List Addr), PTs (X.blk s H scope (compEnvC scope cl C X.env) fp) ifs (tT G W0 ut))
    (he : ∀ (s : Shared) (H : Hp) (C : Addr) (cl : List (Str × Addr)) (fp : List Addr), QV G W0 (X.blk s H scope (compEnvC scope cl C X.env) fp) elt ue) (hs : ∀ x, foldedSetIterable iter X.env x = pure x := by intro _; rfl) :
    QS G W X (.Assign [.Name y py] (.ListComp elt [⟨tg, iter, ifs, 0⟩] scope pos) spos) (uSet i (uLc ui gd ut ue (own.map (·.2)))) := ps_mono (ps_setLc hc hN hy hyl hsw hi ok hg ht he hs) fun D σ H ⟨B, F, δ, E, rs, h, k⟩ =>
  t_lc lt (tG_then rs h k.xok fun r δ1 q B1 F1 H1 v st1 rs1 r1 => k.nx _ q B1 F1 H1 _ st1.toLe (rs1.setRz r1))

/-! ### a def -/
@[simp] def startD (n : Nat) (ds : List D) : DE := ds.map Sl.sh ++ List.replicate (n - ds.length) Sl.no
theorem Rs.start {K : PySem.W.Frag} {B : Option Addr} {F H : Hp} {vs : List V} {ds : List D} {N : List Str} (hs : Same F H) (hb : ∀ b, B = some b → F b = none ∧ Bagged K F H b) (r : RpL K B F vs ds) (hl : vs.length ≤ N.length) : Rs ⟨K, F, H, B⟩ B F H (startD N.length ds) (start N vs) := by
  have hv := r.length
  refine ⟨⟨hs, Same.refl _, fun _ _ h => .inl h, fun _ _ h _ => h, fun _ h => h, fun h b q => (by
    have h' : B = none := h
    rw [h'] at q; cases q), hb⟩, ?_, fun i s h => ?_, fun i j es gs p h _ _ _ => ?_⟩
  · unfold startD L2.start
    simp [hv]
  · unfold startD at h
    unfold L2.start
    by_cases hi : i < ds.length
    · rw [List.getElem?_append_left (by simpa using hi), List.getElem?_map, List.getElem?_eq_getElem hi] at h
      obtain ⟨v, e, rv⟩ := r.get' (List.getElem?_eq_getElem hi)
      cases h
      refine ⟨some v, ?_, rv⟩
      rw [List.getElem?_append_left (by simp; omega), List.getElem?_map, e]; rfl
    · rw [List.getElem?_append_right (by simp; omega), List.getElem?_replicate] at h
      split at h
      · rename_i hlt
        cases h
        refine ⟨none, ?_, trivial⟩
        rw [List.getElem?_append_right (by simp; omega), List.getElem?_replicate]
        rw [if_pos (by simp at hlt ⊢; omega)]
      · cases h
  · unfold startD at h
    by_cases hi : i < ds.length
    · rw [List.getElem?_append_left (by simpa using hi), List.getElem?_map, List.getElem?_eq_getElem hi] at h
      cases h
    · rw [List.getElem?_append_right (by simp; omega), List.getElem?_replicate] at h
      split at h <;> cases h
@[simp] def endD (Q : Rz → Prop) (R : Exn → Prop) : En := ⟨fun _ => Q (.sh .non), Q, fun _ => False, fun _ => False, fun x _ => R x⟩
end
section
variable {P : Program} {w : World} {K : PySem.W.Frag} {mg : Str → Option Value} {base : Heap}
/-- what stands behind a def's body over data -/
theorem body_of {N : List Str} {vs : List V} {H : Hp} {Q : VK} {E : XK} {wp : DSp} {u : US} (hl : vs.length ≤ N.length) (h : spD K wp vs H Q E) (law : ∀ ds Q R, wp ds Q R → u (endD Q R) (startD N.length ds)) :
    ∃ B F, tS ⟨K, F, H, B⟩ (fun c d _ H' => E c d H') u { nx := fun _ H' => Q .non H', rt := Q } (start N vs) H := by
  obtain ⟨B, F, ds, Qd, Rd, hs, hb, r, hw, kq, kr⟩ := h
  refine ⟨B, F, B, F, _, _, Rs.start hs hb r hl, law ds Qd Rd hw, ⟨fun δ' q B' F' H' σ' _ rs => kq _ q B' F' H' _ rs.toFr0 .non, fun _ q => q.elim, fun _ q => q.elim, kq, fun x δ' q B' F' H' σ' c da _ rs ex => kr x q B' F' H' c da rs.toFr0 ex⟩⟩
end
end DL

set_option Elab.async false
set_option linter.all false
set_option maxRecDepth 100000
set_option maxHeartbeats 4000000
namespace DL
open PySem PySem.Spec PyProof.Rows L2
open PySem.W (excTail excTail_contains excOver)
/-- what the written part says of an exception class of the program, over the built-in Bt -/
structure ExG (K : PySem.W.Frag) (C : Addr) (Bt newId initId : String) (tl : List Value) : Prop where
  fb : ExcBaseFacts Bt newId initId tl
  sf : StoreFacts Bt tl "object.__setattr__" "object"
  cls : ∃ nm q N bs bm sn sub ab col dd k0 k1 k2 k3 k5, K.lookup C = some (excClassObj nm q C N bs bm true sn sub ab col dd k0 k1 k2 k3 k5 newId) ∧ excTail tl bm = true
  sa : PySem.W.findIn K (.ref C) "__setattr__" = some (some (.builtin "object.__setattr__"))
  exC : PySem.W.subIn K (.ref C) (.type "BaseException") = some true
  tyC : PySem.W.typeIn K (.ref C) = some (.type "type")
  kC : PySem.W.keepIn K (.ref C) = true
section
variable {K : PySem.W.Frag} {C : Addr} {Bt newId initId : String} {tl : List Value}
theorem ExG.data (T : ExG K C Bt newId initId tl) : ∃ cd bm, PySem.W.clsIn K C = some cd ∧ cd.mro = .ref C :: bm ∧ excTail tl bm = true ∧ cd.hasDict = true := by
  obtain ⟨nm, q, N, bs, bm, sn, sub, ab, col, dd, k0, k1, k2, k3, k5, hC, hb⟩ := T.cls
  refine ⟨{ name := nm, bases := bs, mro := .ref C :: bm, ns := N, qualname := q, hasDict := true, slotNames := sn, subclasses := sub, abstract := ab, collection := col, hasDel := false }, bm, ?_, rfl, hb, rfl⟩
  unfold PySem.W.clsIn
  rw [hC]
theorem ExG.over (T : ExG K C Bt newId initId tl) : excOver K C tl = true := by
  obtain ⟨cd, bm, h1, h2, h3, _⟩ := T.data
  unfold excOver
  rw [h1]
  show (match cd.mro with | .ref C' :: bm => C' == C && excTail tl bm | _ => false) = true
  rw [h2]
  simp [h3]
section
variable {prog : Program} {w : World} {A : Around} {R : Result → Shared → Prop} {hp : Heap} {g : Array GenState} {d : Drawn} {t : Nat} {os : OsState}
open Builtin Builtin.ObjectAttr in
theorem ExG.storeFirst (T : ExG K C Bt newId initId tl) {nm : Str} {tk : Tok} {v : Value} {x : Addr} {fv : Array Value} (X : K.In hp) (hx : hp.get? x = some ({ cls := .ref C, data := .fields fv } : Obj)) (ha : PySem.W.findIn K (.ref C) nm = some none)
    (hq : ∀ h' tk' dx, (∀ b o, b ≠ x → hp.get? b = some o → h'.get? b = some o) → hp.objs.size ≤ dx → dx ≠ x → h'.get? x = some { cls := .ref C, dict := some dx, data := .fields fv } → h'.Ns1 dx (fun y => if y = nm then some v else none) → R (.ok (.ret .none)) ⟨h', g, d, tk', os⟩) :
    codeAny (model prog w) A (.call (.builtin "object.__setattr__") ⟨[.ref x, .str nm tk, v], []⟩) R ⟨hp, g, d, t, os⟩ := by
  have I : PySem.W.InstAt hp x { cls := .ref C, data := .fields fv } C none := ⟨hx, rfl, rfl, trivial⟩
  obtain ⟨cd, bm, h1, h2, h3, h4⟩ := T.data
  have hcd : PySem.W.Looks (model prog w) hp (classData C) cd := PySem.W.looks_clsIn X h1
  have hne : x ≠ hp.objs.size := Nat.ne_of_lt (Heap.lt_size hx)
  have htk : PySem.W.takerIn K C nm = some none := NoAttr.taker ha
  refine PySem.W.osa_openX T.sf X I T.over htk fun fl => ?_
  show wpAny _ _ (storeInOwnDict (.ref x) (.ref C) (.str nm tk) nm v fl) _ _ _
  obtain ⟨c1, c2, c3, c4, c5, c6, c7, c8, c9, c10, c11⟩ := cd
  dsimp only at h4
  subst h4
  unfold storeInOwnDict ownDictForStores
  repeat (first | with_reducible refine PySem.HandSPX.store_in_new ?_ ?_ | with_reducible refine wpAny_loadPart_at hx ?_ | with_reducible refine hcd.at ?_ | wp_step)
  · exact ⟨_, #[], _, (Heap.get?_update_ne _ _ _ _ hne.symm).trans (Heap.get?_push_at rfl rfl), rfl, fun _ z => absurd z (by simp), fun _ => rfl⟩
  · intro h' tk' hn hs
    refine hq h' tk' hp.objs.size (fun b o hb ho => ?_) (Nat.le_refl _) hne.symm ?_ hn
    · exact (hs.2 b (Nat.ne_of_lt (Heap.lt_size ho))).trans ((Heap.get?_update_ne _ _ _ _ hb).trans (Heap.get?_push_of_some _ ho))
    · exact (hs.2 x hne).trans (Heap.get?_update_self _ (Heap.get?_push_of_some _ hx) rfl)
open Builtin Builtin.ObjectAttr in
theorem ExG.storeNext (T : ExG K C Bt newId initId tl) {nm : Str} {tk : Tok} {v : Value} {x dx : Addr} {fv : Array Value} {m0 : Str → Option Value} {nl : List Str} (X : K.In hp) (hx : hp.get? x = some ({ cls := .ref C, dict := some dx, data := .fields fv } : Obj)) (hn0 : hp.Ns1 dx m0) (hw : Within m0 nl) (hz : nl.length ≤ 1000) (ha : PySem.W.findIn K (.ref C) nm = some none)
    (hq : ∀ h' tk', (∀ b o, b ≠ dx → hp.get? b = some o → h'.get? b = some o) → h'.Ns1 dx (fun y => if y = nm then some v else m0 y) → R (.ok (.ret .none)) ⟨h', g, d, tk', os⟩) :
    codeAny (model prog w) A (.call (.builtin "object.__setattr__") ⟨[.ref x, .str nm tk, v], []⟩) R ⟨hp, g, d, t, os⟩ := by
  obtain ⟨oD, _, _, hoD, _, _⟩ := hn0.count hw
  have I : PySem.W.InstAt hp x { cls := .ref C, dict := some dx, data := .fields fv } C (some oD) := ⟨hx, rfl, rfl, hoD⟩
  obtain ⟨cd, bm, h1, h2, h3, h4⟩ := T.data
  have hcd : PySem.W.Looks (model prog w) hp (classData C) cd := PySem.W.looks_clsIn X h1
  have htk : PySem.W.takerIn K C nm = some none := NoAttr.taker ha
  refine PySem.W.osa_openX T.sf X I T.over htk fun fl => ?_
  show wpAny _ _ (storeInOwnDict (.ref x) (.ref C) (.str nm tk) nm v fl) _ _ _
  obtain ⟨c1, c2, c3, c4, c5, c6, c7, c8, c9, c10, c11⟩ := cd
  dsimp only at h4
  subst h4
  unfold storeInOwnDict ownDictForStores
  repeat (first | with_reducible refine PySem.OEX.store_in_old hn0 hw hz ?_ | with_reducible refine wpAny_loadPart_at hx ?_ | with_reducible refine hcd.at ?_ | wp_step)
  intro h' tk' hn hs
  exact hq h' tk' (fun b o hb ho => (hs.2 b hb).trans ho) hn
end
end
/-! ### over the layer -/
section
variable {X : Cx} {pins : List (Addr × Obj)} {σ : L2.St} {H : Hp} {s : Shared} {a C dx : Addr} {Bt newId initId : String} {tl : List Value} {f : Str} {y : V} {u : Value} {fs : List (Str × V)} {Q : Unit → Shared → Prop} {E : Value → Shared → Prop} {A : Around}
theorem exg_first (T : ExG X.K C Bt newId initId tl) (I : Inv X pins σ H s) (e : H a = some (exo a C none)) (hno : PySem.W.findIn X.K (.ref C) f = some none) (ry : RelV y u)
    (k : ∀ dx s', H dx = none → dx ≠ a → Inv X pins σ (upd (upd H dx (exd dx [(f, y)])) a (exo a C (some dx))) s' → Q () s') : wpAny (model X.prog X.w) A (setAttr (.ref a) f u) Q E s := by
  obtain ⟨t1, ho⟩ := exo_at I.hok e
  obtain ⟨hp, g, d, t, os⟩ := s
  refine PySem.W.set_plain I.kIn (od := none) ⟨ho, rfl, rfl, trivial⟩ T.sa ?_
  refine T.storeFirst I.kIn ho hno fun h' tk' dx keep dn dne hx hn => ?_
  have hnd : H dx = none := I.hok.fresh dn
  have nea : ∀ {b : Addr}, H b = none → b ≠ a := fun {b} n z => by
    rw [z, e] at n; cases n
  have ned : ∀ {b : Addr} {o : Obj}, hp.get? b = some o → b ≠ dx := fun {b o} q => Nat.ne_of_lt (Nat.lt_of_lt_of_le (Heap.lt_size q) dn)
  have U : Un X.fs [] H (upd (upd H dx (exd dx [(f, y)])) a (exo a C (some dx))) hp h' := by
    refine ⟨fun b o q n _ _ => keep b o (nea n) q, fun b o q n _ _ => ⟨o.slots, keep b o (nea n) q⟩, fun b o q n _ => ?_, fun b o q _ => ?_, fun b xs q => ?_, fun b o v q => ?_, fun b ps q => ⟨#[], ?_⟩⟩
    · rw [upd_ne (nea n), upd_ne (ned q)]; exact n
    · by_cases hb : b = a
      · exact ⟨_, by rw [hb]; exact hx⟩
      · exact ⟨o, keep b o hb q⟩
    · rw [upd_ne (at_ne e q exo_tup), upd_ne (ne_of_none q hnd)]; exact q
    · rw [upd_ne (at_ne e q exo_frz), upd_ne (ne_of_none q hnd)]; exact q
    · rw [upd_ne (at_ne e q exo_tbl), upd_ne (ne_of_none q hnd), q]; simp
  refine k dx _ hnd dne (I.un (t' := tk') U fun b o q => ?_)
  by_cases hb : b = a
  · rw [hb, upd_same] at q
    cases q
    rw [hb]
    exact exo_ok hx
  · rw [upd_ne hb] at q
    by_cases hd : b = dx
    · rw [hd, upd_same] at q
      cases q
      rw [hd]
      exact exd_ok hn (relO_put (fs := []) ry fun _ => True.intro)
    · rw [upd_ne hd] at q
      refine (I.hok b o q).stay (fun c v hc z => keep c v ?_ z) (fun c hc => ?_) fun c xs hc => ?_
      · rcases hc with hc | hc
        · rw [hc]; exact hb
        · exact at_ne e hc exo_own
      · rw [upd_ne (at_ne e hc exo_own), upd_ne (ne_of_none hc hnd)]; exact hc
      · rw [upd_ne (at_ne e hc exo_tup), upd_ne (ne_of_none hc hnd)]; exact hc
theorem exg_next (T : ExG X.K C Bt newId initId tl) (I : Inv X pins σ H s) (e : H a = some (exo a C (some dx))) (ed : H dx = some (exd dx fs)) (hl : fs.length ≤ 900) (hno : PySem.W.findIn X.K (.ref C) f = some none) (ry : RelV y u)
    (k : ∀ s', Inv X pins σ (upd H dx (exd dx ((f, y) :: fs))) s' → Q () s') : wpAny (model X.prog X.w) A (setAttr (.ref a) f u) Q E s := by
  obtain ⟨t1, ho⟩ := exo_at I.hok e
  obtain ⟨mA, hns, rel⟩ := exd_at I.hok ed
  have hw := within_of rel
  obtain ⟨hp, g, d, t, os⟩ := s
  obtain ⟨oD, _, _, hoD, _, _⟩ := hns.count hw
  refine PySem.W.set_plain I.kIn (od := some oD) ⟨ho, rfl, rfl, hoD⟩ T.sa ?_
  refine T.storeNext I.kIn ho hns hw (by rw [List.length_map]; omega) hno fun h' tk' keep hn => ?_
  have there : ∃ o, h'.get? dx = some o := by
    obtain ⟨o, _, _, z, _⟩ := hn
    exact ⟨o, z⟩
  exact k _ (I.write (t' := tk') (x := dx) (e := dx) (o := exd dx ((f, y) :: fs)) (by rw [ed]; exact True.intro) (.inl rfl) keep there (exd_ok hn (relO_put ry rel)))
/-- Bt.__init__(self, ..) -/
theorem exg_base {us : List Value} {Q : Value → Shared → Prop} (T : ExG X.K C Bt newId initId tl) (I : Inv X pins σ H s) (e : H a = some (exo a C none)) (hl : us.length ≤ sizeLine) (k : ∀ s', Inv X pins σ H s' → Q .none s') :
    wpAny (model X.prog X.w) A (call (.builtin initId) (.ref a :: us)) Q E s := by
  obtain ⟨nm, q, N, bs, bm, sn, sub, ab, col, dd, k0, k1, k2, k3, k5, hC, hb⟩ := T.cls
  obtain ⟨t1, ho⟩ := exo_at I.hok e
  obtain ⟨hp, g, d, t, os⟩ := s
  refine wpAny_call (PySem.HandSPX.init_base T.fb (fun Y => excTail_contains Y bm hb) (I.kIn _ _ hC) ho hl fun h' t2 keep hx => ?_)
  have J := I.write (t' := t) (x := a) (e := a) (o := exo a C none) (by rw [e]; exact True.intro) (.inl rfl) keep ⟨_, hx⟩ (exo_ok hx)
  have same : upd H a (exo a C none) = H := funext fun b => by
    by_cases hb : b = a
    · rw [hb, upd_same, e]
    · rw [upd_ne hb]
  rw [same] at J
  exact k _ J
end
/-- self.f = e of an exception that is being made -/
def tExSt (K : PySem.W.Frag) (f : Str) (to te : TE) : TS := fun D σ H => te σ H fun y H1 => to σ H1 fun x H2 => ∃ (a C : Addr) (Bt nI iI : String) (tl : List Value), x = .ref a ∧ ExG K C Bt nI iI tl ∧ PySem.W.findIn K (.ref C) f = some none ∧
  ((H2 a = some (exo a C none) ∧ ∀ dx, H2 dx = none → dx ≠ a → D.nx σ (upd (upd H2 dx (exd dx [(f, y)])) a (exo a C (some dx)))) ∨
    ∃ (dx : Addr) (fs : List (Str × V)), H2 a = some (exo a C (some dx)) ∧ H2 dx = some (exd dx fs) ∧ fs.length ≤ 900 ∧ D.nx σ (upd H2 dx (exd dx ((f, y) :: fs))))
/-- Bt.__init__(self, ..) by the class's name -/
def tExBase (K : PySem.W.Frag) (Bt iI : String) (ta : TA) : TE := fun σ H Q => ta σ H fun vs H1 => ∃ (a C : Addr) (ws : List V) (nI : String) (tl : List Value), vs = .ref a :: ws ∧ ws.length ≤ 1000 ∧ ExG K C Bt nI iI tl ∧ H1 a = some (exo a C none) ∧ Q .non H1
section
variable {X : Cx} {o e : Expr} {es : List Expr} {to te : TE} {ta : TA} {f : Str} {p p' p1 p2 pos : Pos}
theorem ps_exSt (ho : PE X o to) (he : PE X e te) (hs : swapsWith e (some (.Attribute o f p')) pos.line X.env = pure false := by rfl) : PS X (.Assign [.Attribute o f p'] e pos) (tExSt X.K f to te) :=
  ⟨fun pins s σ H D I h => plainObj_wpAny_Assign_Attribute (thn (he.run pins s σ H _ I h) fun v s1 ⟨y, H1, I1, r1, q1⟩ => thn (ho.run pins s1 σ H1 _ I1 q1) fun u s2 ⟨x, H2, I2, r2, q2⟩ => by
    obtain ⟨a, C, Bt, nI, iI, tl, ex, T, hno, q⟩ := q2
    subst ex
    obtain rfl : u = Value.ref a := r2
    rcases q with ⟨ea, q⟩ | ⟨dx, fs, ea, ed, hl, q⟩
    · exact exg_first T I2 ea hno r1 fun dx s' n ne J => ⟨σ, _, J, q dx n ne⟩
    · exact exg_next T I2 ea ed hl hno r1 fun s' J => ⟨σ, _, J, q⟩) hs⟩
theorem pe_exBase {x : Str} {Bt iI : String} {pl : Sem Bool} (hg : Gl X x) (hm : X.mg x = none) (hv : bootBuiltins x = some (.type Bt)) (hn : x ≠ "__name__") (hdb : (x == ("__debug__" : Str)) = false) (ty : typeOf (.type Bt) = pure (.type "type"))
    (fV : PySem.W.findCls X.K (.type Bt) (.type "type") "__init__" = some (.val (.builtin iI))) (ha : PA X (e :: es) ta)
    (q1 : Manifest.isStub Bt = false := by decide +kernel) (q2 : PySem.W.handedIn (.builtin iI) = true := by decide +kernel)
    (hc : eval (.Call (.Attribute (.Name x p1) "__init__" p2) (e :: es) [] pos) X.env = (do
      let ov ← eval (.Name x p1) X.env
      standAt p2.atName
      let (f, first) ← holding [ov] (getMethod ov "__init__" pl)
      callWith pos f first (backTo pos (starEach (e :: es) X.env)) (backToKw pos (keywordEach [] X.env))) := by rfl)
    (he : starEach (e :: es) X.env = (false, eval e X.env) :: starEach es X.env := by rfl) (hpl : (backTo pos (starEach es X.env)).any (·.1) = false := by rfl) :
    PE X (.Call (.Attribute (.Name x p1) "__init__" p2) (e :: es) [] pos) (tExBase X.K Bt iI ta) := by
  refine ⟨fun pins s σ H Q I h => ?_⟩
  refine PySem.W.methodCall_KW (ld_blt I hg hm hv ?_ hn hdb) hc
  obtain ⟨m, fr⟩ := I.fr
  refine PySem.W.method_type fr I.ok.mod.kin ty q1 fV q2 ?_
  show wpAny _ _ (callWith pos (Value.builtin iI) [] (backTo pos (starEach (e :: es) X.env)) []) _ _ _
  refine PyProof.Rows.callWith_method1 (thn (ha.run pos pins _ σ H _ (I.tok _) h) fun us s1 ⟨vs, H1, I1, r1, a, C, ws, nI, tl, ev, hl, T, ea, q⟩ => ?_) he hpl
  subst ev
  cases r1 with
  | @cons _ u0 _ ur ra rest =>
    obtain rfl : u0 = Value.ref a := ra
    exact exg_base T I1 ea (by rw [← Paired.length rest, sizeLine_eq]; omega) fun s' J => ⟨.non, H1, J, rfl, q⟩
/-- C(), C's own __init__ keeping sp -/
def tExMk (C : Addr) (sp : Sp) (ta : TA) : L2.St → Hp → XK → Prop := fun σ H Q => ta σ H fun vs H1 => vs.length ≤ 1000 ∧ ∀ a, H1 a = none → sp (.ref a :: vs) (upd H1 a (exo a C none))
  (fun v H2 => v = .non ∧ ∃ (d : Addr) (fs : List (Str × V)), H2 a = some (exo a C (some d)) ∧ H2 d = some (exd d fs) ∧ H1 d = none ∧ Q (.ref C) (some d) (upd (del H2 a) d (.xd fs))) (fun _ _ _ => False)
theorem run_exMk {C fI : Addr} {k : Nat} {fd : FuncData} {ps : List Str} {sp : Sp} {Bt nI iI : String} {tl : List Value} (T : ExG X.K C Bt nI iI tl) (iC : PySem.W.findIn X.K (.ref C) "__init__" = some (some (.ref fI))) (tI : PySem.W.typeIn X.K (.ref fI) = some (.type "function"))
    (F1 : FnOk X.prog X.w X.K X.mg X.base (L2.CX X.prog X.w) k fI fd ps sp) (hr : Room (k + 1) X.A) (hb : Binds X.K fd ps []) {pins : List (Addr × Obj)} {σ : L2.St} {H1 : Hp} {s : Shared} {Q : XK} {us : List Value} {vs : List V} (I1 : Inv X pins σ H1 s) (r1 : Vals vs us) (hz : vs.length ≤ 1000)
    (q1 : ∀ a, H1 a = none → sp (.ref a :: vs) (upd H1 a (exo a C none)) (fun v H2 => v = .non ∧ ∃ (d : Addr) (fs : List (Str × V)), H2 a = some (exo a C (some d)) ∧ H2 d = some (exd d fs) ∧ H1 d = none ∧ Q (.ref C) (some d) (upd (del H2 a) d (.xd fs))) (fun _ _ _ => False)) :
    wpAny (model X.prog X.w) X.A (call (.ref C) us) (MkP X pins σ Q) X.xe s := by
  obtain ⟨nm, q, N, bs, bm, sn, sub, ab, col, dd, k0, k1, k2, k3, k5, hC, hbm⟩ := T.cls
  obtain ⟨hp, g, dr, tk, os⟩ := s
  have hsz : hp.objs.size ≤ hp.objs.size + 1 := Nat.le_succ _
  have hq := q1 (hp.objs.size + 1) (I1.hok.fresh hsz)
  have keep : ∀ b o, hp.get? b = some o → ((hp.push (PySem.W.kdv_tup us)).push (PySem.HandSPX.excO C hp.objs.size)).get? b = some o := fun b o z => Heap.get?_push_of_some _ (Heap.get?_push_of_some _ z)
  have hnew : ((hp.push (PySem.W.kdv_tup us)).push (PySem.HandSPX.excO C hp.objs.size)).get? (hp.objs.size + 1) = some (PySem.HandSPX.excO C hp.objs.size) := by heap_get
  have I2 := I1.laid (t' := tk) (a := hp.objs.size + 1) (o := exo (hp.objs.size + 1) C none) (h' := (hp.push (PySem.W.kdv_tup us)).push (PySem.HandSPX.excO C hp.objs.size)) keep hsz (exo_ok hnew)
  have r2 : Vals (V.ref (hp.objs.size + 1) :: vs) (Value.ref (hp.objs.size + 1) :: us) := .cons rfl r1
  have hl : (Value.ref (hp.objs.size + 1) :: us).length = ps.length := by
    rw [← r2.length]
    exact F1.len _ _ _ _ hq
  have hus : us.length ≤ sizeLine := by
    rw [← Paired.length r1, sizeLine_eq]
    omega
  have bnd := hb _ (Value.ref (hp.objs.size + 1) :: us) I2.kIn (by rw [List.append_nil]; exact hl)
  rw [List.append_nil] at bnd
  refine wpAny_call (PySem.HandSPX.call_own T.fb (fun Y => excTail_contains Y bm hbm) (I1.kIn _ _ hC) (PySem.W.looks_findIn I1.kIn iC) (fun self => PySem.W.bind_fn I1.kIn self tI) hus
    (codeAny_mono (F1.run _ X.stack _ _ ⟨Value.ref (hp.objs.size + 1) :: us, []⟩ (Value.ref (hp.objs.size + 1) :: us) _ _ (fun _ _ _ => False) (hr.make C us []) (I2.env0.make C us []) bnd r2 hq) fun r s' hq' => ?_))
  cases r with
  | error er =>
    obtain ⟨_, _, _, _, _, _, _, _, _, _, _, _, z⟩ := hq'
    exact z.elim
  | ok fl =>
    cases fl with
    | ret u =>
      obtain ⟨v, H2, os2, bare2, un2, hok2, rv, ev, d, fs, ea, ed, hd1, q2⟩ := hq'
      subst ev
      obtain ⟨h2, g2, d2, t2, os'⟩ := s'
      exact ⟨rv, mk_end (raises_own T.exC T.tyC) I1 hsz keep un2 hok2 os2 bare2 ea ed hd1 q2⟩
    | next => exact False.elim hq'
    | brk => exact False.elim hq'
    | cont => exact False.elim hq'
theorem pmk_ex0 {x : Str} {C fI : Addr} {k : Nat} {fd : FuncData} {ps : List Str} {sp : Sp} {Bt nI iI : String} {tl : List Value} (T : ExG X.K C Bt nI iI tl) (iC : PySem.W.findIn X.K (.ref C) "__init__" = some (some (.ref fI))) (tI : PySem.W.typeIn X.K (.ref fI) = some (.type "function"))
    (F1 : FnOk X.prog X.w X.K X.mg X.base (L2.CX X.prog X.w) k fI fd ps sp) (hr : Room (k + 1) X.A) (hb : Binds X.K fd ps []) (hg : Gl X x) (hm : X.mg x = some (.ref C)) (hdb : (x == ("__debug__" : Str)) = false := by decide) : PMk X (.Call (.Name x p) [] [] pos) (tExMk C sp tNil) := by
  intro pins s σ H Q I h
  refine wpAny_Call_Name_kw (ld_glob I hg hm ?_ hdb)
  exact PySem.W.callWith_K0 I.kIn T.kC (run_exMk T iC tI F1 hr hb I .nil h.1 h.2)
theorem pmk_ex {x : Str} {C fI : Addr} {k : Nat} {fd : FuncData} {ps : List Str} {sp : Sp} {Bt nI iI : String} {tl : List Value} (T : ExG X.K C Bt nI iI tl) (iC : PySem.W.findIn X.K (.ref C) "__init__" = some (some (.ref fI))) (tI : PySem.W.typeIn X.K (.ref fI) = some (.type "function"))
    (F1 : FnOk X.prog X.w X.K X.mg X.base (L2.CX X.prog X.w) k fI fd ps sp) (hr : Room (k + 1) X.A) (hb : Binds X.K fd ps []) (hg : Gl X x) (hm : X.mg x = some (.ref C)) (ha : PA X (e :: es) ta) (hdb : (x == ("__debug__" : Str)) = false := by decide)
    (he : starEach (e :: es) X.env = (false, eval e X.env) :: starEach es X.env := by rfl) (hpl : (backTo pos (starEach es X.env)).any (·.1) = false := by rfl) : PMk X (.Call (.Name x p) (e :: es) [] pos) (tExMk C sp ta) := by
  intro pins s σ H Q I h
  refine wpAny_Call_Name_kw (ld_glob I hg hm ?_ hdb)
  exact PySem.W.callWith_K (h₀ := X.base) I.ok.mod.kin T.kC (thn (ha.run pos pins s σ H _ I h) fun us s1 ⟨vs, H1, I1, r1, hz, q1⟩ => ⟨I1.kIn, run_exMk T iC tI F1 hr hb I1 r1 hz q1⟩) he hpl
end
end DL

set_option Elab.async false
set_option linter.all false
set_option maxRecDepth 100000
namespace DL
open PySem PySem.Spec PyProof.Rows L2
/-! ### an exception class's __init__, raise -/
/-- C(args): its dict holds fs -/
def spIni (C : Addr) (args : List V) (fs : List (Str × V)) : Sp := fun vs H Q _ => ∃ a, vs = .ref a :: args ∧ H a = some (exo a C none) ∧
  ∀ d H', H d = none → d ≠ a → H' a = some (exo a C (some d)) → H' d = some (exd d fs) → (∀ b, b ≠ a → b ≠ d → H' b = H b) → Q .non H'
section
variable {G : Gx} {W : WX} {X : Cx} {e a b c : Expr} {es : List Expr} {pos : Pos} {st : Stmt} {sts sts' : List Stmt}
theorem mk_exn {C : Addr} {args : List V} {fs : List (Str × V)} {H : Hp} {Q : XK} (k : ∀ d, H d = none → Q (.ref C) (some d) (upd H d (.xd fs))) : ∀ a, H a = none → spIni C args fs (.ref a :: args) (upd H a (exo a C none))
    (fun v H2 => v = .non ∧ ∃ (d : Addr) (fs : List (Str × V)), H2 a = some (exo a C (some d)) ∧ H2 d = some (exd d fs) ∧ H d = none ∧ Q (.ref C) (some d) (upd (del H2 a) d (.xd fs))) (fun _ _ _ => False) := fun a ha => by
  refine ⟨a, rfl, upd_same, fun d H' hd hda h1 h2 h3 => ⟨rfl, d, fs, h1, h2, ?_, ?_⟩⟩
  · rw [upd_ne hda] at hd; exact hd
  · have hd' : H d = none := by rw [upd_ne hda] at hd; exact hd
    have q := k d hd'
    have same : upd (del H' a) d (.xd fs) = upd H d (.xd fs) := funext fun b => by
      by_cases hb : b = d
      · rw [hb, upd_same, upd_same]
      · rw [upd_ne hb, upd_ne hb]
        by_cases hba : b = a
        · rw [hba, del_same, ha]
        · rw [del_ne hba, h3 b hba hb, upd_ne hba]
    rw [same]
    exact q
@[simp] def uRaise (x : Exn) : US := fun E δ => E.ex x δ
theorem qs_raise {x : Exn} {t : L2.St → Hp → XK → Prop} {fs : List (Str × V)} (hc : X.calm = true) (tk : Takes X W) (he : PMk X e t) (hf : ∀ B F, RpF G.K B F fs x.fs) (hm : ∀ σ H Q, (∀ d, H d = none → Q (.ref x.cls) (some d) (upd H d (.xd fs))) → t σ H Q) :
    QS G W X (.Raise (some e) none pos) (uRaise x) := ps_mono (ps_raise hc tk he) fun D σ H ⟨B, F, δ, E, rs, h, k⟩ => by
  refine hm σ H _ fun d hd => ?_
  obtain ⟨rs2, st2⟩ := rs.call (rs.toFr0.newH (o := .xd fs) hd)
  exact k.ex _ _ h B F _ σ _ _ Le.refl rs2 ⟨rfl, d, fs, rfl, rs.noH0 hd, rs.toFr0.noF hd, rs.toFr0.noB hd, upd_same, hf B F⟩
/-- raise C() -/
theorem qs_raise0 {x : Str} {C fI : Addr} {k : Nat} {fd : FuncData} {ps : List Str} {fs : List (Str × V)} {gs : List (Str × D)} {Bt nI iI : String} {tl : List Value} {p pos' : Pos} (hc : X.calm = true) (tk : Takes X W) (T : ExG X.K C Bt nI iI tl) (iC : PySem.W.findIn X.K (.ref C) "__init__" = some (some (.ref fI)))
    (tI : PySem.W.typeIn X.K (.ref fI) = some (.type "function")) (F1 : FnOk X.prog X.w X.K X.mg X.base (L2.CX X.prog X.w) k fI fd ps (spIni C [] fs)) (hr : Room (k + 1) X.A) (hb : Binds X.K fd ps []) (hg : Gl X x) (hm : X.mg x = some (.ref C)) (hf : ∀ B F, RpF G.K B F fs gs) (hdb : (x == ("__debug__" : Str)) = false := by decide) :
    QS G W X (.Raise (some (.Call (.Name x p) [] [] pos')) none pos) (uRaise ⟨C, gs⟩) :=
  qs_raise (x := ⟨C, gs⟩) hc tk (pmk_ex0 T iC tI F1 hr hb hg hm hdb) hf fun σ H Q q => ⟨Nat.zero_le _, mk_exn q⟩

/-! ### try .. except C as n -/
@[simp] def uTryAs (i : Nat) (m : Addr → Option Bool) (us : Addr → Addr → Addr → US) (ub : US) : US := fun E δ => ub { E with ex := fun x δ' => match m x.cls with
  | some true => ∀ a d, us a x.cls d ⟨fun δ2 => E.nx (δ2.set i .no), E.rt, fun δ2 => E.bk (δ2.set i .no), fun δ2 => E.ct (δ2.set i .no), R0⟩ (δ'.set i (.sh (.exc a d x.cls x.fs)))
  | some false => E.ex x δ'
  | none => False } δ
theorem Rs.unset {B : Option Addr} {F H : Hp} {δ : DE} {σ : L2.St} (rs : Rs G B F H δ σ) (i : Nat) : Rs G B F H (δ.set i .no) (σ.set i none) := by
  have r := rs.drop i
  refine ⟨r.toFr0, by rw [List.length_set, List.length_set]; exact rs.len, fun j s h => ?_, fun j k ds es p h1 h2 h3 h4 => ?_⟩
  · rcases set_get h with ⟨rfl, rfl, hl⟩ | ⟨hj, h⟩
    · exact ⟨none, by rw [List.getElem?_set_self (by rw [← rs.len]; exact hl)], trivial⟩
    · obtain ⟨ov, e, q⟩ := rs.sl j s h
      exact ⟨ov, by rw [List.getElem?_set_ne (Ne.symm hj)]; exact e, q⟩
  · rcases set_get h1 with ⟨_, z, _⟩ | ⟨hj, _⟩
    · cases z
    · rcases set_get h2 with ⟨_, z, _⟩ | ⟨hk, _⟩
      · cases z
      · rw [List.getElem?_set_ne (Ne.symm hj)] at h3
        rw [List.getElem?_set_ne (Ne.symm hk)] at h4
        exact r.dis j k ds es p h1 h2 h3 h4
theorem EnK.unset {B : Option Addr} {F : Hp} {p : DE → Prop} {q : L2.St → Hp → Prop} {i : Nat} (k : EnK G B F p q) : EnK G B F (fun δ2 => p (δ2.set i .no)) (fun σ H => q (σ.set i none) H) := fun δ' h B' F' H' σ' l rs => k _ h B' F' H' _ l (rs.unset i)
theorem qs_tryAs {x n : Str} {cv : Value} {i : Nat} {body suite : List Stmt} {b0 : Stmt} {np pos' : Pos} {m : Addr → Option Bool} {us : Addr → Addr → Addr → US} {ub : US} (hs : X.stack = X.env :: X.outer) (hf : X.env.frame = some X.env.locals) (hN : X.N.Nodup) (hi : X.N[i]? = some n) (hln : X.env.kindOf n = some .local) (hc : Names X x cv) (tk : Takes X W)
    (hm : ∀ y b, m y = some b → PySem.W.exmOne X.K (.ref y) cv = some b)
    (hb : ∀ (W' : WX) (pn : List (Addr × Obj)) (xe : Value → Shared → Prop), Takes (X.tr pn xe) W' → PassesOwn (model X.prog X.w) X.A X.env xe → QSs G W' (X.tr pn xe) body ub)
    (hsu : ∀ (a : Addr) (oe : Obj) (C d : Addr) (pn : List (Addr × Obj)), Zc (.ref C) (some d) oe → (∃ vs, oe.data = .fields vs) → QSs G W0 (X.suite a ((a, oe) :: pn)) (b0 :: suite) (us a C d)) :
    QS G W X (.Try body [.ExceptHandler (some (.Name x np)) (some n) (b0 :: suite) pos'] [] [] pos) (uTryAs i m us ub) := by
  let ts : Addr → Value → Option Addr → TS := fun a cls od D σ H => ∃ C d, cls = .ref C ∧ od = some d ∧ tS G W0 (us a C d) D σ H
  have hsu' : ∀ (a : Addr) (oe : Obj) (cls : Value) (od : Option Addr) (pn : List (Addr × Obj)), Zc cls od oe → (∃ vs, oe.data = .fields vs) → PSs (X.suite a ((a, oe) :: pn)) (b0 :: suite) (ts a cls od) := fun a oe cls od pn z v =>
    ⟨fun pins s σ H D I ⟨C, d, e1, e2, w⟩ => by
      subst e1 e2
      exact (hsu a oe C d pn z v).run pins s σ H D I w⟩
  refine ps_mono (ps_try_as (tb := fun W' => tS G W' ub) (ts := ts) hs hf hN hi hln hc tk hb hsu') fun D σ H ⟨B, F, δ, E, rs, h, k⟩ => ?_
  refine ⟨B, F, δ, _, rs, h, k.nx, k.bk, k.ct, k.rt, fun x δ' q B' F' H' σ' cl da mono rs' ex => ?_⟩
  obtain ⟨rfl, d, fs, rfl, x1, x2, x3, x4, x5⟩ := id ex
  dsimp only at q
  split at q
  · rename_i hx
    refine ⟨true, hm _ _ hx, fun _ a ha => ⟨x.cls, d, rfl, rfl, ?_⟩, (fun z => by cases z)⟩
    have rs2 := rs'.freezeX x1 x2 x3 x4
    have le2 : Same F' (upd F' d (.xd fs)) := same_upd x2
    have rs3 := rs2.setSh (i := i) (v := .ref a) (d := .exc a d x.cls x.fs) (.exc upd_same (x5.mono le2 fun _ h => h))
    have l3 : Le B F B' (upd F' d (.xd fs)) := mono.trans ⟨le2, fun _ h => h⟩
    exact ⟨B', _, _, _, rs3, q a d, k.nx.unset.later l3, k.bk.unset.later l3, k.ct.unset.later l3, k.rt, fun _ _ z => z.elim⟩
  · rename_i hx
    exact ⟨false, hm _ _ hx, (fun z => by cases z), fun _ => k.ex _ _ q B' F' H' σ' _ _ mono rs' ex⟩
  · exact q.elim
end
end DL

set_option Elab.async false
set_option linter.all false
set_option maxRecDepth 100000
namespace DL
open PySem PySem.Spec PyProof.Rows L2
section
variable {G : Gx} {W : WX} {X : Cx} {e a b c : Expr} {es : List Expr} {pos : Pos}
/-- n.f of the caught exception, in its suite -/
@[simp] def uXf (a d C : Addr) (i : Nat) (f : Str) : UV := fun δ Q _ => match δ[i]? with
  | some (.sh (.exc a' d' C' gs)) => a' = a ∧ d' = d ∧ C' = C ∧ (match gs.lookup f with | some e => Q e δ | none => False)
  | _ => False
theorem qv_xf {a C0 C d : Addr} {oe : Obj} {pn : List (Addr × Obj)} {i : Nat} {n : Str} (T : XfC X.K C0) (hno : PySem.W.findIn X.K (.ref C0) n = some none) (hz : Zc (.ref C) (some d) oe) (hf : ∃ vs, oe.data = .fields vs) (he : PE (X.suite a ((a, oe) :: pn)) e (tVar i)) (hC : C0 = C)
    (hb : attributeBase e n X.env (eval e X.env) = eval e X.env := by rfl) : QV G W (X.suite a ((a, oe) :: pn)) (.Attribute e n pos) (uXf a d C i n) := pe_mono (pe_xf T hno hz hf he hb) fun σ H Q ⟨B, F, δ, Qd, Rd, rs, h, k, x⟩ => by
  subst hC
  unfold uXf at h
  split at h
  · rename_i hd
    obtain ⟨rfl, rfl, rfl, h⟩ := h
    obtain ⟨v, e1, r⟩ := rs.shAt hd
    cases r with
    | exc hx r =>
      split at h
      · rename_i hl
        obtain ⟨v, hv, rv⟩ := r.lookup hl
        exact ⟨_, e1, rfl, rfl, _, _, v, rfl, rs.sub _ _ hx, hv, k _ _ h B F H v Stp.refl rs rv⟩
      · exact h.elim
  · exact h.elim
end
/-! ### defs by their names -/
structure CalD (P : Program) (w : World) (K : PySem.W.Frag) (mg : Str → Option Value) (base : Heap) (k : Nat) (x : Str) (wp : DSp) : Prop where
  ex : ∃ (f : Addr) (fd : FuncData) (ps : List Str) (dvl : List Value) (dvs : List V) (dds : List D) (w0 : DSp), FnOk P w K mg base (L2.CX P w) k f fd ps (spD K w0) ∧ mg x = some (.ref f) ∧ PySem.W.keepIn K (.ref f) = true ∧ Binds K fd ps dvl ∧ Vals dvs dvl ∧ (∀ B F, RpL K B F dvs dds) ∧ wp = fun ds => w0 (ds ++ dds)
@[simp] def uCal (wp : DSp) (ua : UA) : UE := fun δ Q R => ua δ (fun ds δ1 => wp ds (fun r => Q r δ1) (fun x => R x δ1)) R
section
variable {P : Program} {w : World} {K : PySem.W.Frag} {mg : Str → Option Value} {base : Heap}
theorem CalD.mono {j k : Nat} {x : Str} {wp : DSp} (c : CalD P w K mg base j x wp) (h : j ≤ k) : CalD P w K mg base k x wp := by
  obtain ⟨f, fd, ps, dvl, dvs, dds, w0, F, r⟩ := c.ex
  exact ⟨f, fd, ps, dvl, dvs, dds, w0, F.mono h, r⟩
theorem qe_cal {G : Gx} {W : WX} {X : Cx} {e : Expr} {es : List Expr} {pos p : Pos} {j k : Nat} {x : Str} {wp : DSp} {ua : UA} (c : CalD X.prog X.w X.K X.mg X.base j x wp) (hr : Room k X.A) (hjk : j ≤ k) (hg : Gl X x) (tk : Takes X W) (ha : QA G W X (e :: es) ua) (hk : X.K = G.K := by rfl)
    (hdb : (x == ("__debug__" : Str)) = false := by decide) (he : starEach (e :: es) X.env = (false, eval e X.env) :: starEach es X.env := by rfl) (hpl : (backTo pos (starEach es X.env)).any (·.1) = false := by rfl) :
    QE G W X (.Call (.Name x p) (e :: es) [] pos) (uCal wp ua) := by
  obtain ⟨f, fd, ps, dvl, dvs, dds, w0, F, gm, kp, b, d, rd, rfl⟩ := (c.mono hjk).ex
  exact qe_call (dds := dds) (w := w0) (by rw [← hk]; exact F) hr hg gm kp b d (by rw [← hk]; exact rd) tk ha hdb he hpl
/-- a def that keeps its promise over data -/
theorem def_fn {x qual : Str} {st : Stmt} {f : Addr} {fd : FuncData} {N ps : List Str} {k : Nat} {wp : DSp} {u : US} (F : Fun K x qual st f fd) (S : FnScope N ps (defScope st)) (hps : ps.length ≤ N.length) (len : ∀ ds Q R, wp ds Q R → ds.length = ps.length)
    (body : ∀ (cdv : Value) (A : Around) (outer : List Env) (s : Shared) (H : Hp) (E : XK) (B : Option Addr) (F : Hp), Room k (A.deeper (envOfC qual (defScope st) s.heap.objs.size f cdv)) →
      QSs ⟨K, F, H, B⟩ (fun c d _ H' => E c d H') (cxOf (L2.CX P w) P w K mg base N qual (defScope st) f cdv A outer s H E) (defBody st) u)
    (law : ∀ ds Q R, wp ds Q R → u (endD Q R) (startD N.length ds)) : FnOk P w K mg base (L2.CX P w) (k + 1) f fd ps (spD K wp) := by
  have len' : ∀ vs H Q E, spD K wp vs H Q E → vs.length = ps.length := fun vs H Q E h => by
    obtain ⟨B, F, ds, Qd, Rd, _, _, r, hw, _⟩ := h
    rw [r.length]
    exact len _ _ _ hw
  refine F.okX S len' fun cdv A outer s H vs Q E hr h => ?_
  obtain ⟨B, F', t⟩ := body_of (N := N) (by rw [len' vs H Q E h]; exact hps) h law
  exact ⟨_, body cdv A outer s H E B F' hr, t⟩
theorem def_cal {x : Str} {st : Stmt} {f : Addr} {fd : FuncData} {ps : List Str} {k : Nat} {wp : DSp} (F : Fun K x x st f fd) (gm : mg x = some (.ref f)) (b : Binds K fd ps []) (ok : FnOk P w K mg base (L2.CX P w) k f fd ps (spD K wp)) : CalD P w K mg base k x wp :=
  ⟨f, fd, ps, [], [], [], wp, ok, gm, F.kp, b, .nil, fun _ _ => .nil, by funext ds; rw [List.append_nil]⟩
/-- .. with defaults -/
theorem def_fnD {x qual : Str} {st : Stmt} {f : Addr} {fd : FuncData} {N ps : List Str} {k : Nat} {wp : DSp} {u : US} {dvs : List V} {kws : List (Str × V)} (F : FunD K x qual (defArgs st) (defBody st) (defScope st) dvs kws f fd) (S : FnScope N ps (defScope st)) (hps : ps.length ≤ N.length) (len : ∀ ds Q R, wp ds Q R → ds.length = ps.length)
    (body : ∀ (cdv : Value) (A : Around) (outer : List Env) (s : Shared) (H : Hp) (E : XK) (B : Option Addr) (F : Hp), Room k (A.deeper (envOfC qual (defScope st) s.heap.objs.size f cdv)) →
      QSs ⟨K, F, H, B⟩ (fun c d _ H' => E c d H') (cxOf (L2.CX P w) P w K mg base N qual (defScope st) f cdv A outer s H E) (defBody st) u)
    (law : ∀ ds Q R, wp ds Q R → u (endD Q R) (startD N.length ds)) : FnOk P w K mg base (L2.CX P w) (k + 1) f fd ps (spD K wp) := by
  have len' : ∀ vs H Q E, spD K wp vs H Q E → vs.length = ps.length := fun vs H Q E h => by
    obtain ⟨B, F, ds, Qd, Rd, _, _, r, hw, _⟩ := h
    rw [r.length]
    exact len _ _ _ hw
  refine F.ok S len' fun cdv A outer s H vs Q E hr h => ?_
  obtain ⟨B, F', t⟩ := body_of (N := N) (by rw [len' vs H Q E h]; exact hps) h law
  exact ⟨_, body cdv A outer s H E B F' hr, t⟩
theorem def_calD {x : Str} {f : Addr} {fd : FuncData} {ps : List Str} {k : Nat} {wp : DSp} {dvl : List Value} {dvs : List V} {dds : List D} (kp : PySem.W.keepIn K (.ref f) = true) (gm : mg x = some (.ref f)) (b : Binds K fd ps dvl) (d : Vals dvs dvl) (rd : ∀ B F, RpL K B F dvs dds) (ok : FnOk P w K mg base (L2.CX P w) k f fd ps (spD K wp)) :
    CalD P w K mg base k x (fun ds => wp (ds ++ dds)) := ⟨f, fd, ps, dvl, dvs, dds, wp, ok, gm, kp, b, d, rd, rfl⟩
end
end DL

set_option Elab.async false
set_option linter.all false
set_option maxRecDepth 100000
namespace DL
open PySem PySem.Spec PyProof.Rows L2
/-! ### the head's facts of exception classes -/
def clsB (K : PySem.W.Frag) (C : Addr) (tl : List Value) (newId : String) : Bool := match K.lookup C with
  | some ⟨.type "type", _, .cls cd, sl⟩ => (match cd.mro, sl.toList with
    | .ref C' :: bm, [_, _, _, _, some (.builtin n), _] => C' == C && n == newId && !cd.hasDel && cd.hasDict && PySem.W.excTail tl bm
    | _, _ => false)
  | _ => false
theorem clsB_ok {K : PySem.W.Frag} {C : Addr} {tl : List Value} {newId : String} (q : clsB K C tl newId = true) :
    ∃ nm q N bs bm sn sub ab col dd k0 k1 k2 k3 k5, K.lookup C = some (excClassObj nm q C N bs bm true sn sub ab col dd k0 k1 k2 k3 k5 newId) ∧ PySem.W.excTail tl bm = true := by
  unfold clsB at q
  split at q
  · rename_i dd cd sl ho
    split at q
    · rename_i C' bm k0 k1 k2 k3 n k5 hm hs
      simp only [Bool.and_eq_true, beq_iff_eq, Bool.not_eq_true'] at q
      obtain ⟨⟨⟨⟨rfl, rfl⟩, hdel⟩, hdi⟩, ht⟩ := q
      obtain ⟨nm, bs, mro, ns, qn, hd, sn, sub, ab, col, del⟩ := cd
      dsimp only at hm hdel hdi
      subst hm hdel hdi
      have hsl : sl = #[k0, k1, k2, k3, some (.builtin n), k5] := by
        obtain ⟨l⟩ := sl
        simp only at hs
        rw [hs]
      subst hsl
      exact ⟨nm, qn, ns, bs, bm, sn, sub, ab, col, dd, k0, k1, k2, k3, k5, ho, ht⟩
    · cases q
  · cases q
/-- all that is looked at of an exception class x with an own __init__, the attributes at -/
def exB (K : PySem.W.Frag) (x : Str) (tl : List Value) (newId : String) (ats : List Str) : Bool :=
  clsB K (He.ga K x) tl newId && (decide (PySem.W.findIn K (.ref (He.ga K x)) "__setattr__" = some (some (.builtin "object.__setattr__"))) && (decide (PySem.W.subIn K (.ref (He.ga K x)) (.type "BaseException") = some true) &&
  (decide (PySem.W.typeIn K (.ref (He.ga K x)) = some (.type "type")) && (PySem.W.keepIn K (.ref (He.ga K x)) && (xfB K (He.ga K x) && (decide (PySem.W.findIn K (.ref (He.ga K x)) "__init__" = some (some (.ref (He.ma K (He.ga K x) "__init__")))) &&
  (decide (PySem.W.typeIn K (.ref (He.ma K (He.ga K x) "__init__")) = some (.type "function")) && ats.all fun f => decide (PySem.W.findIn K (.ref (He.ga K x)) f = some none))))))))
structure ExF (K : PySem.W.Frag) (x : Str) (tl : List Value) (newId : String) (ats : List Str) : Prop where
  cls : ∃ nm q N bs bm sn sub ab col dd k0 k1 k2 k3 k5, K.lookup (He.ga K x) = some (excClassObj nm q (He.ga K x) N bs bm true sn sub ab col dd k0 k1 k2 k3 k5 newId) ∧ PySem.W.excTail tl bm = true
  sa : PySem.W.findIn K (.ref (He.ga K x)) "__setattr__" = some (some (.builtin "object.__setattr__"))
  exC : PySem.W.subIn K (.ref (He.ga K x)) (.type "BaseException") = some true
  tyC : PySem.W.typeIn K (.ref (He.ga K x)) = some (.type "type")
  kC : PySem.W.keepIn K (.ref (He.ga K x)) = true
  xf : XfC K (He.ga K x)
  iC : PySem.W.findIn K (.ref (He.ga K x)) "__init__" = some (some (.ref (He.ma K (He.ga K x) "__init__")))
  tI : PySem.W.typeIn K (.ref (He.ma K (He.ga K x) "__init__")) = some (.type "function")
  at_ : ∀ f ∈ ats, PySem.W.findIn K (.ref (He.ga K x)) f = some none
theorem exB_ok {K : PySem.W.Frag} {x : Str} {tl : List Value} {newId : String} {ats : List Str} (h : exB K x tl newId ats = true) : ExF K x tl newId ats := by
  obtain ⟨h1, h⟩ := He.ba h
  obtain ⟨h2, h⟩ := He.ba h
  obtain ⟨h3, h⟩ := He.ba h
  obtain ⟨h4, h⟩ := He.ba h
  obtain ⟨h5, h⟩ := He.ba h
  obtain ⟨h6, h⟩ := He.ba h
  obtain ⟨h7, h⟩ := He.ba h
  obtain ⟨h8, h9⟩ := He.ba h
  exact ⟨clsB_ok h1, of_decide_eq_true h2, of_decide_eq_true h3, of_decide_eq_true h4, h5, xfB_ok h6, of_decide_eq_true h7, of_decide_eq_true h8, fun f hf => of_decide_eq_true (List.all_eq_true.mp h9 f hf)⟩
theorem ExF.exg {K : PySem.W.Frag} {x : Str} {Bt newId initId : String} {tl : List Value} {ats : List Str} (T : ExF K x tl newId ats) (fb : ExcBaseFacts Bt newId initId tl) (sf : StoreFacts Bt tl "object.__setattr__" "object") : ExG K (He.ga K x) Bt newId initId tl :=
  ⟨fb, sf, T.cls, T.sa, T.exC, T.tyC, T.kC⟩
def clsStmts : Stmt → List Stmt
  | .ClassDef _ _ _ b .. => b
  | _ => []
/-- a method's statement -/
abbrev methOf (st : Stmt) (i : Nat) : Stmt := (clsStmts st).getD i (.Pass ⟨0, 0, 0, 0⟩)
end DL

set_option Elab.async false
set_option linter.all false
set_option maxRecDepth 100000
namespace DL
open PySem PySem.Spec PyProof.Rows L2
/-! ### the law's bag: pull -/
section
variable {P : Program} {w : World} {K : PySem.W.Frag} {mg : Str → Option Value} {base : Heap}
/-- pull(bag, many): some int below many -/
@[simp] def wPull : DSp := fun ds Q _ => match ds with
  | [.bag, .int n] => 0 < n ∧ n < 18446744073709551616 ∧ ∀ r : Int, 0 ≤ r → r < n → Q (.sh (.int r))
  | _ => False
theorem wPull_of {ds : List D} {Q : Rz → Prop} {R : Exn → Prop} (h : wPull ds Q R) : ∃ n : Int, ds = [.bag, .int n] ∧ 0 < n ∧ n.natAbs.log2 < 9000 ∧ ∀ r : Int, 0 ≤ r → r < n → Q (.sh (.int r)) := by
  unfold wPull at h
  split at h
  · rename_i n
    obtain ⟨h1, h2, h3⟩ := h
    refine ⟨n, rfl, h1, ?_, h3⟩
    have e : n.natAbs.log2 < 64 := (Nat.log2_lt (by omega)).mpr (by omega)
    omega
  · exact h.elim
theorem rd_bag {b : Addr} {σ : L2.St} {H : Hp} {Q : VK} {xs : List V} {k : Int} {v : V} (e : σ[0]? = some (some (.ref b))) (h : H b = some (.lst xs)) (g : atI xs k = some v) (q : Q v H) : tOp (rIx K) (tVar 0) (tC (.int k)) σ H Q :=
  ⟨_, e, .inl ⟨_, _, _, _, rfl, rfl, SqL.of h, g, q⟩⟩
theorem fr_bag {B : Option Addr} {F H : Hp} {b : Addr} (hs : Same F H) (hb : ∀ b, B = some b → F b = none ∧ Bagged K F H b) (e : B = some b) {c : Addr} {ns : List Int} {x y z : Int} (hc : SqL K F c (ns.map V.int)) (hx : 0 ≤ x) (hz : 0 ≤ z) (hz2 : z < 2147483648) {H' : Hp}
    (hk : ∀ a, a ≠ b → H' a = H a) (h' : H' b = some (.lst [.ref c, .int x, .int y, .int z])) : Fr0 ⟨K, F, H, B⟩ B F H' := by
  have hF : F b = none := (hb b e).1
  refine ⟨fun a o h => ?_, Same.refl _, fun _ _ h => .inl h, fun a o h hne => ?_, fun _ h => h, fun h b' q => (by
    have h' : B = none := h
    rw [h'] at q; cases q), fun b' q => ?_⟩
  · have hab : a ≠ b := fun z => by rw [z, hF] at h; cases h
    rw [hk a hab]; exact hs a o h
  · have hab : a ≠ b := fun z => hne (by rw [z]; exact e)
    rw [hk a hab]; exact h
  · have hbb : b' = b := Option.some.inj (q.symm.trans e)
    subst hbb
    exact ⟨hF, c, ns, x, y, z, h', hc, hx, hz, hz2⟩
abbrev rGt0 : R2 := rI0 fun i j => .bl (decide (j < i))
abbrev rLt0 : R2 := rI0 fun i j => .bl (decide (i < j))
abbrev rGe0 : R2 := rI0 fun i j => .bl (decide (j ≤ i))
abbrev rMd : R2 := rI (fun _ j => j ≠ 0) fun i j => .int (i.fmod j)
abbrev rDv : R2 := rI CDivX fun i j => .int (i.fdiv j)
abbrev rMu : R2 := rI CMulX fun i j => .int (i * j)
abbrev rAd : R2 := rI0 fun i j => .int (i + j)
abbrev rPw : R2 := rI CPow fun i j => .int (i ^ j.toNat)
abbrev bg (K : PySem.W.Frag) (j : Int) : TE := tOp (rIx K) (tVar 0) (tC (.int j))
abbrev bst (j : Int) (te : TE) : TS := tAsg te (L2.gSub (tVar 0) (tC (.int j)) rSetL)
abbrev ci (j : Int) : TE := tC (.int j)
def tPullA (K : PySem.W.Frag) : TS := tSeq (tIfS (tTest (tOp rGt0 (bg K 2) (ci 0))) (tSeq (tAsg (tOp rMd (bg K 2) (tVar 1)) (gName 2)) (tSeq (bst 2 (tOp rDv (bg K 2) (tVar 1))) (tRet (tVar 2)))) tNext)
  (tSeq (tAsg (ci 0) (gName 3)) (tSeq (tIfS (tTest (tOp rLt0 (bg K 1) (tCB (rLen K) (tCons (bg K 0) tNil)))) (tAsg (tOp (rIx K) (bg K 0) (bg K 1)) (gName 3)) tNext)
  (tSeq (bst 1 (tOp rAd (bg K 1) (ci 1))) (tSeq (tIfS (tTest (tOp rGe0 (tVar 3) (tOp rPw (ci 10) (ci 18)))) (tSeq (bst 2 (tOp rDv (tVar 3) (tVar 1))) (tRet (tOp rMd (tVar 3) (tVar 1)))) tNext)
  (tSeq (bst 3 (tOp rMd (tOp rAd (tOp rAd (tOp rMu (bg K 3) (ci 48271)) (tOp rMd (tVar 3) (ci 2147483629))) (tOp rMu (ci 17) (bg K 1))) (ci 2147483647)))
  (tSeq (bst 3 (tOp rMd (tOp rAd (tOp rMu (bg K 3) (ci 69621)) (ci 11)) (ci 2147483647))) (tRet (tOp rMd (tOp rDv (bg K 3) (ci 64)) (tVar 1)))))))))
theorem fmod_rng {a n : Int} (h : 0 < n) : 0 ≤ a.fmod n ∧ a.fmod n < n := ⟨Int.fmod_nonneg_of_pos a h, Int.fmod_lt_of_pos a h⟩
theorem st_at {b : Addr} {σ : L2.St} {H : Hp} {xs : List V} {j : Int} {i : Nat} {v : V} {Q : L2.St → Hp → Prop} (e : σ[0]? = some (some (.ref b))) (h : H b = some (.lst xs)) (hj : ixN xs.length j = some i) (q : Q σ (upd H b (.lst (xs.set i v)))) : L2.gSub (tVar 0) (tC (.int j)) rSetL v σ H Q :=
  ⟨_, e, _, xs, j, i, rfl, rfl, h, hj, q⟩
/-- the bag's list holds these, all else stands as in H0 -/
structure BagAt (b c : Addr) (H0 H : Hp) (x y z : Int) : Prop where
  at_ : H b = some (.lst [.ref c, .int x, .int y, .int z])
  keep : ∀ a, a ≠ b → H a = H0 a
theorem BagAt.put {b c : Addr} {H0 H : Hp} {x y z x' y' z' : Int} (h : BagAt b c H0 H x y z) : BagAt b c H0 (upd H b (.lst [.ref c, .int x', .int y', .int z'])) x' y' z' :=
  ⟨upd_same, fun a ha => by rw [upd_ne ha]; exact h.keep a ha⟩
theorem st_b1 {b c : Addr} {H0 H : Hp} {x y z v : Int} {σ : L2.St} {Q : L2.St → Hp → Prop} (h : BagAt b c H0 H x y z) (e : σ[0]? = some (some (.ref b))) (q : ∀ H1, BagAt b c H0 H1 v y z → Q σ H1) : L2.gSub (tVar 0) (tC (.int 1)) rSetL (.int v) σ H Q := st_at e h.at_ rfl (q _ h.put)
theorem st_b2 {b c : Addr} {H0 H : Hp} {x y z v : Int} {σ : L2.St} {Q : L2.St → Hp → Prop} (h : BagAt b c H0 H x y z) (e : σ[0]? = some (some (.ref b))) (q : ∀ H1, BagAt b c H0 H1 x v z → Q σ H1) : L2.gSub (tVar 0) (tC (.int 2)) rSetL (.int v) σ H Q := st_at e h.at_ rfl (q _ h.put)
theorem st_b3 {b c : Addr} {H0 H : Hp} {x y z v : Int} {σ : L2.St} {Q : L2.St → Hp → Prop} (h : BagAt b c H0 H x y z) (e : σ[0]? = some (some (.ref b))) (q : ∀ H1, BagAt b c H0 H1 x y v → Q σ H1) : L2.gSub (tVar 0) (tC (.int 3)) rSetL (.int v) σ H Q := st_at e h.at_ rfl (q _ h.put)
theorem mul_small {i j : Int} (h : j.natAbs < 2 ^ 62) : CMulX i j := .inr (.inr h)
theorem div_small {i j : Int} (h : 0 < j) (h2 : j.natAbs.log2 < 9000) : CDivX i j := ⟨by omega, h2⟩
theorem pure_pullA (vs : List V) (H : Hp) (Q : VK) (E : XK) (h : spD K wPull vs H Q E) : tPullA K { nx := fun _ H' => Q .non H', rt := Q } (start ["bag", "many", "found", "cell"] vs) H := by
  obtain ⟨B, F, ds, Qd, Rd, hs, hb, r, hw, kq, _⟩ := h
  obtain ⟨n, rfl, hn, hl, k⟩ := wPull_of hw
  cases r with
  | cons r1 r =>
    cases r with
    | cons r2 r =>
      cases r
      cases r1 with
      | bag e =>
        rename_i b
        have er := rp_int r2
        subst er
        obtain ⟨hF, c, ns, x, y, z, hB, hc, hx, hz, hz2⟩ := hb _ e
        have n0 : n ≠ 0 := by omega
        have key : ∀ (x' y' z' v : Int) (H' : Hp), BagAt b c H H' x' y' z' → 0 ≤ x' → 0 ≤ z' → z' < 2147483648 → 0 ≤ v → v < n → Q (.int v) H' := fun x' y' z' v H' h' g1 g2 g3 g4 g5 =>
          kq _ (k v g4 g5) B F H' _ (fr_bag hs hb e hc g1 g2 g3 h'.keep h'.at_) (.int v)
        have h0 : H b = some (.lst [.ref c, .int x, .int y, .int z]) → BagAt b c H H x y z := fun h => ⟨h, fun _ _ => rfl⟩
        have dn : ∀ i, CDivX i n := fun i => div_small hn hl
        -- if bag[2] > 0
        refine rd_bag rfl hB rfl ⟨_, _, rfl, rfl, _, rfl, ?_⟩
        refine ite2 (fun _ => ?_) (fun _ => ?_)
        · refine rd_bag rfl hB rfl ⟨_, rfl, _, _, rfl, rfl, n0, ?_⟩
          refine rd_bag rfl hB rfl ⟨_, rfl, _, _, rfl, rfl, dn _, ?_⟩
          refine st_b2 (h0 hB) rfl fun H1 h1 => ⟨_, rfl, ?_⟩
          exact key x _ z _ _ h1 hx hz hz2 (fmod_rng hn).1 (fmod_rng hn).2
        -- the rest, by the cell
        have rest : ∀ cell : Int, tSeq (bst 1 (tOp rAd (bg K 1) (ci 1))) (tSeq (tIfS (tTest (tOp rGe0 (tVar 3) (tOp rPw (ci 10) (ci 18)))) (tSeq (bst 2 (tOp rDv (tVar 3) (tVar 1))) (tRet (tOp rMd (tVar 3) (tVar 1)))) tNext)
            (tSeq (bst 3 (tOp rMd (tOp rAd (tOp rAd (tOp rMu (bg K 3) (ci 48271)) (tOp rMd (tVar 3) (ci 2147483629))) (tOp rMu (ci 17) (bg K 1))) (ci 2147483647)))
            (tSeq (bst 3 (tOp rMd (tOp rAd (tOp rMu (bg K 3) (ci 69621)) (ci 11)) (ci 2147483647))) (tRet (tOp rMd (tOp rDv (bg K 3) (ci 64)) (tVar 1)))))) { nx := fun _ H' => Q .non H', rt := Q } [some (.ref b), some (.int n), none, some (.int cell)] H := fun cell => by
          refine rd_bag rfl hB rfl ⟨_, _, rfl, rfl, ?_⟩
          refine st_b1 (h0 hB) rfl fun H1 h1 => ?_
          refine ⟨_, rfl, _, _, rfl, rfl, ⟨by decide, by decide, by decide⟩, _, _, rfl, rfl, _, rfl, ?_⟩
          refine ite2 (fun _ => ?_) (fun _ => ?_)
          · refine ⟨_, rfl, _, rfl, _, _, rfl, rfl, dn _, ?_⟩
            refine st_b2 h1 rfl fun H2 h2 => ?_
            refine ⟨_, rfl, _, rfl, _, _, rfl, rfl, n0, ?_⟩
            exact key _ _ _ _ _ h2 (by omega) hz hz2 (fmod_rng hn).1 (fmod_rng hn).2
          · refine rd_bag rfl h1.at_ rfl ⟨_, _, rfl, rfl, mul_small (by decide), _, rfl, _, _, rfl, rfl, (by decide : (2147483629 : Int) ≠ 0), _, _, rfl, rfl, ?_⟩
            refine rd_bag rfl h1.at_ rfl ⟨_, _, rfl, rfl, .inr (.inl (by decide)), _, _, rfl, rfl, _, _, rfl, rfl, (by decide : (2147483647 : Int) ≠ 0), ?_⟩
            refine st_b3 h1 rfl fun H2 h2 => ?_
            have z1r := fmod_rng (a := z * 48271 + cell.fmod 2147483629 + 17 * (x + 1)) (n := 2147483647) (by decide)
            refine rd_bag rfl h2.at_ rfl ⟨_, _, rfl, rfl, mul_small (by decide), _, _, rfl, rfl, _, _, rfl, rfl, (by decide : (2147483647 : Int) ≠ 0), ?_⟩
            refine st_b3 h2 rfl fun H3 h3 => ?_
            have z2r := fmod_rng (a := (z * 48271 + cell.fmod 2147483629 + 17 * (x + 1)).fmod 2147483647 * 69621 + 11) (n := 2147483647) (by decide)
            refine rd_bag rfl h3.at_ rfl ⟨_, _, rfl, rfl, div_small (by decide) (by decide), _, rfl, _, _, rfl, rfl, n0, ?_⟩
            exact key _ _ _ _ _ h3 (by omega) z2r.1 (by omega) (fmod_rng hn).1 (fmod_rng hn).2
        -- cell = 0; if bag[1] < len(bag[0])
        refine rd_bag rfl hB rfl (rd_bag rfl hB rfl ⟨_, _, rfl, (.inl ⟨_, hs.seq hc, rfl⟩), _, _, rfl, rfl, _, rfl, ?_⟩)
        rw [List.length_map]
        refine ite2 (fun hlt => ?_) (fun _ => ?_)
        · have hlt2 : x < ns.length := of_decide_eq_true hlt
          have g : atI (ns.map V.int) x = some (.int (ns.getD x.toNat 0)) := by
            unfold atI ixN
            rw [List.length_map, if_pos hx, if_pos hlt2]
            show (ns.map V.int)[x.toNat]? = _
            rw [List.getElem?_map, List.getD_eq_getElem?_getD, List.getElem?_eq_getElem (by omega)]
            rfl
          refine rd_bag rfl hB rfl (rd_bag rfl hB rfl (.inl ⟨_, _, _, _, rfl, rfl, hs.seq hc, g, ?_⟩))
          exact rest _
        · exact rest 0
end
end DL

set_option Elab.async false
set_option linter.all false
set_option maxRecDepth 100000
namespace DL
open PySem PySem.Spec PyProof.Rows L2
/-! ### the law's own body: the bag is made, then all goes over data -/
/-- bag(script) over data: a list of a list of ints, 0, 0 and a salt -/
def wBag0 : DSp := fun ds Q _ => ∃ ns : List Int, ds = [.lst (ns.map .int)] ∧ ns.length ≤ 63 ∧ ∀ (ms : List Int) (z : Int), 0 ≤ z → z < 2147483648 → Q (.nw [.lst (ms.map .int), .int 0, .int 0, .int z])
def spBagH (K : PySem.W.Frag) : Sp := fun vs H Q _ => ∃ (a : Addr) (ns : List Int), vs = [.ref a] ∧ SqL K H a (ns.map V.int) ∧ ns.length ≤ 63 ∧
  ∀ p F' H', Same F' H' → F' p = none → Bagged K F' H' p → SqL K F' a (ns.map V.int) → Q (.ref p) H'
def spLaw (K : PySem.W.Frag) : Sp := fun vs H Q _ => ∃ (a : Addr) (ns : List Int), vs = [.ref a] ∧ SqL K H a (ns.map V.int) ∧ ns.length ≤ 63 ∧ ∀ H', Q (.bl true) H'
section
variable {P : Program} {w : World} {K : PySem.W.Frag} {mg : Str → Option Value} {base : Heap}
theorem rpl_ints_inv {B : Option Addr} {F : Hp} : ∀ {xs : List V} {ms : List Int}, RpL K B F xs (ms.map .int) → xs = ms.map V.int
  | _, [], .nil => rfl
  | _, _ :: _, .cons h t => by rw [rp_int h, rpl_ints_inv t]; rfl
theorem ok_bagH {CX : CXT} {k : Nat} {f : Addr} {fd : FuncData} {ps : List Str} (F : FnOk P w K mg base CX k f fd ps (spD K wBag0)) : FnOk P w K mg base CX k f fd ps (spBagH K) := F.imp fun vs H Q E h => by
  obtain ⟨a, ns, rfl, hs, hl, k⟩ := h
  refine ⟨none, H, _, (fun r => ∃ (ms : List Int) (z : Int), 0 ≤ z ∧ z < 2147483648 ∧ r = .nw [.lst (ms.map .int), .int 0, .int 0, .int z]), fun _ => False, Same.refl _, (fun b q => by cases q), .cons (.lst hs (.ints ns)) .nil, ⟨ns, rfl, hl, fun ms z h h' => ⟨ms, z, h, h', rfl⟩⟩, fun r q B' F' H' v fr rt => ?_, fun x q => q.elim⟩
  obtain ⟨ms, z, hz, hz', rfl⟩ := q
  obtain ⟨p, xs, rfl, e1, e2, e3, e4, e5⟩ := rt
  cases e5 with
  | cons r1 e5 =>
    obtain ⟨c, ys, rfl, hc, ry⟩ := rp_lst r1
    have ey := rpl_ints_inv ry
    subst ey
    cases e5 with
    | cons r2 e5 =>
      cases e5 with
      | cons r3 e5 =>
        cases e5 with
        | cons r4 e5 =>
          cases e5
          rw [rp_int r2, rp_int r3, rp_int r4] at e4
          exact k p F' H' fr.sub e2 ⟨c, ms, 0, 0, z, e4, hc, by decide, hz, hz'⟩ (fr.low.seq hs)
/-- over data from any heap -/
theorem pss_ex {X : Cx} {W : WX} {sts : List Stmt} {u : US} (d : ∀ (F H : Hp) (B : Option Addr), QSs ⟨X.K, F, H, B⟩ W X sts u) : PSs X sts (fun D σ H => ∃ (F H0 : Hp) (B : Option Addr), tS ⟨X.K, F, H0, B⟩ W u D σ H) :=
  ⟨fun pins s σ H D I ⟨F, H0, B, h⟩ => (d F H0 B).run pins s σ H D I h⟩
def endLaw : En := ⟨fun _ => False, fun r => r = .sh (.bl true), fun _ => False, fun _ => False, fun _ _ => False⟩
theorem law_walk {st s1 : Stmt} {rest : List Stmt} {f : Addr} {fd : FuncData} {N : List Str} {k : Nat} {u : US} (F : FunD K "law" "law" (defArgs st) (defBody st) (defScope st) [] [] f fd) (S : FnScope N ["script"] (defScope st)) (hN : 2 ≤ N.length) (hst : defBody st = s1 :: rest)
    (body : ∀ (cdv : Value) (A : Around) (outer : List Env) (s : Shared) (H : Hp) (E : XK), Room k (A.deeper (envOfC "law" (defScope st) s.heap.objs.size f cdv)) →
      PS (cxOf CX0 P w K mg base N "law" (defScope st) f cdv A outer s H E) s1 (tAsg (tCallS (spBagH K) (WE W0) (tCons (tVar 0) tNil)) (gName 1)) ∧
      ∀ (F H0 : Hp) (B : Option Addr), QSs ⟨K, F, H0, B⟩ W0 (cxOf CX0 P w K mg base N "law" (defScope st) f cdv A outer s H E) rest u)
    (law : ∀ ns : List Int, ns.length ≤ 63 → u endLaw ((startD N.length [.lst (ns.map .int)]).set 1 (.sh .bag))) : FnOk P w K mg base CX0 (k + 1) f fd ["script"] (spLaw K) := by
  refine F.ok S (fun vs H Q E h => ?_) fun cdv A outer s H vs Q E hr h => ?_
  · obtain ⟨a, ns, rfl, _⟩ := h
    rfl
  · obtain ⟨b1, b2⟩ := body cdv A outer s H E hr
    rw [hst]
    refine ⟨_, pss_cons b1 (pss_ex b2), ?_⟩
    obtain ⟨a, ns, rfl, hs, hl, k⟩ := h
    refine ⟨.ref a, rfl, a, ns, rfl, hs, hl, fun p F' H' h1 h2 h3 h4 => ?_⟩
    have hb : ∀ b, some p = some b → F' b = none ∧ Bagged K F' H' b := fun b q => by
      cases q
      exact ⟨h2, h3⟩
    have r0 : Rs ⟨K, F', H', some p⟩ (some p) F' H' (startD N.length [.lst (ns.map .int)]) (start N [.ref a]) := Rs.start h1 hb (.cons (.lst h4 (.ints ns)) .nil) (by simp; omega)
    refine ⟨F', H', some p, some p, F', _, endLaw, r0.setSh (i := 1) (.bag rfl), law ns hl, ⟨fun _ q => q.elim, fun _ q => q.elim, fun _ q => q.elim, fun r q B2 F2 H2 v _ rt => ?_, fun _ _ q => q.elim⟩⟩
    have q' : r = .sh (.bl true) := q
    subst q'
    have ev := rp_bl rt
    rw [ev]
    exact k H2
end
end DL

set_option Elab.async false
set_option linter.all false
set_option maxRecDepth 100000
namespace DL
open PySem PySem.Spec PyProof.Rows L2
/-! ### an exception class's own __init__: Bt.__init__(self, text); self.word = text -/
def tIni (K : PySem.W.Frag) (Bt iI : String) (z f wd : Str) : TS := tSeq (tDrop (tExBase K Bt iI (tCons (tVar 0) (tCons (tC (.str z)) tNil)))) (tExSt K f (tVar 0) (tC (.str wd)))
theorem pure_ini {K : PySem.W.Frag} {C : Addr} {Bt nI iI : String} {tl : List Value} {z f wd : Str} (T : ExG K C Bt nI iI tl) (hno : PySem.W.findIn K (.ref C) f = some none) (vs : List V) (H : Hp) (Q : VK) (E : XK) (h : spIni C [] [(f, .str wd)] vs H Q E) :
    tIni K Bt iI z f wd { nx := fun _ H' => Q .non H', rt := Q } (start ["self"] vs) H := by
  obtain ⟨a, rfl, ea, k⟩ := h
  refine ⟨.ref a, rfl, a, C, [.str z], nI, tl, rfl, (by show 1 ≤ 1000; decide), T, ea, .ref a, rfl, a, C, Bt, nI, iI, tl, rfl, T, hno, .inl ⟨ea, fun dx hd hda => ?_⟩⟩
  refine k dx _ hd hda upd_same ?_ fun b hb hb2 => ?_
  · rw [upd_ne hda, upd_same]
  · rw [upd_ne hb, upd_ne hb2]
/-! ### raise C() by a bundle -/
structure ExcU (P : Program) (w : World) (K : PySem.W.Frag) (mg : Str → Option Value) (base : Heap) (k : Nat) (x : Str) (gs : List (Str × D)) : Prop where
  ex : ∃ (Bt nI iI : String) (tl : List Value) (fI : Addr) (fd : FuncData) (ps : List Str) (fs : List (Str × V)), ExG K (He.ga K x) Bt nI iI tl ∧ PySem.W.findIn K (.ref (He.ga K x)) "__init__" = some (some (.ref fI)) ∧ PySem.W.typeIn K (.ref fI) = some (.type "function") ∧
    FnOk P w K mg base (L2.CX P w) k fI fd ps (spIni (He.ga K x) [] fs) ∧ Binds K fd ps [] ∧ mg x = some (.ref (He.ga K x)) ∧ ∀ B F, RpF K B F fs gs
section
variable {G : Gx} {W : WX} {X : Cx} {pos : Pos}
theorem qs_raiseU {x : Str} {j k : Nat} {gs : List (Str × D)} {p pos' : Pos} (U : ExcU X.prog X.w X.K X.mg X.base j x gs) (hc : X.calm = true) (hr : Room k X.A) (hjk : j + 1 ≤ k) (hg : Gl X x) (tk : Takes X W) (hk : X.K = G.K := by rfl) (hdb : (x == ("__debug__" : Str)) = false := by decide) :
    QS G W X (.Raise (some (.Call (.Name x p) [] [] pos')) none pos) (uRaise ⟨He.ga X.K x, gs⟩) := by
  obtain ⟨Bt, nI, iI, tl, fI, fd, ps, fs, T, iC, tI, F, b, g, hf⟩ := U.ex
  exact qs_raise0 hc tk T iC tI F (hr.mono hjk) b hg g (by rw [← hk]; exact hf) hdb
/-- a suite of an except clause, of errors of the class itself -/
@[simp] def uSu (C0 C : Addr) (u : US) : US := fun E δ => C0 = C ∧ u E δ
theorem qss_su {C0 C : Addr} {sts : List Stmt} {u : US} (d : C0 = C → QSs G W X sts u) : QSs G W X sts (uSu C0 C u) := ⟨fun pins s σ H D I ⟨B, F, δ, E, rs, ⟨hc, h⟩, k⟩ => (d hc).run pins s σ H D I ⟨B, F, δ, E, rs, h, k⟩⟩
end
section
variable {P : Program} {w : World} {K : PySem.W.Frag} {mg : Str → Option Value} {base : Heap}
theorem cal0 {x : Str} {st : Stmt} {f : Addr} {fd : FuncData} {ps : List Str} {k : Nat} {wp : DSp} (F : FunD K x x (defArgs st) (defBody st) (defScope st) [] [] f fd) (gm : mg x = some (.ref f)) (b : Binds K fd ps []) (ok : FnOk P w K mg base (L2.CX P w) k f fd ps (spD K wp)) : CalD P w K mg base k x wp :=
  ⟨f, fd, ps, [], [], [], wp, ok, gm, F.kp, b, .nil, fun _ _ => .nil, by funext ds; rw [List.append_nil]⟩
theorem calD {x : Str} {st : Stmt} {f : Addr} {fd : FuncData} {ps : List Str} {k : Nat} {wp : DSp} {dvs : List V} {dds : List D} (F : FunD K x x (defArgs st) (defBody st) (defScope st) dvs [] f fd) (gm : mg x = some (.ref f)) {j : Nat} (b : ∃ ds, Vals (dvs.drop j) ds ∧ Binds K fd ps ds) (rd : ∀ B F, RpL K B F (dvs.drop j) dds) (ok : FnOk P w K mg base (L2.CX P w) k f fd ps (spD K wp)) : CalD P w K mg base k x (fun ds => wp (ds ++ dds)) := by
  obtain ⟨ds, v, b⟩ := b
  exact ⟨f, fd, ps, ds, dvs.drop j, dds, wp, ok, gm, F.kp, b, v, rd, rfl⟩
theorem calAll {x : Str} {st : Stmt} {f : Addr} {fd : FuncData} {ps : List Str} {k : Nat} {wp : DSp} {dvs : List V} (F : FunD K x x (defArgs st) (defBody st) (defScope st) dvs [] f fd) (gm : mg x = some (.ref f)) (b : Binds K fd ps []) (ok : FnOk P w K mg base (L2.CX P w) k f fd ps (spD K wp)) : CalD P w K mg base k x wp :=
  ⟨f, fd, ps, [], [], [], wp, ok, gm, F.kp, b, .nil, fun _ _ => .nil, by funext ds; rw [List.append_nil]⟩
/-- all arguments handed to a def with defaults -/
theorem FunD.bindsFull {x qual : Str} {params : Arguments} {body : List Stmt} {scope : Scope} {dvs : List V} {f : Addr} {fd : FuncData} {ps : List Str} (F : FunD K x qual params body scope dvs [] f fd) (hd : dvs ≠ [])
    (h : ∀ (T : Addr) (kV doc pm : Value) (an : Option Addr) (cdv ct : Value) (us its : List Value), us.length = ps.length → its.length = dvs.length →
      ∃ k, bindArgs (PySem.W.fnOf x qual params body scope (.ref T) kV doc pm an cdv ct) ⟨us, []⟩ = seqItems? (.ref T) >>= k ∧ k (some its.toArray) = pure (ps.zip (us ++ its.drop dvs.length))) : Binds K fd ps [] := by
  obtain ⟨ds, v, b⟩ := L2.FunD.binds1 F ps.length dvs.length hd (by omega) h
  rw [List.drop_length] at v
  cases v
  exact b
end
abbrev tl_ZeroDivisionError : List Value := [.type "ZeroDivisionError", .type "ArithmeticError", .type "Exception", .type "BaseException", .type "object"]
abbrev tl_ValueError : List Value := [.type "ValueError", .type "Exception", .type "BaseException", .type "object"]
theorem st_ZeroDivisionError : StoreFacts "ZeroDivisionError" tl_ZeroDivisionError "object.__setattr__" "object" := PySem.F.store_ZeroDivisionError
theorem exc_m {K : PySem.W.Frag} {C : Addr} (q : PySem.W.exmOne K (.ref C) (.ref C) = some true) : ∀ y b, (fun y : Addr => if y = C then some true else none) y = some b → PySem.W.exmOne K (.ref y) (.ref C) = some b := fun y b h => by
  have h' : (if y = C then some true else none) = some b := h
  split at h'
  · rename_i e
    cases h'
    rw [e]; exact q
  · cases h'
section
variable {P : Program} {w : World} {K : PySem.W.Frag} {mg : Str → Option Value} {base : Heap} {N : List Str} {qual : Str} {sc : Scope} {f : Addr} {cd : Value} {A : Around} {outer : List Env} {s : Shared} {H : Hp} {E : XK}
theorem tk_of : Takes (cxOf (L2.CX P w) P w K mg base N qual sc f cd A outer s H E) (fun c d _ H' => E c d H') := takes_of rfl rfl rfl rfl
theorem po_of {CX : CXT} : PassesOwn (model P w) (cxOf CX P w K mg base N qual sc f cd A outer s H E).A (cxOf CX P w K mg base N qual sc f cd A outer s H E).env (cxOf CX P w K mg base N qual sc f cd A outer s H E).xe := passes_of rfl
theorem fn_none {CX : CXT} {k : Nat} {fd : FuncData} {ps : List Str} {wp : DSp} (h : ∀ ds Q R, wp ds Q R → False) : FnOk P w K mg base CX k f fd ps (spD K wp) :=
  ⟨fun vs H Q E q => by
    obtain ⟨B, F, ds, Qd, Rd, _, _, _, z, _⟩ := q
    exact (h _ _ _ z).elim, fun A outer s H args us vs Q E _ _ _ _ q => by
    obtain ⟨B, F, ds, Qd, Rd, _, _, _, z, _⟩ := q
    exact (h _ _ _ z).elim⟩
end
/-! ### loops over data by what stays -/
theorem forW_inv {g : UGt} {ub : US} {E : En} (I : DE → Prop) : ∀ (ds : List D) (δ : DE), I δ → (∀ d ∈ ds, ∀ δ (k : DE → Prop), I δ → (∀ δ', I δ' → k δ') → g d δ fun δ1 => ub { E with nx := k, ct := k, bk := E.nx } δ1) → (∀ δ, I δ → E.nx δ) → forW g ub ds E δ
  | [], δ, h, _, e => e δ h
  | d :: ds, δ, h, s, e => s d (.head _) δ _ h fun δ' h' => forW_inv I ds δ' h' (fun d' hd => s d' (.tail _ hd)) e
/-- .. with the number of turns that are done -/
theorem forW_cnt {g : UGt} {ub : US} {E : En} (I : Nat → DE → Prop) : ∀ (ds : List D) (i : Nat) (δ : DE), I i δ → (∀ j d, ds[j]? = some d → ∀ δ (k : DE → Prop), I (i + j) δ → (∀ δ', I (i + j + 1) δ' → k δ') → g d δ fun δ1 => ub { E with nx := k, ct := k, bk := E.nx } δ1) → (∀ δ, I (i + ds.length) δ → E.nx δ) → forW g ub ds E δ
  | [], i, δ, h, _, e => e δ h
  | d :: ds, i, δ, h, s, e => s 0 d rfl δ _ h fun δ' h' => forW_cnt I ds (i + 1) δ' h' (fun j d' hd δ k hi hk => s (j + 1) d' hd δ k (by rw [show i + (j + 1) = i + 1 + j by omega]; exact hi) fun δ' h' => hk δ' (by rw [show i + 1 + j + 1 = i + (j + 1) + 1 by omega]; exact h')) fun δ h => e δ (by rw [List.length_cons, show i + (ds.length + 1) = i + 1 + ds.length by omega]; exact h)
theorem lcW_inv {g : UGt} {ut : UT} {ue : UV} {vs : List Nat} (I : DE → Prop) (f : D → Option D) : ∀ (ds : List D) (δ : DE) (k : List D → DE → Prop), I δ →
    (∀ d ∈ ds, ∀ δ (K : D → DE → Prop) (K' : DE → Prop), I δ → (∀ y, f d = some y → ∀ δ', I δ' → K y δ') → (f d = none → ∀ δ', I δ' → K' δ') → g d (wipeD δ vs) fun δ1 => ut δ1 (fun b δ2 => if b = true then ue δ2 K R0 else K' δ2) R0) →
    (∀ δ', I δ' → k (ds.filterMap f) δ') → lcW g ut ue vs ds δ k
  | [], δ, k, h, _, e => e δ h
  | d :: ds, δ, k, h, s, e => by
    refine s d (.head _) δ _ _ h (fun y hy δ' h' => ?_) (fun hn δ' h' => ?_)
    · refine lcW_inv I f ds δ' _ h' (fun d' hd => s d' (.tail _ hd)) fun δ2 h2 => ?_
      have := e δ2 h2
      rw [List.filterMap_cons, hy] at this
      exact this
    · refine lcW_inv I f ds δ' _ h' (fun d' hd => s d' (.tail _ hd)) fun δ2 h2 => ?_
      have := e δ2 h2
      rw [List.filterMap_cons, hn] at this
      exact this
/-- .. each element told by what is promised of it alone -/
theorem lcW_rel {g : UGt} {ut : UT} {ue : UV} {vs : List Nat} (I : DE → Prop) (P : D → Prop) : ∀ (ds : List D) (δ : DE) (k : List D → DE → Prop), I δ →
    (∀ d ∈ ds, ∀ δ (K : D → DE → Prop) (K' : DE → Prop), I δ → (∀ y, P y → ∀ δ', I δ' → K y δ') → g d (wipeD δ vs) fun δ1 => ut δ1 (fun b δ2 => if b = true then ue δ2 K R0 else K' δ2) R0) →
    (∀ ys δ', ys.length = ds.length → (∀ y ∈ ys, P y) → I δ' → k ys δ') → lcW g ut ue vs ds δ k
  | [], δ, k, h, _, e => e [] δ rfl (fun _ h => nomatch h) h
  | d :: ds, δ, k, h, s, e => s d (.head _) δ _ _ h fun y hy δ' h' => lcW_rel I P ds δ' _ h' (fun d' hd => s d' (.tail _ hd)) fun ys δ2 hl hp h2 => e (y :: ys) δ2 (by rw [List.length_cons, hl, List.length_cons]) (fun z hz => by
    cases hz with
    | head => exact hy
    | tail _ hz => exact hp z hz) h2
theorem blsD_all {α : Type} : ∀ (xs : List α), blsD (xs.filterMap fun _ => some (.bl true)) = some (xs.map fun _ => true)
  | [] => rfl
  | _ :: r => by
    show (blsD (r.filterMap fun _ => some (.bl true))).map (true :: ·) = _
    rw [blsD_all r]; rfl
theorem nat10 : Int.natAbs 10 = 10 := rfl
theorem ix3 {x y z : D} {i : Int} {Q : D → Prop} (h : 0 ≤ i) (h2 : i < 3) (hx : Q x) (hy : Q y) (hz : Q z) : gIx (.lst [x, y, z]) (.int i) Q := by
  have hj : i = 0 ∨ i = 1 ∨ i = 2 := by omega
  rcases hj with rfl | rfl | rfl
  · exact hx
  · exact hy
  · exact hz
theorem ix4 {x y z t : D} {i : Int} {Q : D → Prop} (h : 0 ≤ i) (h2 : i < 4) (hx : Q x) (hy : Q y) (hz : Q z) (ht : Q t) : gIx (.lst [x, y, z, t]) (.int i) Q := by
  have hj : i = 0 ∨ i = 1 ∨ i = 2 ∨ i = 3 := by omega
  rcases hj with rfl | rfl | rfl | rfl
  · exact hx
  · exact hy
  · exact hz
  · exact ht
theorem ix5 {x y z t u : D} {i : Int} {Q : D → Prop} (h : 0 ≤ i) (h2 : i < 5) (hx : Q x) (hy : Q y) (hz : Q z) (ht : Q t) (hu : Q u) : gIx (.lst [x, y, z, t, u]) (.int i) Q := by
  have hj : i = 0 ∨ i = 1 ∨ i = 2 ∨ i = 3 ∨ i = 4 := by omega
  rcases hj with rfl | rfl | rfl | rfl | rfl
  · exact hx
  · exact hy
  · exact hz
  · exact ht
  · exact hu
/-- one statement, what it leaves, the rest -/
theorem seq_mid {u1 u2 : US} {E : En} {δ : DE} (M : DE → Prop) (h1 : ∀ k : DE → Prop, (∀ δ', M δ' → k δ') → u1 { E with nx := k } δ) (h2 : ∀ δ', M δ' → u2 E δ') : uSeq u1 u2 E δ := h1 (u2 E) h2
theorem length_rgD {lo : Int} {n : Nat} : (rgD lo n).length = n := by simp [rgD]
/-- [same(found[at], due[at]) for at in range(len(due))], of one thing twice -/
theorem mem_rgD {d : D} {lo : Int} {n : Nat} (h : d ∈ rgD lo n) : ∃ i : Nat, i < n ∧ d = .int (lo + i) := by
  unfold rgD at h
  obtain ⟨i, hi, rfl⟩ := List.mem_map.mp h
  exact ⟨i, List.mem_range.mp hi, rfl⟩
end DL

set_option Elab.async false
set_option linter.all false
set_option maxRecDepth 100000
namespace DL
open PySem PySem.Spec PyProof.Rows L2
/-! ### sizes -/
def Sz (n : Nat) (x : Int) : Prop := x.natAbs < 2 ^ n
theorem Sz.log {n : Nat} {i : Int} (hi : Sz n i) : i.natAbs.log2 < n + 1 := by
  by_cases h : i.natAbs = 0
  · rw [h]; exact Nat.succ_pos n
  · exact Nat.lt_trans ((Nat.log2_lt h).mpr hi) (Nat.lt_succ_self n)
theorem Sz.mul {m n : Nat} {i j : Int} (hi : Sz m i) (hj : Sz n j) (h : m + n < 90000000 := by decide) : CMulX i j := .inl (by
  have h1 := hi.log
  have h2 := hj.log
  omega)
theorem Sz.div {n : Nat} {j : Int} (hn : n ≤ 8999) (h0 : j ≠ 0) (hj : Sz n j) (i : Int) : CDivX i j := ⟨h0, by
  have h := hj.log
  omega⟩
theorem Sz.mulB {m n : Nat} {i j : Int} (hi : Sz m i) (hj : Sz n j) : Sz (m + n) (i * j) := by
  unfold Sz at *
  rw [Int.natAbs_mul, Nat.pow_add]
  exact Nat.mul_lt_mul'' hi hj
theorem Sz.addB {m : Nat} {i j : Int} (hi : Sz m i) (hj : Sz m j) : Sz (m + 1) (i + j) := by
  unfold Sz at *
  rw [Nat.pow_succ]
  omega
theorem Sz.mono {m n : Nat} {i : Int} (hi : Sz m i) (h : m ≤ n) : Sz n i := Nat.lt_of_lt_of_le hi (Nat.pow_le_pow_right (by decide) h)
theorem Sz.neg {n : Nat} {i : Int} (h : Sz n i) : Sz n (-i) := by
  unfold Sz at *
  omega
theorem Sz.le {n : Nat} {i j : Int} (h : Sz n i) (e : j.natAbs ≤ i.natAbs) : Sz n j := Nat.lt_of_le_of_lt e h
theorem sz140 {x : Int} (h : -1393796574908163946345982392040522594123776 < x) (h2 : x < 1393796574908163946345982392040522594123776) : Sz 140 x := by
  unfold Sz
  omega
/-! ### a fraction in lowest terms -/
def mst (a b : Int) : Int := if b < 0 then -(Int.gcd a b : Int) else (Int.gcd a b : Int)
def frD (a b : Int) : D := .tup [.int (a.fdiv (mst a b)), .int (b.fdiv (mst a b))]
theorem mst_ne {a b : Int} (h : b ≠ 0) : mst a b ≠ 0 := by
  have g : Int.gcd a b ≠ 0 := fun z => h (Int.gcd_eq_zero_iff.mp z).2
  unfold mst
  split <;> omega
theorem mst_abs {a b : Int} : (mst a b).natAbs = Int.gcd a b := by
  unfold mst
  split <;> omega
theorem mst_sz {n : Nat} {a b : Int} (h : b ≠ 0) (hb : Sz n b) : Sz n (mst a b) := by
  have g : Int.gcd a b ≤ b.natAbs := Nat.le_of_dvd (by omega) (Int.gcd_dvd_natAbs_right a b)
  unfold Sz at *
  rw [mst_abs]; omega
/-- a rational number, as the program writes it -/
def frq (q : Rat) : D := .tup [.int q.num, .int q.den]
theorem frD_eq {a b : Int} (h : b ≠ 0) : frD a b = frq (Rat.divInt a b) := by
  have g0 : Int.gcd a b ≠ 0 := fun z => h (Int.gcd_eq_zero_iff.mp z).2
  obtain ⟨k, hk⟩ := Int.gcd_dvd_left a b
  obtain ⟨l, hl⟩ := Int.gcd_dvd_right a b
  have gc : b.gcd a = a.gcd b := Int.gcd_comm ..
  unfold frD frq
  rw [Rat.num_divInt, Rat.den_divInt, if_neg h, gc]
  generalize hg : Int.gcd a b = g at g0 hk hl
  have g1 : (g : Int) ≠ 0 := by omega
  have gp : (0 : Int) < g := by omega
  have hm : mst a b = if b < 0 then -(g : Int) else g := by unfold mst; rw [hg]
  rw [hm]
  by_cases hb : b < 0
  · rw [if_pos hb, Int.sign_eq_neg_one_of_neg hb]
    have e1 : a.fdiv (-(g : Int)) = -k := by
      rw [hk, show (g : Int) * k = -(g : Int) * -k by rw [Int.neg_mul_neg], Int.mul_fdiv_cancel_left _ (by omega)]
    have e2 : b.fdiv (-(g : Int)) = -l := by
      rw [hl, show (g : Int) * l = -(g : Int) * -l by rw [Int.neg_mul_neg], Int.mul_fdiv_cancel_left _ (by omega)]
    have e3 : -1 * a / (g : Int) = -k := by
      rw [hk, show -1 * ((g : Int) * k) = (g : Int) * -k by rw [Int.mul_neg]; omega, Int.mul_ediv_cancel_left _ g1]
    have e4 : ((b.natAbs / g : Nat) : Int) = -l := by
      have : b.natAbs = g * l.natAbs := by rw [hl, Int.natAbs_mul]; simp
      rw [this, Nat.mul_div_cancel_left _ (by omega)]
      have hl0 : l < 0 := by
        rcases Int.lt_or_le l 0 with q | q
        · exact q
        · have := Int.mul_nonneg (Int.le_of_lt gp) q
          omega
      omega
    rw [e1, e2, e3, e4]
  · have hb' : 0 < b := by omega
    rw [if_neg hb, Int.sign_eq_one_of_pos hb', Int.one_mul]
    have e1 : a.fdiv (g : Int) = k := by rw [hk, Int.mul_fdiv_cancel_left _ g1]
    have e2 : b.fdiv (g : Int) = l := by rw [hl, Int.mul_fdiv_cancel_left _ g1]
    have e3 : a / (g : Int) = k := by rw [hk, Int.mul_ediv_cancel_left _ g1]
    have e4 : ((b.natAbs / g : Nat) : Int) = l := by
      have : b.natAbs = g * l.natAbs := by rw [hl, Int.natAbs_mul]; simp
      rw [this, Nat.mul_div_cancel_left _ (by omega)]
      have hl0 : 0 < l := by
        rcases Int.lt_or_le 0 l with q | q
        · exact q
        · have := Int.mul_nonpos_of_nonneg_of_nonpos (Int.le_of_lt gp) q
          omega
      omega
    rw [e1, e2, e3, e4]
theorem frD_one (a : Int) : frD a 1 = .tup [.int a, .int 1] := by
  have e : mst a 1 = 1 := by
    unfold mst
    simp
  unfold frD
  rw [e, Int.fdiv_one, Int.fdiv_one]
/-- the four sums -/
theorem den_ne (q : Rat) : (q.den : Int) ≠ 0 := by
  have := q.den_nz
  omega
theorem fr_add (p q : Rat) : frD (p.num * q.den + q.num * p.den) (p.den * q.den) = frq (p + q) := by
  rw [frD_eq (Int.mul_ne_zero (den_ne p) (den_ne q)), ← Rat.divInt_add_divInt _ _ (den_ne p) (den_ne q), Rat.num_divInt_den, Rat.num_divInt_den]
theorem fr_sub (p q : Rat) : frD (p.num * q.den - q.num * p.den) (p.den * q.den) = frq (p - q) := by
  rw [frD_eq (Int.mul_ne_zero (den_ne p) (den_ne q)), ← Rat.divInt_sub_divInt _ _ (den_ne p) (den_ne q), Rat.num_divInt_den, Rat.num_divInt_den]
theorem fr_mul (p q : Rat) : frD (p.num * q.num) (p.den * q.den) = frq (p * q) := by
  rw [frD_eq (Int.mul_ne_zero (den_ne p) (den_ne q)), ← Rat.divInt_mul_divInt, Rat.num_divInt_den, Rat.num_divInt_den]
theorem fr_div (p q : Rat) (h : q.num ≠ 0) : frD (p.num * q.den) (p.den * q.num) = frq (p / q) := by
  rw [frD_eq (Int.mul_ne_zero (den_ne p) h), ← Rat.divInt_mul_divInt, Rat.num_divInt_den, ← Rat.inv_divInt, Rat.num_divInt_den, Rat.div_def]
/-! ### sizes of rational numbers -/
def SzQ (n : Nat) (q : Rat) : Prop := Sz n q.num ∧ Sz n q.den
theorem SzQ.mono {m n : Nat} {q : Rat} (h : SzQ m q) (e : m ≤ n) : SzQ n q := ⟨h.1.mono e, h.2.mono e⟩
theorem szq_divInt {n : Nat} {a b : Int} (h : b ≠ 0) (ha : Sz n a) (hb : Sz n b) : SzQ n (Rat.divInt a b) := by
  constructor
  · refine ha.le ?_
    rw [Rat.num_divInt]
    refine Nat.le_trans (Int.natAbs_ediv_le_natAbs _ _) ?_
    rw [Int.natAbs_mul, Int.natAbs_sign_of_ne_zero h, Nat.one_mul]
    exact Nat.le_refl _
  · refine hb.le ?_
    rw [Rat.den_divInt, if_neg h]
    exact Nat.div_le_self _ _
theorem SzQ.mul {m n : Nat} {p q : Rat} (hp : SzQ m p) (hq : SzQ n q) : SzQ (m + n) (p * q) := by
  have e : p * q = Rat.divInt (p.num * q.num) (p.den * q.den) := by
    rw [← Rat.divInt_mul_divInt, Rat.num_divInt_den, Rat.num_divInt_den]
  rw [e]
  exact szq_divInt (Int.mul_ne_zero (den_ne p) (den_ne q)) (hp.1.mulB hq.1) (hp.2.mulB hq.2)
theorem SzQ.add {m n : Nat} {p q : Rat} (hp : SzQ m p) (hq : SzQ n q) : SzQ (m + n + 1) (p + q) := by
  have e : p + q = Rat.divInt (p.num * q.den + q.num * p.den) (p.den * q.den) := by
    rw [← Rat.divInt_add_divInt _ _ (den_ne p) (den_ne q), Rat.num_divInt_den, Rat.num_divInt_den]
  rw [e]
  exact szq_divInt (Int.mul_ne_zero (den_ne p) (den_ne q)) ((hp.1.mulB hq.2).addB (by rw [Nat.add_comm m n]; exact hq.1.mulB hp.2)) ((hp.2.mulB hq.2).mono (by omega))
theorem SzQ.neg {n : Nat} {q : Rat} (h : SzQ n q) : SzQ n (-q) := ⟨h.1.neg, h.2⟩
end DL

set_option Elab.async false
set_option linter.all false
set_option maxRecDepth 100000
namespace DL
open PySem PySem.Spec PyProof.Rows L2
/-! ### x -= e, the module's constants -/
@[simp] def gSubI : G2 := gI0 fun i j => .int (i - j)
def GlC (K : PySem.W.Frag) (mg : Str → Option Value) (x : Str) (d : D) : Prop := ∃ (v : V) (u : Value), mg x = some u ∧ RelV v u ∧ ∀ B F, Rp K B F v d
theorem qv_gl {G : Gx} {W : WX} {X : Cx} {pos : Pos} {x : Str} {d : D} (c : GlC X.K X.mg x d) (hg : Gl X x) (hk : X.K = G.K := by rfl) (hd : (x == ("__debug__" : Str)) = false := by decide) : QV G W X (.Name x pos) (uC d) := by
  obtain ⟨v, u, hm, r, hr⟩ := c
  exact qv_glob hg hm r (by rw [← hk]; exact hr) hd
theorem gl_tup {K : PySem.W.Frag} {mg : Str → Option Value} {x : Str} {vs : List He.Dv} {ds : List D} (g : mg x = some (.ref (He.ga K x))) (t : He.tupB K x vs = true) (r : ∀ B F, RpL K B F (vs.map (He.Dv.v K)) ds) : GlC K mg x (.tup ds) :=
  ⟨.ref (He.ga K x), _, g, rfl, fun B F => .tup (He.tupB_ok t F) (r B F)⟩
theorem gl_int {K : PySem.W.Frag} {mg : Str → Option Value} {x : Str} {i : Int} (g : ∃ t, mg x = some (.int i t)) : GlC K mg x (.int i) := by
  obtain ⟨t, g⟩ := g
  exact ⟨.int i, _, g, ⟨_, rfl⟩, fun B F => .int i⟩
/-! ### enumerate(a tuple) -/
set_option maxHeartbeats 1000000 in
theorem meets_enum1 {v : Value} {ob : Obj} {HB : Heap → Prop} (Bg : Begins v ob HB) :
    Meets (Builtin.«enumerate.__new__» ⟨[.type "enumerate", v], []⟩) (fun _ R s => HB s.heap ∧
      R (.ok (.ret (.ref (s.heap.push ob).objs.size))) { s with heap := (s.heap.push ob).push { cls := .type "enumerate", data := .fields #[.none, .bool false, .ref s.heap.objs.size, rawInt 0, .none, .none] } }) :=
  .of_wp fun prog w A R s h => by
    obtain ⟨hp, g, d, tk, os⟩ := s
    obtain ⟨hb, h⟩ := h
    have hsb := sub_enumerate
    have itr : ∀ {A' : Around} {E : Value → Shared → Prop} {Q : Value → Shared → Prop}, Q (.ref hp.objs.size) ⟨hp.push ob, g, d, tk, os⟩ → wpAny (model prog w) A' (pyIter v) Q E ⟨hp, g, d, tk, os⟩ :=
      fun q => Bg.iter prog w _ _ ⟨hp, g, d, tk, os⟩ _ hb q
    wp_walk using itr
    refine wpAny_stack_any fun stk => wpAny_pure ?_
    split
    · rename_i cc _ _ _ _ _
      cases (cc == Value.type "enumerate") <;> (wp_walk using itr; exact ⟨_, rfl, h⟩)
    · wp_walk using itr
      exact ⟨_, rfl, h⟩
theorem call_enum1 {prog : Program} {w : World} {A : Around} {E : Value → Shared → Prop} {s : Shared} {v : Value} {ob : Obj} {HB : Heap → Prop} {Q : Value → Shared → Prop} (Bg : Begins v ob HB) (h1 : HB s.heap)
    (h : ∀ h', IsEnum h' (s.heap.objs.size + 1) s.heap.objs.size 0 .none → h'.get? s.heap.objs.size = some ob → (∀ b o, s.heap.get? b = some o → h'.get? b = some o) → Q (.ref (s.heap.objs.size + 1)) { s with heap := h' }) :
    wpAny (model prog w) A (call (.type "enumerate") [v]) Q E s := by
  refine callType_new F.called_enumerate (by decide) (F.typeCall_enumerate_1 _) (F.newCall_enumerate_1 _) (fun obj => F.args_object_init_2 obj _) F.entry_enumerate_new (meets_enum1 Bg) ⟨h1, ?_⟩
  have hz : (s.heap.push ob).objs.size = s.heap.objs.size + 1 := Heap.size_push ..
  show _ ∧ _
  rw [hz]
  have he : IsEnum ((s.heap.push ob).push { cls := .type "enumerate", data := .fields #[.none, .bool false, .ref s.heap.objs.size, rawInt 0, .none, .none] }) (s.heap.objs.size + 1) s.heap.objs.size 0 .none := by
    have at1 := Heap.get?_push_size (s.heap.push ob) (o := { cls := .type "enumerate", data := .fields #[.none, .bool false, .ref s.heap.objs.size, rawInt 0, .none, .none] }) rfl
    rw [hz] at at1
    exact at1
  exact ⟨⟨_, he, rfl⟩, h _ he (Heap.get?_push_of_some _ (Heap.get?_push_size _ Bg.free)) fun b o x => Heap.get?_push_of_some _ (Heap.get?_push_of_some _ x)⟩
theorem enumT_end {prog : Program} {w : World} {A : Around} {E : Value → Shared → Prop} {s : Shared} {e it l : Addr} {i : Nat} {xs : Array Value} {old : Value} {Q : Option Value → Shared → Prop} (hh : A.handled = none)
    (he : IsEnum s.heap e it i old) (hit : s.heap.IsTupleIter it l i) (hl : s.heap.IsTuple l xs) (hx : xs[i]? = none) (hQ : ∀ h', Heap.ExtBut it s.heap h' → Q none { s with heap := h' }) : wpAny (model prog w) A (pyNext (.ref e)) Q E s := by
  have ty : s.TypeIs (.ref e) "enumerate" := ⟨_, he, rfl⟩
  unfold pyNext
  refine wpAny_bind (wpAny_attempt (wpAny_callSpecial?_slot (name := Str.ofString "__next__") ty F.slot_enumerate_next (wpAny_call_entry F.slot_enumerate_next ty F.entry_enumerate_next ?_ (F.args_enumerate_next_1 _))))
  show wpAny _ _ (field (.ref e) 2 >>= _) _ _ _
  refine wpAny_bind (wpAny_field he rfl (x := .ref it) rfl (wpAny_bind (wpAny_nextOf_tuple_end hh hit hl hx fun h' z eb hz => ?_)))
  obtain ⟨oz, hoz, hcz⟩ := hz
  exact wpAny_bind (wpAny_isInstance (T := "StopIteration") (b := true) ⟨oz, hoz, hcz⟩ isSubtype_stop (wpAny_pure (hQ _ eb)))
/-- the tuple at a, each item in a new pair -/
def IteT (K : PySem.W.Frag) (a : Addr) : It where
  go := fun i H => ∃ (xs : List V) (x : V), SqT K H a xs ∧ xs[i]? = some x
  yld := fun i H v H' => ∃ T x, v = .ref T ∧ H T = none ∧ H' = upd H T (.tup [.int (i : Nat), x]) ∧ ∀ xs, SqT K H a xs → xs[i]? = some x
  stop := fun i H => ∃ xs : List V, SqT K H a xs ∧ xs.length ≤ i
theorem turn_enumT {P : Program} {w : World} {K : PySem.W.Frag} {elts : List Expr} {kk : Nat} {tpos : Pos} (a e it : Addr) :
    Turn P w K (.Tuple elts kk tpos) (IteT K a) [e, it] e (fun i h => (∃ old, IsEnum h e it ((i : Nat) : Int) old) ∧ h.IsTupleIter it a i ∧ e ≠ it ∧ e ≠ a ∧ a ≠ it) where
  mem := by simp
  obj := fun i h st b hb => by
    obtain ⟨⟨old, he⟩, ⟨o, ho, hc, hd⟩, _⟩ := st
    rcases (show b = e ∨ b = it by simpa using hb) with z | z
    · rw [z]; exact ⟨_, he, fun v q => nomatch q⟩
    · rw [z]; exact ⟨o, ho, fun v q => by rw [hd] at q; cases q⟩
  keep := fun i h h' st k => let ⟨⟨old, he⟩, hi, hne⟩ := st; ⟨⟨old, k e (by simp) _ he⟩, hi.at fun o q => k it (by simp) o q, hne⟩
  item := by
    intro X hP hw hK hc i pins s σ H E I hf st hg
    subst hP hw hK
    obtain ⟨⟨old, he⟩, hit, hne, hea, hai⟩ := st
    obtain ⟨xs, x, hq, hx⟩ := hg
    obtain ⟨its, rv, p, hz⟩ := I.tuple hq
    obtain ⟨u, hu, ru⟩ := rv.get hx
    have hu' : its.toArray[i]? = some u := by simpa using hu
    have hlt : i < its.toArray.size := (Array.getElem?_eq_some_iff.mp hu').1
    have hel : e < s.heap.objs.size := Heap.lt_size he
    have hil : it < s.heap.objs.size := by obtain ⟨_, q, _⟩ := hit; exact Heap.lt_size q
    refine wpAny_pyNext_enum_itemD (Draws.tuple (A := X.A.in1) (show X.A.in1.handled = none from I.ok.hd hc) it a hai its.toArray) he ⟨hit, p⟩ hlt hne (by simp [hne, hea]) fun y h' tk hy ho hst hT hsz hk => ?_
    obtain rfl : y = u := Option.some.inj (hy.symm.trans hu')
    refine ⟨_, rfl, wpAny_letOwnedTupleGo_enum (s := { s with heap := h', toks := tk + 1 }) ho fun h'' he' sb => ?_⟩
    have hT2 : h''.get? s.heap.objs.size = some { cls := .type "tuple", data := .seq #[.int i tk, y] } := (sb.2 _ (Nat.ne_of_gt hel)).trans hT
    have nw : ObjOk X.prog X.w (upd H s.heap.objs.size (.tup [.int (i : Nat), x])) h'' s.heap.objs.size (.tup [.int (i : Nat), x]) :=
      ⟨by show 2 ≤ sizeLine; decide, [.int i tk, y], .cons ⟨_, rfl⟩ (.cons ru .nil), ⟨_, hT2, rfl, _, rfl⟩⟩
    have I1 : Inv X pins σ (upd H s.heap.objs.size (.tup [.int (i : Nat), x])) { s with heap := h'', toks := tk + 1 } :=
      I.turnedNew (ch := [e, it]) (fun b ob hb q => (sb.2 b (fun z => hb (by simp [z]))).trans (hk b ob (fun z => hb (by simp [z])) (fun z => hb (by simp [z])) q)) hf (Nat.le_refl _) nw
    refine ⟨.ref s.heap.objs.size, _, I1, rfl, ⟨_, x, rfl, I.hok.fresh (Nat.le_refl _), rfl, fun ys hy => by rw [I.tuple_inj hy hq]; exact hx⟩, ⟨⟨y, ?_⟩, hst.1.at fun o q => (sb.2 it (Ne.symm hne)).trans q, hne, hea, hai⟩, fun b hb => ?_⟩
    · rw [show ((i + 1 : Nat) : Int) = (i : Int) + 1 by omega]
      exact he'
    · have hb' : b < s.heap.objs.size := by
        rcases (show b = e ∨ b = it by simpa using hb) with z | z
        · rw [z]; exact hel
        · rw [z]; exact hil
      rw [upd_ne (Nat.ne_of_lt hb')]
      exact (hf b hb).1
  done := by
    intro X hP hw hK hc i pins s σ H E I hf st hg
    subst hP hw hK
    obtain ⟨⟨old, he⟩, hit, hne, hea, hai⟩ := st
    obtain ⟨xs, hq, hx⟩ := hg
    obtain ⟨its, rv, p, hz⟩ := I.tuple hq
    obtain ⟨f0, f1, f2, f3, f4, f5⟩ := hf it (by simp)
    have hl := rv.length
    exact enumT_end (I.ok.hd hc) he hit p (by simp; omega) fun h' eb => ⟨rfl, I.turned (t' := s.toks) (fun b o hb q => eb b o hb q) f0 f1 f3 f4 f5⟩
  self := fun A i s Q E st h => let ⟨⟨_, he⟩, _⟩ := st; wpAny_pyIter_enum he h
/-- enumerate over a list or a tuple -/
def iEnumA (K : PySem.W.Frag) (ta : TA) : TI := fun σ H R => ta σ H fun vs H1 => ∃ a xs, vs = [.ref a] ∧ ((SqL K H1 a xs ∧ R (Ite K a) H1) ∨ (SqT K H1 a xs ∧ R (IteT K a) H1))
theorem pi_enumA {X : Cx} {e : Expr} {ta : TA} {p pos tpos : Pos} {elts : List Expr} {kk : Nat} (hg : Gl X "enumerate") (hm : X.mg "enumerate" = none) (ha : PA X [e] ta) (hs : starEach [e] X.env = [(false, eval e X.env)] := by rfl) :
    PI X (.Tuple elts kk tpos) (.Call (.Name "enumerate" p) [e] [] pos) (iEnumA X.K ta) := by
  refine ⟨fun pins s σ H R I h => Call_ (ld_blt I hg hm boot_enumerate (PyProof.Rows.callWith_type1 (thn (ha.run pos pins s σ H _ I h) fun us s1 ⟨vs, H1, I1, r1, q1⟩ => ?_) hs rfl))⟩
  obtain ⟨a, xs, ex, q1⟩ := q1
  subst ex
  cases r1 with
  | cons r rr =>
    cases rr
    cases r
    have fp : ∀ b ∈ [s1.heap.objs.size + 1, s1.heap.objs.size], FpOk X pins H1 b := fun b hb => by
      have hle : s1.heap.objs.size ≤ b := by
        rcases (show b = s1.heap.objs.size + 1 ∨ b = s1.heap.objs.size by simpa using hb) with z | z <;> omega
      exact I1.fpOk hle (I1.hok.fresh hle)
    rcases q1 with ⟨hq, q⟩ | ⟨hq, q⟩
    · obtain ⟨its, rv, p', hz⟩ := I1.list hq
      refine call_enumerate_list p'.isList fun h' he hit hsz hk => wpAny_pyIter_enum he ?_
      have I2 : Inv X pins σ H1 { s1 with heap := h' } := I1.kept (t' := s1.toks) hk
      exact ⟨s1.heap.objs.size + 1, [s1.heap.objs.size + 1, s1.heap.objs.size], _, _, H1, rfl, I2, turn_enum a (s1.heap.objs.size + 1) s1.heap.objs.size, ⟨⟨.none, he⟩, hit, Nat.succ_ne_self _⟩, fp, q⟩
    · obtain ⟨its, rv, p', hz⟩ := I1.tuple hq
      have hal : a < s1.heap.objs.size := by
        obtain ⟨o1, ho1, _⟩ := id p'
        exact Heap.lt_size ho1
      refine call_enum1 (begins_tuple a its.toArray) p' fun h' he hit hk => wpAny_pyIter_enum he ?_
      have I2 : Inv X pins σ H1 { s1 with heap := h' } := I1.kept (t' := s1.toks) hk
      exact ⟨s1.heap.objs.size + 1, [s1.heap.objs.size + 1, s1.heap.objs.size], _, _, H1, rfl, I2, turn_enumT a (s1.heap.objs.size + 1) s1.heap.objs.size, ⟨⟨.none, he⟩, ⟨_, hit, rfl, rfl⟩, Nat.succ_ne_self _, Nat.ne_of_gt (Nat.lt_succ_of_lt hal), Nat.ne_of_lt hal⟩, fp, q⟩
/-- the items with their places, as pairs -/
def enumD (ds : List D) : List D := (List.range ds.length).map fun i => .tup [.int (i : Nat), ds.getD i .non]
theorem enumD_get {ds : List D} {i : Nat} {d : D} (h : (enumD ds)[i]? = some d) : ∃ x, ds[i]? = some x ∧ d = .tup [.int (i : Nat), x] := by
  unfold enumD at h
  rw [List.getElem?_map] at h
  obtain ⟨j, hj, rfl⟩ := Option.map_eq_some_iff.mp h
  have hl : i < ds.length := by
    have := (List.getElem?_eq_some_iff.mp hj).1
    rwa [List.length_range] at this
  rw [List.getElem?_range hl] at hj
  cases hj
  exact ⟨ds[i], List.getElem?_eq_getElem hl, by rw [List.getD_eq_getElem?_getD, List.getElem?_eq_getElem hl]; rfl⟩
theorem enumD_len {ds : List D} : (enumD ds).length = ds.length := by simp [enumD]
theorem itd_enum {K : PySem.W.Frag} {B : Option Addr} {F : Hp} {p : Addr} {xs : List V} {ds : List D} (h : SqL K F p xs) (r : RpL K B F xs ds) : ItD K B F (enumD ds) (Ite K p) where
  go := fun i H e hi => by
    rw [enumD_len, ← r.length] at hi
    exact ⟨xs, xs[i], e.seq h, List.getElem?_eq_getElem _⟩
  stop := fun i H e hi => ⟨xs, e.seq h, by rw [enumD_len, ← r.length] at hi; exact hi⟩
  yld := fun i H v H' d e ⟨T, x, y1, y2, y3, y4⟩ hd => by
    obtain ⟨z, hz, rfl⟩ := enumD_get hd
    obtain ⟨v', hv, rv⟩ := r.get' hz
    have q := y4 xs (e.seq h)
    rw [hv] at q; cases q
    exact .inr ⟨T, _, _, y1, y2, y3, rfl, .cons (.int _) (.cons rv .nil)⟩
theorem itd_enumT {K : PySem.W.Frag} {B : Option Addr} {F : Hp} {p : Addr} {xs : List V} {ds : List D} (h : SqT K F p xs) (r : RpL K B F xs ds) : ItD K B F (enumD ds) (IteT K p) where
  go := fun i H e hi => by
    rw [enumD_len, ← r.length] at hi
    exact ⟨xs, xs[i], sqT_mono e h, List.getElem?_eq_getElem _⟩
  stop := fun i H e hi => ⟨xs, sqT_mono e h, by rw [enumD_len, ← r.length] at hi; exact hi⟩
  yld := fun i H v H' d e ⟨T, x, y1, y2, y3, y4⟩ hd => by
    obtain ⟨z, hz, rfl⟩ := enumD_get hd
    obtain ⟨v', hv, rv⟩ := r.get' hz
    have q := y4 xs (sqT_mono e h)
    rw [hv] at q; cases q
    exact .inr ⟨T, _, _, y1, y2, y3, rfl, .cons (.int _) (.cons rv .nil)⟩
@[simp] def uItE (u : UV) : UI := fun δ Q R => u δ (fun d δ1 => match seqD d with | some ds => Q (enumD ds) δ1 | none => False) R
theorem qi_enum {G : Gx} {W : WX} {X : Cx} {e : Expr} {u : UV} {p pos tpos : Pos} {elts : List Expr} {kk : Nat} (hg : Gl X "enumerate") (hm : X.mg "enumerate" = none) (h : QV G W X e u) (hk : X.K = G.K := by rfl) (hs : starEach [e] X.env = (false, eval e X.env) :: starEach [] X.env := by rfl) :
    QI G W X (.Tuple elts kk tpos) (.Call (.Name "enumerate" p) [e] [] pos) (uItE u) :=
  pi_mono (pi_enumA hg hm (qa_cons h qa_nil hs) (hs := by rw [hs]; rfl)) fun σ H R ⟨B, F, δ, Qd, Rd, rs, h, k, x⟩ => by
    refine ⟨B, F, δ, (fun ds δ1 => ∃ d, ds = [d] ∧ match seqD d with | some es => Qd (enumD es) δ1 | none => False), Rd, rs, ?_, fun ds δ1 ⟨d, e1, q⟩ B1 F1 H1 vs st1 rs1 r1 => ?_, x⟩
    · show u δ (fun d δ1 => ∃ d', [d] = [d'] ∧ _) Rd
      have hh : (fun (d : D) (δ1 : DE) => ∃ d', [d] = [d'] ∧ match seqD d' with | some es => Qd (enumD es) δ1 | none => False) = fun d δ1 => match seqD d with | some ds => Qd (enumD ds) δ1 | none => False := by
        funext d δ1
        exact propext ⟨fun ⟨d', e, q⟩ => by cases e; exact q, fun q => ⟨d, rfl, q⟩⟩
      rw [hh]
      exact h
    · subst e1
      obtain ⟨v, rfl, z⟩ := rpl1 r1
      rw [hk]
      cases z with
      | lst hp r => exact ⟨_, _, rfl, .inl ⟨rs1.sub.seq hp, k _ _ q B1 F1 H1 _ st1 rs1 (itd_enum hp r)⟩⟩
      | tup hp r => exact ⟨_, _, rfl, .inr ⟨sqT_mono rs1.sub hp, k _ _ q B1 F1 H1 _ st1 rs1 (itd_enumT hp r)⟩⟩
      | _ => exact False.elim q
end DL

set_option Elab.async false
set_option linter.all false
set_option maxRecDepth 100000
namespace DL
open PySem PySem.Spec PyProof.Rows L2
/-! ### rows of rational numbers, noughts at their end taken off -/
def cutN (p : List Rat) : Nat → Nat
  | 0 => 0
  | n + 1 => if p.getD n 0 = 0 then cutN p n else n + 1
def stripQ (p : List Rat) : List Rat := p.take (cutN p p.length)
def pD (p : List Rat) : D := .tup (p.map frq)
theorem cutN_le (p : List Rat) : ∀ n, cutN p n ≤ n
  | 0 => Nat.le_refl _
  | n + 1 => by
    unfold cutN
    split
    · exact Nat.le_succ_of_le (cutN_le p n)
    · exact Nat.le_refl _
theorem at_frq {p : List Rat} {n : Nat} (h : n < p.length) : atI (p.map frq) (n : Int) = some (frq (p.getD n 0)) := by
  unfold atI ixN
  rw [List.length_map, if_pos (Int.natCast_nonneg n), if_pos (by omega)]
  show (p.map frq)[(n : Int).toNat]? = _
  rw [Int.toNat_natCast, List.getElem?_map, List.getElem?_eq_getElem h, List.getD_eq_getElem?_getD, List.getElem?_eq_getElem h]
  rfl
theorem num_ix (q : Rat) (Q : D → Prop) : gIx (frq q) (.int 0) Q = Q (.int q.num) := rfl
theorem cut_take (ds : List D) (n : Nat) (h : n ≤ ds.length) : DL.cutD ds none (some (n : Int)) = ds.take n := by
  unfold DL.cutD
  rw [HT.sIx_nat, HT.sIx_none, List.drop_zero, Nat.sub_zero, Nat.min_eq_left h]
theorem row_ix {p : List Rat} {x : D} (hx : x = .lst (p.map frq) ∨ x = .tup (p.map frq)) {n : Nat} (h : n < p.length) (Q : D → Prop) : gIx x (.int n) Q = Q (frq (p.getD n 0)) := by
  have e := at_frq h
  rcases hx with rfl | rfl
  · show (match atI (p.map frq) (n : Int) with | some d => Q d | none => False) = _
    rw [e]
  · show (match atI (p.map frq) (n : Int) with | some d => Q d | none => False) = _
    rw [e]
theorem rats_of {P : Rat → Prop} : ∀ {ys : List D}, (∀ y ∈ ys, ∃ z, P z ∧ y = frq z) → ∃ p : List Rat, ys = p.map frq ∧ ∀ z ∈ p, P z
  | [], _ => ⟨[], rfl, fun _ h => nomatch h⟩
  | y :: ys, h => by
    obtain ⟨z, hz, rfl⟩ := h y (.head _)
    obtain ⟨p, rfl, hp⟩ := rats_of (ys := ys) fun y' h' => h y' (.tail _ h')
    refine ⟨z :: p, rfl, fun q hq => ?_⟩
    cases hq with
    | head => exact hz
    | tail _ hq => exact hp q hq
/-- the sum of two rows, noughts left on -/
def addQ (p q : List Rat) : List Rat := (List.range (max p.length q.length)).map fun i => p.getD i 0 + q.getD i 0
theorem addQ_len {p q : List Rat} : (addQ p q).length = max p.length q.length := by simp [addQ]
theorem addQ_take {p q : List Rat} {i : Nat} (h : i < max p.length q.length) : (addQ p q).take (i + 1) = (addQ p q).take i ++ [p.getD i 0 + q.getD i 0] := by
  rw [List.take_add_one]
  unfold addQ
  rw [List.getElem?_map, List.getElem?_range h]
  rfl
theorem getD_mem {p : List Rat} {P : Rat → Prop} (h : ∀ z ∈ p, P z) (h0 : P 0) (i : Nat) : P (p.getD i 0) := by
  rw [List.getD_eq_getElem?_getD]
  by_cases hi : i < p.length
  · rw [List.getElem?_eq_getElem hi]
    exact h _ (List.getElem_mem hi)
  · rw [List.getElem?_eq_none (by omega)]
    exact h0
theorem szq_zero {n : Nat} (h : 1 ≤ n := by decide) : SzQ n 0 := ⟨Nat.two_pow_pos n, Nat.lt_of_lt_of_le (by decide : 1 < 2 ^ 1) (Nat.pow_le_pow_right (by decide) h)⟩
theorem getD_off {p : List Rat} {i : Nat} (h : ¬ i < p.length) : p.getD i 0 = 0 := by
  rw [List.getD_eq_getElem?_getD, List.getElem?_eq_none (by omega)]
  rfl
theorem frq_zero : frq 0 = .tup [.int 0, .int 1] := rfl
theorem pD_ix {p : List Rat} {n : Nat} (h : n < p.length) (Q : D → Prop) : gIx (pD p) (.int n) Q = Q (frq (p.getD n 0)) := row_ix (.inr rfl) h Q
theorem pD_len (p : List Rat) (Q : D → Prop) : gLen [pD p] Q = gLen [.tup (p.map frq)] Q := rfl
theorem rgD_at {lo : Int} {n j : Nat} {d : D} (h : (rgD lo n)[j]? = some d) : j < n ∧ d = .int (lo + j) := by
  unfold rgD at h
  rw [List.getElem?_map] at h
  obtain ⟨i, hi, rfl⟩ := Option.map_eq_some_iff.mp h
  have hl : j < n := by
    have := (List.getElem?_eq_some_iff.mp hi).1
    rwa [List.length_range] at this
  rw [List.getElem?_range hl] at hi
  cases hi
  exact ⟨hl, rfl⟩
/-! ### products of rows, step by step as the law's own loops go -/
def rowAdd (r : List Rat) (i : Nat) (c : Rat) : List Rat := r.set i (r.getD i 0 + c)
def mulRow (q : List Rat) (c : Rat) (a : Nat) : Nat → List Rat → List Rat
  | 0, r => r
  | n + 1, r => rowAdd (mulRow q c a n r) (a + n) (c * q.getD n 0)
def mulN (p q : List Rat) : Nat → List Rat
  | 0 => List.replicate (p.length + q.length) 0
  | n + 1 => mulRow q (p.getD n 0) n q.length (mulN p q n)
def mulQ (p q : List Rat) : List Rat := mulN p q p.length
theorem mulRow_len {q : List Rat} {c : Rat} {a : Nat} {r : List Rat} : ∀ n, (mulRow q c a n r).length = r.length
  | 0 => rfl
  | n + 1 => by
    unfold mulRow rowAdd
    rw [List.length_set]
    exact mulRow_len n
theorem mulN_len {p q : List Rat} : ∀ n, (mulN p q n).length = p.length + q.length
  | 0 => by simp [mulN]
  | n + 1 => by
    unfold mulN
    rw [mulRow_len]
    exact mulN_len n
theorem rowAdd_get {r : List Rat} {i j : Nat} {c : Rat} : (rowAdd r i c).getD j 0 = if i = j ∧ i < r.length then r.getD i 0 + c else r.getD j 0 := by
  unfold rowAdd
  rw [List.getD_eq_getElem?_getD, List.getElem?_set]
  by_cases h : i = j
  · subst h
    by_cases h2 : i < r.length
    · simp [h2]
    · simp [h2]
  · simp [h]
theorem mulRow_off {q : List Rat} {c : Rat} {a : Nat} {r : List Rat} {j : Nat} : ∀ n, a + n ≤ j → (mulRow q c a n r).getD j 0 = r.getD j 0
  | 0, _ => rfl
  | n + 1, h => by
    unfold mulRow
    rw [rowAdd_get, if_neg (by omega)]
    exact mulRow_off n (by omega)
theorem mulRow_sz {q : List Rat} {c : Rat} {a m w : Nat} {r : List Rat} (hr : ∀ j, SzQ m (r.getD j 0)) (hq : ∀ j, SzQ w (c * q.getD j 0)) : ∀ n j, SzQ (m + w + 1) ((mulRow q c a n r).getD j 0)
  | 0, j => (hr j).mono (by omega)
  | n + 1, j => by
    unfold mulRow
    rw [rowAdd_get]
    split
    · rw [mulRow_off n (Nat.le_refl _)]
      exact (hr _).add (hq n)
    · exact mulRow_sz hr hq n j
theorem mulN_sz {p q : List Rat} {s : Nat} (hp : ∀ z ∈ p, SzQ s z) (hq : ∀ z ∈ q, SzQ s z) (hs : 1 ≤ s) : ∀ n j, SzQ (n * (2 * s + 1) + 1) ((mulN p q n).getD j 0)
  | 0, j => by
    unfold mulN
    rw [List.getD_eq_getElem?_getD, List.getElem?_replicate]
    split <;> exact szq_zero (by omega)
  | n + 1, j => by
    unfold mulN
    have e : (n + 1) * (2 * s + 1) + 1 = (n * (2 * s + 1) + 1) + (s + s) + 1 := by
      rw [Nat.succ_mul]; omega
    rw [e]
    exact mulRow_sz (mulN_sz hp hq hs n) (fun i => (getD_mem hp (szq_zero hs) n).mul (getD_mem hq (szq_zero hs) i)) _ _
theorem ixN_nat {n k : Nat} (h : k < n) : ixN n (k : Int) = some k := by
  unfold ixN
  rw [if_pos (Int.natCast_nonneg k), if_pos (by omega), Int.toNat_natCast]
theorem noughts (n : Nat) : ((rgD 0 n).filterMap fun _ => some (frq 0)) = (List.replicate n (0 : Rat)).map frq := by
  have e : ∀ ds : List D, (ds.filterMap fun _ => some (frq 0)) = (List.replicate ds.length (0 : Rat)).map frq := fun ds => by
    induction ds with
    | nil => rfl
    | cons d ds ih =>
      show frq 0 :: (ds.filterMap fun _ => some (frq 0)) = _
      rw [ih]; rfl
  rw [e, length_rgD]
/-! ### what the products are, place by place -/
theorem mulRow_get {q : List Rat} {c : Rat} {a : Nat} {r : List Rat} (hl : a + q.length ≤ r.length) : ∀ n j, n ≤ q.length → (mulRow q c a n r).getD j 0 = r.getD j 0 + if a ≤ j ∧ j < a + n then c * q.getD (j - a) 0 else 0
  | 0, j, _ => by
    rw [if_neg (by omega), Rat.add_zero]
    rfl
  | n + 1, j, h => by
    have ih := mulRow_get (c := c) hl n j (by omega)
    unfold mulRow
    rw [rowAdd_get, mulRow_len]
    by_cases hj : a + n = j
    · rw [if_pos ⟨hj, by omega⟩, hj, ih, if_neg (by omega), if_pos (by omega), Rat.add_zero]
      rw [show j - a = n by omega]
    · rw [if_neg (by omega), ih]
      by_cases h2 : a ≤ j ∧ j < a + n
      · rw [if_pos h2, if_pos (by omega)]
      · rw [if_neg h2, if_neg (by omega)]
theorem mulN_get {p q : List Rat} {n : Nat} (h : n < p.length) (j : Nat) : (mulN p q (n + 1)).getD j 0 = (mulN p q n).getD j 0 + if n ≤ j then p.getD n 0 * q.getD (j - n) 0 else 0 := by
  show (mulRow q (p.getD n 0) n q.length (mulN p q n)).getD j 0 = _
  rw [mulRow_get (by rw [mulN_len]; omega) _ _ (Nat.le_refl _)]
  by_cases h1 : n ≤ j
  · by_cases h2 : j < n + q.length
    · rw [if_pos ⟨h1, h2⟩, if_pos h1]
    · rw [if_neg (by omega), if_pos h1, getD_off (p := q) (by omega), Rat.mul_zero]
  · rw [if_neg (by omega), if_neg h1]
theorem mulN_zero {p q : List Rat} (j : Nat) : (mulN p q 0).getD j 0 = 0 := by
  unfold mulN
  rw [List.getD_eq_getElem?_getD, List.getElem?_replicate]
  split <;> rfl
theorem addQ_get {p q : List Rat} (j : Nat) : (addQ p q).getD j 0 = p.getD j 0 + q.getD j 0 := by
  by_cases h : j < max p.length q.length
  · unfold addQ
    rw [List.getD_eq_getElem?_getD, List.getElem?_map, List.getElem?_range h]
    rfl
  · rw [getD_off (by rw [addQ_len]; exact h), getD_off (by omega), getD_off (by omega), Rat.add_zero]
/-! ### stripped rows are told by their places -/
theorem cutN_top {p : List Rat} : ∀ n j, cutN p n ≤ j → j < n → p.getD j 0 = 0
  | 0, j, _, h => by omega
  | n + 1, j, h1, h2 => by
    unfold cutN at h1
    split at h1
    · rename_i hz
      by_cases e : j = n
      · rw [e]; exact hz
      · exact cutN_top n j h1 (by omega)
    · omega
theorem strip_get (p : List Rat) (j : Nat) : (stripQ p).getD j 0 = p.getD j 0 := by
  unfold stripQ
  rw [List.getD_eq_getElem?_getD, List.getElem?_take]
  by_cases h : j < cutN p p.length
  · rw [if_pos h, List.getD_eq_getElem?_getD]
  · rw [if_neg h]
    by_cases h2 : j < p.length
    · rw [cutN_top p.length j (by omega) h2]
      rfl
    · rw [getD_off h2]
      rfl
theorem cutN_ne {p : List Rat} : ∀ n m, cutN p n = m + 1 → p.getD m 0 ≠ 0
  | 0, m, h => by unfold cutN at h; omega
  | n + 1, m, h => by
    unfold cutN at h
    split at h
    · exact cutN_ne n m h
    · rename_i hz
      have e : n = m := by omega
      rw [← e]; exact hz
theorem strip_len (p : List Rat) : (stripQ p).length = cutN p p.length := by
  unfold stripQ
  rw [List.length_take]
  have := cutN_le p p.length
  omega
theorem strip_le (p : List Rat) : (stripQ p).length ≤ p.length := by
  rw [strip_len]
  exact cutN_le p _
theorem strip_short {p q : List Rat} (h : ∀ j, p.getD j 0 = q.getD j 0) : (stripQ q).length ≤ (stripQ p).length := by
  rcases Nat.lt_or_ge (stripQ p).length (stripQ q).length with lt | ge
  · exfalso
    have e : (stripQ q).length = ((stripQ q).length - 1) + 1 := by omega
    rw [strip_len q] at e
    have ne := cutN_ne _ _ e
    rw [← h, ← strip_get p, getD_off (by have := strip_len q; omega)] at ne
    exact ne rfl
  · exact ge
theorem strip_eq {p q : List Rat} (h : ∀ j, p.getD j 0 = q.getD j 0) : stripQ p = stripQ q := by
  refine List.ext_getElem (Nat.le_antisymm (strip_short fun j => (h j).symm) (strip_short h)) fun j h1 h2 => ?_
  have e := (strip_get p j).trans ((h j).trans (strip_get q j).symm)
  rw [List.getD_eq_getElem?_getD, List.getD_eq_getElem?_getD, List.getElem?_eq_getElem h1, List.getElem?_eq_getElem h2] at e
  exact e
theorem strip_strip (p : List Rat) : stripQ (stripQ p) = stripQ p := strip_eq fun j => strip_get p j
theorem strip_mem {p : List Rat} {P : Rat → Prop} (h : ∀ z ∈ p, P z) : ∀ z ∈ stripQ p, P z := fun z hz => h z (List.mem_of_mem_take hz)
end DL

set_option Elab.async false
set_option linter.all false
set_option maxRecDepth 100000
namespace DL
open PySem PySem.Spec PyProof.Rows L2
/-! ### division of rows -/
def convN (f q : List Rat) : Nat → Nat → Rat
  | 0, _ => 0
  | n + 1, j => convN f q n j + if n ≤ j then f.getD n 0 * q.getD (j - n) 0 else 0
theorem mulN_conv {p q : List Rat} : ∀ n j, n ≤ p.length → (mulN p q n).getD j 0 = convN p q n j
  | 0, j, _ => mulN_zero j
  | n + 1, j, h => by
    rw [mulN_get (by omega), mulN_conv n j (by omega)]
    rfl
theorem getD_set {f : List Rat} {a j : Nat} {c : Rat} (h : a < f.length) : (f.set a c).getD j 0 = if a = j then c else f.getD j 0 := by
  rw [List.getD_eq_getElem?_getD, List.getElem?_set]
  by_cases e : a = j
  · subst e
    simp [h]
  · simp [e]
theorem convN_set {f q : List Rat} {a : Nat} {c : Rat} (ha : a < f.length) (h0 : f.getD a 0 = 0) : ∀ n j, convN (f.set a c) q n j = convN f q n j + if a < n ∧ a ≤ j then c * q.getD (j - a) 0 else 0
  | 0, j => by
    rw [if_neg (by omega), Rat.add_zero]
    rfl
  | n + 1, j => by
    unfold convN
    rw [convN_set ha h0 n j, getD_set ha]
    by_cases e : a = n
    · subst e
      rw [if_neg (by omega), h0, Rat.add_zero, if_pos rfl, Rat.zero_mul]
      by_cases hj : a ≤ j
      · rw [if_pos hj, if_pos hj, if_pos ⟨by omega, hj⟩, Rat.add_zero]
      · rw [if_neg hj, if_neg hj, if_neg (by omega), Rat.add_zero, Rat.add_zero]
    · have e2 : (a < n + 1 ∧ a ≤ j) ↔ (a < n ∧ a ≤ j) := by omega
      rw [if_neg e]
      simp only [e2]
      generalize (if a < n ∧ a ≤ j then c * q.getD (j - a) 0 else 0 : Rat) = x
      generalize (if n ≤ j then f.getD n 0 * q.getD (j - n) 0 else 0 : Rat) = y
      grind
/-- one turn of the loop: at the place a -/
def divC (q : List Rat) (a : Nat) (r : List Rat) : Rat := r.getD (a + q.length - 1) 0 / q.getD (q.length - 1) 0
def divN (q : List Rat) : Nat → List Rat → List Rat → List Rat × List Rat
  | 0, f, r => (f, r)
  | n + 1, f, r => divN q n (f.set n (divC q n r)) (mulRow q (-divC q n r) n q.length r)
/-- what is told put together is what was asked -/
theorem divN_sum {q : List Rat} : ∀ (n : Nat) (f r : List Rat) (j : Nat), n ≤ f.length → f.length + q.length ≤ r.length + 1 → 1 ≤ q.length → (∀ a, a < n → f.getD a 0 = 0) →
    convN (divN q n f r).1 q f.length j + (divN q n f r).2.getD j 0 = convN f q f.length j + r.getD j 0
  | 0, f, r, j, _, _, _, _ => rfl
  | n + 1, f, r, j, h1, h2, h3, h4 => by
    unfold divN
    have ih := divN_sum (q := q) n (f.set n (divC q n r)) (mulRow q (-divC q n r) n q.length r) j (by rw [List.length_set]; omega) (by rw [List.length_set, mulRow_len]; omega) h3 (fun a ha => by
      rw [getD_set (by omega), if_neg (by omega)]
      exact h4 a (by omega))
    rw [List.length_set] at ih
    rw [ih, convN_set (by omega) (h4 n (by omega)), mulRow_get (by omega) _ _ (Nat.le_refl _)]
    by_cases hj : n ≤ j
    · rw [if_pos ⟨by omega, hj⟩]
      by_cases hk : j < n + q.length
      · rw [if_pos ⟨hj, hk⟩]
        grind
      · rw [if_neg (by omega), getD_off (p := q) (by omega)]
        grind
    · rw [if_neg (by omega), if_neg (by omega)]
      grind
theorem divN_far {q : List Rat} (h3 : 1 ≤ q.length) : ∀ (n : Nat) (f r : List Rat) (j : Nat), n + q.length ≤ r.length + 1 → n + q.length ≤ j + 1 → (divN q n f r).2.getD j 0 = r.getD j 0
  | 0, f, r, j, _, _ => rfl
  | n + 1, f, r, j, h1, h2 => by
    unfold divN
    rw [divN_far h3 n _ _ j (by rw [mulRow_len]; omega) (by omega), mulRow_get (by omega) _ _ (Nat.le_refl _), if_neg (by omega), Rat.add_zero]
/-- the rest is shorter than what it was shared by -/
theorem divN_top {q : List Rat} (h3 : 1 ≤ q.length) (hq : q.getD (q.length - 1) 0 ≠ 0) : ∀ (n : Nat) (f r : List Rat) (j : Nat), n + q.length ≤ r.length + 1 → q.length ≤ j + 1 → j + 1 < n + q.length → (divN q n f r).2.getD j 0 = 0
  | 0, f, r, j, _, h2, h4 => by omega
  | n + 1, f, r, j, h1, h2, h4 => by
    unfold divN
    by_cases hj : j + 1 < n + q.length
    · exact divN_top h3 hq n _ _ j (by rw [mulRow_len]; omega) h2 hj
    · have e : j = n + q.length - 1 := by omega
      rw [divN_far h3 n _ _ j (by rw [mulRow_len]; omega) (by omega), mulRow_get (by omega) _ _ (Nat.le_refl _), if_pos (by omega), show j - n = q.length - 1 by omega]
      unfold divC
      rw [← e, Rat.neg_mul, Rat.div_mul_cancel hq]
      grind
/-! ### the rest is told by the two rows alone -/
theorem conv_far {h q : List Rat} : ∀ n j, n + q.length ≤ j + 1 → convN h q n j = 0
  | 0, j, _ => rfl
  | n + 1, j, e => by
    unfold convN
    rw [conv_far n j (by omega), if_pos (by omega), getD_off (p := q) (by omega)]
    grind
theorem conv_zero {h q : List Rat} (h3 : 1 ≤ q.length) (hq : q.getD (q.length - 1) 0 ≠ 0) : ∀ n, (∀ j, q.length ≤ j + 1 → convN h q n j = 0) → ∀ j, convN h q n j = 0
  | 0, _, j => rfl
  | n + 1, e, j => by
    have top := e (n + q.length - 1) (by omega)
    unfold convN at top
    rw [conv_far n _ (by omega), if_pos (by omega), show n + q.length - 1 - n = q.length - 1 by omega, Rat.zero_add] at top
    have z : h.getD n 0 = 0 := (Rat.mul_eq_zero.mp top).resolve_right hq
    have same : ∀ j, convN h q (n + 1) j = convN h q n j := fun j => by
      show convN h q n j + _ = _
      rw [z, Rat.zero_mul, ite_self, Rat.add_zero]
    rw [same]
    exact conv_zero h3 hq n (fun j hj => by rw [← same]; exact e j hj) j
def difQ (f g : List Rat) (n : Nat) : List Rat := (List.range n).map fun i => f.getD i 0 - g.getD i 0
theorem difQ_get {f g : List Rat} {n i : Nat} (h : i < n) : (difQ f g n).getD i 0 = f.getD i 0 - g.getD i 0 := by
  unfold difQ
  rw [List.getD_eq_getElem?_getD, List.getElem?_map, List.getElem?_range h]
  rfl
theorem conv_dif {f g q : List Rat} {m : Nat} (j : Nat) : ∀ n, n ≤ m → convN (difQ f g m) q n j = convN f q n j - convN g q n j
  | 0, _ => by
    show (0 : Rat) = 0 - 0
    grind
  | n + 1, h => by
    unfold convN
    rw [conv_dif j n (by omega), difQ_get (by omega)]
    split <;> grind
theorem conv_ext {f q : List Rat} (j : Nat) : ∀ n, f.length ≤ n → convN f q n j = convN f q f.length j
  | 0, h => by rw [show f.length = 0 by omega]
  | n + 1, h => by
    by_cases e : f.length = n + 1
    · rw [e]
    · show convN f q n j + _ = _
      rw [conv_ext j n (by omega), getD_off (p := f) (by omega), Rat.zero_mul, ite_self, Rat.add_zero]
/-- two rests of one sharing are alike -/
theorem rest_one {f g q r s : List Rat} (h3 : 1 ≤ q.length) (hq : q.getD (q.length - 1) 0 ≠ 0) (e : ∀ j, convN f q f.length j + r.getD j 0 = convN g q g.length j + s.getD j 0) (hr : ∀ j, q.length ≤ j + 1 → r.getD j 0 = 0) (hs : ∀ j, q.length ≤ j + 1 → s.getD j 0 = 0) :
    ∀ j, r.getD j 0 = s.getD j 0 := fun j => by
  have d : ∀ j, convN (difQ f g (max f.length g.length)) q (max f.length g.length) j = s.getD j 0 - r.getD j 0 := fun j => by
    rw [conv_dif j _ (Nat.le_refl _), conv_ext (f := f) j _ (Nat.le_max_left ..), conv_ext (f := g) j _ (Nat.le_max_right ..)]
    have := e j
    grind
  have z := conv_zero h3 hq _ (fun j hj => by rw [d, hr j hj, hs j hj]; grind) j
  rw [d] at z
  grind
end DL

set_option Elab.async false
set_option maxRecDepth 100000
set_option linter.all false
namespace DL
open PySem PySem.Spec PyProof.Rows L2
theorem lay_rows : ∀ p : List Rat, PyData.canLayAll0 (D.pyL (p.map frq)) = true
  | [] => rfl
  | q :: p => by
    simp [D.pyL, frq, D.py, PyData.canLayAll0, PyData.canLay0]
    exact lay_rows p
theorem eqv_nil (p : List Rat) : PyData.eqv (pD p).py (D.tup []).py = decide (p = []) := by
  cases p <;> simp [pD, D.py, D.pyL, PyData.eqv, PyData.eqvAll]
theorem depth_rows : ∀ p : List Rat, PyData.depthAll (D.pyL (p.map frq)) ≤ 1
  | [] => by simp [D.pyL, PyData.depthAll]
  | q :: p => by
    have ih := depth_rows p
    simp [D.pyL, frq, D.py, PyData.depthAll, PyData.depth]
    omega
theorem shaped_pD (p : List Rat) : SeqAt.shaped (pD p).py = true := by
  have h1 := lay_rows p
  have h2 := depth_rows p
  unfold pD
  simp only [D.py, SeqAt.shaped, PyData.canLay0, PyData.depth, Bool.and_eq_true, decide_eq_true_eq]
  exact ⟨h1, by omega⟩
theorem eqv_rows : ∀ p : List Rat, PyData.eqvAll (D.pyL (p.map frq)) (D.pyL (p.map frq)) = true
  | [] => by simp [D.pyL, PyData.eqvAll]
  | q :: p => by
    have ih := eqv_rows p
    simp [D.pyL, frq, D.py, PyData.eqvAll, PyData.eqv]
    exact ih
/-- one == (), of a row -/
theorem eq_nil (p : List Rat) {Q : D → Prop} (q : Q (.bl (decide (p = [])))) : gEq (pD p) (.tup []) Q :=
  ⟨shaped_pD p, shaped_pD [], by
    show Q (.bl (PyData.eqv (pD p).py (D.tup []).py))
    rw [eqv_nil]; exact q⟩
/-- one != one, of a row -/
theorem ne_self (p : List Rat) {Q : D → Prop} (q : Q (.bl false)) : gNe (pD p) (pD p) Q :=
  ⟨shaped_pD p, shaped_pD p, by
    have e : PyData.eqv (pD p).py (pD p).py = true := by
      unfold pD
      simp only [D.py, PyData.eqv]
      exact eqv_rows p
    show Q (.bl (!PyData.eqv (pD p).py (pD p).py))
    rw [e]; exact q⟩
end DL

set_option Elab.async false
set_option linter.all false
set_option maxRecDepth 100000
namespace DL
open PySem PySem.Spec PyProof.Rows L2
/-! ### sizes of the rests -/
theorem SzQ.div {m n : Nat} {p q : Rat} (hp : SzQ m p) (hq : SzQ n q) (h : q ≠ 0) : SzQ (m + n) (p / q) := by
  have hn : q.num ≠ 0 := fun z => h (Rat.num_eq_zero.mp z)
  have e : p / q = Rat.divInt (p.num * q.den) (p.den * q.num) := by
    rw [← Rat.divInt_mul_divInt, Rat.num_divInt_den, ← Rat.inv_divInt, Rat.num_divInt_den, Rat.div_def]
  rw [e]
  exact szq_divInt (Int.mul_ne_zero (den_ne p) hn) (hp.1.mulB hq.2) (hp.2.mulB hq.1)
/-- bits behind n turns -/
def bits (s : Nat) : Nat → Nat → Nat
  | 0, b => b
  | n + 1, b => bits s n (2 * b + 2 * s + 1)
theorem bits_le {s : Nat} : ∀ n b, b ≤ bits s n b
  | 0, b => Nat.le_refl _
  | n + 1, b => by
    have := bits_le (s := s) n (2 * b + 2 * s + 1)
    unfold bits
    omega
theorem turn_sz {q r : List Rat} {s b a : Nat} (hr : ∀ j, SzQ b (r.getD j 0)) (hq : ∀ j, SzQ s (q.getD j 0)) (h : q.getD (q.length - 1) 0 ≠ 0) : ∀ n j, SzQ (2 * b + 2 * s + 1) ((mulRow q (-divC q a r) a n r).getD j 0) := fun n j => by
  have hc : SzQ (b + s) (-divC q a r) := ((hr _).div (hq _) h).neg
  exact (mulRow_sz hr (fun i => hc.mul (hq i)) n j).mono (by omega)
/-- a turn without a share changes nothing -/
theorem mulRow_nought {q : List Rat} {a : Nat} {r : List Rat} : ∀ n, a + n ≤ r.length → mulRow q 0 a n r = r
  | 0, _ => rfl
  | n + 1, h => by
    unfold mulRow
    rw [mulRow_nought n (by omega)]
    unfold rowAdd
    rw [Rat.zero_mul, Rat.add_zero, List.getD_eq_getElem?_getD, List.getElem?_eq_getElem (by omega)]
    exact List.set_getElem_self (by omega)
end DL

set_option Elab.async false
set_option linter.all false
set_option maxRecDepth 100000
namespace DL
open PySem PySem.Spec PyProof.Rows L2
/-! ### sizes over one denominator -/
def Cd (D : Int) (m : Nat) (x : Rat) : Prop := ∃ n : Int, x = Rat.divInt n D ∧ Sz m n
theorem Cd.mul {D E : Int} {m k : Nat} {x y : Rat} : Cd D m x → Cd E k y → Cd (D * E) (m + k) (x * y)
  | ⟨a, e1, h1⟩, ⟨b, e2, h2⟩ => ⟨a * b, by rw [e1, e2, Rat.divInt_mul_divInt], h1.mulB h2⟩
theorem Cd.mono {D : Int} {m k : Nat} {x : Rat} (h : Cd D m x) (e : m ≤ k) : Cd D k x := by
  obtain ⟨a, e1, h1⟩ := h
  exact ⟨a, e1, h1.mono e⟩
theorem Cd.add {D : Int} {m : Nat} {x y : Rat} (hD : D ≠ 0) : Cd D m x → Cd D m y → Cd D (m + 1) (x + y)
  | ⟨a, e1, h1⟩, ⟨b, e2, h2⟩ => ⟨a + b, by rw [e1, e2, Rat.divInt_add_divInt _ _ hD hD, ← Int.add_mul, Rat.divInt_mul_right hD], h1.addB h2⟩
theorem Cd.neg {D : Int} {m : Nat} {x : Rat} : Cd D m x → Cd D m (-x)
  | ⟨a, e1, h1⟩ => ⟨-a, by rw [e1, Rat.neg_divInt], h1.neg⟩
theorem Cd.zero {D : Int} {m : Nat} : Cd D m 0 := ⟨0, by rw [Rat.zero_divInt], Nat.two_pow_pos m⟩
theorem Cd.lift {D E : Int} {m e : Nat} {x : Rat} (hE : E ≠ 0) (he : Sz e E) : Cd D m x → Cd (D * E) (m + e) x
  | ⟨a, e1, h1⟩ => ⟨a * E, by rw [e1, Rat.divInt_mul_right hE], h1.mulB he⟩
/-- a share of two rows' tops, and the share times a thing of the second row -/
theorem share_eq {a D n E : Int} (hD : D ≠ 0) (hn : n ≠ 0) (hE : E ≠ 0) : Rat.divInt a D / Rat.divInt n E = Rat.divInt (a * E) (D * n) := by
  rw [Rat.div_def, Rat.inv_divInt, Rat.divInt_mul_divInt]
theorem Cd.share {D n E : Int} {m e : Nat} {x : Rat} (hD : D ≠ 0) (hn : n ≠ 0) (hE : E ≠ 0) (he : Sz e E) : Cd D m x → Cd (D * n) (m + e) (x / Rat.divInt n E)
  | ⟨a, e1, h1⟩ => ⟨a * E, by rw [e1, share_eq hD hn hE], h1.mulB he⟩
theorem Cd.shareMul {D n E : Int} {m s : Nat} {x y : Rat} (hD : D ≠ 0) (hn : n ≠ 0) (hE : E ≠ 0) : Cd D m x → Cd E s y → Cd (D * n) (m + s) (x / Rat.divInt n E * y)
  | ⟨a, e1, h1⟩, ⟨b, e2, h2⟩ => ⟨a * b, by
    rw [e1, e2, share_eq hD hn hE, Rat.divInt_mul_divInt, show a * E * b = a * b * E by ac_rfl, Rat.divInt_mul_right hE], h1.mulB h2⟩
theorem cd840 {x : Rat} (h : Sz 3 x.num) (h2 : Sz 3 x.den) : Cd 840 13 x := by
  have hd : x.den < 8 := by
    unfold Sz at h2
    omega
  have h0 := x.den_nz
  have : x.den ∣ 840 := by
    generalize x.den = d at *
    have : d = 1 ∨ d = 2 ∨ d = 3 ∨ d = 4 ∨ d = 5 ∨ d = 6 ∨ d = 7 := by omega
    rcases this with rfl | rfl | rfl | rfl | rfl | rfl | rfl <;> decide
  obtain ⟨k, hk⟩ := this
  have hk0 : (k : Int) ≠ 0 := by
    intro z
    have : k = 0 := by omega
    rw [this] at hk
    omega
  refine ⟨x.num * k, ?_, h.mulB (n := 10) ?_⟩
  · rw [show (840 : Int) = (x.den : Int) * k by omega, Rat.divInt_mul_right hk0, Rat.num_divInt_den]
  · unfold Sz
    have : k ≤ 840 := by
      rw [hk]
      exact Nat.le_mul_of_pos_left k (by omega)
    omega
theorem Cd.szq {D : Int} {m b : Nat} {x : Rat} (h : Cd D m x) (hD : D ≠ 0) (sD : Sz b D) (hm : m ≤ b) : SzQ b x := by
  obtain ⟨a, e1, h1⟩ := h
  rw [e1]
  exact szq_divInt hD (h1.mono hm) sD
theorem mulRow_get' {q : List Rat} {c : Rat} {a : Nat} {r : List Rat} {j : Nat} : ∀ n, (mulRow q c a n r).getD j 0 = r.getD j 0 ∨ ∃ i, i < n ∧ a + i = j ∧ (mulRow q c a n r).getD j 0 = r.getD j 0 + c * q.getD i 0
  | 0 => .inl rfl
  | n + 1 => by
    unfold mulRow
    rw [rowAdd_get]
    split
    · rename_i h
      obtain ⟨h, _⟩ := h
      rw [mulRow_off n (Nat.le_refl _)]
      exact .inr ⟨n, Nat.lt_succ_self n, h, by rw [h]⟩
    · rcases mulRow_get' (q := q) (c := c) (a := a) (r := r) (j := j) n with h | ⟨i, h1, h2, h3⟩
      · exact .inl h
      · exact .inr ⟨i, by omega, h2, h3⟩
theorem mulRow_cd {q : List Rat} {c : Rat} {a m : Nat} {r : List Rat} {D : Int} (hD : D ≠ 0) (hr : ∀ j, Cd D m (r.getD j 0)) (hq : ∀ j, Cd D m (c * q.getD j 0)) (n j : Nat) : Cd D (m + 1) ((mulRow q c a n r).getD j 0) := by
  rcases mulRow_get' (q := q) (c := c) (a := a) (r := r) (j := j) n with h | ⟨i, h1, h2, h3⟩
  · rw [h]; exact (hr j).mono (by omega)
  · rw [h3]; exact (hr j).add hD (hq i)
theorem mulN_cd {p q : List Rat} {D E : Int} {m k : Nat} (hD : D ≠ 0) (hE : E ≠ 0) (hp : ∀ j, Cd D m (p.getD j 0)) (hq : ∀ j, Cd E k (q.getD j 0)) : ∀ n j, Cd (D * E) (m + k + n) ((mulN p q n).getD j 0)
  | 0, j => by
    rw [mulN_zero]
    exact Cd.zero
  | n + 1, j => by
    show Cd (D * E) (m + k + n + 1) ((mulRow q (p.getD n 0) n q.length (mulN p q n)).getD j 0)
    exact mulRow_cd (Int.mul_ne_zero hD hE) (mulN_cd hD hE hp hq n) (fun i => ((hp n).mul (hq i)).mono (by omega)) _ _
theorem conv_cd {p q : List Rat} {D E : Int} {m k : Nat} (hD : D ≠ 0) (hE : E ≠ 0) (hp : ∀ j, Cd D m (p.getD j 0)) (hq : ∀ j, Cd E k (q.getD j 0)) (n j : Nat) (hn : n ≤ p.length) : Cd (D * E) (m + k + n) (convN p q n j) := by
  rw [← mulN_conv n j hn]
  exact mulN_cd hD hE hp hq n j
/-- the sizes a product wants -/
def MulOk (p q : List Rat) : Prop := (∀ i, SzQ 44000000 (p.getD i 0)) ∧ (∀ i, SzQ 44000000 (q.getD i 0)) ∧ (∀ a i, SzQ 44000000 (p.getD a 0 * q.getD i 0)) ∧ ∀ a j, a < p.length → SzQ 44000000 (convN p q a j)
theorem mulOk_cd {p q : List Rat} {D E : Int} {d e m k : Nat} (hD : D ≠ 0) (hE : E ≠ 0) (sD : Sz d D) (sE : Sz e E) (hp : ∀ j, Cd D m (p.getD j 0)) (hq : ∀ j, Cd E k (q.getD j 0)) (h1 : d + e ≤ 44000000) (h2 : m + k + p.length ≤ 44000000) : MulOk p q :=
  have hDE := Int.mul_ne_zero hD hE
  have sDE : Sz 44000000 (D * E) := (sD.mulB sE).mono h1
  ⟨fun i => (hp i).szq hD (sD.mono (by omega)) (by omega), fun i => (hq i).szq hE (sE.mono (by omega)) (by omega), fun a i => ((hp a).mul (hq i)).szq hDE sDE (by omega),
    fun a j ha => (conv_cd hD hE hp hq a j (by omega)).szq hDE sDE (by omega)⟩
theorem mulQ_cd {p q : List Rat} {D E : Int} {m k : Nat} (hD : D ≠ 0) (hE : E ≠ 0) (hp : ∀ j, Cd D m (p.getD j 0)) (hq : ∀ j, Cd E k (q.getD j 0)) (j : Nat) : Cd (D * E) (m + k + p.length) ((mulQ p q).getD j 0) := mulN_cd hD hE hp hq p.length j
/-- the sizes a division wants -/
def DivOk (q : List Rat) : Nat → List Rat → Prop
  | 0, _ => True
  | n + 1, r => (∀ j, SzQ 44000000 (r.getD j 0)) ∧ SzQ 44000000 (divC q n r) ∧ (∀ i, SzQ 44000000 (-divC q n r * q.getD i 0)) ∧ DivOk q n (mulRow q (-divC q n r) n q.length r)
section
variable {q : List Rat} {E t : Int} {e s : Nat} (hE : E ≠ 0) (ht : t ≠ 0) (sE : Sz e E) (st : Sz s t) (hq : ∀ j, Cd E s (q.getD j 0)) (top : q.getD (q.length - 1) 0 = Rat.divInt t E)
include hE ht hq top
theorem turn_cd {D : Int} {m : Nat} {r : List Rat} {n : Nat} (hD : D ≠ 0) (hr : ∀ j, Cd D m (r.getD j 0)) : ∀ i, Cd (D * t) (m + s) (-divC q n r * q.getD i 0) := fun i => by
  rw [Rat.neg_mul]
  refine Cd.neg ?_
  unfold divC
  rw [top]
  exact (hr _).shareMul hD ht hE (hq i)
include sE
theorem divC_cd {D : Int} {m : Nat} {r : List Rat} {n : Nat} (hD : D ≠ 0) (hr : ∀ j, Cd D m (r.getD j 0)) : Cd (D * t) (m + e) (divC q n r) := by
  unfold divC
  rw [top]
  exact (hr _).share hD ht hE sE
include st
theorem step_cd {D : Int} {m : Nat} {r : List Rat} {n : Nat} (hD : D ≠ 0) (hr : ∀ j, Cd D m (r.getD j 0)) : ∀ j, Cd (D * t) (m + s + 1) ((mulRow q (-divC q n r) n q.length r).getD j 0) := fun j =>
  mulRow_cd (Int.mul_ne_zero hD ht) (fun j => (hr j).lift ht st) (turn_cd hE ht hq top hD hr) _ _
theorem divOk_cd : ∀ (n : Nat) {D : Int} {d m : Nat} {r : List Rat}, D ≠ 0 → Sz d D → (∀ j, Cd D m (r.getD j 0)) → d + n * s ≤ 44000000 → m + n * (s + 1) + e ≤ 44000000 → DivOk q n r
  | 0, _, _, _, _, _, _, _, _, _ => True.intro
  | n + 1, D, d, m, r, hD, sD, hr, h1, h2 => by
    have a1 : (n + 1) * s = n * s + s := Nat.succ_mul ..
    have a2 : (n + 1) * (s + 1) = n * (s + 1) + (s + 1) := Nat.succ_mul ..
    have hDt := Int.mul_ne_zero hD ht
    have sDt := sD.mulB st
    exact ⟨fun j => (hr j).szq hD (sD.mono (by omega)) (by omega), (divC_cd hE ht sE hq top hD hr).szq hDt (sDt.mono (by omega)) (by omega), fun i => (turn_cd hE ht hq top hD hr i).szq hDt (sDt.mono (by omega)) (by omega),
      divOk_cd n hDt sDt (step_cd hE ht sE st hq top hD hr) (by omega) (by omega)⟩
theorem divN_cd : ∀ (n : Nat) {D : Int} {m : Nat} {f r : List Rat}, D ≠ 0 → n ≤ f.length → (∀ j, Cd D m (r.getD j 0)) → (∀ j, Cd D (m + e) (f.getD j 0)) → (∀ j, Cd (D * t ^ n) (m + n * (s + 1) + e) ((divN q n f r).1.getD j 0)) ∧ ∀ j, Cd (D * t ^ n) (m + n * (s + 1)) ((divN q n f r).2.getD j 0)
  | 0, D, m, f, r, hD, _, hr, hf => by
    rw [Int.pow_zero, Int.mul_one]
    exact ⟨fun j => (hf j).mono (by omega), fun j => (hr j).mono (by omega)⟩
  | n + 1, D, m, f, r, hD, hn, hr, hf => by
    have a2 : (n + 1) * (s + 1) = n * (s + 1) + (s + 1) := Nat.succ_mul ..
    have ih := divN_cd n (f := f.set n (divC q n r)) (Int.mul_ne_zero hD ht) (by rw [List.length_set]; omega) (step_cd (n := n) hE ht sE st hq top hD hr) (fun j => by
      rw [getD_set (by omega)]
      split
      · exact (divC_cd hE ht sE hq top hD hr).mono (by omega)
      · exact ((hf j).lift ht st).mono (by omega))
    rw [Int.pow_succ, Int.mul_comm (t ^ n) t, ← Int.mul_assoc, a2]
    exact ⟨fun j => (ih.1 j).mono (by omega), fun j => (ih.2 j).mono (by omega)⟩
end
/-- a multiple of a row, a share of it more -/
def moreQ (h : List Rat) (a : Nat) (c : Rat) : List Rat := (List.range (max h.length (a + 1))).map fun i => h.getD i 0 + if i = a then c else 0
theorem moreQ_get {h : List Rat} {a i : Nat} {c : Rat} (hi : i < max h.length (a + 1)) : (moreQ h a c).getD i 0 = h.getD i 0 + if i = a then c else 0 := by
  unfold moreQ
  rw [List.getD_eq_getElem?_getD, List.getElem?_map, List.getElem?_range hi]
  rfl
theorem conv_moreN {h q : List Rat} {a : Nat} {c : Rat} {j : Nat} : ∀ n, n ≤ max h.length (a + 1) → convN (moreQ h a c) q n j = convN h q n j + if a < n ∧ a ≤ j then c * q.getD (j - a) 0 else 0
  | 0, _ => by
    rw [if_neg (by omega), Rat.add_zero]
    rfl
  | n + 1, hn => by
    unfold convN
    rw [conv_moreN n (by omega), moreQ_get (by omega)]
    by_cases e : n = a
    · subst e
      rw [if_neg (by omega : ¬ (n < n ∧ n ≤ j)), if_pos rfl]
      by_cases hj : n ≤ j
      · rw [if_pos hj, if_pos hj, if_pos ⟨by omega, hj⟩]
        grind
      · rw [if_neg hj, if_neg hj, if_neg (by omega)]
    · have e2 : (a < n + 1 ∧ a ≤ j) ↔ (a < n ∧ a ≤ j) := by omega
      rw [if_neg e, Rat.add_zero]
      simp only [e2]
      generalize (if a < n ∧ a ≤ j then c * q.getD (j - a) 0 else 0 : Rat) = x
      generalize (if n ≤ j then h.getD n 0 * q.getD (j - n) 0 else 0 : Rat) = y
      grind
theorem conv_more {h q : List Rat} {a : Nat} {c : Rat} (j : Nat) : convN (moreQ h a c) q (moreQ h a c).length j = convN h q h.length j + if a ≤ j then c * q.getD (j - a) 0 else 0 := by
  have l : (moreQ h a c).length = max h.length (a + 1) := by simp [moreQ]
  rw [l, conv_moreN _ (Nat.le_refl _), conv_ext (f := h) j _ (Nat.le_max_left ..)]
  by_cases hj : a ≤ j
  · rw [if_pos hj, if_pos ⟨by omega, hj⟩]
  · rw [if_neg hj, if_neg (by omega)]
theorem conv_get {f g q : List Rat} (h : ∀ i, f.getD i 0 = g.getD i 0) {j : Nat} : ∀ n, convN f q n j = convN g q n j
  | 0 => rfl
  | n + 1 => by
    unfold convN
    rw [conv_get h n, h]
theorem conv_zeros {q : List Rat} {m j : Nat} : ∀ n, convN (List.replicate m 0) q n j = 0
  | 0 => rfl
  | n + 1 => by
    unfold convN
    have e : (List.replicate m (0 : Rat)).getD n 0 = 0 := by
      rw [List.getD_eq_getElem?_getD, List.getElem?_replicate]
      split <;> rfl
    rw [conv_zeros n, e, Rat.zero_mul, ite_self, Rat.add_zero]
theorem rep_get {m n : Nat} : (List.replicate m (0 : Rat)).getD n 0 = 0 := by
  rw [List.getD_eq_getElem?_getD, List.getElem?_replicate]
  split <;> rfl
/-- the pair that a division tells -/
def quoQ (p q : List Rat) : List Rat := (divN q (p.length + 1 - q.length) (List.replicate (p.length + 1 - q.length) 0) p).1
def remQ (p q : List Rat) : List Rat := (divN q (p.length + 1 - q.length) (List.replicate (p.length + 1 - q.length) 0) p).2
theorem divN_len1 {q : List Rat} : ∀ n f r, (divN q n f r).1.length = f.length
  | 0, f, r => rfl
  | n + 1, f, r => by
    unfold divN
    rw [divN_len1 n, List.length_set]
theorem divN_len2 {q : List Rat} : ∀ n f r, (divN q n f r).2.length = r.length
  | 0, f, r => rfl
  | n + 1, f, r => by
    unfold divN
    rw [divN_len2 n, mulRow_len]
theorem quo_len {p q : List Rat} : (quoQ p q).length = p.length + 1 - q.length := by
  unfold quoQ
  rw [divN_len1, List.length_replicate]
theorem rem_len {p q : List Rat} : (remQ p q).length = p.length := divN_len2 ..
theorem div_sum {p q : List Rat} (h3 : 1 ≤ q.length) (j : Nat) : convN (quoQ p q) q (quoQ p q).length j + (remQ p q).getD j 0 = p.getD j 0 := by
  by_cases h : q.length ≤ p.length
  · have e := divN_sum (q := q) (p.length + 1 - q.length) (List.replicate (p.length + 1 - q.length) 0) p j (by simp) (by rw [List.length_replicate]; omega) h3 (fun a _ => rep_get)
    rw [conv_zeros, Rat.zero_add, List.length_replicate] at e
    rw [quo_len]
    exact e
  · have z : p.length + 1 - q.length = 0 := by omega
    rw [quo_len]
    unfold quoQ remQ
    rw [z]
    show (0 : Rat) + _ = _
    rw [Rat.zero_add]
    rfl
theorem rem_top {p q : List Rat} (h3 : 1 ≤ q.length) (hq : q.getD (q.length - 1) 0 ≠ 0) (j : Nat) (hj : q.length ≤ j + 1) : (remQ p q).getD j 0 = 0 := by
  by_cases h : q.length ≤ p.length
  · by_cases h2 : j < p.length
    · exact divN_top h3 hq _ _ _ _ (by omega) hj (by omega)
    · exact getD_off (by rw [rem_len]; exact h2)
  · exact getD_off (by rw [rem_len]; omega)
/-- one turn of another division: at the row's end -/
theorem dropLast_get {r : List Rat} {j : Nat} (h : r.getD (r.length - 1) 0 = 0) : r.dropLast.getD j 0 = r.getD j 0 := by
  rw [List.getD_eq_getElem?_getD, List.getElem?_dropLast]
  by_cases hj : j < r.length - 1
  · rw [if_pos hj, List.getD_eq_getElem?_getD]
  · rw [if_neg hj]
    by_cases e : j = r.length - 1
    · rw [e, h]; rfl
    · rw [getD_off (p := r) (by omega)]; rfl
def turnQ (q r : List Rat) : List Rat := mulRow q (-divC q (r.length - q.length) r) (r.length - q.length) q.length r
theorem turnQ_get {q r : List Rat} (h3 : 1 ≤ q.length) (hl : q.length ≤ r.length) (j : Nat) : (turnQ q r).getD j 0 = r.getD j 0 + if r.length - q.length ≤ j then -divC q (r.length - q.length) r * q.getD (j - (r.length - q.length)) 0 else 0 := by
  unfold turnQ
  rw [mulRow_get (by omega) _ _ (Nat.le_refl _)]
  by_cases h1 : r.length - q.length ≤ j
  · by_cases h2 : j < r.length - q.length + q.length
    · rw [if_pos ⟨h1, h2⟩, if_pos h1]
    · rw [if_neg (by omega), if_pos h1, getD_off (p := q) (by omega), Rat.mul_zero]
  · rw [if_neg (by omega), if_neg h1]
theorem turnQ_top {q r : List Rat} (h3 : 1 ≤ q.length) (hq : q.getD (q.length - 1) 0 ≠ 0) (hl : q.length ≤ r.length) : (turnQ q r).getD ((turnQ q r).length - 1) 0 = 0 := by
  have l : (turnQ q r).length = r.length := mulRow_len _
  rw [l, turnQ_get h3 hl, if_pos (by omega), show r.length - 1 - (r.length - q.length) = q.length - 1 by omega]
  unfold divC
  rw [show r.length - q.length + q.length - 1 = r.length - 1 by omega, Rat.neg_mul, Rat.div_mul_cancel hq]
  grind
theorem turnQ_drop {q r : List Rat} (h3 : 1 ≤ q.length) (hq : q.getD (q.length - 1) 0 ≠ 0) (hl : q.length ≤ r.length) (j : Nat) : (stripQ (turnQ q r).dropLast).getD j 0 = (turnQ q r).getD j 0 := by
  rw [strip_get, dropLast_get (turnQ_top h3 hq hl)]
theorem turnQ_short {q r : List Rat} (h : 1 ≤ r.length) : (stripQ (turnQ q r).dropLast).length < r.length := by
  have h1 := strip_le (turnQ q r).dropLast
  have l : (turnQ q r).length = r.length := mulRow_len _
  rw [List.length_dropLast, l] at h1
  omega
theorem rest_step {h q r : List Rat} {P : Nat → Rat} (h3 : 1 ≤ q.length) (hq : q.getD (q.length - 1) 0 ≠ 0) (hl : q.length ≤ r.length) (e : ∀ j, convN h q h.length j + r.getD j 0 = P j) (j : Nat) :
    convN (moreQ h (r.length - q.length) (divC q (r.length - q.length) r)) q (moreQ h (r.length - q.length) (divC q (r.length - q.length) r)).length j + (stripQ (turnQ q r).dropLast).getD j 0 = P j := by
  rw [turnQ_drop h3 hq hl, turnQ_get h3 hl, conv_more, ← e j]
  split <;> grind
theorem rest_is {h p q r : List Rat} (h3 : 1 ≤ q.length) (hq : q.getD (q.length - 1) 0 ≠ 0) (hr : r.length < q.length) (hs : stripQ r = r) (e : ∀ j, convN h q h.length j + r.getD j 0 = p.getD j 0) : r = stripQ (remQ p q) := by
  rw [← hs]
  refine strip_eq fun j => rest_one h3 hq (f := h) (g := quoQ p q) (fun j => by rw [e, div_sum h3]) (fun j hj => getD_off (by omega)) (fun j hj => rem_top h3 hq j hj) j
theorem div_back {p q : List Rat} (h3 : 1 ≤ q.length) (hp : stripQ p = p) : stripQ (addQ (stripQ (mulQ (stripQ (quoQ p q)) q)) (stripQ (remQ p q))) = p := by
  have key : stripQ (addQ (stripQ (mulQ (stripQ (quoQ p q)) q)) (stripQ (remQ p q))) = stripQ p := strip_eq fun j => by
    rw [addQ_get, strip_get, strip_get]
    unfold mulQ
    rw [mulN_conv _ _ (Nat.le_refl _), ← conv_ext j (quoQ p q).length (strip_le _), conv_get (g := quoQ p q) (fun i => strip_get _ i), div_sum h3]
  rw [key, hp]
/-! ### rows as data -/
theorem last_ix {p : List Rat} {x : D} (hx : x = .lst (p.map frq) ∨ x = .tup (p.map frq)) (h : 0 < p.length) (Q : D → Prop) : gIx x (.int (-1)) Q = Q (frq (p.getD (p.length - 1) 0)) := by
  have e : atI (p.map frq) (-1) = some (frq (p.getD (p.length - 1) 0)) := by
    have z : ((-1 : Int) + (p.length : Int)).toNat = p.length - 1 := by omega
    unfold atI ixN
    rw [List.length_map, if_neg (by omega), if_pos (by omega), z]
    show (p.map frq)[p.length - 1]? = _
    rw [List.getElem?_map, List.getElem?_eq_getElem (by omega), List.getD_eq_getElem?_getD, List.getElem?_eq_getElem (by omega)]
    rfl
  rcases hx with rfl | rfl
  · show (match atI (p.map frq) (-1) with | some d => Q d | none => False) = _
    rw [e]
  · show (match atI (p.map frq) (-1) with | some d => Q d | none => False) = _
    rw [e]
theorem den_ix (q : Rat) (Q : D → Prop) : gIx (frq q) (.int 1) Q = Q (.int q.den) := rfl
theorem rgC_at {n i : Nat} {d : D} (h : (rgC ((n : Int) - 1) (-1) n)[i]? = some d) : i < n ∧ d = .int ((n - 1 - i : Nat) : Int) := by
  unfold rgC at h
  rw [List.getElem?_map] at h
  obtain ⟨x, hx, rfl⟩ := Option.map_eq_some_iff.mp h
  have hl : i < n := by
    have := (List.getElem?_eq_some_iff.mp hx).1
    rwa [List.length_range] at this
  rw [List.getElem?_range hl] at hx
  cases hx
  exact ⟨hl, by congr 1; omega⟩
theorem enumQ_at {q : List Rat} {i : Nat} {d : D} (h : (enumD (q.map frq))[i]? = some d) : i < q.length ∧ d = .tup [.int (i : Nat), frq (q.getD i 0)] := by
  obtain ⟨x, hx, rfl⟩ := enumD_get h
  rw [List.getElem?_map] at hx
  obtain ⟨z, hz, rfl⟩ := Option.map_eq_some_iff.mp hx
  have hl := (List.getElem?_eq_some_iff.mp hz).1
  exact ⟨hl, by rw [List.getD_eq_getElem?_getD, hz]; rfl⟩
theorem strip_top {q : List Rat} (hs : stripQ q = q) (hq : q ≠ []) : q.getD (q.length - 1) 0 ≠ 0 := by
  have l := strip_len q
  rw [hs] at l
  have hl : 0 < q.length := List.length_pos_iff.mpr hq
  exact cutN_ne q.length (q.length - 1) (by omega)
structure DivBy (q : List Rat) (E t : Int) (e s : Nat) : Prop where
  hE : E ≠ 0
  ht : t ≠ 0
  sE : Sz e E
  st : Sz s t
  hq : ∀ j, Cd E s (q.getD j 0)
  top : q.getD (q.length - 1) 0 = Rat.divInt t E
  ne : q.getD (q.length - 1) 0 ≠ 0
  len : 1 ≤ q.length
theorem div_by {q : List Rat} {E : Int} {e s : Nat} (hs : stripQ q = q) (hq : q ≠ []) (hE : E ≠ 0) (sE : Sz e E) (h : ∀ j, Cd E s (q.getD j 0)) : ∃ t, DivBy q E t e s := by
  obtain ⟨t, e1, e2⟩ := h (q.length - 1)
  have ne := strip_top hs hq
  refine ⟨t, hE, fun z => ne ?_, sE, e2, h, e1, ne, List.length_pos_iff.mpr hq⟩
  rw [e1, z, Rat.zero_divInt]
theorem DivBy.ok {q : List Rat} {E t : Int} {e s n : Nat} (v : DivBy q E t e s) {D : Int} {d m : Nat} {r : List Rat} (hD : D ≠ 0) (sD : Sz d D) (hr : ∀ j, Cd D m (r.getD j 0)) (h1 : d + n * s ≤ 44000000) (h2 : m + n * (s + 1) + e ≤ 44000000) : DivOk q n r :=
  divOk_cd v.hE v.ht v.sE v.st v.hq v.top n hD sD hr h1 h2
theorem DivBy.res {q : List Rat} {E t : Int} {e s : Nat} (v : DivBy q E t e s) {D : Int} {m : Nat} {p : List Rat} (hD : D ≠ 0) (hp : ∀ j, Cd D m (p.getD j 0)) :
    (∀ j, Cd (D * t ^ (p.length + 1 - q.length)) (m + (p.length + 1 - q.length) * (s + 1) + e) ((quoQ p q).getD j 0)) ∧ ∀ j, Cd (D * t ^ (p.length + 1 - q.length)) (m + (p.length + 1 - q.length) * (s + 1)) ((remQ p q).getD j 0) :=
  divN_cd v.hE v.ht v.sE v.st v.hq v.top _ hD (by rw [List.length_replicate]; exact Nat.le_refl _) hp (fun j => by rw [rep_get]; exact Cd.zero)
theorem Sz.pow {s : Nat} {t : Int} (h : Sz s t) : ∀ n, Sz (n * s + 1) (t ^ n)
  | 0 => by rw [Int.pow_zero]; unfold Sz; rw [Nat.zero_mul]; decide
  | n + 1 => by
    rw [Int.pow_succ]
    exact ((Sz.pow h n).mulB h).mono (by rw [Nat.succ_mul]; omega)
theorem turn_step {q r : List Rat} {E t : Int} {e s : Nat} (v : DivBy q E t e s) {D : Int} {m : Nat} (hD : D ≠ 0) (hr : ∀ j, Cd D m (r.getD j 0)) (hl : q.length ≤ r.length) (j : Nat) : Cd (D * t) (m + s + 1) ((stripQ (turnQ q r).dropLast).getD j 0) := by
  rw [turnQ_drop v.len v.ne hl]
  exact step_cd v.hE v.ht v.sE v.st v.hq v.top hD hr j
theorem cut_last (ds : List D) : DL.cutD ds none (some (-1)) = ds.dropLast := by
  have e : HT.sIx ds.length ds.length (some (-1)) = ds.length - 1 := by
    have z : HT.sIx ds.length ds.length (some (-1)) = ((-1 : Int) + (ds.length : Int)).toNat := rfl
    rw [z]
    omega
  unfold DL.cutD
  rw [e, HT.sIx_none, List.drop_zero, Nat.sub_zero, List.dropLast_eq_take]
theorem map_dropLast (r : List Rat) : (r.map frq).dropLast = r.dropLast.map frq := by
  rw [List.dropLast_eq_take, List.dropLast_eq_take, List.length_map, List.map_take]
/-! ### drawn rows -/
def PolyOk (M : Int) (m l : Nat) (x : D) : Prop := ∃ p : List Rat, x = pD p ∧ stripQ p = p ∧ p.length ≤ l ∧ ∀ j, Cd M m (p.getD j 0)
theorem polyOk_draw {p : List Rat} {l : Nat} (h : p.length ≤ l) (s : ∀ q ∈ p, SzQ 3 q) : PolyOk 840 13 l (pD (stripQ p)) :=
  ⟨stripQ p, rfl, strip_strip p, Nat.le_trans (strip_le p) h, fun j => by
    rw [strip_get]
    exact getD_mem (P := Cd 840 13) (fun z hz => cd840 (s z hz).1 (s z hz).2) Cd.zero j⟩
theorem PolyOk.lift {M E : Int} {m l e m' : Nat} {x : D} (h : PolyOk M m l x) (hE : E ≠ 0) (sE : Sz e E) (hm : m + e ≤ m') : PolyOk (M * E) m' l x := by
  obtain ⟨p, e1, e2, e3, e4⟩ := h
  exact ⟨p, e1, e2, e3, fun j => ((e4 j).lift hE sE).mono hm⟩
theorem PolyOk.mono {M : Int} {m l m' l' : Nat} {x : D} (h : PolyOk M m l x) (hm : m ≤ m') (hl : l ≤ l') : PolyOk M m' l' x := by
  obtain ⟨p, e1, e2, e3, e4⟩ := h
  exact ⟨p, e1, e2, Nat.le_trans e3 hl, fun j => (e4 j).mono hm⟩
theorem mulQ_len {p q : List Rat} : (mulQ p q).length = p.length + q.length := mulN_len _
theorem polyOk_mul {p q : List Rat} {M E : Int} {m k l n : Nat} (hM : M ≠ 0) (hE : E ≠ 0) (hp : ∀ j, Cd M m (p.getD j 0)) (hq : ∀ j, Cd E k (q.getD j 0)) (lp : p.length ≤ l) (lq : q.length ≤ n) : PolyOk (M * E) (m + k + l) (l + n) (pD (stripQ (mulQ p q))) :=
  ⟨_, rfl, strip_strip _, Nat.le_trans (strip_le _) (by rw [mulQ_len]; omega), fun j => by
    rw [strip_get]
    exact (mulQ_cd hM hE hp hq j).mono (by omega)⟩
theorem polyOk_add {p q : List Rat} {M : Int} {m l n : Nat} (hM : M ≠ 0) (hp : ∀ j, Cd M m (p.getD j 0)) (hq : ∀ j, Cd M m (q.getD j 0)) (lp : p.length ≤ l) (lq : q.length ≤ n) : PolyOk M (m + 1) (max l n) (pD (stripQ (addQ p q))) :=
  ⟨_, rfl, strip_strip _, Nat.le_trans (strip_le _) (by rw [addQ_len]; omega), fun j => by
    rw [strip_get, addQ_get]
    exact (hp j).add hM (hq j)⟩
theorem cd_mem {P : Rat → Prop} {p : List Rat} (h : ∀ j, P (p.getD j 0)) : ∀ z ∈ p, P z := fun z hz => by
  obtain ⟨i, hi, rfl⟩ := List.getElem_of_mem hz
  have := h i
  rwa [List.getD_eq_getElem?_getD, List.getElem?_eq_getElem hi] at this
theorem ix2 {x y : D} {i : Int} {Q : D → Prop} (h : 0 ≤ i) (h2 : i < 2) (hx : Q x) (hy : Q y) : gIx (.lst [x, y]) (.int i) Q := by
  have hj : i = 0 ∨ i = 1 := by omega
  rcases hj with rfl | rfl
  · exact hx
  · exact hy
theorem pr_ix0 (x y : D) (Q : D → Prop) : gIx (.tup [x, y]) (.int 0) Q = Q x := rfl
theorem pr_ix1 (x y : D) (Q : D → Prop) : gIx (.tup [x, y]) (.int 1) Q = Q y := rfl
end DL

set_option Elab.async false
set_option linter.all false
set_option maxRecDepth 100000
namespace DL
open PySem PySem.Spec PyProof.Rows L2
section
variable {G : Gx} {W : WX} {X : Cx} {a b : Expr} {pos : Pos}
def rCatL (K : PySem.W.Frag) : R2 := fun x y H Q => ∃ l b xs zs, x = .ref l ∧ y = .ref b ∧ SqL K H l xs ∧ SqL K H b zs ∧ xs.length + zs.length ≤ sizeLine ∧ ∀ p, H p = none → Q (.ref p) (upd H p (.lst (xs ++ zs)))
theorem op_catL : OpR X (binaryOp .Add) (rCatL X.K) := by
  intro pins s σ H x y v u Q I rx ry h
  obtain ⟨l, b, xs, zs, rfl, rfl, hH, hB, hz, q⟩ := h
  cases rx
  cases ry
  obtain ⟨its, r, p, hl⟩ := I.list hH
  obtain ⟨its2, r2, p2, hl2⟩ := I.list hB
  obtain ⟨⟨cls, dd, data, sl⟩, ho, hc, n, hd⟩ := id p.isList
  obtain ⟨⟨cls2, dd2, data2, sl2⟩, ho2, hc2, n2, hd2⟩ := id p2.isList
  simp only at hc hd hc2 hd2
  subst hc hd hc2 hd2
  have e : its.toArray ++ its2.toArray = (its ++ its2).toArray := by simp
  have z1 := r.length
  have z2 := r2.length
  refine concat_meets ⟨_, ho, rfl⟩ ⟨_, ho2, rfl⟩ noFill_list_add seq_list_add PySem.F.slot_list_add PySem.F.entry_list_add (PySem.F.args_list_add_2 _ _) (list_addW l b its.toArray its2.toArray n n2 dd dd2 sl sl2 (by rw [List.size_toArray, List.size_toArray]; omega)) ⟨ho, ho2, ?_⟩
  rw [e]
  exact ⟨.ref _, _, I.lnew (t' := s.toks) (r.append r2) (by rw [List.length_append]; omega), rfl, q _ I.fresh⟩
@[simp] def lstR : Rz → Option (List D)
  | .nw xs => some xs
  | .sh (.lst xs) => some xs
  | _ => none
/-- two lists put together -/
@[simp] def uCat (ua ub : UE) : UE := fun δ Q R => ua δ (fun r1 δ1 => ub δ1 (fun r2 δ2 => match lstR r1, lstR r2 with
  | some xs, some ys => xs.length + ys.length ≤ 16777216 ∧ Q (.nw (xs ++ ys)) δ2
  | _, _ => False) R) R
theorem qe_cat {ua ub : UE} (ha : QE G W X a ua) (hb : QE G W X b ub) (hk : X.K = G.K := by rfl) : QE G W X (.BinOp a .Add b pos) (uCat ua ub) := pe_mono (pe_op op_catL ha hb) fun σ H Q ⟨B, F, δ, Qd, Rd, rs, h, k, x⟩ =>
  tG_then rs h x fun r1 δ1 q B1 F1 H1 v st1 rs1 rr1 => tG_then rs1 q (x.later st1.toLe) fun r2 δ2 q2 B2 F2 H2 w st2 rs2 rr2 => by
    split at q2
    · rename_i xd yd h1 h2
      have g1 : ∃ p xs, v = .ref p ∧ SqL G.K H2 p xs ∧ RpL G.K B2 F2 xs xd := by
        cases r1 with
        | nw ds =>
          obtain ⟨p, xs, rfl, e2, e3, e4, e5, e6, e7, e8⟩ := rr1
          cases h1
          exact ⟨p, xs, rfl, .inl (.inl (st2.kp p _ e5 e4 e7)), st2.rpl e6⟩
        | sh d =>
          cases d with
          | lst ds =>
            cases h1
            obtain ⟨p, xs, rfl, e2, e3⟩ := rp_lst rr1
            exact ⟨p, xs, rfl, (st2.le.trans rs2.sub).seq e2, st2.rpl e3⟩
          | _ => cases h1
      have g2 : ∃ p xs, w = .ref p ∧ SqL G.K H2 p xs ∧ RpL G.K B2 F2 xs yd := by
        cases r2 with
        | nw ds =>
          obtain ⟨p, xs, rfl, e2, e3, e4, e5, e6, e7, e8⟩ := rr2
          cases h2
          exact ⟨p, xs, rfl, .inl (.inl e5), e6⟩
        | sh d =>
          cases d with
          | lst ds =>
            cases h2
            obtain ⟨p, xs, rfl, e2, e3⟩ := rp_lst rr2
            exact ⟨p, xs, rfl, rs2.sub.seq e2, e3⟩
          | _ => cases h2
      obtain ⟨p, xs, rfl, s1, r1'⟩ := g1
      obtain ⟨p', ys, rfl, s2, r2'⟩ := g2
      refine ⟨p, p', xs, ys, rfl, rfl, by rw [hk]; exact s1, by rw [hk]; exact s2, by rw [r1'.length, r2'.length, sizeLine_eq]; exact q2.1, fun z hz => ?_⟩
      have st := st1.trans st2
      obtain ⟨rs3, st3⟩ := rs2.call (rs2.toFr0.newH (o := .lst (xs ++ ys)) hz)
      exact k _ _ q2.2 _ _ _ _ (st.trans st3) rs3 ⟨z, _, rfl, rs2.noH0 hz, rs2.toFr0.noF hz, rs2.toFr0.noB hz, upd_same, st3.rpl (r1'.append r2'), rs2.noOwn hz, .inl (none_back st.dm hz)⟩
    · exact q2.elim
theorem rpl_rep {K : PySem.W.Frag} {B : Option Addr} {F : Hp} {xs : List V} {ds : List D} (h : RpL K B F xs ds) : ∀ n, RpL K B F (List.replicate n xs).flatten (List.replicate n ds).flatten
  | 0 => .nil
  | n + 1 => by
    rw [List.replicate_succ, List.replicate_succ, List.flatten_cons, List.flatten_cons]
    exact h.append (rpl_rep h n)
/-- a new list so often -/
@[simp] def uRep (ua : UE) (ub : UV) : UE := fun δ Q R => ua δ (fun r1 δ1 => ub δ1 (fun y δ2 => match r1, y with
  | .nw xs, .int k => -(2 ^ 63) ≤ k ∧ k < 2 ^ 63 ∧ xs.length * k.toNat ≤ 16777216 ∧ Q (.nw (List.replicate k.toNat xs).flatten) δ2
  | _, _ => False) R) R
theorem qe_rep {ua : UE} {ub : UV} (ha : QE G W X a ua) (hb : QV G W X b ub) : QE G W X (.BinOp a .Mult b pos) (uRep ua ub) := pe_mono (pe_op op_rep ha hb) fun σ H Q ⟨B, F, δ, Qd, Rd, rs, h, k, x⟩ =>
  tG_then rs h x fun r1 δ1 q B1 F1 H1 v st1 rs1 rr1 => tG_then rs1 q (x.later st1.toLe) fun y δ2 q2 B2 F2 H2 w st2 rs2 rr2 => by
    split at q2
    · obtain ⟨p, xs, rfl, e2, e3, e4, e5, e6, e7, e8⟩ := rr1
      cases rp_int rr2
      have r1' := st2.rpl e6
      obtain ⟨k1, k2, k3, k4⟩ := q2
      refine ⟨p, _, xs, rfl, rfl, st2.kp p _ e5 e4 e7, k1, k2, by rw [r1'.length, sizeLine_eq]; exact k3, fun z hz => ?_⟩
      have st := st1.trans st2
      obtain ⟨rs3, st3⟩ := rs2.call (rs2.toFr0.newH (o := .lst _) hz)
      exact k _ _ k4 _ _ _ _ (st.trans st3) rs3 ⟨z, _, rfl, rs2.noH0 hz, rs2.toFr0.noF hz, rs2.toFr0.noB hz, upd_same, st3.rpl (rpl_rep r1' _), rs2.noOwn hz, .inl (none_back st.dm hz)⟩
    · exact q2.elim
end
end DL

set_option Elab.async false
set_option linter.all false
set_option maxRecDepth 100000
namespace DL
open PySem PySem.Spec PyProof.Rows L2
/-! ### rows scaled; products over any row; powers -/
def scaleQ (p : List Rat) (c : Rat) : List Rat := p.map fun z => z * c
theorem scale_len {p : List Rat} {c : Rat} : (scaleQ p c).length = p.length := by simp [scaleQ]
theorem scale_get {p : List Rat} {c : Rat} (j : Nat) : (scaleQ p c).getD j 0 = p.getD j 0 * c := by
  unfold scaleQ
  rw [List.getD_eq_getElem?_getD, List.getElem?_map, List.getD_eq_getElem?_getD]
  cases p[j]? with
  | none => exact (Rat.zero_mul c).symm
  | some z => rfl
theorem strip_self {p : List Rat} (h : p = [] ∨ p.getD (p.length - 1) 0 ≠ 0) : stripQ p = p := by
  rcases h with rfl | h
  · rfl
  · unfold stripQ
    have e : cutN p p.length = p.length := by
      cases hn : p.length with
      | zero => rfl
      | succ n =>
        rw [hn] at h
        have h' : ¬ p.getD n 0 = 0 := h
        unfold cutN
        rw [if_neg h']
    rw [e, List.take_length]
theorem strip_scale {p : List Rat} {c : Rat} (hs : stripQ p = p) (hc : c ≠ 0) : stripQ (scaleQ p c) = scaleQ p c := by
  refine strip_self ?_
  by_cases h : p = []
  · left; rw [h]; rfl
  · right
    rw [scale_len, scale_get]
    exact fun z => (Rat.mul_eq_zero.mp z).elim (strip_top hs h) hc
theorem strip_zero {p : List Rat} (h : ∀ j, p.getD j 0 = 0) : stripQ p = [] := by
  rw [strip_eq (q := []) fun j => by rw [h]; rfl]
  rfl
theorem scale_zero {p : List Rat} : stripQ (scaleQ p 0) = [] := strip_zero fun j => by rw [scale_get, Rat.mul_zero]
def mulG (p q r : List Rat) : Nat → List Rat
  | 0 => r
  | n + 1 => mulRow q (p.getD n 0) n q.length (mulG p q r n)
theorem mulG_len {p q r : List Rat} : ∀ n, (mulG p q r n).length = r.length
  | 0 => rfl
  | n + 1 => by
    unfold mulG
    rw [mulRow_len, mulG_len n]
theorem mulG_get {p q r : List Rat} (hr : p.length + q.length ≤ r.length + 1) : ∀ n j, n ≤ p.length → (mulG p q r n).getD j 0 = r.getD j 0 + convN p q n j
  | 0, j, _ => (Rat.add_zero _).symm
  | n + 1, j, h => by
    unfold mulG convN
    rw [mulRow_get (by rw [mulG_len]; omega) _ _ (Nat.le_refl _), mulG_get hr n j (by omega)]
    by_cases h1 : n ≤ j
    · by_cases h2 : j < n + q.length
      · rw [if_pos ⟨h1, h2⟩, if_pos h1, Rat.add_assoc]
      · rw [if_neg (by omega), if_pos h1, getD_off (p := q) (by omega), Rat.mul_zero]
        grind
    · rw [if_neg (by omega), if_neg h1]
      grind
theorem mulG_cd {p q r : List Rat} {M E : Int} {m k : Nat} (hM : M ≠ 0) (hE : E ≠ 0) (hr : ∀ j, r.getD j 0 = 0) (hp : ∀ j, Cd M m (p.getD j 0)) (hq : ∀ j, Cd E k (q.getD j 0)) : ∀ n j, Cd (M * E) (m + k + n) ((mulG p q r n).getD j 0)
  | 0, j => by
    show Cd _ _ (r.getD j 0)
    rw [hr]
    exact Cd.zero
  | n + 1, j => by
    show Cd (M * E) (m + k + n + 1) ((mulRow q (p.getD n 0) n q.length (mulG p q r n)).getD j 0)
    exact mulRow_cd (Int.mul_ne_zero hM hE) (mulG_cd hM hE hr hp hq n) (fun i => ((hp n).mul (hq i)).mono (by omega)) _ _
theorem strip_mulG {p q : List Rat} {n : Nat} (h : p.length + q.length ≤ n + 1) : stripQ (mulG p q (List.replicate n 0) p.length) = stripQ (mulQ p q) := strip_eq fun j => by
  rw [mulG_get (by rw [List.length_replicate]; exact h) _ _ (Nat.le_refl _), rep_get, Rat.zero_add]
  unfold mulQ
  rw [mulN_conv _ _ (Nat.le_refl _)]
theorem mulQ_get {p q : List Rat} (j : Nat) : (mulQ p q).getD j 0 = convN p q p.length j := mulN_conv _ _ (Nat.le_refl _)
theorem mulQ_nil_l {q : List Rat} : stripQ (mulQ [] q) = [] := strip_zero fun j => by rw [mulQ_get]; rfl
theorem mulQ_nil_r {p : List Rat} : stripQ (mulQ p []) = [] := strip_zero fun j => by
  rw [mulQ_get]
  have : ∀ n, convN p [] n j = 0 := fun n => by
    induction n with
    | zero => rfl
    | succ n ih =>
      unfold convN
      rw [ih]
      have e : ([] : List Rat).getD (j - n) 0 = 0 := rfl
      rw [e, Rat.mul_zero, ite_self, Rat.add_zero]
  exact this _
def powQ (p : List Rat) : Nat → List Rat
  | 0 => [1]
  | n + 1 => stripQ (mulQ (powQ p n) p)
/-- the sum of two rows, the second one laid upon the first -/
def laidQ (p q : List Rat) : Nat → List Rat
  | 0 => p
  | n + 1 => rowAdd (laidQ p q n) n (q.getD n 0)
theorem laid_len {p q : List Rat} : ∀ n, (laidQ p q n).length = p.length
  | 0 => rfl
  | n + 1 => by
    unfold laidQ rowAdd
    rw [List.length_set, laid_len n]
theorem laid_get {p q : List Rat} : ∀ n j, n ≤ p.length → (laidQ p q n).getD j 0 = p.getD j 0 + if j < n then q.getD j 0 else 0
  | 0, j, _ => by
    rw [if_neg (by omega), Rat.add_zero]
    rfl
  | n + 1, j, h => by
    unfold laidQ
    rw [rowAdd_get, laid_len]
    by_cases e : n = j
    · subst e
      rw [if_pos ⟨rfl, by omega⟩, laid_get n n (by omega), if_neg (by omega), if_pos (by omega), Rat.add_zero]
    · rw [if_neg (by omega), laid_get n j (by omega)]
      by_cases h2 : j < n
      · rw [if_pos h2, if_pos (by omega)]
      · rw [if_neg h2, if_neg (by omega)]
theorem laid_at {p q : List Rat} {n : Nat} (h : n < p.length) : (laidQ p q n).getD n 0 = p.getD n 0 := by
  rw [laid_get n n (by omega), if_neg (by omega), Rat.add_zero]
theorem laid_add {p q : List Rat} (h : q.length ≤ p.length) : stripQ (laidQ p q q.length) = stripQ (addQ p q) := strip_eq fun j => by
  rw [laid_get _ _ h, addQ_get]
  by_cases hj : j < q.length
  · rw [if_pos hj]
  · rw [if_neg hj, getD_off (p := q) hj]
theorem addQ_comm {p q : List Rat} : stripQ (addQ p q) = stripQ (addQ q p) := strip_eq fun j => by
  rw [addQ_get, addQ_get, Rat.add_comm]
/-! ### the worth at a place -/
def worthQ (x : Rat) : List Rat → Rat
  | [] => 0
  | c :: p => worthQ x p * x + c
/-- what the law's own walk finds: the sum so far, the power so far -/
def patQ (x : Rat) : List Rat → Rat → Rat → Rat
  | [], f, _ => f
  | c :: p, f, s => patQ x p (f + c * s) (s * x)
theorem pat_eq {x : Rat} : ∀ (p : List Rat) (f s : Rat), patQ x p f s = f + worthQ x p * s
  | [], f, s => by
    unfold patQ worthQ
    grind
  | c :: p, f, s => by
    unfold patQ worthQ
    rw [pat_eq p]
    grind
theorem pat_worth {x : Rat} {p : List Rat} : patQ x p 0 1 = worthQ x p := by
  rw [pat_eq]
  grind
/-! ### slopes -/
def slopeQ (p : List Rat) : List Rat := (List.range (p.length - 1)).map fun i => p.getD (i + 1) 0 * ((i + 1 : Nat) : Rat)
theorem slope_len {p : List Rat} : (slopeQ p).length = p.length - 1 := by simp [slopeQ]
theorem slope_get {p : List Rat} (j : Nat) : (slopeQ p).getD j 0 = p.getD (j + 1) 0 * ((j + 1 : Nat) : Rat) := by
  by_cases h : j < p.length - 1
  · unfold slopeQ
    rw [List.getD_eq_getElem?_getD, List.getElem?_map, List.getElem?_range h]
    rfl
  · rw [getD_off (by rw [slope_len]; exact h), getD_off (p := p) (by omega), Rat.zero_mul]
theorem slope_strip {p : List Rat} : stripQ (slopeQ (stripQ p)) = stripQ (slopeQ p) := strip_eq fun j => by rw [slope_get, slope_get, strip_get]
/-- the slope of a product, place by place -/
theorem conv_slope {f q : List Rat} (j : Nat) : ∀ n, convN f q (n + 1) (j + 1) * ((j + 1 : Nat) : Rat) = convN (slopeQ f) q n j + convN f (slopeQ q) (n + 1) j
  | 0 => by
    unfold convN convN
    rw [if_pos (by omega), if_pos (by omega), slope_get]
    have z1 : convN f q 0 (j + 1) = 0 := rfl
    have z2 : convN f (slopeQ q) 0 j = 0 := rfl
    simp only [convN, Nat.sub_zero]
    grind
  | n + 1 => by
    have ih := conv_slope (f := f) (q := q) j n
    have e1 : convN f q (n + 1 + 1) (j + 1) = convN f q (n + 1) (j + 1) + if n + 1 ≤ j + 1 then f.getD (n + 1) 0 * q.getD (j + 1 - (n + 1)) 0 else 0 := rfl
    have e2 : convN (slopeQ f) q (n + 1) j = convN (slopeQ f) q n j + if n ≤ j then (slopeQ f).getD n 0 * q.getD (j - n) 0 else 0 := rfl
    have e3 : convN f (slopeQ q) (n + 1 + 1) j = convN f (slopeQ q) (n + 1) j + if n + 1 ≤ j then f.getD (n + 1) 0 * (slopeQ q).getD (j - (n + 1)) 0 else 0 := rfl
    rw [e1, e2, e3, slope_get, slope_get]
    by_cases h : n + 1 ≤ j
    · rw [if_pos (by omega), if_pos (by omega), if_pos h, show j + 1 - (n + 1) = j - n by omega, show j - (n + 1) + 1 = j - n by omega]
      have ec : ((j + 1 : Nat) : Rat) = ((n + 1 : Nat) : Rat) + ((j - n : Nat) : Rat) := by
        rw [← Rat.natCast_add]
        congr 1
        omega
      rw [Rat.add_mul, ih, ec]
      grind
    · by_cases h2 : n = j
      · subst h2
        rw [if_pos (by omega), if_pos (by omega), if_neg h, show n + 1 - (n + 1) = 0 by omega, show n - n = 0 by omega]
        rw [Rat.add_mul, ih]
        grind
      · rw [if_neg (by omega), if_neg (by omega), if_neg h, Rat.add_zero, ih]
        grind
theorem slope_mul {p q : List Rat} : stripQ (slopeQ (stripQ (mulQ p q))) = stripQ (addQ (stripQ (mulQ (stripQ (slopeQ p)) q)) (stripQ (mulQ p (stripQ (slopeQ q))))) := by
  rw [slope_strip]
  refine strip_eq fun j => ?_
  rw [slope_get, addQ_get, strip_get, strip_get, mulQ_get, mulQ_get, mulQ_get]
  have c1 : convN (stripQ (slopeQ p)) q (stripQ (slopeQ p)).length j = convN (slopeQ p) q p.length j := by
    rw [← conv_ext j p.length (Nat.le_trans (strip_le _) (by rw [slope_len]; omega)), conv_get (g := slopeQ p) (fun i => strip_get _ i)]
  have c2 : ∀ n, convN p (stripQ (slopeQ q)) n j = convN p (slopeQ q) n j := fun n => by
    induction n with
    | zero => rfl
    | succ n ih => unfold convN; rw [ih, strip_get]
  rw [c1, c2, ← conv_ext (f := p) (q := q) (j + 1) (p.length + 1) (by omega), ← conv_ext (f := p) (q := slopeQ q) j (p.length + 1) (by omega)]
  exact conv_slope j p.length
/-! ### a letter moved -/
def sumF (f : Nat → Rat) : Nat → Rat
  | 0 => 0
  | n + 1 => sumF f n + f n
theorem sumF_ext {f g : Nat → Rat} (h : ∀ i, f i = g i) : ∀ n, sumF f n = sumF g n
  | 0 => rfl
  | n + 1 => by
    unfold sumF
    rw [sumF_ext h n, h]
theorem sumF_front {f : Nat → Rat} : ∀ n, sumF f (n + 1) = f 0 + sumF (fun i => f (i + 1)) n
  | 0 => by
    unfold sumF sumF
    grind
  | n + 1 => by
    have ih := sumF_front (f := f) n
    unfold sumF
    rw [ih]
    grind
theorem sumF_add {f g : Nat → Rat} {a : Rat} : ∀ n, sumF (fun i => f i * a + g i) n = sumF f n * a + sumF g n
  | 0 => by
    unfold sumF
    grind
  | n + 1 => by
    unfold sumF
    rw [sumF_add n]
    grind
theorem sumF_zero {f : Nat → Rat} (h : ∀ i, f i = 0) : ∀ n, sumF f n = 0
  | 0 => rfl
  | n + 1 => by
    unfold sumF
    rw [sumF_zero h n, h]
    grind
/-- a row times b + x -/
def linF (b : Rat) (f : Nat → Rat) (j : Nat) : Rat := f j * b + if 1 ≤ j then f (j - 1) else 0
theorem conv_lin {f : List Rat} {b : Rat} {j : Nat} : ∀ n, convN f [b, 1] n j = (if j < n then f.getD j 0 * b else 0) + if 1 ≤ j ∧ j ≤ n then f.getD (j - 1) 0 else 0
  | 0 => by
    rw [if_neg (by omega), if_neg (by omega)]
    unfold convN
    grind
  | n + 1 => by
    unfold convN
    rw [conv_lin n]
    have g0 : ([b, 1] : List Rat).getD 0 0 = b := rfl
    have g1 : ([b, 1] : List Rat).getD 1 0 = 1 := rfl
    have g2 : ∀ i, 2 ≤ i → ([b, 1] : List Rat).getD i 0 = 0 := fun i hi => getD_off (by simpa using hi)
    by_cases h1 : n ≤ j
    · rw [if_neg (by omega), if_pos h1]
      by_cases h2 : n = j
      · subst h2
        rw [Nat.sub_self, g0, if_pos (show n < n + 1 by omega)]
        by_cases h3 : 1 ≤ n
        · rw [if_pos (show 1 ≤ n ∧ n ≤ n by omega), if_pos (show 1 ≤ n ∧ n ≤ n + 1 by omega)]; grind
        · rw [if_neg (show ¬ (1 ≤ n ∧ n ≤ n) by omega), if_neg (show ¬ (1 ≤ n ∧ n ≤ n + 1) by omega)]; grind
      · rw [if_neg (by omega : ¬ j < n + 1), if_neg (by omega : ¬ (1 ≤ j ∧ j ≤ n))]
        by_cases h3 : j = n + 1
        · subst h3
          rw [show n + 1 - n = 1 by omega, g1, if_pos (by omega), show n + 1 - 1 = n by omega]; grind
        · rw [g2 _ (by omega), if_neg (by omega)]; grind
    · rw [if_neg h1, if_pos (by omega : j < n), if_pos (by omega : j < n + 1), Rat.add_zero]
      congr 1
      by_cases h3 : 1 ≤ j
      · rw [if_pos (by omega), if_pos (by omega)]
      · rw [if_neg (by omega), if_neg (by omega)]
theorem mul_lin {f : List Rat} {b : Rat} (j : Nat) : (stripQ (mulQ f [b, 1])).getD j 0 = linF b (fun i => f.getD i 0) j := by
  rw [strip_get, mulQ_get, ← conv_ext j (f.length + j + 1) (by omega), conv_lin, if_pos (by omega)]
  unfold linF
  by_cases h : 1 ≤ j
  · rw [if_pos (by omega), if_pos h]
  · rw [if_neg (by omega), if_neg h]
theorem linF_sum {b : Rat} {F : Nat → Nat → Rat} {c : Nat → Rat} (n j : Nat) : linF b (fun k => sumF (fun i => F i k * c i) n) j = sumF (fun i => linF b (F i) j * c i) n := by
  unfold linF
  by_cases h : 1 ≤ j
  · simp only [if_pos h]
    rw [← sumF_add]
    exact sumF_ext (fun i => by grind) n
  · simp only [if_neg h]
    rw [show sumF (fun i => F i j * c i) n * b + 0 = sumF (fun i => F i j * c i) n * b + sumF (fun _ => 0) n by rw [sumF_zero (f := fun _ => 0) fun _ => rfl], ← sumF_add]
    exact sumF_ext (fun i => by grind) n
/-- the program's own way -/
def shQ (b : Rat) : List Rat → List Rat
  | [] => []
  | c :: p => stripQ (addQ (stripQ (mulQ (shQ b p) [b, 1])) (stripQ [c]))
/-- the law's way -/
def mvQ (b : Rat) (p : List Rat) : Nat → List Rat
  | 0 => []
  | n + 1 => stripQ (addQ (mvQ b p n) (stripQ (scaleQ (powQ [b, 1] n) (p.getD n 0))))
theorem mv_get {b : Rat} {p : List Rat} (j : Nat) : ∀ n, (mvQ b p n).getD j 0 = sumF (fun i => (powQ [b, 1] i).getD j 0 * p.getD i 0) n
  | 0 => rfl
  | n + 1 => by
    unfold mvQ sumF
    rw [strip_get, addQ_get, strip_get, scale_get, mv_get j n]
theorem sh_get {b : Rat} : ∀ (p : List Rat) (j : Nat), (shQ b p).getD j 0 = sumF (fun i => (powQ [b, 1] i).getD j 0 * p.getD i 0) p.length
  | [], j => rfl
  | c :: p, j => by
    unfold shQ
    rw [strip_get, addQ_get, mul_lin, strip_get]
    have e : (fun i => (shQ b p).getD i 0) = fun k => sumF (fun i => (powQ [b, 1] i).getD k 0 * p.getD i 0) p.length := funext fun k => sh_get p k
    rw [e, linF_sum (F := fun i k => (powQ [b, 1] i).getD k 0) (c := fun i => p.getD i 0), List.length_cons, sumF_front]
    have e2 : sumF (fun i => linF b (fun k => (powQ [b, 1] i).getD k 0) j * p.getD i 0) p.length = sumF (fun i => (powQ [b, 1] (i + 1)).getD j 0 * (c :: p).getD (i + 1) 0) p.length := sumF_ext (fun i => by
      show _ = (stripQ (mulQ (powQ [b, 1] i) [b, 1])).getD j 0 * p.getD i 0
      rw [mul_lin]) _
    rw [e2]
    have e3 : ([c] : List Rat).getD j 0 = (powQ [b, 1] 0).getD j 0 * (c :: p).getD 0 0 := by
      show ([c] : List Rat).getD j 0 = ([1] : List Rat).getD j 0 * c
      cases j with
      | zero => show c = 1 * c; grind
      | succ j => show (0 : Rat) = 0 * c; grind
    rw [e3, Rat.add_comm]
theorem sh_strip {b : Rat} : ∀ p : List Rat, stripQ (shQ b p) = shQ b p
  | [] => rfl
  | c :: p => strip_strip _
theorem mv_strip {b : Rat} {p : List Rat} : ∀ n, stripQ (mvQ b p n) = mvQ b p n
  | 0 => rfl
  | n + 1 => strip_strip _
theorem mv_sh {b : Rat} {p : List Rat} : mvQ b p p.length = shQ b p := by
  rw [← mv_strip, ← sh_strip]
  exact strip_eq fun j => by rw [mv_get, sh_get]
theorem pow_ok {p : List Rat} {M : Int} {m d l N B : Nat} (hM : M ≠ 0) (sM : Sz d M) (hp : ∀ j, Cd M m (p.getD j 0)) (hl : p.length ≤ l) (hB : 1 + N * l ≤ B) (h1 : N * d + 1 + d ≤ 44000000) (h2 : N * (m + B) + 1 + m + B ≤ 44000000) :
    ∀ i, i ≤ N → (powQ p i).length ≤ 1 + i * l ∧ (∀ j, Cd (M ^ i) (i * (m + B) + 1) ((powQ p i).getD j 0)) ∧ MulOk (powQ p i) p := by
  have ok : ∀ i, i ≤ N → (powQ p i).length ≤ 1 + i * l → (∀ j, Cd (M ^ i) (i * (m + B) + 1) ((powQ p i).getD j 0)) → MulOk (powQ p i) p := fun i hi g1 g2 => by
    have a1 : i * l ≤ N * l := Nat.mul_le_mul_right _ hi
    have a2 : i * d ≤ N * d := Nat.mul_le_mul_right _ hi
    have a3 : i * (m + B) ≤ N * (m + B) := Nat.mul_le_mul_right _ hi
    exact mulOk_cd (Int.pow_ne_zero hM) hM (sM.pow i) sM g2 hp (by omega) (by omega)
  intro i
  induction i with
  | zero =>
    intro h
    have g1 : (powQ p 0).length ≤ 1 + 0 * l := by
      show 1 ≤ 1 + 0 * l
      omega
    have g2 : ∀ j, Cd (M ^ 0) (0 * (m + B) + 1) ((powQ p 0).getD j 0) := fun j => by
      rw [Int.pow_zero]
      cases j with
      | zero => exact ⟨1, rfl, (show Sz 1 1 by unfold Sz; decide).mono (by omega)⟩
      | succ j => exact Cd.zero
    exact ⟨g1, g2, ok 0 h g1 g2⟩
  | succ i ih =>
    intro h
    obtain ⟨g1, g2, g3⟩ := ih (by omega)
    have a1 : i * l ≤ N * l := Nat.mul_le_mul_right _ (by omega)
    have a2 : (i + 1) * l = i * l + l := Nat.succ_mul ..
    have a3 : (i + 1) * (m + B) = i * (m + B) + (m + B) := Nat.succ_mul ..
    have k1 : (powQ p (i + 1)).length ≤ 1 + (i + 1) * l := Nat.le_trans (strip_le _) (by rw [mulQ_len]; omega)
    have k2 : ∀ j, Cd (M ^ (i + 1)) ((i + 1) * (m + B) + 1) ((powQ p (i + 1)).getD j 0) := fun j => by
      show Cd _ _ ((stripQ (mulQ (powQ p i) p)).getD j 0)
      rw [strip_get, Int.pow_succ]
      exact (mulQ_cd (Int.pow_ne_zero hM) hM g2 hp j).mono (by omega)
    exact ⟨k1, k2, ok (i + 1) h k1 k2⟩
/-! ### rows as data -/
theorem gEq_nil (p : List Rat) (Q : D → Prop) : gEq (pD p) (.tup []) Q = Q (.bl (decide (p = []))) := propext ⟨fun h => by
  obtain ⟨_, _, h⟩ : SeqAt.shaped (pD p).py = true ∧ SeqAt.shaped (D.tup []).py = true ∧ Q (.bl (PyData.eqv (pD p).py (D.tup []).py)) := h
  rw [eqv_nil] at h
  exact h, fun h => eq_nil p h⟩
theorem rowQ_at {p : List Rat} {i : Nat} {d : D} (h : (p.map frq)[i]? = some d) : i < p.length ∧ d = frq (p.getD i 0) := by
  rw [List.getElem?_map] at h
  obtain ⟨z, hz, rfl⟩ := Option.map_eq_some_iff.mp h
  have hl := (List.getElem?_eq_some_iff.mp hz).1
  exact ⟨hl, by rw [List.getD_eq_getElem?_getD, hz]; rfl⟩
theorem revQ_at {p : List Rat} {i : Nat} {d : D} (h : (p.map frq).reverse[i]? = some d) : i < p.length ∧ d = frq (p.getD (p.length - 1 - i) 0) := by
  have hl : i < (p.map frq).length := by
    have := (List.getElem?_eq_some_iff.mp h).1
    rwa [List.length_reverse] at this
  rw [rev_at hl, List.length_map] at h
  rw [List.length_map] at hl
  exact ⟨hl, (rowQ_at h).2⟩
theorem drop_one {p : List Rat} {i : Nat} (h : i < p.length) : p.drop (p.length - (i + 1)) = p.getD (p.length - 1 - i) 0 :: p.drop (p.length - i) := by
  rw [show p.length - (i + 1) = p.length - 1 - i by omega, List.drop_eq_getElem_cons (by omega), show p.length - 1 - i + 1 = p.length - i by omega, List.getD_eq_getElem?_getD, List.getElem?_eq_getElem (by omega)]
  rfl
theorem lcW_cnt {g : UGt} {ut : UT} {ue : UV} {vs : List Nat} (I : DE → Prop) (f : Nat → Option D) : ∀ (ds : List D) (i : Nat) (δ : DE) (k : List D → DE → Prop), I δ →
    (∀ j d, ds[j]? = some d → ∀ δ (K : D → DE → Prop) (K' : DE → Prop), I δ → (∀ y, f (i + j) = some y → ∀ δ', I δ' → K y δ') → (f (i + j) = none → ∀ δ', I δ' → K' δ') → g d (wipeD δ vs) fun δ1 => ut δ1 (fun b δ2 => if b = true then ue δ2 K R0 else K' δ2) R0) →
    (∀ δ', I δ' → k ((List.range' i ds.length).filterMap f) δ') → lcW g ut ue vs ds δ k
  | [], i, δ, k, h, _, e => e δ h
  | d :: ds, i, δ, k, h, s, e => by
    have s' : ∀ j d', ds[j]? = some d' → ∀ δ (K : D → DE → Prop) (K' : DE → Prop), I δ → (∀ y, f (i + 1 + j) = some y → ∀ δ', I δ' → K y δ') → (f (i + 1 + j) = none → ∀ δ', I δ' → K' δ') → g d' (wipeD δ vs) fun δ1 => ut δ1 (fun b δ2 => if b = true then ue δ2 K R0 else K' δ2) R0 := fun j d' hd δ K K' hi h1 h2 =>
      s (j + 1) d' hd δ K K' hi (by rw [show i + (j + 1) = i + 1 + j by omega]; exact h1) (by rw [show i + (j + 1) = i + 1 + j by omega]; exact h2)
    refine s 0 d rfl δ _ _ h (fun y hy δ' h' => ?_) (fun hn δ' h' => ?_)
    · refine lcW_cnt I f ds (i + 1) δ' _ h' s' fun δ2 h2 => ?_
      have := e δ2 h2
      rw [List.length_cons, List.range'_succ, List.filterMap_cons, show f i = some y from hy] at this
      exact this
    · refine lcW_cnt I f ds (i + 1) δ' _ h' s' fun δ2 h2 => ?_
      have := e δ2 h2
      rw [List.length_cons, List.range'_succ, List.filterMap_cons, show f i = none from hn] at this
      exact this
theorem range_all (n : Nat) (h : Nat → D) : (List.range' 0 n).filterMap (fun j => some (h j)) = (List.range n).map h := by
  rw [List.range_eq_range', List.filterMap_eq_map']
theorem map_scale {p : List Rat} {c : Rat} : (List.range p.length).map (fun j => frq (p.getD j 0 * c)) = (scaleQ p c).map frq := by
  refine List.ext_getElem? fun i => ?_
  unfold scaleQ
  rw [List.getElem?_map, List.getElem?_map, List.getElem?_map]
  by_cases h : i < p.length
  · rw [List.getElem?_range h, List.getElem?_eq_getElem h]
    show some (frq (p.getD i 0 * c)) = some (frq (p[i] * c))
    rw [List.getD_eq_getElem?_getD, List.getElem?_eq_getElem h]
    rfl
  · rw [List.getElem?_eq_none (by rw [List.length_range]; omega), List.getElem?_eq_none (by omega)]
    rfl
theorem map_slope {p : List Rat} : (List.range (p.length - 1)).map (fun j => frq (p.getD (j + 1) 0 * ((j + 1 : Nat) : Rat))) = (slopeQ p).map frq := by
  unfold slopeQ
  rw [List.map_map]
  rfl
theorem frq_nat (n : Nat) : frq (n : Rat) = .tup [.int (n : Int), .int 1] := rfl
theorem pat_snoc {z : Rat} : ∀ (p : List Rat) (c f s : Rat), patQ z (p ++ [c]) f s = patQ z p f s + c * (s * z ^ p.length)
  | [], c, f, s => by
    show f + c * s = f + c * (s * z ^ 0)
    rw [Rat.pow_zero, Rat.mul_one]
  | d :: p, c, f, s => by
    show patQ z (p ++ [c]) (f + d * s) (s * z) = patQ z p (f + d * s) (s * z) + c * (s * z ^ (p.length + 1))
    rw [pat_snoc p, Rat.pow_succ]
    grind
theorem pat_take {z : Rat} {p : List Rat} {i : Nat} (h : i < p.length) : patQ z (p.take (i + 1)) 0 1 = patQ z (p.take i) 0 1 + p.getD i 0 * z ^ i := by
  rw [List.take_succ_eq_append_getElem h, pat_snoc, List.length_take, Nat.min_eq_left (by omega), Rat.one_mul, List.getD_eq_getElem?_getD, List.getElem?_eq_getElem h]
  rfl
/-! ### sizes of worths, slopes, moved rows -/
theorem worth_sz {z : Rat} {s t : Nat} (hz : SzQ t z) : ∀ (p : List Rat), (∀ i, SzQ s (p.getD i 0)) → SzQ (p.length * (s + t + 1) + 1) (worthQ z p)
  | [], _ => szq_zero (by omega)
  | c :: p, hp => by
    have ih := worth_sz hz p (fun i => hp (i + 1))
    have e : (c :: p).length * (s + t + 1) = p.length * (s + t + 1) + (s + t + 1) := by
      rw [List.length_cons, Nat.succ_mul]
    unfold worthQ
    exact ((ih.mul hz).add (hp 0)).mono (by omega)
theorem pow_sz {z : Rat} {t : Nat} (hz : SzQ t z) : ∀ n, SzQ (n * t + 1) (z ^ n)
  | 0 => by
    rw [Rat.pow_zero]
    exact SzQ.mono (m := 1) ⟨by unfold Sz; decide, by unfold Sz; decide⟩ (by omega)
  | n + 1 => by
    rw [Rat.pow_succ]
    exact ((pow_sz hz n).mul hz).mono (by rw [Nat.succ_mul]; omega)
theorem drop_get {p : List Rat} (n i : Nat) : (p.drop n).getD i 0 = p.getD (n + i) 0 := by
  rw [List.getD_eq_getElem?_getD, List.getElem?_drop, List.getD_eq_getElem?_getD]
theorem take_sz {P : Rat → Prop} {p : List Rat} (h : ∀ i, P (p.getD i 0)) (h0 : P 0) (n i : Nat) : P ((p.take n).getD i 0) := by
  rw [List.getD_eq_getElem?_getD, List.getElem?_take]
  split
  · rw [← List.getD_eq_getElem?_getD]; exact h i
  · exact h0
theorem slope_cd {p : List Rat} {M : Int} {m e : Nat} (hp : ∀ j, Cd M m (p.getD j 0)) (hl : p.length ≤ 2 ^ e) (j : Nat) : Cd M (m + e) ((slopeQ p).getD j 0) := by
  rw [slope_get]
  by_cases h : j + 1 < p.length
  · obtain ⟨a, e1, h1⟩ := hp (j + 1)
    refine ⟨a * ((j + 1 : Nat) : Int), ?_, h1.mulB (show Sz e ((j + 1 : Nat) : Int) by unfold Sz; omega)⟩
    have e2 : ((j + 1 : Nat) : Rat) = Rat.divInt ((j + 1 : Nat) : Int) 1 := (Rat.num_divInt_den ((j + 1 : Nat) : Rat)).symm
    rw [e1, e2, Rat.divInt_mul_divInt, Int.mul_one]
  · rw [getD_off (p := p) (by omega), Rat.zero_mul]
    exact Cd.zero
theorem mv_cd {b : Rat} {p : List Rat} (hb : ∀ j, Cd 840 13 (([b, 1] : List Rat).getD j 0)) (hp : ∀ j, Cd 840 13 (p.getD j 0)) : ∀ n, n ≤ 7 → (mvQ b p n).length ≤ 15 ∧ ∀ j, Cd (840 ^ 8) (300 + n) ((mvQ b p n).getD j 0)
  | 0, _ => ⟨Nat.zero_le _, fun j => Cd.zero⟩
  | n + 1, h => by
    obtain ⟨l1, c1⟩ := mv_cd hb hp n (by omega)
    obtain ⟨l2, c2, _⟩ := pow_ok (p := [b, 1]) (M := 840) (m := 13) (d := 10) (l := 2) (N := 7) (B := 15) (by decide) (by unfold Sz; decide) hb (by simp) (by decide) (by decide) (by decide) n (by omega)
    have n8 : (840 ^ 8 : Int) ≠ 0 := by decide
    refine ⟨Nat.le_trans (strip_le _) ?_, fun j => ?_⟩
    · rw [addQ_len]
      have := strip_le (scaleQ (powQ [b, 1] n) (p.getD n 0))
      rw [scale_len] at this
      omega
    · show Cd (840 ^ 8) (300 + n + 1) ((stripQ (addQ (mvQ b p n) (stripQ (scaleQ (powQ [b, 1] n) (p.getD n 0))))).getD j 0)
      rw [strip_get, addQ_get, strip_get, scale_get]
      refine Cd.add n8 (c1 j) ?_
      have s10 : Sz 10 (840 : Int) := by unfold Sz; decide
      have z := ((c2 j).mul (hp n)).lift (show (840 : Int) ^ (7 - n) ≠ 0 from Int.pow_ne_zero (by decide)) (s10.pow (7 - n))
      have e : (840 : Int) ^ n * 840 * 840 ^ (7 - n) = 840 ^ 8 := by
        rw [← Int.pow_succ, ← Int.pow_add, show n + 1 + (7 - n) = 8 by omega]
      rw [e] at z
      exact z.mono (by omega)
theorem sh_cd {b : Rat} {p : List Rat} (hb : ∀ j, Cd 840 13 (([b, 1] : List Rat).getD j 0)) (hp : ∀ j, Cd 840 13 (p.getD j 0)) (hl : p.length ≤ 7) : (shQ b p).length ≤ 15 ∧ ∀ j, Cd (840 ^ 8) 307 ((shQ b p).getD j 0) := by
  obtain ⟨l, c⟩ := mv_cd hb hp p.length hl
  rw [mv_sh] at l c
  exact ⟨l, fun j => (c j).mono (by omega)⟩
def Shp : Nat → D → Prop
  | 0, _ => False
  | _ + 1, .non => True
  | _ + 1, .bl _ => True
  | _ + 1, .int _ => True
  | _ + 1, .str _ => True
  | n + 1, .tup ds => ds.length ≤ 1000000 ∧ ∀ d ∈ ds, Shp n d
  | n + 1, .lst ds => ds.length ≤ 1000000 ∧ ∀ d ∈ ds, Shp n d
  | _, _ => False
theorem shp_pD {r : List Rat} {n : Nat} (h : r.length ≤ 1000000) : Shp (n + 3) (pD r) := ⟨by rw [List.length_map]; exact h, fun d hd => by
  obtain ⟨z, _, rfl⟩ := List.mem_map.mp hd
  exact ⟨by simp, by simp [Shp]⟩⟩
theorem shp_frq {q : Rat} {n : Nat} : Shp (n + 2) (frq q) := ⟨by simp, by simp [Shp]⟩
theorem ne_lst (p : List Rat) (Q : D → Prop) (q : Q (.bl false)) : gNe (.lst (p.map frq)) (.lst (p.map frq)) Q := by
  have s : SeqAt.shaped (D.lst (p.map frq)).py = true := by
    have h1 := lay_rows p
    have h2 := depth_rows p
    simp only [D.py, SeqAt.shaped, PyData.canLay0, PyData.depth, Bool.and_eq_true, decide_eq_true_eq]
    exact ⟨h1, by omega⟩
  refine ⟨s, s, ?_⟩
  have e : PyData.eqv (D.lst (p.map frq)).py (D.lst (p.map frq)).py = true := by
    simp only [D.py, PyData.eqv]
    exact eqv_rows p
  show Q (.bl (!PyData.eqv (D.lst (p.map frq)).py (D.lst (p.map frq)).py))
  rw [e]; exact q
theorem same_all (n : Nat) (x : D) : ((rgD 0 n).filterMap fun _ => some x) = List.replicate n x := by
  have e : ∀ ds : List D, (ds.filterMap fun _ => some x) = List.replicate ds.length x := fun ds => by
    induction ds with
    | nil => rfl
    | cons d ds ih =>
      show x :: (ds.filterMap fun _ => some x) = _
      rw [ih]; rfl
  rw [e, length_rgD]
theorem neg_scale {p : List Rat} (j : Nat) : (scaleQ p (-1)).getD j 0 = -p.getD j 0 := by
  rw [scale_get]
  grind
end DL

set_option Elab.async false
set_option linter.all false
set_option maxRecDepth 100000
namespace DL
open PySem PySem.Spec PyProof.Rows L2
section
variable {K : PySem.W.Frag} {B : Option Addr} {F : Hp}
mutual
/-- data without a bag are data wherever the bag stands -/
theorem rp_none : ∀ {n : Nat} {v : V} {d : D}, Shp n d → Rp K B F v d → Rp K none F v d
  | 0, _, _, s, _ => s.elim
  | _ + 1, _, _, _, .non => .non
  | _ + 1, _, _, _, .bl b => .bl b
  | _ + 1, _, _, _, .int i => .int i
  | _ + 1, _, _, _, .str x => .str x
  | n + 1, _, _, s, .tup h r => .tup h (rpl_none (n := n) s.2 r)
  | n + 1, _, _, s, .lst h r => .lst h (rpl_none (n := n) s.2 r)
theorem rpl_none : ∀ {n : Nat} {vs : List V} {ds : List D}, (∀ d ∈ ds, Shp n d) → RpL K B F vs ds → RpL K none F vs ds
  | _, _, _, _, .nil => .nil
  | _, _, _, s, .cons h t => .cons (rp_none (s _ (.head _)) h) (rpl_none (fun d hd => s d (.tail _ hd)) t)
end
end
section
variable {G : Gx} {W : WX} {X : Cx} {e e1 e2 a : Expr} {pos : Pos}
/-- all that stands stays -/
theorem Rs.keepAll {B : Option Addr} {F H H' : Hp} {δ : DE} {σ : L2.St} (rs : Rs G B F H δ σ) (kp : ∀ a o, H a = some o → H' a = some o) : Rs G B F H' δ σ ∧ Stp B F H δ σ B F H' δ := by
  refine ⟨⟨⟨fun a o h => kp a o (rs.sub a o h), rs.low, rs.new, fun a o h hb => kp a o (rs.keep a o h hb), rs.bag0, rs.bagn, fun b hb => ⟨(rs.bag b hb).1, bagged_keep (rs.bag b hb).2 (Same.refl _) fun o e => kp b o e⟩⟩, rs.len, fun i s h => ?_, rs.dis⟩, ⟨Same.refl _, fun _ h => h, fun _ h => .inl h, fun _ _ h => .inl h, fun a o h _ _ => kp a o h, fun a o h => ⟨o, kp a o h⟩, fun _ ds h => ⟨ds, h⟩⟩⟩
  obtain ⟨ov, e, q⟩ := rs.sl i s h
  refine ⟨ov, e, ?_⟩
  cases s with
  | no => exact q
  | sh d =>
    cases ov with
    | none => exact q
    | some v => exact q
  | ow ds =>
    cases ov with
    | none => exact q
    | some v =>
      obtain ⟨p, xs, e1, e2, e3, e4, e5, e6⟩ := q
      exact ⟨p, xs, e1, e2, e3, e4, kp p _ e5, e6⟩
/-- f(x, e) of a list of one's own, lent to f, which tells a truth of it: the list stays one's own -/
@[simp] def uPk (wp : DSp) (i : Nat) (u : UV) : UE := fun δ Q R => (∃ ds, δ[i]? = some (.ow ds)) ∧ u δ (fun d δ1 => match δ1[i]? with
  | some (.ow ds) => (∃ n, Shp n (.lst ds)) ∧ (∃ n, Shp n d) ∧ wp [.lst ds, d] (fun r => match r with | .sh (.bl b) => Q (.sh (.bl b)) δ1 | _ => False) (fun _ => False)
  | _ => False) R
theorem qe_pk {p : Pos} {j k i : Nat} {x : Str} {wp : DSp} {u : UV} (c : CalD X.prog X.w X.K X.mg X.base j x wp) (hr : Room k X.A) (hjk : j ≤ k) (hg : Gl X x) (tk : Takes X W) (h1 : PE X e1 (tVar i)) (h2 : QV G W X e2 u) (hk : X.K = G.K := by rfl)
    (hdb : (x == ("__debug__" : Str)) = false := by decide) (hs1 : starEach [e1, e2] X.env = (false, eval e1 X.env) :: starEach [e2] X.env := by rfl) (hs2 : starEach [e2] X.env = (false, eval e2 X.env) :: starEach [] X.env := by rfl) (hpl : (backTo pos (starEach [e2] X.env)).any (·.1) = false := by rfl) :
    QE G W X (.Call (.Name x p) [e1, e2] [] pos) (uPk wp i u) := by
  obtain ⟨f, fd, ps, dvl, dvs, dds, w0, F0, gm, kp, b, d, rd, rfl⟩ := (c.mono hjk).ex
  refine pe_mono (pe_callSD F0 hr hg gm kp b d (fun σ => passAt tk σ) (pa_cons h1 (pa_cons h2 pa_nil hs2) hs1) hdb hs1 hpl) fun σ H Q ⟨B, F, δ, Qd, Rd, rs, h, k, x⟩ => ?_
  obtain ⟨⟨ds0, h0⟩, h⟩ := h
  obtain ⟨p, xs, g1, g2, g3, g4, g5, g6⟩ := rs.owAt h0
  refine ⟨.ref p, g1, tG_then rs h x fun d δ1 q B1 F1 H1 v st1 rs1 r1 => ?_⟩
  split at q
  · rename_i ds hd
    obtain ⟨p', ys, f1, f2, f3, f4, f5, f6⟩ := rs1.owAt hd
    rw [g1] at f1; cases f1
    obtain ⟨⟨n, s1⟩, ⟨m, s2⟩, q⟩ := q
    have le : Same F1 (upd F1 p (.lst ys)) := same_upd f3
    have r1' := rp_none s2 (r1.mono le (fun _ h => h))
    have r2' := rp_none s1 (Rp.lst (.inl (.inl upd_same)) (f6.mono le (fun _ h => h)))
    rw [hk]
    refine ⟨none, upd F1 p (.lst ys), [.lst ds, d] ++ dds, _, _, fun a u e => ?_, fun b e => (by cases e), .cons r2' (.cons r1' (by rw [← hk]; exact rd _ _)), q, fun r qr B' F' H' v' fr rt => ?_, fun x' rx => rx.elim⟩
    · by_cases ha : a = p
      · rw [ha, upd_same] at e; cases e; rw [ha]; exact f5
      · rw [upd_ne ha] at e; exact rs1.sub a u e
    · split at qr
      · rename_i bb
        have kp2 : ∀ a o, H1 a = some o → H' a = some o := fun a o h => fr.keep a o h (by simp)
        obtain ⟨rs2, st2⟩ := rs1.keepAll kp2
        have rt' : Rp G.K B' F' v' (.bl bb) := rt
        rw [rp_bl rt']
        exact k _ _ qr B1 F1 H' _ (st1.trans st2) rs2 (.bl bb)
      · exact qr.elim
  · exact q.elim
/-- x.clear() -/
@[simp] def uClr (i : Nat) : UE := fun δ Q _ => match δ[i]? with
  | some (.ow _) => Q (.sh .non) (δ.set i (.ow []))
  | _ => False
theorem qe_clr {i : Nat} {apos cpos : Pos} (ho : PE X a (tVar i)) (hbase : attributeBase a "clear" X.env (eval a X.env) = eval a X.env := by rfl) (hline : (apos.endLine == cpos.line) = true := by rfl) : QE G W X (.Call (.Attribute a "clear" apos) [] [] cpos) (uClr i) :=
  pe_mono (pe_bm0 PySem.F.plainAttrs_list PySem.F.slot_list_clear PySem.F.type_list_clear mt_clear ho hbase hline) fun σ H Q ⟨B, F, δ, Qd, Rd, rs, h, k, x⟩ => by
    unfold uClr at h
    split at h
    · rename_i ds hd
      obtain ⟨p, xs, e1, e2, e3, e4, e5, e6⟩ := rs.owAt hd
      obtain ⟨rs2, st2⟩ := rs.setOwn hd e1 RpL.nil
      exact ⟨.ref p, e1, .inl ⟨rfl, xs, .inl (.inl e5)⟩, p, xs, rfl, rfl, e5, k _ _ h B F _ _ st2 rs2 .non⟩
    · exact h.elim
end
end DL

set_option Elab.async false
set_option linter.all false
set_option maxRecDepth 100000
namespace DL
open PySem PySem.Spec PyProof.Rows L2
/-! ### C.__init__(self, ..) by the name of a class of the program -/
structure ClsI (K : PySem.W.Frag) (C f : Addr) : Prop where
  ty : PySem.W.typeIn K (.ref C) = some (.type "type")
  sp : PySem.W.specialIn K (.ref C) "__getattribute__" = some (some (.builtin "type.__getattribute__"))
  rd : PySem.W.readsIn K C (.type "type") = true
  fd : PySem.W.findCls K (.ref C) (.type "type") "__init__" = some (.val (.ref f))
  kp : PySem.W.keepIn K (.ref f) = true
def cbB (K : PySem.W.Frag) (x : Str) : Bool :=
  decide (PySem.W.typeIn K (.ref (He.ga K x)) = some (.type "type")) && (decide (PySem.W.specialIn K (.ref (He.ga K x)) "__getattribute__" = some (some (.builtin "type.__getattribute__"))) && (PySem.W.readsIn K (He.ga K x) (.type "type") &&
  ((match PySem.W.findCls K (.ref (He.ga K x)) (.type "type") "__init__" with | some (.val (.ref f)) => f == He.ma K (He.ga K x) "__init__" | _ => false) && PySem.W.keepIn K (.ref (He.ma K (He.ga K x) "__init__")))))
theorem cbB_ok {K : PySem.W.Frag} {x : Str} (h : cbB K x = true) : ClsI K (He.ga K x) (He.ma K (He.ga K x) "__init__") := by
  obtain ⟨h1, h⟩ := He.ba h
  obtain ⟨h2, h⟩ := He.ba h
  obtain ⟨h3, h⟩ := He.ba h
  obtain ⟨h4, h5⟩ := He.ba h
  refine ⟨of_decide_eq_true h1, of_decide_eq_true h2, h3, ?_, h5⟩
  split at h4
  · rename_i f hf
    rw [hf, eq_of_beq h4]
  · cases h4
section
variable {X : Cx} {e : Expr} {es : List Expr} {ta : TA} {p1 p2 pos : Pos} {CX : CXT}
theorem pe_ini {x : Str} {C f : Addr} {k : Nat} {fd : FuncData} {ps : List Str} {sp : Sp} {E : L2.St → XK} {pl : Sem Bool} (hg : Gl X x) (hm : X.mg x = some (.ref C)) (T : ClsI X.K C f) (F : FnOk X.prog X.w X.K X.mg X.base CX k f fd ps sp) (hr : Room k X.A) (hb : Binds X.K fd ps [])
    (hx : ∀ σ, PassesAt CX X σ (E σ)) (ha : PA X (e :: es) ta) (hdb : (x == ("__debug__" : Str)) = false := by decide)
    (hc : eval (.Call (.Attribute (.Name x p1) "__init__" p2) (e :: es) [] pos) X.env = (do
      let ov ← eval (.Name x p1) X.env
      standAt p2.atName
      let (f, first) ← holding [ov] (getMethod ov "__init__" pl)
      callWith pos f first (backTo pos (starEach (e :: es) X.env)) (backToKw pos (keywordEach [] X.env))) := by rfl)
    (he : starEach (e :: es) X.env = (false, eval e X.env) :: starEach es X.env := by rfl) (hpl : (backTo pos (starEach es X.env)).any (·.1) = false := by rfl) :
    PE X (.Call (.Attribute (.Name x p1) "__init__" p2) (e :: es) [] pos) (tCallS sp E ta) := by
  refine ⟨fun pins s σ H Q I h => ?_⟩
  refine PySem.W.methodCall_KW (ld_glob I hg hm ?_ hdb) hc
  obtain ⟨m, fr⟩ := I.fr
  refine PySem.W.method_of_cls fr I.ok.mod.kin T.sp (PySem.W.cls_val fr I.ok.mod.kin T.ty T.rd T.fd rfl ?_)
  show wpAny _ _ (callWith pos (Value.ref f) [] (backTo pos (starEach (e :: es) X.env)) []) _ _ _
  refine PySem.W.callWith_K (h₀ := X.base) I.ok.mod.kin T.kp (thn (ha.run pos pins _ σ H _ (I.tok _) h) fun us s1 ⟨vs, H1, I1, r, q⟩ => ⟨I1.kIn, ?_⟩) he hpl
  exact run_fnS F hr hb (hx σ) I1 r q
end
/-- an own class over an own class: B.__init__(self); self.word = text -/
def tIni2 (sp : Sp) (E : L2.St → XK) (K : PySem.W.Frag) (f wd : Str) : TS := tSeq (tDrop (tCallS sp E (tCons (tVar 0) tNil))) (tExSt K f (tVar 0) (tC (.str wd)))
theorem pure_ini2 {K : PySem.W.Frag} {C : Addr} {Bt nI iI : String} {tl : List Value} {f wd : Str} {fs : List (Str × V)} {E0 : L2.St → XK} (T : ExG K C Bt nI iI tl) (hno : PySem.W.findIn K (.ref C) f = some none) (hl : fs.length ≤ 900) (vs : List V) (H : Hp) (Q : VK) (E : XK) (h : spIni C [] ((f, .str wd) :: fs) vs H Q E) :
    tIni2 (spIni C [] fs) E0 K f wd { nx := fun _ H' => Q .non H', rt := Q } (start ["self"] vs) H := by
  obtain ⟨a, rfl, ea, k⟩ := h
  refine ⟨.ref a, rfl, a, rfl, ea, fun dx H' hd hda h1 h2 h3 => ?_⟩
  refine ⟨.ref a, rfl, a, C, Bt, nI, iI, tl, rfl, T, hno, .inr ⟨dx, fs, h1, h2, hl, ?_⟩⟩
  refine k dx _ hd hda ?_ upd_same fun b hb hb2 => ?_
  · rw [upd_ne (Ne.symm hda)]; exact h1
  · rw [upd_ne hb2]; exact h3 b hb hb2
end DL

set_option Elab.async false
set_option linter.all false
set_option maxRecDepth 100000
namespace DL
open PySem PySem.Spec PyProof.Rows L2
/-! ### the head with the interpreter's own statics in what is looked at -/
def asY (g : Addr → Option Obj) (n : Nat) : List Addr := He.asD g n ++ [cStatics]
def obsY (n : Nat) (fa : List He.Fa) (fn : List He.DefD) (ex : PySem.W.Frag → Bool) (g : Addr → Option Obj) : He.AlX := (He.obsT fa fn [] (He.frT g (asY g n)), ex (He.frT g (asY g n)))
theorem saysY_of {n : Nat} {fa : List He.Fa} {fn : List He.DefD} {ex : PySem.W.Frag → Bool} {w : World} {h : Heap} (e : obsY n fa fn ex h.get? = He.valX fn [] w) : He.SaysX fa fn [] [] ex w h (He.frT h.get? (asY h.get? n)) := by
  have e1 : He.obsT fa fn [] (He.frT h.get? (asY h.get? n)) = He.valT fn [] w := congrArg (fun z : He.AlX => z.1) e
  have e2 : ex (He.frT h.get? (asY h.get? n)) = true := congrArg (fun z : He.AlX => z.2) e
  exact ⟨e1, e2, (fun p hp => by cases hp), (fun p hp => by cases hp), (fun p hp => by cases hp)⟩
def hookY (n : Nat) (fa : List He.Fa) (fn : List He.DefD) (ex : PySem.W.Frag → Bool) : PySem.W.Hook where
  α := He.AlX
  obs := fun s => obsY n fa fn ex s.heap.get?
  val := fun w => He.valX fn [] w
  says := fun w h => ∃ K : PySem.W.Frag, K.In h ∧ He.SaysX fa fn [] [] ex w h K
  of := fun _ _ e => ⟨_, He.frT_in, saysY_of e⟩
  keeps := fun _ _ _ ⟨K, hK, c⟩ k => ⟨K, PySem.W.Frag.In.keeps hK k, ⟨c.t, c.more, c.hd, c.out, fun p hp => k _ _ (c.empty p hp)⟩⟩
theorem obsY_eq {n : Nat} {fa : List He.Fa} {fn : List He.DefD} {ex : PySem.W.Frag → Bool} {g : Addr → Option Obj} {s : Shared} (h : ∀ a, g a = s.heap.get? a) : obsY n fa fn ex g = (hookY n fa fn ex).obs s := by
  have e : g = s.heap.get? := funext h
  rw [e] <;> rfl
abbrev st_ValueError : StoreFacts "ValueError" tl_ValueError "object.__setattr__" "object" := PySem.F.store_ValueError
end DL

set_option Elab.async false
set_option linter.all false
set_option maxRecDepth 100000
namespace DL
open PySem PySem.Spec PyProof.Rows L2
/-! ### // of numbers of any size: the interpreter goes by its own module where they are great; there it wants room in the stack, and that nobody watches -/
def nsO (o : Obj) : Bool := match o.data with
  | .dict es _ => es.all (fun e => match e.key with | .str _ _ => true | _ => false)
  | _ => false
def nsKB (K : PySem.W.Frag) (a : Addr) : Bool := match K.lookup a with
  | some o => nsO o
  | none => false
def nsKM (K : PySem.W.Frag) (a : Addr) (n : Str) : Option Value := match K.lookup a with
  | some o => (match o.data with | .dict es _ => nsFind es n | _ => none)
  | none => none
theorem nsKM_eq {K : PySem.W.Frag} {h : Heap} {a : Addr} (X : K.In h) {o : Obj} (e : K.lookup a = some o) : h.nsMap a = nsKM K a := by
  funext n
  unfold Heap.nsMap nsKM
  rw [X _ _ e, e]
  rfl
theorem ns_of {K : PySem.W.Frag} {h : Heap} {a : Addr} (X : K.In h) (b : nsKB K a = true) : h.Ns a (nsKM K a) := by
  unfold nsKB at b
  split at b
  · rename_i o e
    rw [← nsKM_eq X e]
    refine Heap.Ns.of_isNs ?_
    unfold Heap.isNs
    rw [X _ _ e]
    exact b
  · cases b
def modO (o : Obj) : Bool := match o with
  | ⟨.type n, some d, _, _⟩ => decide (n = "module") && decide (d = builtinsNs)
  | _ => false
def bmB (K : PySem.W.Frag) : Bool := match nsKM K mainGlobals "__builtins__" with
  | some (.ref bm) => (match K.lookup bm with | some ob => modO ob | none => false)
  | _ => false
def seerB (K : PySem.W.Frag) : Bool := nsKB K cStatics && ((nsKM K cStatics "sys.audit-hooks").isNone && ((nsKM K cStatics "sys.dict").isNone && (nsKB K sysModules && ((nsKM K sysModules "_pylong").isNone && bmB K))))
theorem modO_ok {o : Obj} (h : modO o = true) : o.cls = .type "module" ∧ o.dict = some builtinsNs := by
  unfold modO at h
  split at h
  · obtain ⟨h1, h2⟩ := He.ba h
    rw [of_decide_eq_true h1, of_decide_eq_true h2]
    exact ⟨rfl, rfl⟩
  · cases h
theorem seer_of {K : PySem.W.Frag} {h : Heap} {mg : Str → Option Value} (X : K.In h) (G : h.Ns mainGlobals mg) (blt : ∃ mb, h.Ns builtinsNs mb ∧ ∀ x : Str, x ≠ "__name__" → mb x = bootBuiltins x) (b : seerB K = true) : h.NoSeer := by
  obtain ⟨b1, b⟩ := He.ba b
  obtain ⟨b2, b⟩ := He.ba b
  obtain ⟨b3, b⟩ := He.ba b
  obtain ⟨b4, b⟩ := He.ba b
  obtain ⟨b5, b⟩ := He.ba b
  unfold bmB at b
  split at b
  rotate_left
  · cases b
  rename_i bm hbm
  split at b
  rotate_left
  · cases b
  rename_i ob hob
  obtain ⟨m1, m2⟩ := modO_ok b
  refine ⟨⟨_, ns_of X b1, Option.isNone_iff_eq_none.mp b2, Option.isNone_iff_eq_none.mp b3⟩, ⟨_, ns_of X b4, Option.isNone_iff_eq_none.mp b5⟩, blt, mg, bm, ob, G, ?_, X _ _ hob, m1, m2⟩
  have e : mg = h.nsMap mainGlobals := Heap.Ns.eq_nsMap G
  rw [e]
  unfold nsKM at hbm
  split at hbm
  · rename_i o ho
    unfold Heap.nsMap
    rw [X _ _ ho]
    exact hbm
  · cases hbm
section
variable {G : Gx} {W : WX} {X : Cx} {a b : Expr} {pos : Pos}
structure Roomy (X : Cx) : Prop where
  sn : seerB X.K = true
  tr : X.prog.given.tree = none
  dp : X.A.depth + 100 < recursionLimit
  st : X.stack = X.env :: X.outer
  ge : X.env.scope.isGenerator = false
  co : X.env.scope.isCoroutine = false
theorem op_fdivN (r : Roomy X) : OpR X (binaryOp .FloorDiv) (rI (fun _ j => j ≠ 0) fun i j => .int (i.fdiv j)) := by
  intro pins s σ H x y v u Q I rx ry h
  obtain ⟨i, j, rfl, rfl, hc, q⟩ := h
  obtain ⟨t, rfl⟩ := rx
  obtain ⟨t', rfl⟩ := ry
  have ns : s.heap.NoSeer := (seer_of I.ok.mod.kin I.ok.mod.glob I.ok.mod.blt r.sn).keeps I.bk
  refine floordiv_int hc (show EP X pins σ Q (Value.int (i.fdiv j) s.toks) { s with toks := s.toks + 1 } from ⟨.int (i.fdiv j), H, I.tok _, ⟨_, rfl⟩, q⟩) (.inr (PylongRoom.of I.nolimit r.dp (SeerAt.of ns r.tr (by rw [I.ok.frames, r.st]) r.ge r.co I.ok.blt I.ok.glob)))
@[simp] def gFdvN : G2 := gI (fun _ j => j ≠ 0) fun i j => .int (i.fdiv j)
theorem qv_fdvN {ua ub : UV} (r : Roomy X) (ha : QV G W X a ua) (hb : QV G W X b ub) : QV G W X (.BinOp a .FloorDiv b pos) (uOp gFdvN ua ub) := qv_op (op_fdivN r) opd_I ha hb
end
theorem roomy_of {CX : CXT} {P : Program} {w : World} {K : PySem.W.Frag} {mg : Str → Option Value} {base : Heap} {N : List Str} {qual : Str} {sc : Scope} {f : Addr} {cd : Value} {A : Around} {outer : List Env} {s : Shared} {H : Hp} {E : XK} {k : Nat} (sn : seerB K = true) (tn : P.given.tree = none) (hr : Room k (A.deeper (envOfC qual sc s.heap.objs.size f cd))) (hk : 33 ≤ k) (ge : sc.isGenerator = false) (co : sc.isCoroutine = false) :
    Roomy (cxOf CX P w K mg base N qual sc f cd A outer s H E) := ⟨sn, tn, by have := hr.dp; show (A.deeper (envOfC qual sc s.heap.objs.size f cd)).depth + 100 < _; omega, rfl, ge, co⟩
/-! ### the head that sees all that is wanted for it -/
def bmA (g : Addr → Option Obj) : Addr := match g mainGlobals with
  | some o => (match o.data with | .dict es _ => (match nsFind es "__builtins__" with | some (.ref a) => a | _ => 0) | _ => 0)
  | none => 0
def asZ (g : Addr → Option Obj) (n : Nat) : List Addr := He.asD g n ++ [cStatics, sysModules, bmA g]
def obsZ (n : Nat) (fa : List He.Fa) (fn : List He.DefD) (ex : PySem.W.Frag → Bool) (g : Addr → Option Obj) : He.AlX := (He.obsT fa fn [] (He.frT g (asZ g n)), ex (He.frT g (asZ g n)))
theorem saysZ_of {n : Nat} {fa : List He.Fa} {fn : List He.DefD} {ex : PySem.W.Frag → Bool} {w : World} {h : Heap} (e : obsZ n fa fn ex h.get? = He.valX fn [] w) : He.SaysX fa fn [] [] ex w h (He.frT h.get? (asZ h.get? n)) := by
  have e1 : He.obsT fa fn [] (He.frT h.get? (asZ h.get? n)) = He.valT fn [] w := congrArg (fun z : He.AlX => z.1) e
  have e2 : ex (He.frT h.get? (asZ h.get? n)) = true := congrArg (fun z : He.AlX => z.2) e
  exact ⟨e1, e2, (fun p hp => by cases hp), (fun p hp => by cases hp), (fun p hp => by cases hp)⟩
def hookZ (n : Nat) (fa : List He.Fa) (fn : List He.DefD) (ex : PySem.W.Frag → Bool) : PySem.W.Hook where
  α := He.AlX
  obs := fun s => obsZ n fa fn ex s.heap.get?
  val := fun w => He.valX fn [] w
  says := fun w h => ∃ K : PySem.W.Frag, K.In h ∧ He.SaysX fa fn [] [] ex w h K
  of := fun _ _ e => ⟨_, He.frT_in, saysZ_of e⟩
  keeps := fun _ _ _ ⟨K, hK, c⟩ k => ⟨K, PySem.W.Frag.In.keeps hK k, ⟨c.t, c.more, c.hd, c.out, fun p hp => k _ _ (c.empty p hp)⟩⟩
theorem obsZ_eq {n : Nat} {fa : List He.Fa} {fn : List He.DefD} {ex : PySem.W.Frag → Bool} {g : Addr → Option Obj} {s : Shared} (h : ∀ a, g a = s.heap.get? a) : obsZ n fa fn ex g = (hookZ n fa fn ex).obs s := by
  have e : g = s.heap.get? := funext h
  rw [e] <;> rfl
end DL

set_option Elab.async false
set_option linter.all false
set_option maxRecDepth 100000
namespace DL
open PySem PySem.Spec PyProof.Rows L2
/-! ### data that stands in the program's own objects (constants, defaults), by a look -/
def relsB (f : V → D → Bool) : List Value → List D → Bool
  | [], [] => true
  | u :: us, d :: ds => (match absV u with | some v => f v d | none => false) && relsB f us ds
  | _, _ => false
def rpB (K : PySem.W.Frag) : Nat → V → D → Bool
  | 0, _, _ => false
  | n + 1, v, d => match v, d with
    | .non, .non => true
    | .bl a, .bl b => a == b
    | .int i, .int j => decide (i = j)
    | .str x, .str y => decide (x = y)
    | .ref a, .tup ds => (match K.lookup a with
      | some ⟨.type c, _, .seq its _, _⟩ => decide (c = "tuple") && (decide (its.size ≤ sizeLine) && relsB (rpB K n) its.toList ds)
      | _ => false)
    | _, _ => false
theorem absV_rel {v : V} : ∀ {u : Value}, absV u = some v → RelV v u := fun {u} h => by
  cases u <;> simp [absV] at h <;> subst h <;> first | rfl | exact ⟨_, rfl⟩
theorem relsB_ok {K : PySem.W.Frag} {B : Option Addr} {F : Hp} {f : V → D → Bool} (hf : ∀ v d, f v d = true → Rp K B F v d) : ∀ (us : List Value) (ds : List D), relsB f us ds = true → ∃ vs, Vals vs us ∧ RpL K B F vs ds
  | [], [], _ => ⟨[], .nil, .nil⟩
  | [], _ :: _, h => by cases h
  | _ :: _, [], h => by cases h
  | u :: us, d :: ds, h => by
    obtain ⟨h1, h2⟩ := He.ba (show ((match absV u with | some v => f v d | none => false) && relsB f us ds) = true from h)
    obtain ⟨vs, r, p⟩ := relsB_ok hf us ds h2
    split at h1
    · rename_i v hv
      exact ⟨v :: vs, .cons (absV_rel hv) r, .cons (hf _ _ h1) p⟩
    · cases h1
theorem rpB_ok {K : PySem.W.Frag} {B : Option Addr} {F : Hp} : ∀ (n : Nat) (v : V) (d : D), rpB K n v d = true → Rp K B F v d
  | 0, _, _, h => by cases h
  | n + 1, v, d, h => by
    unfold rpB at h
    split at h
    · exact .non
    · rw [eq_of_beq h]; exact .bl _
    · rw [of_decide_eq_true h]; exact .int _
    · rw [of_decide_eq_true h]; exact .str _
    · rename_i a ds
      split at h
      · rename_i c od its m sl hl
        obtain ⟨h1, h2⟩ := He.ba h
        obtain ⟨h3, h4⟩ := He.ba h2
        obtain ⟨vs, r, p⟩ := relsB_ok (fun v d => rpB_ok n v d) its.toList ds h4
        exact .tup (.inr ⟨_, its, m, hl, congrArg Value.type (of_decide_eq_true h1), rfl, of_decide_eq_true h3, r⟩) p
      · cases h
    · cases h
def rpLB (K : PySem.W.Frag) : List V → List D → Bool
  | [], [] => true
  | v :: vs, d :: ds => rpB K 20 v d && rpLB K vs ds
  | _, _ => false
theorem rpLB_ok {K : PySem.W.Frag} {B : Option Addr} {F : Hp} : ∀ {vs : List V} {ds : List D}, rpLB K vs ds = true → RpL K B F vs ds
  | [], [], _ => .nil
  | [], _ :: _, h => by cases h
  | _ :: _, [], h => by cases h
  | v :: vs, d :: ds, h => by
    obtain ⟨h1, h2⟩ := He.ba (show (rpB K 20 v d && rpLB K vs ds) = true from h)
    exact .cons (rpB_ok 20 v d h1) (rpLB_ok h2)
/-- a module's constant of any depth -/
theorem gl_any {K : PySem.W.Frag} {mg : Str → Option Value} {x : Str} {d : D} (g : mg x = some (.ref (He.ga K x))) (t : rpB K 20 (.ref (He.ga K x)) d = true) : GlC K mg x d := ⟨.ref (He.ga K x), _, g, rfl, fun B F => rpB_ok 20 _ _ t⟩
/-! ### a, b, c = e1, e2, e3 -/
@[simp] def uPar3 (i j l : Nat) (ua : UA) : US := fun E δ => ua δ (fun ds δ1 => match ds with
  | [x, y, z] => E.nx (((δ1.set i (.sh x)).set j (.sh y)).set l (.sh z))
  | _ => False) E.ex
theorem rpl3 {K : PySem.W.Frag} {B : Option Addr} {F : Hp} {vs : List V} {d d' d'' : D} (h : RpL K B F vs [d, d', d'']) : ∃ v v' v'', vs = [v, v', v''] ∧ Rp K B F v d ∧ Rp K B F v' d' ∧ Rp K B F v'' d'' := by
  cases h with | cons r t => cases t with | cons r' t => cases t with | cons r'' t => cases t; exact ⟨_, _, _, rfl, r, r', r''⟩
theorem qs_par3 {G : Gx} {W : WX} {X : Cx} {a b c : Expr} {pos : Pos} {i j l : Nat} {x y z : Str} {px py pz pt : Pos} {kt k2 : Nat} {pt2 : Pos} {ua : UA} (hc : X.calm = true) (hN : X.N.Nodup) (hi : X.N[i]? = some x) (hj : X.N[j]? = some y) (hl : X.N[l]? = some z) (hij : i ≠ j) (hil : i ≠ l) (hjl : j ≠ l) (hx : X.env.scope.names.lookup x = some .local) (hy : X.env.scope.names.lookup y = some .local) (hz : X.env.scope.names.lookup z = some .local) (ha : QA G W X [a, b, c] ua)
    (hw : swappedStores [.Tuple [.Name x px, .Name y py, .Name z pz] kt pt] (.Tuple [a, b, c] k2 pt2) X.env = pure (some [x, y, z]) := by rfl) (hs : swapsWithSole [.Tuple [.Name x px, .Name y py, .Name z pz] kt pt] (.Tuple [a, b, c] k2 pt2) pos.line X.env = pure false := by rfl) :
    QS G W X (.Assign [.Tuple [.Name x px, .Name y py, .Name z pz] kt pt] (.Tuple [a, b, c] k2 pt2) pos) (uPar3 i j l ua) := ps_mono (ps_par3 hc hN hi hj hl hij hil hjl hx hy hz ha hw hs) fun D σ H ⟨B, F, δ, E, rs, h, k⟩ =>
  tG_then rs h k.xok fun ds δ1 q B1 F1 H1 vs st1 rs1 r1 => by
    split at q
    · obtain ⟨v, w, u, rfl, z, z', z''⟩ := rpl3 r1
      exact ⟨v, w, u, rfl, k.nx _ q B1 F1 H1 _ st1.toLe (((rs1.setSh z).setSh z').setSh z'')⟩
    · exact q.elim
end DL

set_option Elab.async false
set_option linter.all false
set_option maxRecDepth 100000
namespace DL
open PySem PySem.Spec PyProof.Rows L2
section
variable {prog : Program} {w : World} {A : Around} {E : Value → Shared → Prop} {s : Shared}
/-! ### t[::-1] of a tuple -/
theorem applied_rev {b : Addr} {v1 v2 v3 : Value} {n : Nat} {Q : Int × Int × Nat → Shared → Prop} (hb : s.heap.IsSliceOf b v1 v2 v3) (p1 : IsPart v1 none) (p2 : IsPart v2 none) (p3 : IsPart v3 (some (-1)))
    (h : Q ((n : Int) - 1, -1, n) s) : wpAny (model prog w) A (Builtin.Slice.sliceApplied (.ref b) (pure (n : Int))) Q E s := by
  obtain ⟨ob, g1, g2, g3⟩ := id hb
  unfold Builtin.Slice.sliceApplied Builtin.Slice.sliceFields
  refine wpAny_bind (wpAny_bind (wpAny_field g1 g3 (x := v1) rfl (wpAny_bind (wpAny_field g1 g3 (x := v2) rfl (wpAny_bind (wpAny_field g1 g3 (x := v3) rfl (wpAny_pure ?_)))))))
  refine wpAny_bind (HT.slicePart_ p3 ?_)
  show wpAny _ _ (if ((-1 : Int) == 0) = true then _ else _) _ _ s
  rw [if_neg (by decide)]
  refine wpAny_bind (HT.slicePart_ p1 (wpAny_bind (HT.slicePart_ p2 (wpAny_bind (wpAny_pure ?_)))))
  show wpAny _ _ (pure ((n : Int) - 1, (-1 : Int), Builtin.Slice.slicePlaces ((n : Int) - 1) (-1) (-1))) _ _ s
  have e : Builtin.Slice.slicePlaces ((n : Int) - 1) (-1) (-1) = n := by
    unfold Builtin.Slice.slicePlaces
    rw [if_neg (by decide)]
    split
    · rw [show (- -1 : Int) = 1 by decide, Int.ediv_one]
      omega
    · omega
  rw [e]
  exact wpAny_pure h
theorem pick_rev (xs : Array Value) : ((List.range xs.size).filterMap fun (m : Nat) => xs[(((xs.size : Int) - 1) + (m : Int) * -1).toNat]?) = xs.toList.reverse := by
  have e : (fun (m : Nat) => xs[(((xs.size : Int) - 1) + (m : Int) * -1).toNat]?) = (fun x => xs[x]?) ∘ fun m => xs.size - 1 - m := by
    funext m
    show xs[_]? = xs[_]?
    rw [show (((xs.size : Int) - 1) + (m : Int) * -1).toNat = xs.size - 1 - m by omega]
  rw [e, ← List.filterMap_map, PySem.W.krv_range, List.filterMap_reverse, PySem.W.krv_all]
theorem tup_rev {t b : Addr} {xs : Array Value} {v1 v2 v3 : Value} {Q : Value → Shared → Prop} (ht : IsTup s.heap t xs) (hb : s.heap.IsSliceOf b v1 v2 v3) (p1 : IsPart v1 none) (p2 : IsPart v2 none) (p3 : IsPart v3 (some (-1)))
    (h : Q (.ref s.heap.objs.size) { s with heap := s.heap.push { cls := .type "tuple", data := .seq xs.toList.reverse.toArray } }) (hz : xs.size ≤ sizeLine) : wpAny (model prog w) A (getItem (.ref t) (.ref b)) Q E s := by
  obtain ⟨ob, g1, g2, g3⟩ := id hb
  have tb : s.TypeIs (.ref b) "slice" := ⟨ob, g1, g2⟩
  have ok : sizeOk (.seq xs.toList.reverse.toArray) := by
    show xs.toList.reverse.toArray.size ≤ sizeLine
    rw [List.size_toArray, List.length_reverse, Array.length_toList]
    exact hz
  unfold getItem
  try with_reducible refine wpAny_holding ?_
  first | refine wpAny_bind (wpAny_pure ?_) | skip
  refine wpAny_bind (wpAny_sequenceKey ht.typeIs (by decide) (wpAny_bind (wpAny_callSpecial?_slot (name := Str.ofString "__getitem__") ht.typeIs PyProof.Rows.slot_tuple_getitem (wpAny_call_entry PyProof.Rows.slot_tuple_getitem ht.typeIs entry_tuple_getitem ?_ (args_tuple_getitem _ _)))))
  show wpAny _ _ (Builtin.Tuple.tupleItemsOf (.ref t) >>= _) _ _ s
  refine wpAny_bind (tupleItemsOf_ ht (wpAny_bind (wpAny_typeOf tb ?_)))
  rw [if_pos (by decide)]
  refine wpAny_bind (applied_rev hb p1 p2 p3 ?_)
  have no : ¬ ((((xs.size : Int) - 1) == 0 && (-1 : Int) == 1 && xs.size == xs.size) = true) := by
    rw [show ((-1 : Int) == 1) = false from rfl, Bool.and_false, Bool.false_and]
    exact Bool.false_ne_true
  show wpAny _ _ (if (((xs.size : Int) - 1) == 0 && (-1 : Int) == 1 && xs.size == xs.size) = true then _ else _) _ _ s
  rw [if_neg no, pick_rev]
  first
    | exact wpAny_bind (m := Builtin.Tuple.tupleExact _) (wpAny_newObj_type (wpAny_pure ⟨_, rfl, wpAny_pure h⟩) ok)
    | exact wpAny_bind (m := Builtin.Tuple.tupleExact _) (wpAny_newObj_type (wpAny_bind (wpAny_pure (wpAny_pure ⟨_, rfl, wpAny_pure h⟩))) ok)
    | exact wpAny_bind (wpAny_bind (m := Builtin.Tuple.tupleExact _) (wpAny_newObj_type (wpAny_pure (wpAny_pure ⟨_, rfl, wpAny_pure h⟩)) ok))
    | exact wpAny_bind (wpAny_bind (m := Builtin.Tuple.tupleExact _) (wpAny_newObj_type (wpAny_pure ⟨_, rfl, wpAny_pure h⟩) ok))
end
section
variable {G : Gx} {W : WX} {X : Cx} {e a b c : Expr} {es : List Expr} {pos : Pos}
def tRevT (K : PySem.W.Frag) (te : TE) : TE := fun σ H Q => te σ H fun x H1 => ∃ a xs, x = .ref a ∧ SqT K H1 a xs ∧ ∀ p, H1 p = none → Q (.ref p) (upd H1 p (.tup xs.reverse))
theorem pe_revT {te : TE} {k : Nat} {q1 q2 q3 : Pos} (he : PE X e te) : PE X (.Subscript e (.Slice none none (some (.UnaryOp .USub (.Constant (.int 1) k q1) q2)) q3) pos) (tRevT X.K te) := by
  refine ⟨fun pins s σ H Q I h => Subscript_ (thn (he.run pins s σ H _ I h) fun v s1 ⟨x, H1, I1, r1, y1⟩ => ?_)⟩
  obtain ⟨t, xs, ex, hx, q⟩ := y1
  subst ex
  cases r1
  have step : PO X (some (.UnaryOp .USub (.Constant (.int 1) k q1) q2)) (tPart (tUn (rU fun i => .int (-i)) (tC (.int 1)))) := po_some (pe_un un_neg pe_int)
  refine wpAny_Slice (thn (po_none.run pins s1 σ H1 (fun o H2 => o = none ∧ H2 = H1) I1 ⟨rfl, rfl⟩) fun v1 s2 ⟨l, H2, I2, p1, el, e2⟩ => ?_)
  subst el e2
  refine thn (po_none.run pins s2 σ H2 (fun o H3 => o = none ∧ H3 = H2) I2 ⟨rfl, rfl⟩) fun v2 s3 ⟨u, H3, I3, p2, eu, e3⟩ => ?_
  subst eu e3
  refine thn (step.run pins s3 σ H3 (fun o H4 => o = some (-1) ∧ H4 = H3) I3 ⟨1, rfl, -1, rfl, rfl, rfl⟩) fun v3 s4 ⟨o, H4, I4, p3, eo, e4⟩ => ?_
  subst eo e4
  have J : Inv X pins σ H4 { s4 with heap := s4.heap.push { cls := .type "slice", data := .fields #[v1, v2, v3] } } := I4.kept (t' := s4.toks) fun z ob y => Heap.get?_push_of_some _ y
  obtain ⟨its, r, ht, hz⟩ := J.tuple hx
  have hlen := r.length
  show wpAny (model X.prog X.w) X.A (subscriptTail e (.Slice none none (some (.UnaryOp .USub (.Constant (.int 1) k q1) q2)) q3) (.ref t) (.ref s4.heap.objs.size)) (EP X pins σ Q) X.xe { s4 with heap := s4.heap.push { cls := .type "slice", data := .fields #[v1, v2, v3] } }
  refine tail_any (ops := [.ref t, .ref s4.heap.objs.size]) ht.typeIs PyProof.Rows.slot_tuple_getitem.lookup ?_ (by with_unfolding_all rfl)
  refine tup_rev ht (Heap.IsSliceOf.new _ v1 v2 v3) p1 p2 p3 ?_ (by rw [List.size_toArray]; omega)
  refine ⟨.ref _, _, J.laid (t' := s4.toks) (o := .tup xs.reverse) (fun z ob y => Heap.get?_push_of_some _ y) (Nat.le_refl _) ?_, rfl, q _ (J.hok.fresh (Nat.le_refl _))⟩
  exact ⟨by rw [List.length_reverse]; exact hz, _, r.reverse, IsTup.new _ _⟩
@[simp] def uRevT (u : UV) : UV := fun δ Q R => u δ (fun d δ' => match d with | .tup ds => Q (.tup ds.reverse) δ' | _ => False) R
theorem qv_revT {u : UV} {k : Nat} {q1 q2 q3 : Pos} (he : QV G W X e u) (hk : X.K = G.K := by rfl) : QV G W X (.Subscript e (.Slice none none (some (.UnaryOp .USub (.Constant (.int 1) k q1) q2)) q3) pos) (uRevT u) :=
  pe_mono (pe_revT he) fun σ H Q ⟨B, F, δ, Qd, Rd, rs, h, kk, x⟩ => tG_then rs h x fun d δ1 q B1 F1 H1 v st1 rs1 r1 => by
    split at q
    · obtain ⟨a, xs, rfl, hx, r⟩ := rp_tup r1
      refine ⟨a, xs, rfl, by rw [hk]; exact sqT_mono rs1.sub hx, fun p hp => ?_⟩
      obtain ⟨rs2, st2⟩ := rs1.call (rs1.toFr0.newF (o := .tup xs.reverse) hp)
      exact kk _ _ q _ _ _ _ (st1.trans st2) rs2 (.tup (.inl (.inl upd_same)) (st2.rpl r.reverse))
    · exact q.elim
/-- .. of a list: a new list -/
@[simp] def uRevL (u : UV) : UE := fun δ Q R => u δ (fun d δ' => match d with | .lst ds => Q (.nw ds.reverse) δ' | _ => False) R
theorem qe_revL {u : UV} {k : Nat} {q1 q2 q3 : Pos} (he : QV G W X e u) (hk : X.K = G.K := by rfl) : QE G W X (.Subscript e (.Slice none none (some (.UnaryOp .USub (.Constant (.int 1) k q1) q2)) q3) pos) (uRevL u) :=
  pe_mono (pe_revL he) fun σ H Q ⟨B, F, δ, Qd, Rd, rs, h, kk, x⟩ => tG_then rs h x fun d δ1 q B1 F1 H1 v st1 rs1 r1 => by
    split at q
    · obtain ⟨a, xs, rfl, hx, r⟩ := rp_lst r1
      refine ⟨a, xs, rfl, by rw [hk]; exact rs1.sub.seq hx, fun p hp => ?_⟩
      obtain ⟨rs2, st2⟩ := rs1.call (rs1.toFr0.newH (o := .lst xs.reverse) hp)
      exact kk _ _ q _ _ _ _ (st1.trans st2) rs2 ⟨p, _, rfl, rs1.noH0 hp, rs1.toFr0.noF hp, rs1.toFr0.noB hp, upd_same, r.reverse, rs1.noOwn hp, .inl (none_back st1.dm hp)⟩
    · exact q.elim
end
/-! ### a list unpacked -/
section
variable {G : Gx} {W : WX} {X : Cx} {es : List Expr} {pos : Pos}
@[simp] def uGL (n : Nat) (gs : UGts) : UGt := fun d δ k => match d with
  | .lst ds => ds.length = n ∧ gs ds δ k
  | _ => False
theorem qg_lst {n : Nat} {k : Nat} {gs : UGts} (hc : X.calm = true) (h : QGs G X es gs) (hk : X.K = G.K := by rfl) (hn : (assignEach es X.env).length = n := by rfl) (hst : (assignEach es X.env).findIdx? (·.1) = none := by rfl) : QG G X (.Tuple es k pos) (uGL n gs) :=
  pg_mono (pg_lst hc h hn hst) fun v σ H Q ⟨B, F, δ, d, kd, rs, r, h, k⟩ => by
    unfold uGL at h
    split at h
    · obtain ⟨p, xs, rfl, hp, r⟩ := rp_lst r
      exact ⟨p, xs, rfl, by rw [hk]; exact rs.sub.seq hp, r.length.trans h.1, B, F, δ, _, kd, rs, r, h.2, k⟩
    · exact h.elim
end
end DL

set_option Elab.async false
set_option linter.all false
set_option maxRecDepth 100000
namespace DL
open PySem PySem.Spec PyProof.Rows L2
/-! ### the bag of the laws over the whole program: pull -/
section
variable {P : Program} {w : World} {K : PySem.W.Frag} {mg : Str → Option Value} {base : Heap}
def tFill (K : PySem.W.Frag) : TS := tSeq (tAsg (tOp (rIx K) (bg K 0) (bg K 1)) (gName 2)) (tSeq (bst 1 (tOp rAd (bg K 1) (ci 1)))
  (tSeq (bst 3 (tOp rMd (tOp rAd (tOp rAd (tOp rMu (bg K 3) (ci 48271)) (tOp rMu (tVar 2) (ci 31))) (bg K 1)) (ci 2147483647)))
  (bst 2 (tIf (tTest (tOp rGe0 (tVar 2) (tOp rPw (ci 10) (ci 18)))) (tVar 2) (ci 0)))))
def tDraw (K : PySem.W.Frag) : TS := tSeq (tIfS (tTest (tOp rGe0 (bg K 2) (tVar 1))) (tSeq (tAsg (tOp rMd (bg K 2) (tVar 1)) (gName 3)) (tSeq (bst 2 (tOp rDv (bg K 2) (tVar 1))) (tRet (tVar 3)))) tNext)
  (tSeq (tAsg (tOp rMd (tOp rMu (bg K 3) (bg K 3)) (ci 2147483647)) (gName 4))
  (tSeq (bst 3 (tOp rMd (tOp rAd (tOp rAd (tOp rMu (tVar 4) (ci 16807)) (tOp rMu (bg K 3) (ci 69621))) (ci 12345)) (ci 2147483647)))
  (tRet (tOp rMd (tOp rDv (bg K 3) (ci 127)) (tVar 1)))))
def tPullB (K : PySem.W.Frag) : TS := tSeq (tIfS (tAnd (tTest (tOp rLt0 (bg K 2) (tVar 1))) (tTest (tOp rLt0 (bg K 1) (tCB (rLen K) (tCons (bg K 0) tNil))))) (tFill K) tNext) (tDraw K)
theorem pure_pullB (vs : List V) (H : Hp) (Q : VK) (E : XK) (h : spD K wPull vs H Q E) : tPullB K { nx := fun _ H' => Q .non H', rt := Q } (start ["bag", "many", "cell_now", "digit", "mixed"] vs) H := by
  obtain ⟨B, F, ds, Qd, Rd, hs, hb, r, hw, kq, _⟩ := h
  obtain ⟨n, rfl, hn, hl, k⟩ := wPull_of hw
  cases r with
  | cons r1 r =>
    cases r with
    | cons r2 r =>
      cases r
      cases r1 with
      | bag e =>
        rename_i b
        have er := rp_int r2
        subst er
        obtain ⟨hF, c, ns, x, y, z, hB, hc, hx, hz, hz2⟩ := hb _ e
        have n0 : n ≠ 0 := by omega
        have key : ∀ (x' y' z' v : Int) (H' : Hp), BagAt b c H H' x' y' z' → 0 ≤ x' → 0 ≤ z' → z' < 2147483648 → 0 ≤ v → v < n → Q (.int v) H' := fun x' y' z' v H' h' g1 g2 g3 g4 g5 =>
          kq _ (k v g4 g5) B F H' _ (fr_bag hs hb e hc g1 g2 g3 h'.keep h'.at_) (.int v)
        have dn : ∀ i, CDivX i n := fun i => div_small hn hl
        -- drawn from what stands in the bag
        have draw : ∀ (x y z : Int) (H1 : Hp) (s2 : Option V), BagAt b c H H1 x y z → 0 ≤ x → 0 ≤ z → z < 2147483648 → tDraw K { nx := fun _ H' => Q .non H', rt := Q } [some (.ref b), some (.int n), s2, none, none] H1 := fun x y z H1 s2 h1 hx hz hz2 => by
          refine rd_bag rfl h1.at_ rfl ⟨_, rfl, _, _, rfl, rfl, _, rfl, ?_⟩
          refine ite2 (fun _ => ?_) (fun _ => ?_)
          · refine rd_bag rfl h1.at_ rfl ⟨_, rfl, _, _, rfl, rfl, n0, ?_⟩
            refine rd_bag rfl h1.at_ rfl ⟨_, rfl, _, _, rfl, rfl, dn _, ?_⟩
            refine st_b2 h1 rfl fun H2 h2 => ⟨_, rfl, ?_⟩
            exact key x _ z _ _ h2 hx hz hz2 (fmod_rng hn).1 (fmod_rng hn).2
          · refine rd_bag rfl h1.at_ rfl (rd_bag rfl h1.at_ rfl ⟨_, _, rfl, rfl, mul_small (by omega), _, _, rfl, rfl, (by decide : (2147483647 : Int) ≠ 0), ?_⟩)
            refine ⟨_, rfl, _, _, rfl, rfl, mul_small (by decide), ?_⟩
            refine rd_bag rfl h1.at_ rfl ⟨_, _, rfl, rfl, mul_small (by decide), _, _, rfl, rfl, _, _, rfl, rfl, _, _, rfl, rfl, (by decide : (2147483647 : Int) ≠ 0), ?_⟩
            refine st_b3 h1 rfl fun H2 h2 => ?_
            have zr := fmod_rng (a := (z * z).fmod 2147483647 * 16807 + z * 69621 + 12345) (n := 2147483647) (by decide)
            refine rd_bag rfl h2.at_ rfl ⟨_, _, rfl, rfl, div_small (by decide) (by decide), _, rfl, _, _, rfl, rfl, n0, ?_⟩
            exact key _ _ _ _ _ h2 hx zr.1 (by omega) (fmod_rng hn).1 (fmod_rng hn).2
        have h0 : BagAt b c H H x y z := ⟨hB, fun _ _ => rfl⟩
        refine rd_bag rfl hB rfl ⟨_, rfl, _, _, rfl, rfl, _, rfl, ?_⟩
        refine ite2 (fun _ => ?_) (fun _ => draw x y z H none h0 hx hz hz2)
        refine rd_bag rfl hB rfl (rd_bag rfl hB rfl ⟨_, _, rfl, (.inl ⟨_, hs.seq hc, rfl⟩), _, _, rfl, rfl, _, rfl, ?_⟩)
        rw [List.length_map]
        refine ite2 (fun hlt => ?_) (fun _ => draw x y z H none h0 hx hz hz2)
        have hlt2 : x < ns.length := of_decide_eq_true hlt
        have g : atI (ns.map V.int) x = some (.int (ns.getD x.toNat 0)) := by
          unfold atI ixN
          rw [List.length_map, if_pos hx, if_pos hlt2]
          show (ns.map V.int)[x.toNat]? = _
          rw [List.getElem?_map, List.getD_eq_getElem?_getD, List.getElem?_eq_getElem (by omega)]
          rfl
        refine rd_bag rfl hB rfl (rd_bag rfl hB rfl (.inl ⟨_, _, _, _, rfl, rfl, hs.seq hc, g, ?_⟩))
        generalize ns.getD x.toNat 0 = cell
        refine rd_bag rfl hB rfl ⟨_, _, rfl, rfl, ?_⟩
        refine st_b1 h0 rfl fun H1 h1 => ?_
        refine rd_bag rfl h1.at_ rfl ⟨_, _, rfl, rfl, mul_small (by decide), _, rfl, _, _, rfl, rfl, mul_small (by decide), _, _, rfl, rfl, ?_⟩
        refine rd_bag rfl h1.at_ rfl ⟨_, _, rfl, rfl, _, _, rfl, rfl, (by decide : (2147483647 : Int) ≠ 0), ?_⟩
        refine st_b3 h1 rfl fun H2 h2 => ?_
        have zr := fmod_rng (a := z * 48271 + cell * 31 + (x + 1)) (n := 2147483647) (by decide)
        refine ⟨_, rfl, _, _, rfl, rfl, ⟨by decide, by decide, by decide⟩, _, _, rfl, rfl, _, rfl, ?_⟩
        refine ite2 (fun _ => ?_) (fun _ => ?_)
        · refine ⟨_, rfl, st_b2 h2 rfl fun H3 h3 => ?_⟩
          exact draw _ _ _ H3 _ h3 (by omega) zr.1 (by omega)
        · refine st_b2 h2 rfl fun H3 h3 => ?_
          exact draw _ _ _ H3 _ h3 (by omega) zr.1 (by omega)
end
end DL

set_option Elab.async false
set_option linter.all false
set_option maxRecDepth 100000
namespace DL
open PySem PySem.Spec PyProof.Rows L2
/-! ### zip over two lists or tuples -/
def SqA (b : Bool) (K : PySem.W.Frag) (H : Hp) (a : Addr) (xs : List V) : Prop := match b with | true => SqT K H a xs | false => SqL K H a xs
def ItSt (b : Bool) (h : Heap) (it a : Addr) (i : Nat) : Prop := match b with | true => h.IsTupleIter it a i | false => h.IsListIter it a i
def SqSt (b : Bool) (h : Heap) (a : Addr) (its : Array Value) : Prop := match b with | true => h.IsTuple a its | false => h.IsList a its
theorem seq_any {b : Bool} {X : Cx} {pins : List (Addr × Obj)} {σ : L2.St} {H : Hp} {s : Shared} {a : Addr} {xs : List V} (I : L2.Inv X pins σ H s) (h : SqA b X.K H a xs) : ∃ its : List Value, Vals xs its ∧ SqSt b s.heap a its.toArray := by
  cases b with
  | true =>
    obtain ⟨its, rv, p, hz⟩ := I.tuple h
    exact ⟨its, rv, p⟩
  | false =>
    obtain ⟨its, rv, p, hz⟩ := I.list h
    exact ⟨its, rv, p.isList⟩
theorem seq_inj {b : Bool} {X : Cx} {pins : List (Addr × Obj)} {σ : L2.St} {H : Hp} {s : Shared} {a : Addr} {xs ys : List V} (I : L2.Inv X pins σ H s) (h : SqA b X.K H a xs) (h' : SqA b X.K H a ys) : xs = ys := by
  cases b with
  | true => exact I.tuple_inj h h'
  | false => exact I.list_inj h h'
theorem draws_any {b : Bool} {prog : Program} {w : World} {A : Around} (hh : A.handled = none) (it l : Addr) (hne : l ≠ it) (items : Array Value) :
    Draws prog w A it [it, l] items.size (fun i v => items[i]? = some v) (fun i h => ItSt b h it l i ∧ SqSt b h l items) := by
  cases b with
  | true => exact Draws.tuple hh it l hne items
  | false => exact Draws.list hh it l hne items
theorem itSt_obj {b : Bool} {h : Heap} {it a : Addr} {i : Nat} (x : ItSt b h it a i) : ∃ o, h.get? it = some o ∧ ∀ (v : Option Value), o.data ≠ .cell v := by
  cases b with
  | true =>
    obtain ⟨o, ho, hc, hd⟩ := x
    exact ⟨o, ho, fun v q => by rw [hd] at q; cases q⟩
  | false =>
    obtain ⟨o, ho, hc, hd⟩ := x
    exact ⟨o, ho, fun v q => by rw [hd] at q; cases q⟩
theorem itSt_at {b : Bool} {h h' : Heap} {it a : Addr} {i : Nat} (x : ItSt b h it a i) (e : ∀ o, h.get? it = some o → h'.get? it = some o) : ItSt b h' it a i := by
  cases b with
  | true => exact Heap.IsTupleIter.at x e
  | false => exact Heap.IsListIter.at x e
/-- the two at a and b, item by item in a new pair -/
def ItZ (K : PySem.W.Frag) (b1 b2 : Bool) (a1 a2 : Addr) (n1 n2 : Nat) : It where
  go := fun i H => ∃ (xs ys : List V) (x y : V), SqA b1 K H a1 xs ∧ SqA b2 K H a2 ys ∧ xs.length = n1 ∧ ys.length = n2 ∧ xs[i]? = some x ∧ ys[i]? = some y
  yld := fun i H v H' => ∃ T x y, v = .ref T ∧ H T = none ∧ H' = upd H T (.tup [x, y]) ∧ (∀ xs, SqA b1 K H a1 xs → xs[i]? = some x) ∧ ∀ ys, SqA b2 K H a2 ys → ys[i]? = some y
  stop := fun i H => ∃ xs ys : List V, SqA b1 K H a1 xs ∧ SqA b2 K H a2 ys ∧ xs.length = n1 ∧ ys.length = n2 ∧ min n1 n2 ≤ i
theorem turn_zip {P : Program} {w : World} {K : PySem.W.Frag} {elts : List Expr} {kk : Nat} {tpos : Pos} {b1 b2 : Bool} (a1 a2 : Addr) (n1 n2 : Nat) (z TI TO i1 i2 : Addr) (S : ZipSep2 z TI TO i1 i2 [i1, a1] [i2, a2]) (d1 : a1 ≠ i1) (d2 : a2 ≠ i2) :
    Turn P w K (.Tuple elts kk tpos) (ItZ K b1 b2 a1 a2 n1 n2) [z, TI, TO, i1, i2] z
      (fun i h => IsZip h z TI TO .none ∧ IsTupOf2 h TI (.ref i1) (.ref i2) ∧ (∃ v1 v2, IsTupOf2 h TO v1 v2) ∧ ItSt b1 h i1 a1 i ∧ ItSt b2 h i2 a2 i ∧ i ≤ n1 ∧ i ≤ n2) where
  mem := by simp
  obj := fun i h st b hb => by
    obtain ⟨hz, hTI, ⟨v1, v2, hTO⟩, s1, s2, _, _⟩ := st
    have hb' : b = z ∨ b = TI ∨ b = TO ∨ b = i1 ∨ b = i2 := by simpa using hb
    rcases hb' with e | e | e | e | e
    · rw [e]; exact ⟨_, hz, fun v q => nomatch q⟩
    · rw [e]; exact ⟨_, hTI, fun v q => nomatch q⟩
    · rw [e]; exact ⟨_, hTO, fun v q => nomatch q⟩
    · rw [e]; exact itSt_obj s1
    · rw [e]; exact itSt_obj s2
  keep := fun i h h' st k => by
    obtain ⟨hz, hTI, ⟨v1, v2, hTO⟩, s1, s2, l1, l2⟩ := st
    exact ⟨k z (by simp) _ hz, k TI (by simp) _ hTI, ⟨v1, v2, k TO (by simp) _ hTO⟩, itSt_at s1 fun o q => k i1 (by simp) o q, itSt_at s2 fun o q => k i2 (by simp) o q, l1, l2⟩
  item := by
    intro X hP hw hK hc i pins s σ H E I hf st hg
    subst hP hw hK
    obtain ⟨hz, hTI, ⟨v1, v2, hTO⟩, s1, s2, l1, l2⟩ := st
    obtain ⟨xs, ys, x, y, hq1, hq2, e1, e2, hx, hy⟩ := hg
    obtain ⟨its1, rv1, p1⟩ := seq_any I hq1
    obtain ⟨its2, rv2, p2⟩ := seq_any I hq2
    obtain ⟨u1, hu1, ru1⟩ := rv1.get hx
    obtain ⟨u2, hu2, ru2⟩ := rv2.get hy
    have hu1' : its1.toArray[i]? = some u1 := by simpa using hu1
    have hu2' : its2.toArray[i]? = some u2 := by simpa using hu2
    have hlt1 : i < its1.toArray.size := (Array.getElem?_eq_some_iff.mp hu1').1
    have hlt2 : i < its2.toArray.size := (Array.getElem?_eq_some_iff.mp hu2').1
    have hxl : i < xs.length := (List.getElem?_eq_some_iff.mp hx).1
    have hyl : i < ys.length := (List.getElem?_eq_some_iff.mp hy).1
    have hd : X.A.in1.handled = none := I.ok.hd hc
    refine wpAny_pyNext_zipD2_item S (draws_any hd i1 a1 d1 its1.toArray) (draws_any hd i2 a2 d2 its2.toArray) hz hTI hTO ⟨s1, p1⟩ ⟨s2, p2⟩ hlt1 hlt2 fun y1 y2 h' tk hy1 hy2 hz' hTO' st1 st2 hT hsz hk => ?_
    obtain rfl : y1 = u1 := Option.some.inj (hy1.symm.trans hu1')
    obtain rfl : y2 = u2 := Option.some.inj (hy2.symm.trans hu2')
    have lt : ∀ {c o}, s.heap.get? c = some o → c < s.heap.objs.size := fun e => Heap.lt_size e
    have li1 : i1 < s.heap.objs.size := by obtain ⟨_, e, _⟩ := itSt_obj s1; exact lt e
    have li2 : i2 < s.heap.objs.size := by obtain ⟨_, e, _⟩ := itSt_obj s2; exact lt e
    refine ⟨_, rfl, wpAny_letOwnedTupleGo_zip (s := { s with heap := h', toks := tk }) hz' fun h'' hz'' hs'' => ?_⟩
    have keep : ∀ c o, c ≠ z → h'.get? c = some o → h''.get? c = some o := fun c o hc e => hs''.extBut _ _ hc e
    have hT2 : h''.get? s.heap.objs.size = some { cls := .type "tuple", data := .seq #[y1, y2] } := keep _ _ (Nat.ne_of_gt (lt hz)) hT
    have nw : ObjOk X.prog X.w (upd H s.heap.objs.size (.tup [x, y])) h'' s.heap.objs.size (.tup [x, y]) :=
      ⟨by show 2 ≤ sizeLine; decide, [y1, y2], .cons ru1 (.cons ru2 .nil), ⟨_, hT2, rfl, _, rfl⟩⟩
    have I1 : L2.Inv X pins σ (upd H s.heap.objs.size (.tup [x, y])) { s with heap := h'', toks := tk } :=
      I.turnedNew (ch := [z, TI, TO, i1, i2]) (fun b ob hb q => keep b ob (fun e => hb (by simp [e])) (hk b ob (fun e => hb (by simp [e])) (fun e => hb (by simp [e])) (fun e => hb (by simp [e])) (fun e => hb (by simp [e])) q)) hf (Nat.le_refl _) nw
    refine ⟨.ref s.heap.objs.size, _, I1, rfl, ⟨_, x, y, rfl, I.hok.fresh (Nat.le_refl _), rfl, fun xs' h1 => by rw [seq_inj I h1 hq1]; exact hx, fun ys' h1 => by rw [seq_inj I h1 hq2]; exact hy⟩,
      ⟨hz'', keep _ _ S.TIz (hk _ _ S.TIz S.TITO S.TIi1 S.TIi2 hTI), ⟨_, _, keep _ _ S.TOz hTO'⟩, itSt_at st1.1 fun o e => keep _ o (Ne.symm S.zi1) e, itSt_at st2.1 fun o e => keep _ o (Ne.symm S.zi2) e, by omega, by omega⟩, fun b hb => ?_⟩
    have hb' : b < s.heap.objs.size := by
      have e : b = z ∨ b = TI ∨ b = TO ∨ b = i1 ∨ b = i2 := by simpa using hb
      rcases e with e | e | e | e | e
      · rw [e]; exact lt hz
      · rw [e]; exact lt hTI
      · rw [e]; exact lt hTO
      · rw [e]; exact li1
      · rw [e]; exact li2
    rw [upd_ne (Nat.ne_of_lt hb')]
    exact (hf b hb).1
  done := by
    intro X hP hw hK hc i pins s σ H E I hf st hg
    subst hP hw hK
    obtain ⟨hz, hTI, ⟨v1, v2, hTO⟩, s1, s2, l1, l2⟩ := st
    obtain ⟨xs, ys, hq1, hq2, e1, e2, hle⟩ := hg
    obtain ⟨its1, rv1, p1⟩ := seq_any I hq1
    obtain ⟨its2, rv2, p2⟩ := seq_any I hq2
    have r1 := rv1.length
    have r2 := rv2.length
    have hd : X.A.in1.handled = none := I.ok.hd hc
    have z1 : its1.toArray.size = n1 := by rw [List.size_toArray]; omega
    have z2 : its2.toArray.size = n2 := by rw [List.size_toArray]; omega
    exact wpAny_pyNext_zipD2_end S (draws_any hd i1 a1 d1 its1.toArray) (draws_any hd i2 a2 d2 its2.toArray) hz hTI hTO ⟨s1, p1⟩ ⟨s2, p2⟩ (by omega) (by omega) (by omega) fun h' tk hk =>
      ⟨rfl, I.turnedL (ch := [z, TI, TO, i1, i2]) (fun b ob hb q => hk b ob (fun e => hb (by simp [e])) (fun e => hb (by simp [e])) (fun e => hb (by simp [e])) (fun e => hb (by simp [e])) q) hf⟩
  self := fun A i s Q E st h => wpAny_pyIter_zip st.1 h
/-! the call -/
abbrev zh1 (h : Heap) (o1 : Obj) : Heap := h.push o1
abbrev zh2 (h : Heap) (o1 o2 : Obj) : Heap := (zh1 h o1).push o2
abbrev zh3 (h : Heap) (o1 o2 : Obj) : Heap := (zh2 h o1 o2).push { cls := .type "tuple", data := .seq #[.ref h.objs.size, .ref (zh1 h o1).objs.size] }
abbrev zh4 (h : Heap) (o1 o2 : Obj) : Heap := (zh3 h o1 o2).push { cls := .type "tuple", data := .seq #[.none, .none] }
abbrev zh5 (h : Heap) (o1 o2 : Obj) : Heap := (zh4 h o1 o2).push { cls := .type "zip", data := .fields #[.none, .bool false, .bool false, .ref (zh2 h o1 o2).objs.size, .ref (zh3 h o1 o2).objs.size] }
theorem meets_zip_any {v1 v2 : Value} {o1 o2 : Obj} {HB1 HB2 : Heap → Prop} (B1 : Begins v1 o1 HB1) (B2 : Begins v2 o2 HB2) :
    Meets (Builtin.«zip.__new__» ⟨[.type "zip", v1, v2], []⟩) (fun _ R s => (HB1 s.heap ∧ HB2 s.heap) ∧
      R (.ok (.ret (.ref (zh4 s.heap o1 o2).objs.size))) { s with heap := zh5 s.heap o1 o2 }) :=
  .of_wp fun prog w A R s h => by
    obtain ⟨hp, g, d, tk, os⟩ := s
    obtain ⟨⟨hb1, hb2⟩, h⟩ := h
    have hsub := PySem.sub_zip
    have it1 : ∀ {A' : Around} {E : Value → Shared → Prop} {Q : Value → Shared → Prop}, Q (.ref hp.objs.size) ⟨hp.push o1, g, d, tk, os⟩ → wpAny (model prog w) A' (pyIter v1) Q E ⟨hp, g, d, tk, os⟩ :=
      fun q => B1.iter prog w _ _ ⟨hp, g, d, tk, os⟩ _ hb1 q
    have hb2' : HB2 (hp.push o1) := B2.keeps _ _ hb2 fun b o x => Heap.get?_push_of_some _ x
    have it2 : ∀ {A' : Around} {E : Value → Shared → Prop} {Q : Value → Shared → Prop}, Q (.ref (hp.push o1).objs.size) ⟨(hp.push o1).push o2, g, d, tk, os⟩ → wpAny (model prog w) A' (pyIter v2) Q E ⟨hp.push o1, g, d, tk, os⟩ :=
      fun q => B2.iter prog w _ _ ⟨hp.push o1, g, d, tk, os⟩ _ hb2' q
    wp_walk using it1, it2
    exact ⟨_, rfl, h⟩
theorem call_zip_any {prog : Program} {w : World} {A : Around} {E : Value → Shared → Prop} {s : Shared} {v1 v2 : Value} {o1 o2 : Obj} {HB1 HB2 : Heap → Prop} {Q : Value → Shared → Prop} (B1 : Begins v1 o1 HB1) (B2 : Begins v2 o2 HB2) (h1 : HB1 s.heap) (h2 : HB2 s.heap)
    (h : ∀ h', IsZip h' (s.heap.objs.size + 4) (s.heap.objs.size + 2) (s.heap.objs.size + 3) .none → IsTupOf2 h' (s.heap.objs.size + 2) (.ref s.heap.objs.size) (.ref (s.heap.objs.size + 1)) →
      IsTupOf2 h' (s.heap.objs.size + 3) .none .none → h'.get? s.heap.objs.size = some o1 → h'.get? (s.heap.objs.size + 1) = some o2 →
      (∀ c o, s.heap.get? c = some o → h'.get? c = some o) → Q (.ref (s.heap.objs.size + 4)) { s with heap := h' }) :
    wpAny (model prog w) A (call (.type "zip") [v1, v2]) Q E s := by
  refine callType_new PySem.F.called_zip (by decide) (PySem.F.typeCall_zip_2 _ _) (PySem.F.newCall_zip_2 _ _) (fun obj => PySem.F.args_object_init_3 obj _ _) PySem.F.entry_zip_new
    (meets_zip_any B1 B2) ⟨⟨h1, h2⟩, ?_⟩
  have z1 : (zh1 s.heap o1).objs.size = s.heap.objs.size + 1 := Heap.size_push ..
  have z2 : (zh2 s.heap o1 o2).objs.size = s.heap.objs.size + 2 := by rw [Heap.size_push, z1]
  have z3 : (zh3 s.heap o1 o2).objs.size = s.heap.objs.size + 3 := by rw [Heap.size_push, z2]
  have z4 : (zh4 s.heap o1 o2).objs.size = s.heap.objs.size + 4 := by rw [Heap.size_push, z3]
  have g5 : (zh5 s.heap o1 o2).get? (zh4 s.heap o1 o2).objs.size = some _ := Heap.get?_push_size _ rfl
  have g4 : (zh5 s.heap o1 o2).get? (zh3 s.heap o1 o2).objs.size = some _ := Heap.get?_push_of_some _ (Heap.get?_push_size _ rfl)
  have g3 : (zh5 s.heap o1 o2).get? (zh2 s.heap o1 o2).objs.size = some _ := Heap.get?_push_of_some _ (Heap.get?_push_of_some _ (Heap.get?_push_size _ rfl))
  have g2 : (zh5 s.heap o1 o2).get? (zh1 s.heap o1).objs.size = some _ := Heap.get?_push_of_some _ (Heap.get?_push_of_some _ (Heap.get?_push_of_some _ (Heap.get?_push_size _ B2.free)))
  have g1 : (zh5 s.heap o1 o2).get? s.heap.objs.size = some _ := Heap.get?_push_of_some _ (Heap.get?_push_of_some _ (Heap.get?_push_of_some _ (Heap.get?_push_of_some _ (Heap.get?_push_size _ B1.free))))
  show _ ∧ _
  rw [z2, z3, z4] at g5
  rw [z1, z2] at g3
  rw [z3] at g4
  rw [z1] at g2
  rw [z4]
  exact ⟨⟨_, g5, rfl⟩, h _ g5 g3 g4 g1 g2 fun c o x =>
    Heap.get?_push_of_some _ (Heap.get?_push_of_some _ (Heap.get?_push_of_some _ (Heap.get?_push_of_some _ (Heap.get?_push_of_some _ x))))⟩
def itOb (b : Bool) (a : Addr) : Obj := match b with | true => { cls := .type "tuple_iterator", data := .fields #[.ref a, .int 0 0] } | false => { cls := .type "list_iterator", data := .fields #[.ref a, .int 0 0] }
theorem begins_any (b : Bool) (a : Addr) (items : Array Value) : Begins (.ref a) (itOb b a) fun h => SqSt b h a items := by
  cases b with
  | true => exact begins_tuple a items
  | false => exact begins_list a items
theorem itOb_st {b : Bool} {h : Heap} {it a : Addr} (x : h.get? it = some (itOb b a)) : ItSt b h it a 0 := by
  cases b with
  | true => exact ⟨_, x, rfl, rfl⟩
  | false => exact ⟨_, x, rfl, rfl⟩
theorem sqSt_lt {b : Bool} {h : Heap} {a : Addr} {its : Array Value} (x : SqSt b h a its) : a < h.objs.size := by
  cases b with
  | true => obtain ⟨o, ho, _⟩ := x; exact Heap.lt_size ho
  | false => obtain ⟨o, ho, _⟩ := x; exact Heap.lt_size ho
theorem notin2 {x a b : Addr} (h1 : x ≠ a) (h2 : x ≠ b) : x ∉ [a, b] := fun h => by
  rcases List.mem_cons.mp h with e | h
  · exact h1 e
  · exact h2 (List.mem_singleton.mp h)
theorem zipSep_new {n l1 l2 : Nat} (h1 : l1 < n) (h2 : l2 < n) : ZipSep2 (n + 4) (n + 2) (n + 3) n (n + 1) [n, l1] [n + 1, l2] where
  TIz := Nat.ne_of_lt (show n + 2 < n + 4 by omega)
  TOz := Nat.ne_of_lt (show n + 3 < n + 4 by omega)
  TITO := Nat.ne_of_lt (show n + 2 < n + 3 by omega)
  TIi1 := Nat.ne_of_gt (show n < n + 2 by omega)
  mem1 := List.mem_cons_self ..
  zf1 := notin2 (Nat.ne_of_gt (show n < n + 4 by omega)) (Nat.ne_of_gt (show l1 < n + 4 by omega))
  Tf1 := notin2 (Nat.ne_of_gt (show n < n + 3 by omega)) (Nat.ne_of_gt (show l1 < n + 3 by omega))
  TIi2 := Nat.ne_of_gt (show n + 1 < n + 2 by omega)
  mem2 := List.mem_cons_self ..
  zf2 := notin2 (Nat.ne_of_gt (show n + 1 < n + 4 by omega)) (Nat.ne_of_gt (show l2 < n + 4 by omega))
  Tf2 := notin2 (Nat.ne_of_gt (show n + 1 < n + 3 by omega)) (Nat.ne_of_gt (show l2 < n + 3 by omega))
  sep1_2 := notin2 (Nat.ne_of_lt (show n < n + 1 by omega)) (Nat.ne_of_gt (show l2 < n by omega))
  sep2_1 := notin2 (Nat.ne_of_gt (show n < n + 1 by omega)) (Nat.ne_of_gt (show l1 < n + 1 by omega))
def iZipA (K : PySem.W.Frag) (ta : TA) : TI := fun σ H R => ta σ H fun vs H1 => ∃ a1 a2 b1 b2 xs ys, vs = [.ref a1, .ref a2] ∧ SqA b1 K H1 a1 xs ∧ SqA b2 K H1 a2 ys ∧ R (ItZ K b1 b2 a1 a2 xs.length ys.length) H1
theorem pi_zipA {X : Cx} {e f : Expr} {ta : TA} {p pos tpos : Pos} {elts : List Expr} {kk : Nat} (hg : Gl X "zip") (hm : X.mg "zip" = none) (ha : PA X [e, f] ta) (hs : starEach [e, f] X.env = [(false, eval e X.env), (false, eval f X.env)] := by rfl) (hs2 : starEach [f] X.env = [(false, eval f X.env)] := by rfl) :
    PI X (.Tuple elts kk tpos) (.Call (.Name "zip" p) [e, f] [] pos) (iZipA X.K ta) := by
  refine ⟨fun pins s σ H R I h => Call_ (ld_blt I hg hm boot_zip (PyProof.Rows.callWith_type1 (thn (ha.run pos pins s σ H _ I h) fun us s1 ⟨vs, H1, I1, r1, q1⟩ => ?_) (by rw [hs, hs2]) (by rw [hs2]; rfl)))⟩
  obtain ⟨a1, a2, b1, b2, xs, ys, ex, h1, h2, q⟩ := q1
  subst ex
  cases r1 with
  | cons r rr =>
    cases rr with
    | cons r' rr =>
      cases rr
      cases r
      cases r'
      obtain ⟨its1, rv1, p1⟩ := seq_any I1 h1
      obtain ⟨its2, rv2, p2⟩ := seq_any I1 h2
      have l1 := sqSt_lt p1
      have l2 := sqSt_lt p2
      refine call_zip_any (begins_any b1 a1 its1.toArray) (begins_any b2 a2 its2.toArray) p1 p2 fun h' hz hTI hTO e1 e2 hk => wpAny_pyIter_zip hz ?_
      have I2 : L2.Inv X pins σ H1 { s1 with heap := h' } := I1.kept (t' := s1.toks) hk
      have fp : ∀ b ∈ [s1.heap.objs.size + 4, s1.heap.objs.size + 2, s1.heap.objs.size + 3, s1.heap.objs.size, s1.heap.objs.size + 1], FpOk X pins H1 b := fun b hb => by
        have hle : s1.heap.objs.size ≤ b := by
          have hb' : b = s1.heap.objs.size + 4 ∨ b = s1.heap.objs.size + 2 ∨ b = s1.heap.objs.size + 3 ∨ b = s1.heap.objs.size ∨ b = s1.heap.objs.size + 1 := by simpa using hb
          rcases hb' with z | z | z | z | z <;> (rw [z]; first | exact Nat.le_refl _ | exact Nat.le_add_right _ _)
        exact I1.fpOk hle (I1.hok.fresh hle)
      exact ⟨_, _, _, _, H1, rfl, I2, turn_zip a1 a2 xs.length ys.length _ _ _ _ _ (zipSep_new l1 l2) (Nat.ne_of_lt l1) (Nat.ne_of_lt (Nat.lt_succ_of_lt l2)), ⟨hz, hTI, ⟨_, _, hTO⟩, itOb_st e1, itOb_st e2, Nat.zero_le _, Nat.zero_le _⟩, fp, q⟩
/-- the items of two, in pairs -/
def zipD (ds es : List D) : List D := (ds.zip es).map fun x => .tup [x.1, x.2]
theorem zipD_get {ds es : List D} {i : Nat} {d : D} (h : (zipD ds es)[i]? = some d) : ∃ x y, ds[i]? = some x ∧ es[i]? = some y ∧ d = .tup [x, y] := by
  unfold zipD at h
  rw [List.getElem?_map] at h
  obtain ⟨⟨x, y⟩, hj, rfl⟩ := Option.map_eq_some_iff.mp h
  have q := List.getElem?_zip_eq_some.mp hj
  exact ⟨x, y, q.1, q.2, rfl⟩
theorem zipD_len {ds es : List D} : (zipD ds es).length = min ds.length es.length := by simp [zipD]
theorem sqA_seq {b : Bool} {K : PySem.W.Frag} {F H : Hp} {a : Addr} {xs : List V} (e : Same F H) (h : SqA b K F a xs) : SqA b K H a xs := by
  cases b with
  | true => exact sqT_mono e h
  | false => exact e.seq h
theorem itd_zip {K : PySem.W.Frag} {b1 b2 : Bool} {B : Option Addr} {F : Hp} {p q : Addr} {xs ys : List V} {ds es : List D} (h1 : SqA b1 K F p xs) (r1 : RpL K B F xs ds) (h2 : SqA b2 K F q ys) (r2 : RpL K B F ys es) : ItD K B F (zipD ds es) (ItZ K b1 b2 p q xs.length ys.length) where
  go := fun i H e hi => by
    rw [zipD_len, ← r1.length, ← r2.length] at hi
    exact ⟨xs, ys, xs[i], ys[i], sqA_seq e h1, sqA_seq e h2, rfl, rfl, List.getElem?_eq_getElem _, List.getElem?_eq_getElem _⟩
  stop := fun i H e hi => ⟨xs, ys, sqA_seq e h1, sqA_seq e h2, rfl, rfl, by rw [zipD_len, ← r1.length, ← r2.length] at hi; exact hi⟩
  yld := fun i H v H' d e ⟨T, x, y, y1, y2, y3, y4, y5⟩ hd => by
    obtain ⟨z1, z2, hz1, hz2, rfl⟩ := zipD_get hd
    obtain ⟨v1, hv1, rv1⟩ := r1.get' hz1
    obtain ⟨v2, hv2, rv2⟩ := r2.get' hz2
    have q1 := y4 xs (sqA_seq e h1)
    rw [hv1] at q1; cases q1
    have q2 := y5 ys (sqA_seq e h2)
    rw [hv2] at q2; cases q2
    exact .inr ⟨T, _, _, y1, y2, y3, rfl, .cons rv1 (.cons rv2 .nil)⟩
@[simp] def uItZ (ua : UA) : UI := fun δ Q R => ua δ (fun ds δ1 => ∃ d1 d2, ds = [d1, d2] ∧ ∃ es1 es2, seqD d1 = some es1 ∧ seqD d2 = some es2 ∧ Q (zipD es1 es2) δ1) R
theorem seqA_of {K : PySem.W.Frag} {B : Option Addr} {F : Hp} {v : V} {d : D} {es : List D} (r : Rp K B F v d) (h : seqD d = some es) : ∃ a b xs, v = .ref a ∧ SqA b K F a xs ∧ RpL K B F xs es := by
  cases r with
  | lst hp r => cases h; exact ⟨_, false, _, rfl, hp, r⟩
  | tup hp r => cases h; exact ⟨_, true, _, rfl, hp, r⟩
  | _ => cases h
theorem qi_zip {G : Gx} {W : WX} {X : Cx} {e f : Expr} {u : UA} {p pos tpos : Pos} {elts : List Expr} {kk : Nat} (hg : Gl X "zip") (hm : X.mg "zip" = none) (h : QA G W X [e, f] u) (hk : X.K = G.K := by rfl) (hs : starEach [e, f] X.env = [(false, eval e X.env), (false, eval f X.env)] := by rfl) (hs2 : starEach [f] X.env = [(false, eval f X.env)] := by rfl) :
    QI G W X (.Tuple elts kk tpos) (.Call (.Name "zip" p) [e, f] [] pos) (uItZ u) :=
  pi_mono (pi_zipA hg hm h hs hs2) fun σ H R ⟨B, F, δ, Qd, Rd, rs, h, k, x⟩ => by
    refine ⟨B, F, δ, _, Rd, rs, h, fun ds δ1 ⟨d1, d2, e1, es1, es2, s1, s2, q⟩ B1 F1 H1 vs st1 rs1 r1 => ?_, x⟩
    subst e1
    cases r1 with
    | cons ra rr =>
      cases rr with
      | cons rb rr =>
        cases rr
        obtain ⟨a1, b1, xs, rfl, h1, r1⟩ := seqA_of ra s1
        obtain ⟨a2, b2, ys, rfl, h2, r2⟩ := seqA_of rb s2
        rw [hk]
        exact ⟨a1, a2, b1, b2, xs, ys, rfl, sqA_seq rs1.sub h1, sqA_seq rs1.sub h2, k _ _ q B1 F1 H1 _ st1 rs1 (itd_zip h1 r1 h2 r2)⟩
end DL

set_option Elab.async false
set_option linter.all false
set_option maxRecDepth 100000
namespace DL
open PySem PySem.Spec PyProof.Rows L2
/-! ### isinstance(x, (T1, T2, ..)) -/
def rIsiA (K : PySem.W.Frag) : List V → Hp → VK → Prop := fun xs H Q => ∃ (x : V) (tp : Addr) (cs : List V) (t : Value) (us : List Value) (b : Bool), xs = [x, .ref tp] ∧ SqT K H tp cs ∧ Paired ClsV cs us ∧ TyX K H x t ∧ PySem.W.kitAny K t us = some b ∧ Q (.bl b) H
theorem call_isiA {X : Cx} : CallR X (.builtin "isinstance") (rIsiA X.K) := by
  intro pins s σ H xs us Q I r h
  obtain ⟨x, tp, cs, t, ws, b, rfl, hT, k, ty, e, q⟩ := h
  obtain ⟨u1, u2, rfl, r1, r2⟩ := vals2 r
  cases (show u2 = Value.ref tp from r2)
  obtain ⟨P, Z, p, hx⟩ := kit_of I r1 ty
  obtain ⟨its, rv, ⟨o, h1, h2, n, h3⟩, _⟩ := I.tuple hT
  have e3 := ClsV.all k rv
  subst e3
  obtain ⟨oc, od, dt, sl⟩ := o
  simp only at h2 h3
  subst h2 h3
  exact PySem.W.kia_tup Z I.kIn p h1 e hx fun tk => ⟨.bl b, H, I.tok tk, rfl, q⟩
/-- data against any of the types -/
def isiAny (d : D) : List D → Option Bool
  | [] => some false
  | .ty T :: ts => match isiD d T, isiAny d ts with
    | some b, some c => some (b || c)
    | _, _ => none
  | _ => none
@[simp] def gIsiT : GA := fun ds Q => match ds with
  | [d, .tup ts] => (match d.cls with | some _ => (match isiAny d ts with | some b => Q (.bl b) | none => False) | none => False)
  | _ => False
theorem isiAny_kit {G : Gx} {d : D} {n : String} (hn : d.cls = some n) {B : Option Addr} {F : Hp} : ∀ {ts : List D} {cs : List V} {b : Bool}, RpL G.K B F cs ts → isiAny d ts = some b → ∃ us, Paired ClsV cs us ∧ PySem.W.kitAny G.K (.type n) us = some b := fun {ts} => by
  induction ts with
  | nil =>
    intro cs b r h
    cases r
    cases h
    exact ⟨[], .nil, rfl⟩
  | cons t ts ih =>
    intro cs b r h
    cases r with
    | cons z r =>
      cases t with
      | ty T =>
        cases rp_ty z
        unfold isiAny at h
        cases hk : isiD d T with
        | none => rw [hk] at h; cases h
        | some v =>
          have hk' := hk
          unfold isiD at hk'
          rw [hn] at hk'
          have ke := kit_ty (K := G.K) hk'
          rw [hk] at h
          cases hr : isiAny d ts with
          | none => rw [hr] at h; cases h
          | some c =>
            rw [hr] at h
            cases h
            obtain ⟨us, hp, he⟩ := ih r hr
            refine ⟨.type T :: us, .cons (.ty T) hp, ?_⟩
            unfold PySem.W.kitAny
            rw [ke]
            cases v with
            | true => rfl
            | false => exact he
      | _ => cases h
section
variable {G : Gx} {W : WX} {X : Cx} {a b : Expr} {pos : Pos}
theorem cad_isiT : CaD G.K (rIsiA G.K) gIsiT := fun B F H vs ds Qd Q e r g k => by
  unfold gIsiT at g
  split at g
  · rename_i d ts
    obtain ⟨v, v', rfl, z, z'⟩ := rpl2 r
    obtain ⟨p, cs, rfl, hT, hr⟩ := rp_tup z'
    split at g
    · rename_i n hn
      split at g
      · rename_i c hc
        obtain ⟨us, hp, he⟩ := isiAny_kit (G := G) hn hr hc
        exact ⟨v, p, cs, _, us, c, rfl, sqT_mono e hT, hp, tyx_of e z hn, he, k _ _ g (.bl _)⟩
      · exact g.elim
    · exact g.elim
  · exact g.elim
theorem qv_isiT {p : Pos} {ua : UA} (hg : Gl X "isinstance") (hm : X.mg "isinstance" = none) (ha : QA G W X [a, b] ua) (hk : X.K = G.K := by rfl) (he : starEach [a, b] X.env = (false, eval a X.env) :: starEach [b] X.env := by rfl) (hpl : (backTo pos (starEach [b] X.env)).any (·.1) = false := by rfl) :
    QV G W X (.Call (.Name "isinstance" p) [a, b] [] pos) (uCaB gIsiT ua) := qv_cb call_isiA (by rw [hk]; exact cad_isiT) hg hm (by decide +kernel) ha (he := he) (hpl := hpl)
end
end DL

set_option Elab.async false
set_option linter.all false
set_option maxRecDepth 100000
namespace DL
open PySem PySem.Spec PyProof.Rows L2
/-! ### a call of what an expression tells: one of several defs -/
structure CalF (P : Program) (w : World) (K : PySem.W.Frag) (mg : Str → Option Value) (base : Heap) (k : Nat) (f : Addr) (wp : DSp) : Prop where
  ex : ∃ (fd : FuncData) (ps : List Str) (dvl : List Value) (dvs : List V) (dds : List D) (w0 : DSp), FnOk P w K mg base (L2.CX P w) k f fd ps (spD K w0) ∧ PySem.W.keepIn K (.ref f) = true ∧ Binds K fd ps dvl ∧ Vals dvs dvl ∧ (∀ B F, RpL K B F dvs dds) ∧ wp = fun ds => w0 (ds ++ dds)
theorem CalD.atF {P : Program} {w : World} {K : PySem.W.Frag} {mg : Str → Option Value} {base : Heap} {j k : Nat} {x : Str} {wp : DSp} {f : Addr} (c : CalD P w K mg base j x wp) (g : mg x = some (.ref f)) (h : j ≤ k) : CalF P w K mg base k f wp := by
  obtain ⟨f', fd, ps, dvl, dvs, dds, w0, F, gm, r⟩ := (c.mono h).ex
  rw [g] at gm
  cases gm
  exact ⟨fd, ps, dvl, dvs, dds, w0, F, r⟩
section
variable {X : Cx} {k : Nat} {pos : Pos} {e fe : Expr} {es : List Expr} {t : TA} {tf : TE}
def tCallFx (X : Cx) (k : Nat) (W : WX) (tf : TE) (t : TA) : TE := fun σ H Q => tf σ H fun v H1 => ∃ (f : Addr) (fd : FuncData) (ps : List Str) (sp : Sp) (dvs : List V) (ds : List Value), v = .ref f ∧
  FnOk X.prog X.w X.K X.mg X.base (L2.CX X.prog X.w) k f fd ps sp ∧ PySem.W.keepIn X.K (.ref f) = true ∧ Binds X.K fd ps ds ∧ Vals dvs ds ∧ tCallSD sp dvs (WE W) t σ H1 Q
theorem pe_callFx {W : WX} (hf : PE X fe tf) (hr : Room k X.A) (tk : Takes X W) (ha : PA X (e :: es) t)
    (ht : eval (.Call fe (e :: es) [] pos) X.env = (do callWith pos (← eval fe X.env) [] (backTo pos (starEach (e :: es) X.env)) (backToKw pos (keywordEach [] X.env))) := by rfl)
    (he : starEach (e :: es) X.env = (false, eval e X.env) :: starEach es X.env := by rfl) (hpl : (backTo pos (starEach es X.env)).any (·.1) = false := by rfl) :
    PE X (.Call fe (e :: es) [] pos) (tCallFx X k W tf t) := by
  refine ⟨fun pins s σ H Q I h => ?_⟩
  refine Call_ (thn (hf.run pins s σ H _ I h) fun u s1 ⟨v, H1, I1, rv, f, fd, ps, sp, dvs, ds, ev, F, hk, hb, hd, q⟩ => ?_) ht
  subst ev
  obtain rfl : u = Value.ref f := rv
  refine PySem.W.callWith_K (h₀ := X.base) I1.ok.mod.kin hk (thn (ha.run pos pins s1 σ H1 _ I1 q) fun us s2 ⟨vs, H2, I2, r, q2⟩ => ⟨I2.kIn, ?_⟩) he hpl
  exact run_fnSD F hr hb hd (passAt tk σ) I2 r q2
end
section
variable {G : Gx} {W : WX} {X : Cx} {k : Nat} {pos : Pos} {e fe : Expr} {es : List Expr}
theorem rp_obj {K : PySem.W.Frag} {B : Option Addr} {F : Hp} {v : V} {a : Addr} (h : Rp K B F v (.obj a)) : v = .ref a := by cases h; rfl
@[simp] def uCalF (T : List (Addr × DSp)) (uf : UV) (ua : UA) : UE := fun δ Q R => uf δ (fun d δ1 => ∃ f wp, d = .obj f ∧ (f, wp) ∈ T ∧ uCal wp ua δ1 Q R) R
theorem qe_callF {uf : UV} {ua : UA} {T : List (Addr × DSp)} (hT : ∀ x ∈ T, CalF X.prog X.w X.K X.mg X.base k x.1 x.2) (hf : QV G W X fe uf) (hr : Room k X.A) (tk : Takes X W) (ha : QA G W X (e :: es) ua) (hk : X.K = G.K := by rfl)
    (ht : eval (.Call fe (e :: es) [] pos) X.env = (do callWith pos (← eval fe X.env) [] (backTo pos (starEach (e :: es) X.env)) (backToKw pos (keywordEach [] X.env))) := by rfl)
    (he : starEach (e :: es) X.env = (false, eval e X.env) :: starEach es X.env := by rfl) (hpl : (backTo pos (starEach es X.env)).any (·.1) = false := by rfl) :
    QE G W X (.Call fe (e :: es) [] pos) (uCalF T uf ua) :=
  pe_mono (pe_callFx hf hr tk ha ht he hpl) fun σ H Q ⟨B, F, δ, Qd, Rd, rs, h, k', x⟩ => by
    refine tG_then rs h x fun d δ1 ⟨f, wp, ed, hm, q⟩ B1 F1 H1 v st1 rs1 r1 => ?_
    subst ed
    obtain rfl := rp_obj r1
    obtain ⟨fd, ps, dvl, dvs, dds, w0, F0, kp, b, d, rd, rfl⟩ := (hT _ hm).ex
    refine ⟨f, fd, ps, _, dvs, dvl, rfl, F0, kp, b, d, ?_⟩
    rw [hk]
    exact t_call (w := w0) (ua := ua) (by rw [← hk]; exact rd) ⟨B1, F1, δ1, Qd, Rd, rs1, q, fun d2 δ2 q2 B2 F2 H2 v2 st2 rs2 r2 => k' _ _ q2 B2 F2 H2 v2 (st1.trans st2) rs2 (RzR.back st1 r2), x.later st1.toLe⟩
/-- a def by its name, as data -/
theorem qv_fun {x : Str} {p : Pos} {f : Addr} (hg : Gl X x) (hm : X.mg x = some (.ref f)) (hd : (x == ("__debug__" : Str)) = false := by decide) : QV G W X (.Name x p) (uC (.obj f)) :=
  qv_glob hg hm (v := .ref f) rfl (fun _ _ => .obj f) hd
/-- [f1, f2, f3, f4][i](e, ..) -/
@[simp] def uPick (ws : List DSp) (i : Nat) (ua : UA) : UE := fun δ Q R => ∃ (n : Nat) (w : DSp), δ[i]? = some (.sh (.int (n : Int))) ∧ ws[n]? = some w ∧ uCal w ua δ Q R
theorem qe_pick4 {x1 x2 x3 x4 : Str} {p1 p2 p3 p4 : Pos} {w1 w2 w3 w4 : DSp} {j1 j2 j3 j4 : Nat} {i : Nat} {ua : UA}
    (c1 : CalD X.prog X.w X.K X.mg X.base j1 x1 w1) (c2 : CalD X.prog X.w X.K X.mg X.base j2 x2 w2) (c3 : CalD X.prog X.w X.K X.mg X.base j3 x3 w3) (c4 : CalD X.prog X.w X.K X.mg X.base j4 x4 w4)
    (h1 : j1 ≤ k) (h2 : j2 ≤ k) (h3 : j3 ≤ k) (h4 : j4 ≤ k) (g1 : Gl X x1) (g2 : Gl X x2) (g3 : Gl X x3) (g4 : Gl X x4)
    (hf : ∀ f1 f2 f3 f4 : Addr, QV G W X (.Name x1 p1) (uC (.obj f1)) → QV G W X (.Name x2 p2) (uC (.obj f2)) → QV G W X (.Name x3 p3) (uC (.obj f3)) → QV G W X (.Name x4 p4) (uC (.obj f4)) →
      QV G W X fe (uOp gIx (uFz (uLst (uCons (uC (.obj f1)) (uCons (uC (.obj f2)) (uCons (uC (.obj f3)) (uCons (uC (.obj f4)) uNil)))))) (uNm i)))
    (hr : Room k X.A) (tk : Takes X W) (ha : QA G W X (e :: es) ua) (hk : X.K = G.K := by rfl)
    (d1 : (x1 == ("__debug__" : Str)) = false := by decide) (d2 : (x2 == ("__debug__" : Str)) = false := by decide) (d3 : (x3 == ("__debug__" : Str)) = false := by decide) (d4 : (x4 == ("__debug__" : Str)) = false := by decide)
    (ht : eval (.Call fe (e :: es) [] pos) X.env = (do callWith pos (← eval fe X.env) [] (backTo pos (starEach (e :: es) X.env)) (backToKw pos (keywordEach [] X.env))) := by rfl)
    (he : starEach (e :: es) X.env = (false, eval e X.env) :: starEach es X.env := by rfl) (hpl : (backTo pos (starEach es X.env)).any (·.1) = false := by rfl) :
    QE G W X (.Call fe (e :: es) [] pos) (uPick [w1, w2, w3, w4] i ua) := by
  have at_ : ∀ {j : Nat} {x : Str} {w : DSp}, CalD X.prog X.w X.K X.mg X.base j x w → j ≤ k → ∃ f, X.mg x = some (.ref f) ∧ CalF X.prog X.w X.K X.mg X.base k f w := fun c h => by
    obtain ⟨f, fd, ps, dvl, dvs, dds, w0, F, gm, r⟩ := (c.mono h).ex
    exact ⟨f, gm, ⟨fd, ps, dvl, dvs, dds, w0, F, r⟩⟩
  obtain ⟨f1, m1, k1⟩ := at_ c1 h1
  obtain ⟨f2, m2, k2⟩ := at_ c2 h2
  obtain ⟨f3, m3, k3⟩ := at_ c3 h3
  obtain ⟨f4, m4, k4⟩ := at_ c4 h4
  have hv := hf f1 f2 f3 f4 (qv_fun g1 m1 d1) (qv_fun g2 m2 d2) (qv_fun g3 m3 d3) (qv_fun g4 m4 d4)
  refine pe_mono (qe_callF (T := [(f1, w1), (f2, w2), (f3, w3), (f4, w4)]) (fun x hx => ?_) hv hr tk ha hk ht he hpl) fun σ H Q ⟨B, F, δ, Qd, Rd, rs, ⟨n, w0, hi, hw, h⟩, k', x⟩ => ⟨B, F, δ, Qd, Rd, rs, ?_, k', x⟩
  · simp only [List.mem_cons, List.not_mem_nil, or_false] at hx
    rcases hx with rfl | rfl | rfl | rfl
    · exact k1
    · exact k2
    · exact k3
    · exact k4
  · have key : ∀ (fs : List D) (f : Addr) (T : List (Addr × DSp)), fs[n]? = some (.obj f) → (f, w0) ∈ T → gIx (.lst fs) (.int (n : Int)) (fun d => ∃ f wp, d = .obj f ∧ (f, wp) ∈ T ∧ uCal wp ua δ Qd Rd) := fun fs f T e m => by
      have hn : n < fs.length := (List.getElem?_eq_some_iff.mp e).1
      have ea : atI fs (n : Int) = some (.obj f) := by
        unfold atI ixN
        rw [if_pos (by omega), if_pos (by omega)]
        exact e
      show (match atI fs (n : Int) with | some d => _ | none => False)
      rw [ea]
      exact ⟨f, w0, rfl, m, h⟩
    show (4 ≤ 16777216 ∧ (match δ[i]? with | some (.sh d) => _ | some (.ow ds) => _ | _ => False))
    rw [hi]
    refine ⟨by decide, ?_⟩
    match n, hw, key with
    | 0, hw, key => cases hw; exact key _ f1 _ rfl (.head _)
    | 1, hw, key => cases hw; exact key _ f2 _ rfl (.tail _ (.head _))
    | 2, hw, key => cases hw; exact key _ f3 _ rfl (.tail _ (.tail _ (.head _)))
    | 3, hw, key => cases hw; exact key _ f4 _ rfl (.tail _ (.tail _ (.tail _ (.head _))))
    | n + 4, hw, key => cases hw
end
/-! ### a call with keywords that stand behind the others, in the parameters' order -/
section
variable {X : Cx} {CX : CXT} {k n : Nat} {f : Addr} {fd : FuncData} {ps ks : List Str} {sp : Sp} {E : L2.St → XK} {x : Str} {p pos : Pos} {e : Expr} {es : List Expr} {kws : List Keyword} {t tk : TA}
abbrev KApp (K : PySem.W.Frag) (fd : FuncData) (ps : List Str) (n : Nat) (ks : List Str) : Prop := KBn K fd ps n ks (fun us ws => us ++ ws) (fun vs zs => vs ++ zs)
def tCallNS (n m : Nat) (sp : Sp) (E : L2.St → XK) (t tk : TA) : TE := fun σ H Q => t σ H fun vs H1 => tk σ H1 fun zs H2 => vs.length = n ∧ zs.length = m ∧ sp (vs ++ zs) H2 Q (E σ)
theorem pe_callNS (F : FnOk X.prog X.w X.K X.mg X.base CX k f fd ps sp) (hr : Room k X.A) (hg : Gl X x) (hm : X.mg x = some (.ref f)) (hk : PySem.W.keepIn X.K (.ref f) = true) (hb : KApp X.K fd ps n ks) (hx : ∀ σ, PassesAt CX X σ (E σ))
    (ha : PA X (e :: es) t) (hkw : PK X kws tk) (hall : (backToKw pos (keywordEach kws X.env)).all (·.1.isSome) = true := by rfl) (hks : (backToKw pos (keywordEach kws X.env)).filterMap (·.1) = ks := by rfl)
    (hdb : (x == ("__debug__" : Str)) = false := by decide) (he : starEach (e :: es) X.env = (false, eval e X.env) :: starEach es X.env := by rfl)
    (hpl : ((backTo pos (starEach (e :: es) X.env)).any (·.1) || (backToKw pos (keywordEach kws X.env)).any (·.1.isNone)) = false := by rfl) :
    PE X (.Call (.Name x p) (e :: es) kws pos) (tCallNS n ks.length sp E t tk) := by
  refine ⟨fun pins s σ H Q I h => ?_⟩
  refine wpAny_Call_Name_kw (ld_glob I hg hm ?_ hdb)
  refine PySem.W.callWith_KW (h₀ := X.base) I.ok.mod.kin hk hall (thn (ha.run pos pins s σ H _ I h) fun us s1 ⟨vs, H1, I1, r, q⟩ => ?_) hpl he
  refine thn (hkw.run pos pins s1 σ H1 _ I1 q) fun ws s2 ⟨zs, H2, I2, rz, l1, l2, q2⟩ => ⟨I2.kIn, ?_⟩
  rw [hks]
  have r2 : Vals (vs ++ zs) (us ++ ws) := hb.rel r rz
  have hl : (us ++ ws).length = ps.length := by rw [← r2.length]; exact F.len _ _ _ _ q2
  refine wpAny_call (codeAny_mono (F.run X.A X.stack s2 H2 ⟨us, ks.zip ws⟩ (us ++ ws) (vs ++ zs) Q (E σ) hr I2.env0 (hb.to s2 us ws I2.kIn (r.length.symm.trans l1) (rz.length.symm.trans l2)) r2 q2) fun r s' hq => ?_)
  cases r with
  | error e => exact hx σ pins H2 s2 e s' I2 hq
  | ok fl =>
    cases fl with
    | ret u => exact I2.after hq
    | next => exact False.elim hq
    | brk => exact False.elim hq
    | cont => exact False.elim hq
end
structure CalK (P : Program) (w : World) (K : PySem.W.Frag) (mg : Str → Option Value) (base : Heap) (k : Nat) (x : Str) (n : Nat) (ks : List Str) (wp : DSp) : Prop where
  ex : ∃ (f : Addr) (fd : FuncData) (ps : List Str), FnOk P w K mg base (L2.CX P w) k f fd ps (spD K wp) ∧ mg x = some (.ref f) ∧ PySem.W.keepIn K (.ref f) = true ∧ KApp K fd ps n ks
theorem calK {P : Program} {w : World} {K : PySem.W.Frag} {mg : Str → Option Value} {base : Heap} {x : Str} {params : Arguments} {body : List Stmt} {scope : Scope} {dvs : List V} {f : Addr} {fd : FuncData} {ps ks : List Str} {k n : Nat} {wp : DSp} (F : FunD K x x params body scope dvs [] f fd) (gm : mg x = some (.ref f)) (hd : dvs ≠ [])
    (h : ∀ (T : Addr) (kV doc pm : Value) (an : Option Addr) (cdv ct : Value) (us ws its : List Value), us.length = n → ws.length = ks.length → its.length = dvs.length →
      ∃ k, bindArgs (PySem.W.fnOf x x params body scope (.ref T) kV doc pm an cdv ct) ⟨us, ks.zip ws⟩ = seqItems? (.ref T) >>= k ∧ k (some its.toArray) = pure (ps.zip (us ++ ws)))
    (ok : FnOk P w K mg base (L2.CX P w) k f fd ps (spD K wp)) : CalK P w K mg base k x n ks wp := by
  refine ⟨f, fd, ps, ok, gm, F.kp, ⟨fun s us ws X l1 l2 => ?_, fun r1 r2 => r1.append r2⟩⟩
  obtain ⟨oc, od, dV, kV, doc, pm, an, cdv, ct, osl, rfl, lk, hcd, hD, hK⟩ := F.ex
  rcases hD with ⟨e, _⟩ | ⟨_, T, o, its, m, rfl, lT, oT, rT⟩
  · exact absurd e hd
  · obtain ⟨k, e1, e2⟩ := h T kV doc pm an cdv ct us ws its l1 l2 rT.length.symm
    refine BindsTo.of_looks fun M => ?_
    rw [e1]
    exact looks_items X lT oT (.of_pure e2)
section
variable {G : Gx} {W : WX} {X : Cx} {k j n : Nat} {pos : Pos} {e : Expr} {es : List Expr} {kws : List Keyword} {x : Str} {p : Pos} {ks : List Str} {wp : DSp}
abbrev QK (G : Gx) (W : WX) (X : Cx) (kws : List Keyword) (u : UA) : Prop := PK X kws (tA G W u)
theorem pk_mono {t t' : TA} (h : PK X kws t) (m : ∀ σ H Q, t' σ H Q → t σ H Q) : PK X kws t' := ⟨fun pos pins s σ H Q I q => h.run pos pins s σ H Q I (m σ H Q q)⟩
theorem qk_nil : QK G W X [] uNil := pk_mono pk_nil fun σ H Q ⟨B, F, δ, Qd, Rd, rs, h, k, x⟩ => k _ _ h B F H _ Stp.refl rs .nil
theorem qk_cons {u : UV} {ur : UA} {nm : Option Str} {kpos : Pos} (ha : QV G W X e u) (hr : QK G W X kws ur) : QK G W X (⟨nm, e, kpos⟩ :: kws) (uCons u ur) :=
  pk_mono (pk_cons ha hr) fun σ H Q ⟨B, F, δ, Qd, Rd, rs, h, k, x⟩ =>
    tG_then rs h x fun d δ1 q B1 F1 H1 v st1 rs1 r1 => tG_then rs1 q (x.later st1.toLe) fun ds δ2 q2 B2 F2 H2 vs st2 rs2 r2 => k _ _ q2 B2 F2 H2 _ (st1.trans st2) rs2 (.cons (st2.rp r1) r2)
@[simp] def uCalK (n m : Nat) (wp : DSp) (ua ub : UA) : UE := fun δ Q R => ua δ (fun ds δ1 => ub δ1 (fun es δ2 => ds.length = n ∧ es.length = m ∧ wp (ds ++ es) (fun r => Q r δ2) (fun x => R x δ2)) R) R
theorem qe_calK {ua ub : UA} {m : Nat} (c : CalK X.prog X.w X.K X.mg X.base j x n ks wp) (hr : Room k X.A) (hjk : j ≤ k) (hg : Gl X x) (tk : Takes X W) (ha : QA G W X (e :: es) ua) (hkw : QK G W X kws ub) (hl : ks.length = m := by rfl) (hk : X.K = G.K := by rfl)
    (hall : (backToKw pos (keywordEach kws X.env)).all (·.1.isSome) = true := by rfl) (hks : (backToKw pos (keywordEach kws X.env)).filterMap (·.1) = ks := by rfl)
    (hdb : (x == ("__debug__" : Str)) = false := by decide) (he : starEach (e :: es) X.env = (false, eval e X.env) :: starEach es X.env := by rfl)
    (hpl : ((backTo pos (starEach (e :: es) X.env)).any (·.1) || (backToKw pos (keywordEach kws X.env)).any (·.1.isNone)) = false := by rfl) :
    QE G W X (.Call (.Name x p) (e :: es) kws pos) (uCalK n m wp ua ub) := by
  subst hl
  obtain ⟨f, fd, ps, F, gm, kp, b⟩ := c.ex
  refine pe_mono (pe_callNS (F.mono hjk) hr hg gm kp b (fun σ => passAt tk σ) ha hkw hall hks hdb he hpl) fun σ H Q ⟨B, F', δ, Qd, Rd, rs, h, k, x⟩ => ?_
  refine tG_then rs h x fun ds δ1 q B1 F1 H1 vs st1 rs1 r1 => tG_then rs1 q (x.later st1.toLe) fun es δ2 ⟨l1, l2, q2⟩ B2 F2 H2 zs st2 rs2 r2 => ⟨r1.length.trans l1, r2.length.trans l2, ?_⟩
  rw [hk]
  refine ⟨B2, F2, ds ++ es, _, _, rs2.sub, rs2.bag, (st2.rpl r1).append r2, q2, fun r qr B' F' H' v fr rt => ?_, fun x' rx B' F' H' c da fr ex => x _ _ rx B' F' H' c da ((st1.trans st2).toLe.trans (rs2.call fr).2.toLe) (rs2.call fr).1 (rs2.exUp ex)⟩
  obtain ⟨rs3, st3⟩ := rs2.call fr
  refine k _ _ qr B' F' H' v ((st1.trans st2).trans st3) rs3 ?_
  cases r with
  | sh d => exact rt
  | nw ds =>
    obtain ⟨p, xs, e1, e2, e3, e4, e5, e6⟩ := rt
    have e2' : H2 p = none := e2
    exact ⟨p, xs, e1, rs2.noH0 e2', e3, e4, e5, e6, fun ho => rs2.noOwn e2' ho, .inl (none_back (st1.trans st2).dm e2')⟩
end
end DL

set_option Elab.async false
set_option linter.all false
set_option maxRecDepth 100000
namespace DL
open PySem PySem.Spec PySem.Calls PyProof.Rows L2
/-! ### isinstance(e, T), e the caught exception of an own class that has fields -/
/-- what K tells of the class C0 and the built-in class T -/
structure IsX (K : PySem.W.Frag) (C : Addr) (T : String) (b : Bool) : Prop where
  xf : XfC K C
  cl : PySem.W.findIn K (.ref C) "__class__" = some (some (.builtin "object.__class__"))
  gt : PySem.W.specialIn K (.builtin "object.__class__") "__get__" = some (some (.builtin "getset_descriptor.__get__"))
  tk : PySem.W.takesIn K (.builtin "object.__class__") = some true
  ob : PySem.W.mroIn K C (.type "object") = some true
  kt : PySem.W.kitOne K (.ref C) (.type T) = some b
def isxB (K : PySem.W.Frag) (C : Addr) (T : String) (b : Bool) : Bool := xfB K C && (decide (PySem.W.findIn K (.ref C) "__class__" = some (some (.builtin "object.__class__"))) && (decide (PySem.W.specialIn K (.builtin "object.__class__") "__get__" = some (some (.builtin "getset_descriptor.__get__"))) && (decide (PySem.W.takesIn K (.builtin "object.__class__") = some true) && (decide (PySem.W.mroIn K C (.type "object") = some true) && decide (PySem.W.kitOne K (.ref C) (.type T) = some b)))))
theorem isxB_ok {K : PySem.W.Frag} {C : Addr} {T : String} {b : Bool} (h : isxB K C T b = true) : IsX K C T b := by
  obtain ⟨h1, h⟩ := Bool.and_eq_true_iff.mp h
  obtain ⟨h2, h⟩ := Bool.and_eq_true_iff.mp h
  obtain ⟨h3, h⟩ := Bool.and_eq_true_iff.mp h
  obtain ⟨h4, h⟩ := Bool.and_eq_true_iff.mp h
  obtain ⟨h5, h6⟩ := Bool.and_eq_true_iff.mp h
  exact ⟨xfB_ok h1, of_decide_eq_true h2, of_decide_eq_true h3, of_decide_eq_true h4, of_decide_eq_true h5, of_decide_eq_true h6⟩
section
variable {prog : Program} {w : World} {A : Around} {E : Value → Shared → Prop} {s : Shared} {K : PySem.W.Frag} {x D : Addr} {ox od : Obj} {T : String} {b : Bool}
/-- x.__class__ as isinstance asks it -/
theorem isx_cls {Q : Option Value → Shared → Prop} (Z : IsX K D T b) (kin : K.In s.heap) (J : PySem.W.InstAt s.heap x ox D (some od)) (fin : Q (some (.ref D)) { s with toks := s.toks + 1 }) : wpAny (model prog w) A (getAttr? (.ref x) "__class__") Q E s := by
  obtain ⟨cd0, hcd0, _⟩ := PySem.W.any_some Z.xf.hdC
  have found : PySem.W.findObj K D (some od) "__class__" = some (.bind (.builtin "getset_descriptor.__get__") (.builtin "object.__class__")) := PySem.W.findObj_data (by rw [hcd0]; rfl) Z.cl Z.gt Z.tk
  obtain ⟨hp, g, d, t, os⟩ := s
  have lt := J.type (M := model prog w)
  have l1 := PySem.W.looks_findIn (M := model prog w) kin Z.xf.ga
  have l2 := PySem.W.looks_findIn (M := model prog w) kin Z.xf.gg
  have l3 := PySem.W.looks_find (M := model prog w) kin J found
  have lb : PySem.W.Looks (model prog w) hp (isInstance (.ref x) (.type "BaseException")) true := lt.andThen (PySem.W.looks_subIn kin Z.xf.exC)
  have ne : (Value.builtin "BaseException.__getattribute__" == Value.builtin "object.__getattribute__") = false := by decide +kernel
  have n1 : (onTheHeap (Value.ref D) && Value.builtin "BaseException.__getattribute__" == Value.builtin "object.__getattribute__") = false := by rw [ne]; rfl
  unfold getAttr?
  unfold getAttrBy?
  unfold getAttrBy
  refine wpAny_bind (wpAny_mkText (wpAny_bind (wpAny_attempt (wpAny_holding (wpAny_bind (lt.at (wpAny_bind (l1.at ?_))))))))
  show wpAny _ _ (if (onTheHeap (Value.ref D) && (Value.builtin "BaseException.__getattribute__" == Value.builtin "object.__getattribute__")) = true then _ else _) _ _ _
  rw [n1, if_neg (by decide : ¬ false = true)]
  unfold getAttrByItsOwn
  unfold hookBefore
  refine wpAny_bind ?_
  rw [if_pos (show onTheHeap (Value.ref D) = true by rfl)]
  refine l2.at (wpAny_bind (wpAny_attempt (wpAny_holding ?_)))
  unfold callGetattribute
  rw [show (false && onTheHeap (Value.builtin "BaseException.__getattribute__")) = false from rfl, if_neg (by decide : ¬ false = true)]
  unfold boundAndCalled
  rw [PySem.F.excAttr_ValueError.ga.bind (.ref x)]
  refine wpAny_bind (wpAny_pure ?_)
  refine wpAny_call (codeAny_call_builtin PySem.F.excAttr_ValueError.ga.plain PySem.F.entry_bexc_ga ?_)
  refine @PySem.W.check_slot (model prog w) _ _ ⟨hp, g, d, t + 1, os⟩ "BaseException.__getattribute__" "BaseException" "__getattribute__" (.ref x) [.str "__class__" t] [] _ (by decide +kernel) (by decide +kernel) lb (PySem.F.args_bexc_ga (.ref x) (.str "__class__" t)) ?_
  unfold Builtin.«object.__getattribute__»
  refine wpAny_bind (wpAny_of_eq (a := ((Value.ref x : Value), [Value.str "__class__" t])) (by first | (simp only [slotArgs]; rfl) | rfl) (wpAny_bind (wpAny_pure (wpAny_bind (lt.at (wpAny_bind (l3.at ?_)))))))
  refine wpAny_bind (wpAny_holding (wpAny_call (PySem.W.class_get (s := ⟨hp, g, d, t + 1, os⟩) (ox := ox) (od := some od) kin J Z.ob (wpAny_pure ?_))))
  show wpAny _ _ (handedOut (.ref D)) _ _ _
  rw [PySem.W.handedOut_of (v := .ref D) (by rfl)]
  first
    | exact wpAny_pure (wpAny_pure fin)
    | exact wpAny_pure fin
    | exact wpAny_pure (wpAny_bind (wpAny_pure (wpAny_pure fin)))
theorem isx_kit (Z : IsX K D T b) : PySem.W.KitX K (.ref x) (.ref D) (fun h => PySem.W.InstAt h x ox D (some od)) where
  ty := fun _ _ _ J => J.type
  it := fun _ _ kin _ => by
    obtain ⟨cd0, hcd0, _⟩ := PySem.W.any_some Z.xf.hdC
    unfold PySem.W.clsIn at hcd0
    split at hcd0
    · rename_i c1 d1 cd1 sl1 look
      intro A1 Q1 E1 s1 kp q
      unfold isType loadHead
      exact wpAny_bind (wpAny_loadPart (kp _ _ (kin _ _ look)) (wpAny_pure q))
    · cases hcd0
  ne := fun h tp dd its n sl kin htp => by
    obtain ⟨cd0, hcd0, _⟩ := PySem.W.any_some Z.xf.hdC
    refine Bool.eq_false_iff.mpr fun same => ?_
    have e0 : D = tp := by simpa using same
    subst e0
    unfold PySem.W.clsIn at hcd0
    split at hcd0
    · rename_i c1 d1 cd1 sl1 look
      cases (kin _ _ look).symm.trans htp
    · cases hcd0
  ca := fun kin J fin => isx_cls Z kin J fin
end
/-- isinstance(e, T) -/
def rIsX (K : PySem.W.Frag) (D d a : Addr) (T : String) (b : Bool) : List V → Hp → VK → Prop := fun xs H Q => xs = [.ref a, .ty T] ∧ (∃ fs, H d = some (.xd fs)) ∧ Q (.bl b) H
theorem call_isX {X : Cx} {a D d : Addr} {oe : Obj} {pn : List (Addr × Obj)} {T : String} {b : Bool} (Z : IsX X.K D T b) (hz : Zc (.ref D) (some d) oe) (hf : ∃ vs, oe.data = .fields vs) : CallR (X.suite a ((a, oe) :: pn)) (.builtin "isinstance") (rIsX X.K D d a T b) := by
  intro pins s σ H xs us Q I r h
  obtain ⟨rfl, ⟨fs, hd⟩, q⟩ := h
  cases r with
  | cons rx rr =>
    cases rr with
    | cons rt rr =>
      cases rr
      cases rx
      cases rt
      obtain ⟨ha, _⟩ := I.pin (a, oe) (List.mem_append_left _ List.mem_cons_self)
      obtain ⟨vs, hv⟩ := hf
      obtain ⟨mA, hns, hr⟩ := (show ObjOk X.prog X.w H s.heap d (.xd fs) from I.hok d _ hd)
      obtain ⟨od, ho, hl⟩ := lookIn_ns hns
      have J : PySem.W.InstAt s.heap a oe D (some od) := ⟨ha, hz.1, by unfold PySem.W.notCls; rw [hv], by rw [hz.2]; exact ho⟩
      exact PySem.W.kia_one (isx_kit Z) I.kIn J Z.kt (fun z => nomatch z) fun tk => ⟨.bl b, H, I.tok tk, rfl, q⟩
@[simp] def gIsX (a d C : Addr) (T : String) (b : Bool) : GA := fun ds Q => match ds with
  | [.exc a' d' C' _, .ty T'] => a' = a ∧ d' = d ∧ C' = C ∧ T' = T ∧ Q (.bl b)
  | _ => False
section
variable {G : Gx} {W : WX} {X : Cx} {e t : Expr} {pos : Pos}
theorem cad_isX {a d C : Addr} {T : String} {b : Bool} {K : PySem.W.Frag} : CaD G.K (rIsX K C d a T b) (gIsX a d C T b) := fun B F H vs ds Qd Q sm r g k => by
  unfold gIsX at g
  split at g
  · obtain ⟨rfl, rfl, rfl, rfl, g⟩ := g
    obtain ⟨v, v', rfl, z, z'⟩ := rpl2 r
    cases rp_ty z'
    cases z with
    | exc hx rf => exact ⟨rfl, ⟨_, sm _ _ hx⟩, k _ _ g (.bl _)⟩
  · exact g.elim
theorem qv_isX {a C0 C d : Addr} {oe : Obj} {pn : List (Addr × Obj)} {T : String} {b : Bool} {p : Pos} {ua : UA} (Z : IsX X.K C0 T b) (hz : Zc (.ref C) (some d) oe) (hf : ∃ vs, oe.data = .fields vs) (hC : C0 = C) (hg : Gl (X.suite a ((a, oe) :: pn)) "isinstance") (hm : (X.suite a ((a, oe) :: pn)).mg "isinstance" = none)
    (ha : QA G W (X.suite a ((a, oe) :: pn)) [e, t] ua) (he : starEach [e, t] (X.suite a ((a, oe) :: pn)).env = (false, eval e (X.suite a ((a, oe) :: pn)).env) :: starEach [t] (X.suite a ((a, oe) :: pn)).env := by rfl) (hpl : (backTo pos (starEach [t] (X.suite a ((a, oe) :: pn)).env)).any (·.1) = false := by rfl) :
    QV G W (X.suite a ((a, oe) :: pn)) (.Call (.Name "isinstance" p) [e, t] [] pos) (uCaB (gIsX a d C T b) ua) := by
  subst hC
  exact qv_cb (call_isX Z hz hf) cad_isX hg hm (by decide +kernel) ha (he := he) (hpl := hpl)
end
end DL

set_option Elab.async false
set_option linter.all false
set_option maxRecDepth 100000
namespace DL
open PySem PySem.Spec PyProof.Rows L2
/-! ### _law_of(bag, some): any thing of a list, which stays one's own -/
def tOf (K : PySem.W.Frag) (W : WX) : TS := tRet (tOp (rIx K) (tVar 1) (tCallSD (spD K wPull) [] (WE W) (tCons (tVar 0) (tCons (tCB (rLen K) (tCons (tVar 1) tNil)) tNil))))
def spOf (K : PySem.W.Frag) : Sp := fun vs H Q E => ∃ (b a : Addr) (ys : List V), vs = [.ref b, .ref a] ∧ H a = some (.lst ys) ∧
  spD K wPull [.ref b, .int (ys.length : Nat)] H (fun v H' => ∃ i y, v = .int i ∧ H' a = some (.lst ys) ∧ atI ys i = some y ∧ Q y H') E
theorem pure_of {K : PySem.W.Frag} (vs : List V) (H : Hp) (Q : VK) (E : XK) (h : spOf K vs H Q E) : tOf K (fun c d _ H' => E c d H') { nx := fun _ H' => Q .non H', rt := Q } (start ["bag", "some"] vs) H := by
  obtain ⟨b, a, ys, rfl, ha, B, F, ds, Qd, Rd, h1, h2, h3, h4, h5, h6⟩ := h
  refine ⟨_, rfl, _, rfl, _, rfl, _, _, rfl, .inl ⟨_, .inl (.inl ha), rfl⟩, ?_⟩
  exact ⟨B, F, ds, Qd, Rd, h1, h2, h3, h4, fun r q B' F' H' v fr rt => by
    obtain ⟨i, y, e, ha', hi, q⟩ := h5 r q B' F' H' v fr rt
    exact .inl ⟨a, ys, i, y, rfl, e, .inl (.inl ha'), hi, q⟩, h6⟩
structure CalO (P : Program) (w : World) (K : PySem.W.Frag) (mg : Str → Option Value) (base : Heap) (k : Nat) (x : Str) : Prop where
  ex : ∃ (f : Addr) (fd : FuncData) (ps : List Str), FnOk P w K mg base (L2.CX P w) k f fd ps (spOf K) ∧ mg x = some (.ref f) ∧ PySem.W.keepIn K (.ref f) = true ∧ Binds K fd ps []
theorem calO {P : Program} {w : World} {K : PySem.W.Frag} {mg : Str → Option Value} {base : Heap} {x : Str} {st : Stmt} {f : Addr} {fd : FuncData} {ps : List Str} {k : Nat} (F : FunD K x x (defArgs st) (defBody st) (defScope st) [] [] f fd) (gm : mg x = some (.ref f)) (b : Binds K fd ps []) (ok : FnOk P w K mg base (L2.CX P w) k f fd ps (spOf K)) : CalO P w K mg base k x := ⟨f, fd, ps, ok, gm, F.kp, b⟩
section
variable {G : Gx} {W : WX} {X : Cx} {e1 e2 : Expr} {pos : Pos}
@[simp] def uOf (i : Nat) (u : UV) : UE := fun δ Q R => u δ (fun d δ1 => d = .bag ∧ ∃ ds, δ1[i]? = some (.ow ds) ∧ ds ≠ [] ∧ ds.length ≤ 1000000 ∧ ∀ x ∈ ds, Q (.sh x) δ1) R
theorem qe_of {p : Pos} {j k i : Nat} {x : Str} {u : UV} (c : CalO X.prog X.w X.K X.mg X.base j x) (hr : Room k X.A) (hjk : j ≤ k) (hg : Gl X x) (tk : Takes X W) (h1 : QV G W X e1 u) (h2 : PE X e2 (tVar i)) (hk : X.K = G.K := by rfl)
    (hdb : (x == ("__debug__" : Str)) = false := by decide) (hs1 : starEach [e1, e2] X.env = (false, eval e1 X.env) :: starEach [e2] X.env := by rfl) (hs2 : starEach [e2] X.env = (false, eval e2 X.env) :: starEach [] X.env := by rfl) (hpl : (backTo pos (starEach [e2] X.env)).any (·.1) = false := by rfl) :
    QE G W X (.Call (.Name x p) [e1, e2] [] pos) (uOf i u) := by
  obtain ⟨f, fd, ps, F0, gm, kp, b⟩ := c.ex
  refine pe_mono (pe_callSD (F0.mono hjk) hr hg gm kp b .nil (fun σ => passAt tk σ) (pa_cons h1 (pa_cons h2 pa_nil hs2) hs1) hdb hs1 hpl) fun σ H Q ⟨B, F, δ, Qd, Rd, rs, h, k, x⟩ => ?_
  refine tG_then rs h x fun d δ1 ⟨ed, ds, hd, hne, hl, q⟩ B1 F1 H1 v st1 rs1 r1 => ?_
  subst ed
  cases r1 with
  | bag hB =>
    rename_i b0
    obtain ⟨p', ys, g1, g2, g3, g4, g5, g6⟩ := rs1.owAt hd
    have hlen := g6.length
    have hpos : 0 < ds.length := List.length_pos_iff.mpr hne
    rw [hk]
    refine ⟨.ref p', g1, b0, p', ys, rfl, g5, B1, F1, [.bag, .int (ys.length : Nat)], fun r => ∃ j : Int, 0 ≤ j ∧ j < (ys.length : Nat) ∧ r = .sh (.int j), fun _ => False, rs1.sub, rs1.bag, .cons (.bag hB) (.cons (.int _) .nil), ⟨by omega, by omega, fun r h0 h1 => ⟨r, h0, h1, rfl⟩⟩, fun r qr B' F' H' v' fr rt => ?_, fun _ hx => hx.elim⟩
    obtain ⟨j, j0, j1, rfl⟩ := qr
    have rt' : Rp G.K B' F' v' (.int j) := rt
    cases rp_int rt'
    obtain ⟨rs2, st2⟩ := rs1.call fr
    have hj : j.toNat < ys.length := by omega
    have hj2 : j.toNat < ds.length := by omega
    have ea : atI ys j = some ys[j.toNat] := by
      unfold atI ixN
      rw [if_pos j0, if_pos j1]
      exact List.getElem?_eq_getElem hj
    have key : ∃ d0, d0 ∈ ds ∧ Rp G.K B1 F1 ys[j.toNat] d0 := by
      obtain ⟨v0, hv, rv⟩ := g6.get' (List.getElem?_eq_getElem hj2)
      rw [List.getElem?_eq_getElem hj] at hv
      cases hv
      exact ⟨_, List.getElem_mem hj2, rv⟩
    obtain ⟨d0, hm, r0⟩ := key
    exact ⟨j, _, rfl, fr.keep p' _ g5 g4, ea, k _ _ (q d0 hm) B' F' H' _ (st1.trans st2) rs2 (st2.rp r0)⟩
end
end DL

set_option Elab.async false
set_option linter.all false
set_option maxRecDepth 100000
namespace DL
open PySem PySem.Spec PyProof.Rows L2
section
variable {G : Gx} {W : WX} {X : Cx} {a e e1 e2 : Expr} {pos : Pos}
/-! ### x.insert(i, e), x.extend(a new list) of a list of one's own -/
@[simp] def uIns (i : Nat) (ua : UA) : UE := fun δ Q R => (∃ ds, δ[i]? = some (.ow ds)) ∧ ua δ (fun as δ1 => ∃ (ds : List D) (j : Nat) (d : D), δ1[i]? = some (.ow ds) ∧ as = [.int (j : Int), d] ∧ j ≤ 16777216 ∧ ds.length < 16777216 ∧ Q (.sh .non) (δ1.set i (.ow (ds.take j ++ [d] ++ ds.drop j)))) R
theorem rpl_take {K : PySem.W.Frag} {B : Option Addr} {F : Hp} : ∀ {xs : List V} {ds : List D} (j : Nat), RpL K B F xs ds → RpL K B F (xs.take j) (ds.take j)
  | _, _, 0, _ => .nil
  | _, _, j + 1, .nil => .nil
  | _, _, j + 1, .cons r t => .cons r (rpl_take j t)
theorem rpl_drop {K : PySem.W.Frag} {B : Option Addr} {F : Hp} : ∀ {xs : List V} {ds : List D} (j : Nat), RpL K B F xs ds → RpL K B F (xs.drop j) (ds.drop j)
  | _, _, 0, h => h
  | _, _, j + 1, .nil => .nil
  | _, _, j + 1, .cons r t => rpl_drop j t
theorem qe_ins {i : Nat} {ua : UA} {apos cpos : Pos} (ho : PE X a (tVar i)) (he : QA G W X [e1, e2] ua) (hk : X.K = G.K := by rfl)
    (hbase : attributeBase a "insert" X.env (eval a X.env) = eval a X.env := by rfl)
    (hfew : ((backTo cpos (starEach [e1, e2] X.env)).all (fun x => !x.1) && (backToKw cpos (keywordEach [] X.env)).all (fun x => x.1.isSome)
      && decide (([e1, e2] : List Expr).length + ([] : List Keyword).length + (if ([] : List Keyword).isEmpty then 0 else 1) < 30)) = true := by rfl)
    (hline : (apos.endLine == cpos.line) = true := by rfl) (hs : starEach [e1, e2] X.env = (false, eval e1 X.env) :: starEach [e2] X.env := by rfl) (hplain : (backTo cpos (starEach [e2] X.env)).any (·.1) = false := by rfl) :
    QE G W X (.Call (.Attribute a "insert" apos) [e1, e2] [] cpos) (uIns i ua) :=
  pe_mono (pe_bm PySem.F.plainAttrs_list PySem.F.slot_list_insert PySem.F.type_list_insert mt_insert ho he hbase hfew hline hs hplain) fun σ H Q ⟨B, F, δ, Qd, Rd, rs, h, k, x⟩ => by
    obtain ⟨⟨ds0, h0⟩, h⟩ := h
    obtain ⟨p, xs, g1, g2, g3, g4, g5, g6⟩ := rs.owAt h0
    refine ⟨.ref p, g1, .inl ⟨rfl, xs, .inl (.inl g5)⟩, tG_then rs h x fun as δ1 q B1 F1 H1 vs st1 rs1 r1 => ?_⟩
    obtain ⟨ds, j, d, hd, ea, hj, hlen, q⟩ := q
    subst ea
    obtain ⟨v1, v2, rfl, z1, z2⟩ := rpl2 r1
    cases rp_int z1
    obtain ⟨p', ys, f1, f2, f3, f4, f5, f6⟩ := rs1.owAt hd
    rw [g1] at f1; cases f1
    obtain ⟨rs2, st2⟩ := rs1.setOwn hd g1 (((rpl_take j f6).append (.cons z2 .nil)).append (rpl_drop j f6))
    refine ⟨p, ys, (j : Int), v2, rfl, rfl, f5, by rw [f6.length, sizeLine_eq]; exact hlen, by omega, by omega, ?_⟩
    rw [Int.toNat_natCast]
    exact k _ _ q B1 F1 _ _ (st1.trans st2) rs2 .non
@[simp] def uExt (i : Nat) (u : UE) : UE := fun δ Q R => (∃ ds, δ[i]? = some (.ow ds)) ∧ u δ (fun r δ1 => ∃ (ds es : List D), δ1[i]? = some (.ow ds) ∧ r = .nw es ∧ ds.length + es.length ≤ 16777216 ∧ Q (.sh .non) (δ1.set i (.ow (ds ++ es)))) R
theorem qe_ext {i : Nat} {u : UE} {apos cpos : Pos} (ho : PE X a (tVar i)) (he : QE G W X e u) (hk : X.K = G.K := by rfl)
    (hbase : attributeBase a "extend" X.env (eval a X.env) = eval a X.env := by rfl)
    (hfew : ((backTo cpos (starEach [e] X.env)).all (fun x => !x.1) && (backToKw cpos (keywordEach [] X.env)).all (fun x => x.1.isSome)
      && decide (([e] : List Expr).length + ([] : List Keyword).length + (if ([] : List Keyword).isEmpty then 0 else 1) < 30)) = true := by rfl)
    (hline : (apos.endLine == cpos.line) = true := by rfl) (hs : starEach [e] X.env = (false, eval e X.env) :: starEach [] X.env := by rfl) (hplain : (backTo cpos (starEach [] X.env)).any (·.1) = false := by rfl) :
    QE G W X (.Call (.Attribute a "extend" apos) [e] [] cpos) (uExt i u) :=
  pe_mono (pe_bm PySem.F.plainAttrs_list PySem.F.slot_list_extend PySem.F.type_list_extend mt_extend ho (pa_one he hs) hbase hfew hline hs hplain) fun σ H Q ⟨B, F, δ, Qd, Rd, rs, h, k, x⟩ => by
    obtain ⟨⟨ds0, h0⟩, h⟩ := h
    obtain ⟨p, xs, g1, g2, g3, g4, g5, g6⟩ := rs.owAt h0
    refine ⟨.ref p, g1, .inl ⟨rfl, xs, .inl (.inl g5)⟩, tG_then rs h x fun r δ1 q B1 F1 H1 v st1 rs1 r1 => ?_⟩
    obtain ⟨ds, es, hd, er, hlen, q⟩ := q
    subst er
    obtain ⟨p', ys, f1, f2, f3, f4, f5, f6⟩ := rs1.owAt hd
    rw [g1] at f1; cases f1
    obtain ⟨b, zs, c1, c2, c3, c4, c5, c6, c7⟩ := r1
    subst c1
    obtain ⟨rs2, st2⟩ := rs1.setOwn hd g1 (f6.append c6)
    exact ⟨p, b, ys, zs, rfl, rfl, f5, c5, by rw [f6.length, c6.length, sizeLine_eq]; exact hlen, k _ _ q B1 F1 _ _ (st1.trans st2) rs2 .non⟩
end
end DL

set_option Elab.async false
set_option linter.all false
set_option maxRecDepth 100000
namespace DL
open PySem PySem.Spec PyProof.Rows L2
/-! ### a def that is handed data and a list of its caller's own, to which it may append -/
abbrev DSpW := D → List D → (D → List D → Prop) → Prop
def spW (K : PySem.W.Frag) (w : DSpW) : Sp := fun vs H Q _ => ∃ B F v d p xs ds Qd, vs = [v, .ref p] ∧ Same F H ∧ (∀ b, B = some b → F b = none ∧ Bagged K F H b) ∧ Rp K B F v d ∧ F p = none ∧ B ≠ some p ∧ H p = some (.lst xs) ∧ RpL K B F xs ds ∧ w d ds Qd ∧
  (∀ d' ds', Qd d' ds' → ∀ B' F' H' v' ys, Fr0 ⟨K, F, del H p, B⟩ B' F' H' → Rp K B' F' v' d' → F' p = none → B' ≠ some p → H' p = some (.lst ys) → RpL K B' F' ys ds' → Q v' H')
structure EnW where
  nx : DE → Prop
  rt : D → DE → Prop
abbrev USW := EnW → DE → Prop
structure EnWOk (G : Gx) (p : Addr) (B : Option Addr) (F : Hp) (E : EnW) (D : Ends) : Prop where
  nx : ∀ δ', E.nx δ' → ∀ B' F' H' σ', Le B F B' F' → Rs G B' F' H' δ' σ' → σ'[1]? = some (some (.ref p)) → D.nx σ' H'
  rt : ∀ d δ', E.rt d δ' → ∀ B' F' H' σ' v, Le B F B' F' → Rs G B' F' H' δ' σ' → σ'[1]? = some (some (.ref p)) → Rp G.K B' F' v d → D.rt v H'
def tW (G : Gx) (p : Addr) (u : USW) : TS := fun D σ H => ∃ B F δ E, Rs G B F H δ σ ∧ σ[1]? = some (some (.ref p)) ∧ u E δ ∧ EnWOk G p B F E D
theorem EnWOk.later {G : Gx} {p : Addr} {B B1 : Option Addr} {F F1 : Hp} {E : EnW} {D : Ends} (k : EnWOk G p B F E D) (l : Le B F B1 F1) : EnWOk G p B1 F1 E D :=
  ⟨fun δ' h B' F' H' σ' l' rs => k.nx δ' h B' F' H' σ' (l.trans l') rs, fun d δ' h B' F' H' σ' v l' rs => k.rt d δ' h B' F' H' σ' v (l.trans l') rs⟩
theorem xok0 {G : Gx} {W : WX} {B : Option Addr} {F : Hp} {σ : L2.St} : XOk G B F W σ R0 := fun _ _ z => z.elim
section
variable {G : Gx} {W : WX} {X : Cx} {p : Addr} {c e : Expr} {pos : Pos} {st : Stmt} {sts sts' : List Stmt}
abbrev QSW (G : Gx) (X : Cx) (p : Addr) (st : Stmt) (u : USW) : Prop := PS X st (tW G p u)
abbrev QSSW (G : Gx) (X : Cx) (p : Addr) (st : List Stmt) (u : USW) : Prop := PSs X st (tW G p u)
@[simp] def uSkipW : USW := fun E δ => E.nx δ
@[simp] def uSeqW (u1 u2 : USW) : USW := fun E δ => u1 { E with nx := u2 E } δ
theorem qssw_nil : QSSW G X p [] uSkipW := pss_mono pss_nil fun D σ H ⟨B, F, δ, E, rs, hp, h, k⟩ => k.nx _ h B F H σ Le.refl rs hp
theorem qssw_cons {u1 u2 : USW} (h1 : QSW G X p st u1) (h2 : QSSW G X p sts u2) : QSSW G X p (st :: sts) (uSeqW u1 u2) := pss_mono (pss_cons h1 h2) fun D σ H ⟨B, F, δ, E, rs, hp, h, k⟩ =>
  ⟨B, F, δ, _, rs, hp, h, ⟨fun δ' q B' F' H' σ' l rs' hp' => ⟨B', F', δ', E, rs', hp', q, k.later l⟩, k.rt⟩⟩
theorem qssw_one {u : USW} (h : QSW G X p st u) : QSSW G X p [st] u := pss_one h
@[simp] def uIfW (uc : UT) (u1 u2 : USW) : USW := fun E δ => uc δ (fun b δ1 => if b = true then u1 E δ1 else u2 E δ1) R0
theorem qsw_if {uc : UT} {u1 u2 : USW} (hc : QT G W X c uc) (h1 : QSSW G X p sts u1) (h2 : QSSW G X p sts' u2) : QSW G X p (.If c sts sts' pos) (uIfW uc u1 u2) := ps_mono (ps_if hc h1 h2) fun D σ H ⟨B, F, δ, E, rs, hp, h, k⟩ =>
  tG_then rs h xok0 fun d δ1 q B1 F1 H1 v st1 rs1 r1 => by
    have ev : v = d := r1
    subst ev
    cases v with
    | true => exact ⟨B1, F1, δ1, E, rs1, hp, q, k.later st1.toLe⟩
    | false => exact ⟨B1, F1, δ1, E, rs1, hp, q, k.later st1.toLe⟩
@[simp] def uSetW (i : Nat) (u : UE) : USW := fun E δ => u δ (fun r δ1 => E.nx (δ1.set i r.sl)) R0
theorem qsw_set {i : Nat} {x : Str} {pos' : Pos} {u : UE} (hN : X.N.Nodup) (hi : X.N[i]? = some x) (hx : Loc X.env.scope x) (he : QE G W X e u) (hi1 : i ≠ 1 := by decide) (hs : swapsWith e (some (.Name x pos')) pos.line X.env = pure false := by rfl) (hf : X.fn x = true ∨ X.env.scope.names.lookup x = some .local := by first | exact .inl rfl | exact .inr rfl | assumption) :
    QSW G X p (.Assign [.Name x pos'] e pos) (uSetW i u) := ps_mono (ps_set hN hi hx he hs hf) fun D σ H ⟨B, F, δ, E, rs, hp, h, k⟩ =>
  tG_then rs h xok0 fun r δ1 q B1 F1 H1 v st1 rs1 r1 => k.nx _ q B1 F1 H1 _ st1.toLe (rs1.setRz r1) (by rw [List.getElem?_set_ne hi1]; exact hp)
@[simp] def uDropW (u : UE) : USW := fun E δ => u δ (fun _ δ1 => E.nx δ1) R0
theorem qsw_expr {u : UE} (he : QE G W X e u) (hs : swapsWith e none pos.line X.env = pure false := by rfl) : QSW G X p (.Expr e pos) (uDropW u) := ps_mono (ps_expr he hs) fun D σ H ⟨B, F, δ, E, rs, hp, h, k⟩ =>
  tG_then rs h xok0 fun r δ1 q B1 F1 H1 v st1 rs1 r1 => k.nx _ q B1 F1 H1 σ st1.toLe rs1 hp
@[simp] def uRetW (u : UE) : USW := fun E δ => u δ (fun r δ1 => match r with | .sh d => E.rt d δ1 | .nw _ => False) R0
theorem qsw_ret {u : UE} (he : QE G W X e u) : QSW G X p (.Return (some e) pos) (uRetW u) := ps_mono (ps_ret he) fun D σ H ⟨B, F, δ, E, rs, hp, h, k⟩ =>
  tG_then rs h xok0 fun r δ1 q B1 F1 H1 v st1 rs1 r1 => by
    cases r with
    | sh d => exact k.rt _ _ q B1 F1 H1 σ v st1.toLe rs1 hp r1
    | nw ds => exact q.elim
end
theorem seqW_mid {u1 u2 : USW} {E : EnW} {δ : DE} (M : DE → Prop) (h1 : ∀ k : DE → Prop, (∀ δ, M δ → k δ) → u1 { E with nx := k } δ) (h2 : ∀ δ, M δ → u2 E δ) : uSeqW u1 u2 E δ := h1 _ h2
/-! ### such a def -/
@[simp] def startW (n : Nat) (d : D) (ds : List D) : DE := .sh d :: .ow ds :: List.replicate (n - 2) Sl.no
@[simp] def endW (Q : D → List D → Prop) : EnW := ⟨fun _ => False, fun d δ => ∃ ds, δ[1]? = some (.ow ds) ∧ Q d ds⟩
theorem Rs.startW {K : PySem.W.Frag} {B : Option Addr} {F H : Hp} {v : V} {d : D} {p : Addr} {xs : List V} {ds : List D} {N : List Str} (hs : Same F H) (hb : ∀ b, B = some b → F b = none ∧ Bagged K F H b) (r : Rp K B F v d) (hF : F p = none) (hB : B ≠ some p) (hp : H p = some (.lst xs)) (rl : RpL K B F xs ds) (hl : 2 ≤ N.length) :
    Rs ⟨K, F, del H p, B⟩ B F H (DL.startW N.length d ds) (L2.start N [v, .ref p]) := by
  have fr : Fr0 ⟨K, F, del H p, B⟩ B F H := ⟨hs, Same.refl _, fun _ _ h => .inl h, fun a o h _ => by
    by_cases ha : a = p
    · have h' : del H p a = some o := h
      rw [ha, del_same] at h'; cases h'
    · have h' : del H p a = some o := h
      rw [del_ne ha] at h'; exact h', fun _ h => h, fun h b q => (by
    have h' : B = none := h
    rw [h'] at q; cases q), hb⟩
  refine ⟨fr, ?_, fun i s h => ?_, fun i j es gs q h1 h2 _ _ => ?_⟩
  · simp [DL.startW, L2.start]
  · match i with
    | 0 => cases h; exact ⟨some v, rfl, r⟩
    | 1 => cases h; exact ⟨some (.ref p), rfl, p, xs, rfl, del_same, hF, hB, hp, rl⟩
    | i + 2 =>
      have h' : (List.replicate (N.length - 2) Sl.no)[i]? = some s := h
      rw [List.getElem?_replicate] at h'
      split at h'
      · rename_i hlt
        cases h'
        refine ⟨none, ?_, trivial⟩
        show (List.replicate (N.length - 2) (none : Option V))[i]? = some none
        rw [List.getElem?_replicate, if_pos hlt]
      · cases h'
  · have one : ∀ {i : Nat} {es : List D}, (DL.startW N.length d ds)[i]? = some (Sl.ow es) → i = 1 := fun {i es} h => by
      match i with
      | 0 => cases h
      | 1 => rfl
      | i + 2 =>
        have h' : (List.replicate (N.length - 2) Sl.no)[i]? = some (Sl.ow es) := h
        rw [List.getElem?_replicate] at h'
        split at h' <;> cases h'
    rw [one h1, one h2]
section
variable {P : Program} {w : World} {K : PySem.W.Frag} {mg : Str → Option Value} {base : Heap}
theorem def_fnW {x qual : Str} {st : Stmt} {f : Addr} {fd : FuncData} {N : List Str} {y1 y2 : Str} {k : Nat} {wp : DSpW} {u : USW} (F : FunD K x qual (defArgs st) (defBody st) (defScope st) [] [] f fd) (S : FnScope N [y1, y2] (defScope st)) (hl : 2 ≤ N.length)
    (body : ∀ (cdv : Value) (A : Around) (outer : List Env) (s : Shared) (H : Hp) (E : XK) (B : Option Addr) (F : Hp) (p : Addr), Room k (A.deeper (envOfC qual (defScope st) s.heap.objs.size f cdv)) →
      QSSW ⟨K, F, del H p, B⟩ (cxOf (L2.CX P w) P w K mg base N qual (defScope st) f cdv A outer s H E) p (defBody st) u)
    (law : ∀ d ds Q, wp d ds Q → u (endW Q) (startW N.length d ds)) : FnOk P w K mg base (L2.CX P w) (k + 1) f fd [y1, y2] (spW K wp) := by
  refine F.ok S (fun vs H Q E h => ?_) fun cdv A outer s H vs Q E hr h => ?_
  · obtain ⟨_, _, _, _, _, _, _, _, rfl, _⟩ := h
    rfl
  · obtain ⟨B, F', v, d, p, xs, ds, Qd, rfl, hs, hb, r, hF, hB, hp, rl, hw, kq⟩ := h
    refine ⟨_, body cdv A outer s H E B F' p hr, B, F', _, _, Rs.startW hs hb r hF hB hp rl hl, rfl, law d ds Qd hw, ⟨fun δ' q => q.elim, fun d' δ' q B' F2 H' σ' v' l rs hp' rv => ?_⟩⟩
    obtain ⟨ds', e1, q⟩ := q
    obtain ⟨p', ys, g1, _, g3, g4, g5, g6⟩ := rs.owAt e1
    rw [hp'] at g1
    cases g1
    exact kq d' ds' q B' F2 H' v' ys rs.toFr0 rv g3 g4 g5 g6
structure CalW (P : Program) (w : World) (K : PySem.W.Frag) (mg : Str → Option Value) (base : Heap) (k : Nat) (x : Str) (wp : DSpW) : Prop where
  ex : ∃ (f : Addr) (fd : FuncData) (ps : List Str), FnOk P w K mg base (L2.CX P w) k f fd ps (spW K wp) ∧ mg x = some (.ref f) ∧ PySem.W.keepIn K (.ref f) = true ∧ Binds K fd ps []
theorem calW {x : Str} {st : Stmt} {f : Addr} {fd : FuncData} {ps : List Str} {k : Nat} {wp : DSpW} (F : FunD K x x (defArgs st) (defBody st) (defScope st) [] [] f fd) (gm : mg x = some (.ref f)) (b : Binds K fd ps []) (ok : FnOk P w K mg base (L2.CX P w) k f fd ps (spW K wp)) : CalW P w K mg base k x wp := ⟨f, fd, ps, ok, gm, F.kp, b⟩
end
section
variable {G : Gx} {W : WX} {X : Cx} {e1 e2 : Expr} {pos : Pos}
section
variable {B B0 B1 : Option Addr} {F F0 F1 H H0 H1 : Hp} {δ δ0 : DE} {σ : L2.St} {p : Addr} {ys : List V}
theorem Rs.callL (r : Rs G B F H δ σ) (hp0 : G.H0 p = none) (hno : ¬ Own δ σ p) (c : Fr0 ⟨G.K, F, del H p, B⟩ B1 F1 H1) (e5 : H1 p = some (.lst ys)) (hF : F1 p = none) : Rs G B1 F1 H1 δ σ := by
  have dl : ∀ a o, H a = some o → a ≠ p → del H p a = some o := fun a o h ha => by rw [del_ne ha]; exact h
  have dn : ∀ a, del H p a = none → a = p ∨ H a = none := fun a h => by
    by_cases ha : a = p
    · exact .inl ha
    · rw [del_ne ha] at h; exact .inr h
  have tr : ∀ a o, G.H0 a = some o → ∃ o', H a = some o' := fun a o h => by
    by_cases hb : G.B0 = some a
    · exact r.bagH (r.bag0 a hb)
    · exact ⟨o, r.keep a o h hb⟩
  have bn : ∀ a, B1 = some a → B = some a ∨ a = p ∨ H a = none := fun a h => by
    cases q : B with
    | none => exact .inr (dn a (c.bagn q a h))
    | some b =>
      have := c.bag0 b q
      rw [h] at this; cases this
      exact .inl rfl
  refine ⟨⟨c.sub, r.low.trans c.low, fun a o h => ?_, fun a o h hb => ?_, fun b h => c.bag0 b (r.bag0 b h), fun h b hb => ?_, c.bag⟩, r.len, fun i s h => ?_, r.dis⟩
  · rcases c.new a o h with h1 | h1
    · exact r.new a o h1
    · rcases dn a h1 with rfl | h2
      · rw [hF] at h; cases h
      · exact .inr (none_back tr h2)
  · refine c.keep a o (dl a o (r.keep a o h hb) fun z => ?_) fun e => ?_
    · rw [z, hp0] at h; cases h
    · have e' : B = some a := e
      cases q : G.B0 with
      | none => rw [r.bagn q a e'] at h; cases h
      | some b =>
        have := r.bag0 b q
        rw [this] at e'; cases e'
        exact hb q
  · rcases bn b hb with e | e | e
    · exact r.bagn h b e
    · rw [e]; exact hp0
    · exact none_back tr e
  · obtain ⟨ov, e, q⟩ := r.sl i s h
    refine ⟨ov, e, ?_⟩
    cases s with
    | no => exact q
    | sh d =>
      cases ov with
      | none => exact q
      | some v => exact Rp.mono c.low c.bag0 q
    | ow ds =>
      cases ov with
      | none => exact q
      | some v =>
        obtain ⟨p', xs, f1, f2, f3, f4, f5, f6⟩ := q
        subst f1
        have ne : p' ≠ p := fun z => hno ⟨i, ds, h, by rw [e, z]⟩
        refine ⟨p', xs, rfl, f2, ?_, fun z => ?_, c.keep p' _ (dl _ _ f5 ne) f4, f6.mono c.low c.bag0⟩
        · cases z : F1 p' with
          | none => rfl
          | some o =>
            rcases c.new p' o z with z | z
            · have z' : F p' = some o := z
              rw [f3] at z'; cases z'
            · rcases dn p' z with z | z
              · exact absurd z ne
              · rw [f5] at z; cases z
        · rcases bn p' z with z | z | z
          · exact f4 z
          · exact ne z
          · rw [f5] at z; cases z
theorem Stp.callL (st : Stp B0 F0 H0 δ0 σ B F H δ) (r : Rs G B F H δ σ) (hp : H0 p = none ∨ Own δ0 σ p) (hBp : B ≠ some p) (c : Fr0 ⟨G.K, F, del H p, B⟩ B1 F1 H1) (e5 : H1 p = some (.lst ys)) (hF : F1 p = none) (hB1 : B1 ≠ some p) : Stp B0 F0 H0 δ0 σ B1 F1 H1 δ := by
  have dl : ∀ a o, H a = some o → a ≠ p → del H p a = some o := fun a o h ha => by rw [del_ne ha]; exact h
  have dn : ∀ a, del H p a = none → a = p ∨ H a = none := fun a h => by
    by_cases ha : a = p
    · exact .inl ha
    · rw [del_ne ha] at h; exact .inr h
  refine ⟨st.le.trans c.low, fun b h => c.bag0 b (st.bl b h), fun a h => ?_, fun a o h => ?_, fun a o h hb ho => ?_, fun a o h => ?_, st.ow⟩
  · cases q : B with
    | none =>
      rcases dn a (c.bagn q a h) with z | z
      · exact absurd (z ▸ h) hB1
      · exact .inr (none_back st.dm z)
    | some b =>
      have := c.bag0 b q
      rw [h] at this; cases this
      exact st.bn a q
  · rcases c.new a o h with z | z
    · exact st.nw a o z
    · rcases dn a z with z | z
      · rw [z, hF] at h; cases h
      · exact .inr (.inl (none_back st.dm z))
  · have ha : a ≠ p := fun z => by
      rcases hp with y | y
      · rw [z, y] at h; cases h
      · exact ho (z ▸ y)
    refine c.keep a o (dl a o (st.kp a o h hb ho) ha) fun e => ?_
    rcases st.bn a e with z | z
    · exact hb z
    · rw [h] at z; cases z
  · obtain ⟨o1, e1⟩ := st.dm a o h
    by_cases ha : a = p
    · exact ⟨_, by rw [ha]; exact e5⟩
    · by_cases hb : B = some a
      · exact c.bagH (c.bag0 a hb)
      · exact ⟨o1, c.keep a o1 (dl a o1 e1 ha) hb⟩
theorem set_back {σ : L2.St} {i : Nat} {v : V} (h : σ[i]? = some (some v)) : σ.set i (some v) = σ := by
  refine List.ext_getElem? fun j => ?_
  by_cases hj : i = j
  · subst hj
    rw [List.getElem?_set_self (List.getElem?_eq_some_iff.mp h).1, h]
  · rw [List.getElem?_set_ne hj]
end
/-- f(e, x), where x is a list of one's own, which f may make longer -/
@[simp] def uCalW (wp : DSpW) (i : Nat) (u : UV) : UE := fun δ Q R => (∃ ds, δ[i]? = some (.ow ds)) ∧ u δ (fun d δ1 => ∃ ds, δ1[i]? = some (.ow ds) ∧ wp d ds (fun d' ds' => Q (.sh d') (δ1.set i (.ow ds')))) R
theorem qe_calW {p : Pos} {j k i : Nat} {x : Str} {wp : DSpW} {u : UV} (c : CalW X.prog X.w X.K X.mg X.base j x wp) (hr : Room k X.A) (hjk : j ≤ k) (hg : Gl X x) (tk : Takes X W) (h1 : QV G W X e1 u) (h2 : PE X e2 (tVar i)) (hk : X.K = G.K := by rfl)
    (hdb : (x == ("__debug__" : Str)) = false := by decide) (hs1 : starEach [e1, e2] X.env = (false, eval e1 X.env) :: starEach [e2] X.env := by rfl) (hs2 : starEach [e2] X.env = (false, eval e2 X.env) :: starEach [] X.env := by rfl) (hpl : (backTo pos (starEach [e2] X.env)).any (·.1) = false := by rfl) :
    QE G W X (.Call (.Name x p) [e1, e2] [] pos) (uCalW wp i u) := by
  obtain ⟨f, fd, ps, F0, gm, kp, b⟩ := c.ex
  refine pe_mono (pe_callSD (F0.mono hjk) hr hg gm kp b .nil (fun σ => passAt tk σ) (pa_cons h1 (pa_cons h2 pa_nil hs2) hs1) hdb hs1 hpl) fun σ H Q ⟨B, F, δ, Qd, Rd, rs, h, k, x⟩ => ?_
  obtain ⟨_, h⟩ := h
  refine tG_then rs h x fun d δ1 ⟨ds, hd, q⟩ B1 F1 H1 v st1 rs1 r1 => ?_
  obtain ⟨p', xs, g1, g2, g3, g4, g5, g6⟩ := rs1.owAt hd
  rw [hk]
  refine ⟨.ref p', g1, B1, F1, v, d, p', xs, ds, _, rfl, rs1.sub, rs1.bag, r1, g3, g4, g5, g6, q, fun d' ds' q' B' F' H' v' ys fr rv f3 f4 f5 f6 => ?_⟩
  have ow1 : Own δ1 σ p' := ⟨i, ds, hd, g1⟩
  have nd : ¬ Own (δ1.set i .no) σ p' := no_own_drop rs1.dis hd g1 (by intro _ z; cases z)
  have rsd := (rs1.drop i).callL g2 nd fr f5 f3
  have rs2 := rsd.setOw (i := i) g2 f3 f4 f5 f6 nd
  rw [set_back g1, List.set_set] at rs2
  have st2 := st1.callL rs1 (st1.back (.inr ow1)) g4 fr f5 f3 f4
  refine k _ _ q' B' F' H' v' ⟨st2.le, st2.bl, st2.bn, st2.nw, st2.kp, st2.dm, fun j es hj => ?_⟩ rs2 rv
  rcases set_get hj with ⟨rfl, _, _⟩ | ⟨_, hj⟩
  · exact st1.ow _ _ hd
  · exact st1.ow _ _ hj
/-- f(e, []), the list itself not kept -/
@[simp] def uCalW0 (wp : DSpW) (u : UV) (u2 : UE) : UE := fun δ Q R => u δ (fun d δ1 => u2 δ1 (fun r δ2 => ∃ ds, r = .nw ds ∧ wp d ds (fun d' _ => Q (.sh d') δ2)) R) R
theorem qe_calW0 {p : Pos} {j k : Nat} {x : Str} {wp : DSpW} {u : UV} {u2 : UE} (c : CalW X.prog X.w X.K X.mg X.base j x wp) (hr : Room k X.A) (hjk : j ≤ k) (hg : Gl X x) (tk : Takes X W) (h1 : QV G W X e1 u) (h2 : QE G W X e2 u2) (hk : X.K = G.K := by rfl)
    (hdb : (x == ("__debug__" : Str)) = false := by decide) (hs1 : starEach [e1, e2] X.env = (false, eval e1 X.env) :: starEach [e2] X.env := by rfl) (hs2 : starEach [e2] X.env = (false, eval e2 X.env) :: starEach [] X.env := by rfl) (hpl : (backTo pos (starEach [e2] X.env)).any (·.1) = false := by rfl) :
    QE G W X (.Call (.Name x p) [e1, e2] [] pos) (uCalW0 wp u u2) := by
  obtain ⟨f, fd, ps, F0, gm, kp, b⟩ := c.ex
  refine pe_mono (pe_callSD (F0.mono hjk) hr hg gm kp b .nil (fun σ => passAt tk σ) (pa_cons h1 (pa_cons h2 pa_nil hs2) hs1) hdb hs1 hpl) fun σ H Q ⟨B, F, δ, Qd, Rd, rs, h, k, x⟩ => ?_
  refine tG_then rs h x fun d δ1 q B1 F1 H1 v st1 rs1 r1 => tG_then rs1 q (x.later st1.toLe) fun r δ2 ⟨ds, er, q⟩ B2 F2 H2 v2 st2 rs2 r2 => ?_
  subst er
  obtain ⟨p', xs, e1, g2, g3, g4, g5, g6, g7, g8⟩ := r2
  subst e1
  rw [hk]
  refine ⟨B2, F2, v, d, p', xs, ds, _, rfl, rs2.sub, rs2.bag, st2.rp r1, g3, g4, g5, g6, q, fun d' ds' q' B' F' H' v' ys fr rv f3 f4 f5 f6 => ?_⟩
  exact k _ _ q' B' F' H' v' (((st1.trans st2)).callL rs2 (st1.back g8) g4 fr f5 f3 f4) (rs2.callL g2 g7 fr f5 f3) rv
end
end DL
namespace DL
open PySem PySem.Spec PyProof.Rows L2
section
variable {G : Gx} {W : WX} {X : Cx} {pos : Pos}
/-! ### try .. except C: without a name -/
@[simp] def uTryO (m : Addr → Option Bool) (us : US) (ub : US) : US := fun E δ => ub { E with ex := fun x δ' => match m x.cls with
  | some true => us ⟨E.nx, E.rt, E.bk, E.ct, R0⟩ δ'
  | some false => E.ex x δ'
  | none => False } δ
theorem qs_tryO {x : Str} {cv : Value} {body suite : List Stmt} {b0 : Stmt} {np pos' : Pos} {m : Addr → Option Bool} {us : US} {ub : US} (hs : X.stack = X.env :: X.outer) (hf : X.env.frame = some X.env.locals) (hc : Names X x cv) (tk : Takes X W)
    (hm : ∀ y b, m y = some b → PySem.W.exmOne X.K (.ref y) cv = some b)
    (hb : ∀ (W' : WX) (pn : List (Addr × Obj)) (xe : Value → Shared → Prop), Takes (X.tr pn xe) W' → PassesOwn (model X.prog X.w) X.A X.env xe → QSs G W' (X.tr pn xe) body ub)
    (hsu : ∀ (a : Addr) (oe : Obj) (pn : List (Addr × Obj)), QSs G W0 (X.suite a ((a, oe) :: pn)) (b0 :: suite) us) :
    QS G W X (.Try body [.ExceptHandler (some (.Name x np)) none (b0 :: suite) pos'] [] [] pos) (uTryO m us ub) := by
  refine ps_mono (ps_try_only (tb := fun W' => tS G W' ub) (ts := fun _ _ _ => tS G W0 us) hs hf hc tk hb (fun a oe cls od pn _ _ => hsu a oe pn)) fun D σ H ⟨B, F, δ, E, rs, h, k⟩ => ?_
  refine ⟨B, F, δ, _, rs, h, k.nx, k.bk, k.ct, k.rt, fun x δ' q B' F' H' σ' cl da mono rs' ex => ?_⟩
  obtain ⟨rfl, d, fs, rfl, x1, x2, x3, x4, x5⟩ := id ex
  dsimp only at q
  split at q
  · rename_i hx
    exact ⟨true, hm _ _ hx, fun _ a ha => ⟨B', F', δ', _, rs', q, k.nx.later mono, k.bk.later mono, k.ct.later mono, k.rt, fun _ _ z => z.elim⟩, (fun z => by cases z)⟩
  · rename_i hx
    exact ⟨false, hm _ _ hx, (fun z => by cases z), fun _ => k.ex _ _ q B' F' H' σ' _ _ mono rs' ex⟩
  · exact q.elim
end
end DL
namespace DL
open PySem PySem.Spec PyProof.Rows L2
/-! ### keyword-only parameters -/
/-- the keyword default x of the def at f, if it is an object -/
def kwdAt (f : Str × Option Str) (x : Str) (K : PySem.W.Frag) : Addr := match K.lookup (He.fAd K f) with
  | some ⟨_, _, .func fd, _⟩ => (match fd.kwdefaults with
    | .ref T => (match PySem.W.nsIn K T x with
      | some (some (.ref a)) => a
      | _ => 0)
    | _ => 0)
  | _ => 0
section
variable {P : Program} {w : World} {K : PySem.W.Frag} {mg : Str → Option Value} {base : Heap}
/-- all keyword-only parameters are written -/
theorem calKO {x : Str} {params : Arguments} {body : List Stmt} {scope : Scope} {kws : List (Str × V)} {f : Addr} {fd : FuncData} {ps ks : List Str} {k n : Nat} {wp : DSp} (F : FunD K x x params body scope [] kws f fd) (gm : mg x = some (.ref f))
    (h : ∀ (kV doc pm : Value) (an : Option Addr) (cdv ct : Value) (us ws : List Value), us.length = n → ws.length = ks.length →
      bindArgs (PySem.W.fnOf x x params body scope .none kV doc pm an cdv ct) ⟨us, ks.zip ws⟩ = pure (ps.zip (us ++ ws)))
    (ok : FnOk P w K mg base (L2.CX P w) k f fd ps (spD K wp)) : CalK P w K mg base k x n ks wp := by
  refine ⟨f, fd, ps, ok, gm, F.kp, ⟨fun s us ws X l1 l2 => ?_, fun r1 r2 => r1.append r2⟩⟩
  obtain ⟨oc, od, dV, kV, doc, pm, an, cdv, ct, osl, rfl, lk, hcd, hD, hK⟩ := F.ex
  rcases hD with ⟨_, rfl⟩ | ⟨e, _⟩
  · exact .of_eq (h kV doc pm an cdv ct us ws l1 l2)
  · exact absurd rfl e
/-- the keyword-only ones all lack -/
theorem calKD {x : Str} {params : Arguments} {body : List Stmt} {scope : Scope} {kws : List (Str × V)} {f : Addr} {fd : FuncData} {ps : List Str} {k : Nat} {wp : DSp} {dds : List D} (F : FunD K x x params body scope [] kws f fd) (gm : mg x = some (.ref f)) (b : ∃ ds, Vals (kws.map (·.2)) ds ∧ Binds K fd ps ds) (rd : ∀ B F, RpL K B F (kws.map (·.2)) dds)
    (ok : FnOk P w K mg base (L2.CX P w) k f fd ps (spD K wp)) : CalD P w K mg base k x (fun ds => wp (ds ++ dds)) := by
  obtain ⟨ds, v, b⟩ := b
  exact ⟨f, fd, ps, ds, _, dds, wp, ok, gm, F.kp, b, v, rd, rfl⟩
end
end DL

set_option Elab.async false
set_option linter.all false
set_option maxRecDepth 100000
namespace DL
open PySem PySem.Spec PyProof.Rows L2
/-! ### a frame entered anew in its midst: all that stands but one's own lists is kept from now on -/
open Classical in
/-- the heap without the lists that are one's own -/
noncomputable def lessOwn (δ : DE) (σ : L2.St) (H : Hp) : Hp := fun a => if Own δ σ a then none else H a
section
variable {G : Gx} {B : Option Addr} {F H : Hp} {δ : DE} {σ : L2.St}
theorem lessOwn_some {a : Addr} {o : HO} (h : lessOwn δ σ H a = some o) : H a = some o ∧ ¬ Own δ σ a := by
  unfold lessOwn at h
  split at h
  · cases h
  · rename_i q
    exact ⟨h, q⟩
theorem lessOwn_own {a : Addr} (h : Own δ σ a) : lessOwn δ σ H a = none := if_pos h
theorem lessOwn_stay {a : Addr} {o : HO} (h : H a = some o) (n : ¬ Own δ σ a) : lessOwn δ σ H a = some o := by
  unfold lessOwn
  rw [if_neg n]
  exact h
/-- the same state seen from itself -/
theorem Rs.anew (r : Rs G B F H δ σ) : Rs ⟨G.K, F, lessOwn δ σ H, B⟩ B F H δ σ where
  sub := r.sub
  low := Same.refl _
  new := fun a o h => .inl h
  keep := fun a o h _ => (lessOwn_some h).1
  bag0 := fun b h => h
  bagn := fun h b h2 => by rw [show B = none from h] at h2; cases h2
  bag := r.bag
  len := r.len
  sl := fun i s h => by
    obtain ⟨ov, e, q⟩ := r.sl i s h
    refine ⟨ov, e, ?_⟩
    cases s with
    | no => exact True.intro
    | sh d => cases ov with
      | none => exact q
      | some v => exact q
    | ow ds => cases ov with
      | none => exact q
      | some v =>
        obtain ⟨p, xs, e1, _, e3, e4, e5, e6⟩ := q
        exact ⟨p, xs, e1, lessOwn_own ⟨i, ds, h, by rw [e, e1]⟩, e3, e4, e5, e6⟩
  dis := r.dis
/-- .. where but tables of code objects were written since -/
theorem Rs.write {H' : Hp} (r : Rs G B F H δ σ) (P : Addr) (nF : F P = none) (nB : B ≠ some P) (nO : ¬ Own δ σ P) (e : ∀ b o, b ≠ P → H b = some o → H' b = some o) (g0 : G.H0 P = none) : Rs G B F H' δ σ where
  sub := fun a o h => e a o (fun z => by rw [z, nF] at h; cases h) (r.sub a o h)
  low := r.low
  new := r.new
  keep := fun a o h hb => e a o (fun z => by rw [z, g0] at h; cases h) (r.keep a o h hb)
  bag0 := r.bag0
  bagn := r.bagn
  bag := fun b h => by
    obtain ⟨h1, c, ns, x, y, z, k1, k2, k3⟩ := r.bag b h
    exact ⟨h1, c, ns, x, y, z, e b _ (fun z => nB (z ▸ h)) k1, k2, k3⟩
  len := r.len
  sl := fun i s h => by
    obtain ⟨ov, h1, q⟩ := r.sl i s h
    refine ⟨ov, h1, ?_⟩
    cases s with
    | no => exact True.intro
    | sh d => cases ov with
      | none => exact q
      | some v => exact q
    | ow ds => cases ov with
      | none => exact q
      | some v =>
        obtain ⟨p, xs, e1, e2, e3, e4, e5, e6⟩ := q
        exact ⟨p, xs, e1, e2, e3, e4, e p _ (fun z => nO ⟨i, ds, h, by rw [h1, e1, z]⟩) e5, e6⟩
  dis := r.dis
end
end DL

set_option Elab.async false
set_option linter.all false
set_option maxRecDepth 100000
namespace DL
open PySem PySem.Spec PyProof.Rows L2 LamX
/-! ### the body of a lambda: its frame takes what its calls let out -/
section
variable {X : Cx} {A : Around} {outer : List Env} {s : Shared} {H : Hp} {E : XK} {scope : Scope} {f c' : Addr}
theorem takes_lam : Takes (lamCx X A outer s H E scope f c') (fun cls d _ H => E cls d H) := takes_of rfl rfl rfl rfl
/-- a lambda without parameters that reads no slot of its maker: a promise of no arguments -/
theorem pe_thunk {body : Expr} {u : UE} {w : DSp} (hq : ∀ G : Gx, X.K = G.K → QE G (fun cls d _ H => E cls d H) (lamCx X A outer s H E scope f c') body u) (hu : ∀ δ Qd Rd, w [] Qd Rd → u δ (fun r _ => Qd r) (fun x _ => Rd x)) :
    PE (lamCx X A outer s H E scope f c') body (fun _ H1 Q => spD X.K w [] H1 Q E) := by
  refine ⟨fun pins s1 σ H1 Q I ⟨B, F, ds, Qd, Rd, hs, hb, r, hw, kq, kr⟩ => ?_⟩
  cases r
  have no : ∀ (i : Nat) (t : Sl), (List.replicate σ.length Sl.no)[i]? = some t → t = Sl.no ∧ i < σ.length := fun i t e => by
    rw [List.getElem?_replicate] at e
    split at e
    · rename_i q
      exact ⟨(Option.some.inj e).symm, q⟩
    · cases e
  have r0 : Rs ⟨X.K, F, H1, B⟩ B F H1 (List.replicate σ.length Sl.no) σ := ⟨⟨hs, Same.refl _, fun a o h => .inl h, fun a o h _ => h, fun b h => h, fun h b h2 => by { rw [show B = none from h] at h2; cases h2 }, hb⟩, List.length_replicate, fun i t e => by
    obtain ⟨rfl, q⟩ := no i t e
    exact ⟨σ[i], List.getElem?_eq_getElem q, True.intro⟩, fun i j ds es p e => by
    have := (no i _ e).1
    cases this⟩
  refine (hq ⟨X.K, F, H1, B⟩ rfl).run pins s1 σ H1 Q I ⟨B, F, _, fun r _ => Qd r, fun x _ => Rd x, r0, hu _ _ _ hw, fun r δ' q B' F' H' v st rs rel => kq r q B' F' H' v rs.toFr0 ?_, fun x δ' q B' F' H' c da _ rs ex => kr x q B' F' H' c da rs.toFr0 ex⟩
  cases r with
  | sh d => exact rel
  | nw ds =>
    obtain ⟨p, xs, e1, e2, e3, e4, e5, e6, _, _⟩ := rel
    exact ⟨p, xs, e1, e2, e3, e4, e5, e6⟩
end
section
variable {X : Cx} {pins : List (Addr × Obj)} {σ : L2.St} {H : Hp} {s : Shared}
/-- ask(), where ask is a lambda without parameters: the def that got it may take exceptions by its slots -/
theorem pe_ask {CXg : CXT} {Eg : XK} {Ng : List Str} {qg : Str} {sg : Scope} {g f c' : Addr} {cdg pm ctv : Value} {pr : Arguments} {bd : Expr} {sc : Scope} {k i : Nat} {a : Str} {pn : List (Addr × Obj)} {xe : Value → Shared → Prop} {W : WX} {w : DSp} {p1 p2 : Pos}
    (I : Inv X pins σ H s) (L : LamS X.env.scope sc) (hf : s.heap.get? f = some (PySem.W.kla_obj "<lambda>" (X.env.qual ++ "<lambda>") pr bd sc (cloFrom X.env.cells sc.names []) pm c' ctv)) (hfn : H f = none) (hfr : f ∉ frs X.stack)
    (bind0 : bindArgs (PySem.W.kla_fn "<lambda>" (X.env.qual ++ "<lambda>") pr bd sc (cloFrom X.env.cells sc.names []) pm (.ref c') ctv) ⟨[], []⟩ = pure [])
    (tk : Takes ((cxOf CXg X.prog X.w X.K X.mg X.base Ng qg sg g cdg X.A X.stack s H Eg).tr pn xe) W) (hr : Room (k + 1) (X.A.deeper (envOfC qg sg s.heap.objs.size g cdg)))
    (hB : ∀ (A : Around) (outer : List Env) (s : Shared) (H : Hp) (E : XK), Room k (A.deeper (lamEnv X sc s.heap.objs.size f c')) → PE (lamCx X A outer s H E sc f c') bd (fun _ H1 Q => spD X.K w [] H1 Q E))
    (hN : Ng[i]? = some a) (hv : Vis sg a) (hd : (a == ("__debug__" : Str)) = false := by decide) (hcd : (a == ("__classdict__" : Str)) = false := by decide) :
    PE ((cxOf CXg X.prog X.w X.K X.mg X.base Ng qg sg g cdg X.A X.stack s H Eg).tr pn xe) (.Call (.Name a p1) [] [] p2)
      (fun σ2 H2 Q => σ2[i]? = some (some (.ref f)) ∧ H2 c' = some (CodeO c' (X.env.qual ++ "<lambda>")) ∧ spD X.K w [] H2 Q (WE W σ2)) := by
  refine ⟨fun pins2 s2 σ2 H2 Q I2 ⟨q1, q2, q3⟩ => ?_⟩
  refine wpAny_Call_Name_kw (thn ((pe_var (pos := p1) (i := i) hN hv hd hcd).run pins2 s2 σ2 H2 (fun v H1 => v = .ref f ∧ H1 = H2) I2 ⟨.ref f, q1, rfl, rfl⟩) fun u s1 ⟨v, H1, J1, ru, rq⟩ => ?_)
  obtain ⟨rfl, eH⟩ := rq
  rw [eH] at J1
  obtain rfl : u = Value.ref f := ru
  have at1 : s1.heap.get? f = some (PySem.W.kla_obj "<lambda>" (X.env.qual ++ "<lambda>") pr bd sc (cloFrom X.env.cells sc.names []) pm c' ctv) := J1.base.keep f _ hf hfn hfr (fun z => by cases z)
  refine PySem.W.callWith_F0 ⟨_, _, _, _, at1⟩ ?_
  have bs : Un (frs X.stack) [] H H2 s.heap s1.heap := J1.base
  obtain ⟨⟨oc, vs, t, o1, o2, o3⟩, _, _⟩ := J1.hok c' _ q2
  have run : codeAny (model X.prog X.w) (X.A.deeper (envOfC qg sg s.heap.objs.size g cdg)) (.call (.ref f) ⟨[], []⟩) (CR (L2.CX X.prog X.w) (envOfC qg sg s.heap.objs.size g cdg :: X.stack) X.prog X.w H2 s1 Q (WE W σ2)) s1 := by
    refine PySem.W.kla_callFunE hr.depth at1 rfl L.co L.gen rfl ⟨c', oc, vs, t, rfl, o1, o2, o3⟩ ?_
    rw [bind0]
    refine wpAny_pure (wpAny_newFunctionEnv (fun y hy => (L.own y hy).2) (fun y hy => by cases hy) (fun h₁ n1 n2 => ⟨J1.nolimit.fresh _ n2, ?_⟩) L.kind)
    show codeAny _ _ (.expr bd (lamEnv X sc s1.heap.objs.size f c')) _ _
    have kept : ∀ b o, s1.heap.get? b = some o → h₁.get? b = some o := fun b o e => n2.extBut b o (Nat.ne_of_lt (Heap.lt_size e)) (Heap.get?_push_of_some _ e)
    have J2 : Inv (lamCx X (X.A.deeper (envOfC qg sg s.heap.objs.size g cdg)) (envOfC qg sg s.heap.objs.size g cdg :: X.stack) s1 H2 (WE W σ2) sc f c') [] σ H2 { s1 with heap := h₁, toks := s1.toks + ([] : List (Str × Value)).length } :=
      lam_start2 I L J1.env0 hr.hd bs n1 kept
    refine PySem.W.kla_codeExpr (wpAny_mono ((hB _ _ s1 H2 (WE W σ2) (hr.deeper _)).run [] _ _ H2 Q J2 q3) (fun v s' hq => ?_) fun e s' hq => hq)
    obtain ⟨v2, H3, J3, rv, q⟩ := hq
    exact ⟨v2, H3, J3.os, J3.bare, J3.base, J3.hok, rv, q⟩
  have hx := passAt tk σ2
  refine wpAny_call (codeAny_mono run fun r s3 hq => ?_)
  cases r with
  | error e => exact hx _ _ _ e s3 J1 hq
  | ok fl =>
    cases fl with
    | ret u => exact J1.after hq
    | next => exact False.elim hq
    | brk => exact False.elim hq
    | cont => exact False.elim hq
end
/-- what ask() gives, where ask is the slot i -/
@[simp] def uAsk (i : Nat) (f : Addr) (w : DSp) : UE := fun δ Q R => δ[i]? = some (.sh (.obj f)) ∧ w [] (fun r => Q r δ) (fun x => R x δ)
section
variable {G : Gx} {W : WX} {Z : Cx} {e : Expr}
theorem qe_ask {i : Nat} {f c' : Addr} {q : Str} {w : DSp} (h : PE Z e (fun σ2 H2 Q => σ2[i]? = some (some (.ref f)) ∧ H2 c' = some (CodeO c' q) ∧ spD G.K w [] H2 Q (WE W σ2))) (hc : G.H0 c' = some (CodeO c' q)) (hb : G.B0 ≠ some c') : QE G W Z e (uAsk i f w) :=
  pe_mono h fun σ H Q ⟨B, F, δ, Qd, Rd, rs, ⟨h1, h2⟩, kq, kx⟩ => by
    refine ⟨?_, rs.keep _ _ hc hb, B, F, [], _, _, rs.sub, rs.bag, .nil, h2, fun r qr B' F' H' v fr rt => ?_, fun x' rx B' F' H' c da fr ex => kx _ _ rx B' F' H' c da (rs.call fr).2.toLe (rs.call fr).1 (rs.exUp ex)⟩
    · obtain ⟨ov, e1, e2⟩ := rs.sl _ _ h1
      cases ov with
      | none => exact e2.elim
      | some v =>
        obtain rfl := rp_obj e2
        exact e1
    · obtain ⟨rs2, st2⟩ := rs.call fr
      refine kq _ _ qr B' F' H' v st2 rs2 ?_
      cases r with
      | sh d => exact rt
      | nw ds =>
        obtain ⟨p, xs, e1, e2, e3, e4, e5, e6⟩ := rt
        have e2' : H p = none := e2
        exact ⟨p, xs, e1, rs.noH0 e2', e3, e4, e5, e6, fun ho => rs.noOwn e2' ho, .inl e2'⟩
end
end DL

set_option Elab.async false
set_option linter.all false
set_option maxRecDepth 100000
namespace DL
open PySem PySem.Spec PyProof.Rows L2 LamX
/-- ask() in the frame Z of the def that got the lambda -/
def Asks (Z : Cx) (a : Str) (f c' : Addr) (q : Str) (w : DSp) : Prop := ∀ (W : WX) (pn : List (Addr × Obj)) (xe : Value → Shared → Prop) (p1 p2 : Pos), Takes (Z.tr pn xe) W →
  PE (Z.tr pn xe) (.Call (.Name a p1) [] [] p2) (fun σ2 H2 Q => σ2[0]? = some (some (.ref f)) ∧ H2 c' = some (CodeO c' q) ∧ spD Z.K w [] H2 Q (WE W σ2))
section
variable {X : Cx} {W : WX}
/-- x(lambda: body), by the data layer's reading uT of x's body -/
theorem pe_told {T : List (Addr × Str)} {x a : Str} {g c P : Addr} {k : Nat} {pg : Arguments} {bg : List Stmt} {sg : Scope} {dV kV doc pm cdv ct oc : Value} {an od : Option Addr} {osl : Array (Option Value)} {Ng : List Str} {w : DSp} {wr : (Rz → Prop) → (Exn → Prop) → Prop} {uT : Addr → US}
    {pr : Arguments} {bd : Expr} {sc : Scope} {p lpos pos : Pos} (hg : Gl X x) (hm : X.mg x = some (.ref g)) (hk : PySem.W.keepIn X.K (.ref g) = true)
    (lk : X.K.lookup g = some ⟨oc, od, .func (PySem.W.fnOf x x pg bg sg dV kV doc pm an cdv ct), osl⟩) (hcg : PySem.W.codeIn X.K cdv x = true) (hb : L2.Binds X.K (PySem.W.fnOf x x pg bg sg dV kV doc pm an cdv ct) [a] []) (Sg : FnScope Ng [a] sg) (hNg : Ng[0]? = some a) (hva : Vis sg a) (tk : Takes X W)
    (hG : ∀ (f c' : Addr) (s : Shared) (H : Hp) (B : Option Addr) (F : Hp) (E : XK), H c' = some (CodeO c' (X.env.qual ++ "<lambda>")) → B ≠ some c' → Asks (cxOf (L2.CX X.prog X.w) X.prog X.w X.K X.mg X.base Ng x sg g cdv X.A X.stack s H E) a f c' (X.env.qual ++ "<lambda>") w →
      QSs ⟨X.K, F, H, B⟩ (fun c d _ H' => E c d H') (cxOf (L2.CX X.prog X.w) X.prog X.w X.K X.mg X.base Ng x sg g cdv X.A X.stack s H E) bg (uT f))
    (law : ∀ f Q R, wr Q R → uT f (endD Q R) (startD Ng.length [.obj f]))
    (TB : TabB X.base X.mg c P) (hcode : X.env.code = .ref c) (hmT : (P, X.env.qual ++ "<lambda>") ∈ T) (hu : ∀ p ∈ T, p.1 = P → p.2 = X.env.qual ++ "<lambda>") (hr : Room (k + 2) X.A) (L : LamS X.env.scope sc) (hdef : defaultsOf pr X.env = ([], []))
    (hbind : ∀ (q : Str) (cl : List (Str × Addr)) (pm cv ctv : Value), bindArgs (PySem.W.kla_fn "<lambda>" q pr bd sc cl pm cv ctv) ⟨[], []⟩ = pure [])
    (hB : ∀ (A : Around) (outer : List Env) (s : Shared) (H : Hp) (E : XK) (f c' : Addr), Room k (A.deeper (lamEnv X sc s.heap.objs.size f c')) → PE (lamCx X A outer s H E sc f c') bd (fun _ H1 Q => spD X.K w [] H1 Q E))
    (hdb : (x == ("__debug__" : Str)) = false := by decide) (hd : (a == ("__debug__" : Str)) = false := by decide) (hcd : (a == ("__classdict__" : Str)) = false := by decide) :
    PE X (.Call (.Name x p) [.Lambda pr bd sc lpos] [] pos) (fun σ H Q => Tabs T H ∧ ∀ H1, ExtN H H1 → Tabs T H1 → ∃ B F Qd Rd, Same F H1 ∧ (∀ b, B = some b → F b = none ∧ Bagged X.K F H1 b) ∧ wr Qd Rd ∧
      (∀ r, Qd r → ∀ B' F' H' v, Fr0 ⟨X.K, F, H1, B⟩ B' F' H' → RtR ⟨X.K, F, H1, B⟩ B' F' H' r v → Q v H') ∧ (∀ y, Rd y → ∀ B' F' H' c da, Fr0 ⟨X.K, F, H1, B⟩ B' F' H' → ExR ⟨X.K, F, H1, B⟩ B' F' H' y c da → W c da σ H')) := by
  refine ⟨fun pins s σ H Q I ⟨hT, h⟩ => ?_⟩
  refine wpAny_Call_Name_kw (ld_glob I hg hm ?_ hdb)
  refine PySem.W.callWith_K (h₀ := X.base) I.ok.mod.kin hk ?_ (by rfl) (by rfl)
  show wpAny _ _ (spliced ((false, eval (.Lambda pr bd sc lpos) X.env) :: backTo pos (starEach [] X.env))) _ _ s
  refine Calls.spliced_cons (lam_make2 I TB hcode hmT hu hT hdef (L.has I.ok) fun f c' pm2 ctv H1 s1 J eN T1 hf hfn hfr hco => ?_)
  refine Calls.spliced_nil ⟨J.kIn, ?_⟩
  obtain ⟨B, F, Qd, Rd, hs, hbg, hw, kq, kr⟩ := h H1 eN T1
  have run : codeAny (model X.prog X.w) X.A (.call (.ref g) ⟨[.ref f], []⟩) (CR (L2.CX X.prog X.w) X.stack X.prog X.w H1 s1 Q (WE W σ)) s1 := by
    refine run_ofS (N := Ng) (ps := [a]) (us := [.ref f]) (vs := [.ref f]) lk hcg Sg hr J.env0 (hb s1 [.ref f] J.kIn rfl) (.cons rfl .nil) rfl fun hr2 => ?_
    have nb : B ≠ some c' := fun z => by
      obtain ⟨_, _, _, _, _, _, e, _⟩ := hbg _ z
      rw [hco] at e
      unfold CodeO at e
      cases e
    have ln : 1 ≤ Ng.length := by
      have := List.getElem?_eq_some_iff.mp hNg
      obtain ⟨z, _⟩ := this
      exact z
    refine ⟨_, hG f c' s1 H1 B F (WE W σ) hco nb (fun W2 pn xe p1 p2 tk2 => pe_ask (i := 0) J L hf hfn hfr (hbind _ _ _ _ _) tk2 hr2 (fun A outer s H E hr3 => hB A outer s H E f c' hr3) hNg hva hd hcd), ?_⟩
    exact ⟨B, F, _, _, Rs.start (N := Ng) (vs := [.ref f]) hs hbg (.cons (.obj f) .nil) ln, law f Qd Rd hw, ⟨fun δ' q B' F' H' σ' _ rs => kq _ q B' F' H' _ rs.toFr0 .non, fun _ q => q.elim, fun _ q => q.elim, kq, fun y δ' q B' F' H' σ' c da _ rs ex => kr y q B' F' H' c da rs.toFr0 ex⟩⟩
  have hx := passAt tk σ
  refine wpAny_call (codeAny_mono run fun r s2 hq => ?_)
  cases r with
  | error e => exact hx _ _ _ e s2 J hq
  | ok fl =>
    cases fl with
    | ret u => exact J.after hq
    | next => exact False.elim hq
    | brk => exact False.elim hq
    | cont => exact False.elim hq
end
/-! ### the law's tail: only the tables matter from here on -/
/-- what tells told's value t, the tables kept -/
def tTold (K : PySem.W.Frag) (T : List (Addr × Str)) (wr : (Rz → Prop) → (Exn → Prop) → Prop) (t : Str) : TE := fun _ H Q => Tabs T H ∧ wr (fun r => r = .sh (.str t)) (fun _ => False) ∧ ∀ H', Tabs T H' → Q (.str t) H'
theorem told_tail {K : PySem.W.Frag} {W : WX} {T : List (Addr × Str)} {wr : (Rz → Prop) → (Exn → Prop) → Prop} {t : Str} {σ : L2.St} {H : Hp} {Q : VK} (h : tTold K T wr t σ H Q) :
    Tabs T H ∧ ∀ H1, ExtN H H1 → Tabs T H1 → ∃ B F Qd Rd, Same F H1 ∧ (∀ b, B = some b → F b = none ∧ Bagged K F H1 b) ∧ wr Qd Rd ∧
      (∀ r, Qd r → ∀ B' F' H' v, Fr0 ⟨K, F, H1, B⟩ B' F' H' → RtR ⟨K, F, H1, B⟩ B' F' H' r v → Q v H') ∧ (∀ y, Rd y → ∀ B' F' H' c da, Fr0 ⟨K, F, H1, B⟩ B' F' H' → ExR ⟨K, F, H1, B⟩ B' F' H' y c da → W c da σ H') := by
  obtain ⟨hT, hw, hk⟩ := h
  refine ⟨hT, fun H1 eN T1 => ⟨none, fun _ => none, _, _, (fun a o z => by cases z), (fun b z => by cases z), hw, fun r qr B' F' H' v fr rt => ?_, fun y z => z.elim⟩⟩
  subst qr
  have rt2 : Rp K B' F' v (.str t) := rt
  cases rt2
  exact hk H' (T1.ext fun b o e => fr.keep b o e (fun z => by cases z))
section
variable {X : Cx} {T : List (Addr × Str)}
/-- if told(..) != t: return ..; and what comes then -/
theorem pss_toldIf {e : Expr} {as rest : List Stmt} {t : Str} {wr : (Rz → Prop) → (Exn → Prop) → Prop} {ta tr : TS} {j : Nat} {p1 p2 p3 : Pos} (h : PE X e (tTold X.K T wr t)) (ha : PSs X as ta) (hr : PSs X rest tr) (hm : behindInMarks .NotEq (.Constant (.str t) j p1) = false) :
    PSs X (.If (.Compare e [.NotEq] [.Constant (.str t) j p1] p2) as [] p3 :: rest) (fun D σ H => Tabs T H ∧ wr (fun r => r = .sh (.str t)) (fun _ => False) ∧ ∀ H', Tabs T H' → tr D σ H') :=
  pss_mono (pss_cons (ps_if (pt_cmpR op_ne h pe_str hm) ha pss_nil) hr) fun D σ H ⟨hT, hw, hk⟩ => ⟨hT, hw, fun H' T' => ⟨rfl, false, by simp, hk H' T'⟩⟩
/-- return told(..) == t -/
theorem pss_toldRet {e : Expr} {t : Str} {wr : (Rz → Prop) → (Exn → Prop) → Prop} {j : Nat} {p1 p2 p3 : Pos} (h : PE X e (tTold X.K T wr t)) (hm : behindInMarks .Eq (.Constant (.str t) j p1) = false) :
    PSs X [.Return (some (.Compare e [.Eq] [.Constant (.str t) j p1] p2)) p3] (fun D σ H => Tabs T H ∧ wr (fun r => r = .sh (.str t)) (fun _ => False) ∧ ∀ H', D.rt (.bl true) H') :=
  pss_mono (pss_one (ps_ret (pe_cmpR op_eq h pe_str hm))) fun D σ H ⟨hT, hw, hk⟩ => ⟨hT, hw, fun H' T' => ⟨rfl, by simpa using hk H'⟩⟩
end
end DL

set_option Elab.async false
set_option linter.all false
set_option maxRecDepth 100000
namespace DL
open PySem PySem.Spec PyProof.Rows L2 LamX
/-! ### the head that also tells the empty tables of code objects of some defs -/
def obsW (n : Nat) (fa : List He.Fa) (fn : List He.DefD) (tf : List He.Defn) (ex : PySem.W.Frag → Bool) (g : Addr → Option Obj) : He.AlX :=
  let K := He.frT g (asZ g n)
  (He.obsT fa fn [] K, ex K && He.tabsB g tf K)
theorem tabs_tell {g : Addr → Option Obj} {as : List Addr} {tf : List He.Defn} (h : He.tabsB g tf (He.frT g as) = true) {p : He.Defn} (hp : p ∈ tf) :
    PySem.W.codeHdIn (He.frT g as) (He.cT (He.frT g as) p).1 (He.cT (He.frT g as) p).2 = true ∧ (He.frT g as).lookup (He.cT (He.frT g as) p).2 = none ∧ g (He.cT (He.frT g as) p).2 = some { cls := .none, data := .fields #[] } := by
  have q := List.all_eq_true.mp h p hp
  rw [Bool.and_eq_true] at q
  obtain ⟨q1, q2⟩ := q
  split at q2
  · rename_i o ho
    exact ⟨q1, He.frT_none ho q2, by rw [ho, He.emptyTab_eq q2]⟩
  · cases q2
theorem saysW_of {n : Nat} {fa : List He.Fa} {fn : List He.DefD} {tf : List He.Defn} {ex : PySem.W.Frag → Bool} {w : World} {h : Heap} (e : obsW n fa fn tf ex h.get? = He.valX fn [] w) : He.SaysX fa fn [] tf ex w h (He.frT h.get? (asZ h.get? n)) := by
  have e1 := congrArg Prod.fst e
  have e2 : (ex (He.frT h.get? (asZ h.get? n)) && He.tabsB h.get? tf (He.frT h.get? (asZ h.get? n))) = true := congrArg Prod.snd e
  rw [Bool.and_eq_true] at e2
  exact ⟨e1, e2.1, fun p hp => (tabs_tell e2.2 hp).1, fun p hp => (tabs_tell e2.2 hp).2.1, fun p hp => (tabs_tell e2.2 hp).2.2⟩
def hookW (n : Nat) (fa : List He.Fa) (fn : List He.DefD) (tf : List He.Defn) (ex : PySem.W.Frag → Bool) : PySem.W.Hook where
  α := He.AlX
  obs := fun s => obsW n fa fn tf ex s.heap.get?
  val := fun w => He.valX fn [] w
  says := fun w h => ∃ K : PySem.W.Frag, K.In h ∧ He.SaysX fa fn [] tf ex w h K
  of := fun _ _ e => ⟨_, He.frT_in, saysW_of e⟩
  keeps := fun _ _ _ ⟨K, hK, c⟩ k => ⟨K, PySem.W.Frag.In.keeps hK k, ⟨c.t, c.more, c.hd, c.out, fun p hp => k _ _ (c.empty p hp)⟩⟩
theorem obsW_eq {n : Nat} {fa : List He.Fa} {fn : List He.DefD} {tf : List He.Defn} {ex : PySem.W.Frag → Bool} {g : Addr → Option Obj} {s : Shared} (h : ∀ a, g a = s.heap.get? a) : obsW n fa fn tf ex g = (hookW n fa fn tf ex).obs s := by
  have e : g = s.heap.get? := funext h
  rw [e] <;> rfl
/-! ### a law whose last statements make lambdas -/
/-- over data, where the law's end asks nothing of the heap -/
def tL (G : Gx) (W : WX) (u : US) : TS := fun D σ H => (∀ H', D.rt (.bl true) H') ∧ tS G W u D σ H
section
variable {G : Gx} {W : WX} {X : Cx} {st : Stmt} {sts : List Stmt}
theorem lss_cons {u1 u2 : US} (h1 : QS G W X st u1) (h2 : PSs X sts (tL G W u2)) : PSs X (st :: sts) (tL G W (uSeq u1 u2)) := pss_mono (pss_cons h1 h2) fun D σ H ⟨hD, B, F, δ, E, rs, h, k⟩ =>
  ⟨B, F, δ, _, rs, h, ⟨fun δ' q B' F' H' σ' l rs' => ⟨hD, B', F', δ', E, rs', q, k.later l⟩, k.bk, k.ct, k.rt, k.ex⟩⟩
/-- the tail: from here on only the tables matter -/
@[simp] def uTl (c : Prop) : US := fun _ _ => c
theorem lss_tail {tl : TS} {c : Prop} {T : List (Addr × Str)} (h : PSs X sts tl) (hT : ∀ H, (∀ a o, G.H0 a = some o → G.B0 ≠ some a → H a = some o) → Tabs T H) (m : ∀ (D : Ends) σ H, Tabs T H → c → (∀ H', D.rt (.bl true) H') → tl D σ H) : PSs X sts (tL G W (uTl c)) :=
  pss_mono h fun D σ H ⟨hD, B, F, δ, E, rs, hc, k⟩ => m D σ H (hT H rs.keep) hc hD
end
def spBagK (K : PySem.W.Frag) : Sp := fun vs H Q _ => ∃ (a : Addr) (ns : List Int), vs = [.ref a] ∧ SqL K H a (ns.map V.int) ∧ ns.length ≤ 63 ∧
  ∀ p F' H', Same F' H' → F' p = none → Bagged K F' H' p → SqL K F' a (ns.map V.int) → (∀ b o, H b = some o → H' b = some o) → H p = none → Q (.ref p) H'
def spLawT (K : PySem.W.Frag) (P : Addr) : Sp := fun vs H Q _ => ∃ (a : Addr) (ns : List Int), vs = [.ref a] ∧ SqL K H a (ns.map V.int) ∧ ns.length ≤ 63 ∧ H P = some (.tbl #[]) ∧ ∀ H', Q (.bl true) H'
section
variable {P : Program} {w : World} {K : PySem.W.Frag} {mg : Str → Option Value} {base : Heap}
theorem ok_bagK {CX : CXT} {k : Nat} {f : Addr} {fd : FuncData} {ps : List Str} (F : FnOk P w K mg base CX k f fd ps (spD K wBag0)) : FnOk P w K mg base CX k f fd ps (spBagK K) := F.imp fun vs H Q E h => by
  obtain ⟨a, ns, rfl, hs, hl, k⟩ := h
  refine ⟨none, H, _, (fun r => ∃ (ms : List Int) (z : Int), 0 ≤ z ∧ z < 2147483648 ∧ r = .nw [.lst (ms.map .int), .int 0, .int 0, .int z]), fun _ => False, Same.refl _, (fun b q => by cases q), .cons (.lst hs (.ints ns)) .nil, ⟨ns, rfl, hl, fun ms z h h' => ⟨ms, z, h, h', rfl⟩⟩, fun r q B' F' H' v fr rt => ?_, fun x q => q.elim⟩
  obtain ⟨ms, z, hz, hz', rfl⟩ := q
  obtain ⟨p, xs, rfl, e1, e2, e3, e4, e5⟩ := rt
  cases e5 with
  | cons r1 e5 =>
    obtain ⟨c, ys, rfl, hc, ry⟩ := rp_lst r1
    have ey := rpl_ints_inv ry
    subst ey
    cases e5 with
    | cons r2 e5 =>
      cases e5 with
      | cons r3 e5 =>
        cases e5 with
        | cons r4 e5 =>
          cases e5
          rw [rp_int r2, rp_int r3, rp_int r4] at e4
          exact k p F' H' fr.sub e2 ⟨c, ms, 0, 0, z, e4, hc, by decide, hz, hz'⟩ (fr.low.seq hs) (fun b o hb => fr.keep b o hb (fun q => by cases q)) e1
theorem law_walkT {st s1 : Stmt} {rest : List Stmt} {N : List Str} {k : Nat} {u : US} {fd : FuncData} (F : FunD K "law" "law" (defArgs st) (defBody st) (defScope st) [] [] (He.ga K "law") fd) (S : FnScope N ["script"] (defScope st)) (hN : 2 ≤ N.length) (hst : defBody st = s1 :: rest)
    (body : ∀ (A : Around) (outer : List Env) (s : Shared) (H : Hp) (E : XK), Room k (A.deeper (envOfC "law" (defScope st) s.heap.objs.size (He.ga K "law") (.ref (He.cT K ("law", none)).1))) →
      PS (cxOf CX0 P w K mg base N "law" (defScope st) (He.ga K "law") (.ref (He.cT K ("law", none)).1) A outer s H E) s1 (tAsg (tCallS (spBagK K) (WE W0) (tCons (tVar 0) tNil)) (gName 1)) ∧
      ∀ (F H0 : Hp) (B : Option Addr), H0 (He.cT K ("law", none)).2 = some (.tbl #[]) → B ≠ some (He.cT K ("law", none)).2 → PSs (cxOf CX0 P w K mg base N "law" (defScope st) (He.ga K "law") (.ref (He.cT K ("law", none)).1) A outer s H E) rest (tL ⟨K, F, H0, B⟩ W0 u))
    (law : ∀ ns : List Int, ns.length ≤ 63 → u endLaw ((startD N.length [.lst (ns.map .int)]).set 1 (.sh .bag))) : FnOk P w K mg base CX0 (k + 1) (He.ga K "law") fd ["script"] (spLawT K (He.cT K ("law", none)).2) := by
  obtain ⟨oc, od, dV, kV, doc, pm, an, cdv, ct, osl, rfl, lk, hcd, _, _⟩ := F.ex
  have ec : cdv = .ref (He.cT K ("law", none)).1 := by
    obtain ⟨c, rfl⟩ := He.codeIn_ref hcd
    exact congrArg Value.ref (He.codeOf_eq (p := ("law", none)) lk rfl).symm
  subst ec
  refine fn_of lk hcd S (fun vs H Q E h => ?_) fun A outer s H vs Q E hr h => ?_
  · obtain ⟨a, ns, rfl, _⟩ := h
    rfl
  · obtain ⟨b1, b2⟩ := body A outer s H E hr
    obtain ⟨a, ns, rfl, hs, hl, hP, k⟩ := h
    have b3 : PSs (cxOf CX0 P w K mg base N "law" (defScope st) (He.ga K "law") (.ref (He.cT K ("law", none)).1) A outer s H E) rest (fun D σ H => ∃ (F H0 : Hp) (B : Option Addr), H0 (He.cT K ("law", none)).2 = some (.tbl #[]) ∧ B ≠ some (He.cT K ("law", none)).2 ∧ tL ⟨K, F, H0, B⟩ W0 u D σ H) :=
      ⟨fun pins s σ H D I ⟨F, H0, B, h1, h2, h⟩ => (b2 F H0 B h1 h2).run pins s σ H D I h⟩
    rw [hst]
    refine ⟨_, pss_cons b1 b3, ?_⟩
    refine ⟨.ref a, rfl, a, ns, rfl, hs, hl, fun p F' H' h1 h2 h3 h4 h5 h6 => ?_⟩
    have hb : ∀ b, some p = some b → F' b = none ∧ Bagged K F' H' b := fun b q => by
      cases q
      exact ⟨h2, h3⟩
    have r0 : Rs ⟨K, F', H', some p⟩ (some p) F' H' (startD N.length [.lst (ns.map .int)]) (L2.start N [.ref a]) := Rs.start h1 hb (.cons (.lst h4 (.ints ns)) .nil) (by simp; omega)
    refine ⟨F', H', some p, h5 _ _ hP, fun z => ?_, k, some p, F', _, endLaw, r0.setSh (i := 1) (.bag rfl), law ns hl, ⟨fun _ q => q.elim, fun _ q => q.elim, fun _ q => q.elim, fun r q B2 F2 H2 v _ rt => ?_, fun _ _ q => q.elim⟩⟩
    · cases z
      rw [h6] at hP
      cases hP
    · have q' : r = .sh (.bl true) := q
      subst q'
      have ev := rp_bl rt
      rw [ev]
      exact k H2
end
/-- what a statement at a law's end compares -/
abbrev cmpOf : Stmt → Expr
  | .If (.Compare e _ _ _) _ _ _ => e
  | .Return (some (.Compare e _ _ _)) _ => e
  | _ => .Constant .none 0 ⟨0, 0, 0, 0⟩
/-! ### sum of whole numbers -/
@[simp] def gSum : GA := fun ds Q => match ds with
  | [.lst xs] => ∃ ns : List Int, xs = ns.map .int ∧ Q (.int ns.sum)
  | _ => False
section
variable {G : Gx} {W : WX} {X : Cx} {a : Expr} {pos : Pos}
theorem rpl_ints_of {K : PySem.W.Frag} {B : Option Addr} {F : Hp} : ∀ {vs : List V} {ns : List Int}, RpL K B F vs (ns.map .int) → vs = ns.map V.int
  | _, [], .nil => rfl
  | _, _ :: _, .cons h t => by rw [rp_int h, rpl_ints_of t]; rfl
theorem qv_sum {p : Pos} {ua : UA} (hc : X.calm = true) (hg : Gl X "sum") (hm : X.mg "sum" = none) (ha : QA G W X [a] ua) (hk : X.K = G.K := by rfl) (he : starEach [a] X.env = (false, eval a X.env) :: starEach [] X.env := by rfl) (hpl : (backTo pos (starEach [] X.env)).any (·.1) = false := by rfl) : QV G W X (.Call (.Name "sum" p) [a] [] pos) (uCaB gSum ua) :=
  qv_cb (cr_sum hc) (fun B F H vs ds Qd Q e r g k => by
    unfold gSum at g
    split at g
    · obtain ⟨ns, rfl, q⟩ := g
      cases r with
      | cons r1 r2 =>
        cases r2
        obtain ⟨a, xs, rfl, hs, hr⟩ := rp_lst r1
        rw [rpl_ints_of hr] at hs
        refine ⟨a, ns, rfl, ?_, k _ _ q (.int _)⟩
        rw [hk]
        exact e.seq hs
    · exact g.elim) hg hm (by decide +kernel) ha (he := he) (hpl := hpl)
end
end DL

set_option Elab.async false
set_option linter.all false
set_option maxRecDepth 100000
namespace DL
open PySem PySem.Spec PyProof.Rows L2 LamX
/-! ### a lambda of one parameter that reads nothing of its maker: its frame is a def's -/
section
variable {P : Program} {w : World} {K : PySem.W.Frag} {mg : Str → Option Value} {base : Heap}
/-- the promise of a frame's start, for an expression in place of a body -/
theorem expr_start {H : Hp} {vs : List V} {Q : VK} {E : XK} {N : List Str} {wp : DSp} {u : UE} (h : spD K wp vs H Q E) (ln : vs.length ≤ N.length)
    (law : ∀ ds Q R, wp ds Q R → u (startD N.length ds) (fun r _ => Q r) (fun x _ => R x)) : ∃ B F, tE ⟨K, F, H, B⟩ (fun c d _ H' => E c d H') u (L2.start N vs) H Q := by
  obtain ⟨B, F, ds, Qd, Rd, hs, hb, rv, hw, kq, kr⟩ := h
  refine ⟨B, F, B, F, _, fun r _ => Qd r, fun x _ => Rd x, Rs.start (N := N) (vs := vs) hs hb rv ln, law _ _ _ hw, fun r δ' q B' F' H' v st rs rel => kq r q B' F' H' v rs.toFr0 ?_, fun x δ' q B' F' H' c da _ rs ex => kr x q B' F' H' c da rs.toFr0 ex⟩
  cases r with
  | sh d => exact rel
  | nw es =>
    obtain ⟨p, xs, e1, e2, e3, e4, e5, e6, _, _⟩ := rel
    exact ⟨p, xs, e1, e2, e3, e4, e5, e6⟩
/-- the lambda called -/
theorem lam1_run {q : Str} {pr : Arguments} {bd : Expr} {sc : Scope} {pm ctv : Value} {f c' : Addr} {N ps : List Str} {k : Nat} {wp : DSp} {u : UE} {A : Around} {outer : List Env} {s : Shared} {H : Hp} {us : List Value} {vs : List V} {Q : VK} {E : XK}
    (S : FnScope N ps sc) (e0 : Env0 P w K mg base A outer s H) (of1 : s.heap.get? f = some (PySem.W.kla_obj "<lambda>" q pr bd sc [] pm c' ctv)) (hc : s.heap.CodeRec (.ref c') q)
    (hr : Room (k + 1) A) (hb : bindArgs (PySem.W.kla_fn "<lambda>" q pr bd sc [] pm (.ref c') ctv) ⟨us, []⟩ = pure (ps.zip us)) (rv : Vals vs us) (hl : vs.length = ps.length) (hp : ps.length ≤ N.length)
    (body : ∀ (B : Option Addr) (F : Hp), Room k (A.deeper (envOfC q sc s.heap.objs.size f (.ref c'))) → QE ⟨K, F, H, B⟩ (fun c d _ H' => E c d H') (cxOf (L2.CX P w) P w K mg base N q sc f (.ref c') A outer s H E) bd u)
    (law : ∀ ds Q R, wp ds Q R → u (startD N.length ds) (fun r _ => Q r) (fun x _ => R x)) (h : spD K wp vs H Q E) :
    codeAny (model P w) A (.call (.ref f) ⟨us, []⟩) (CR (L2.CX P w) outer P w H s Q E) s := by
  have lim : s.heap.NoLimit := e0.mod.nolimit.keeps fun b o e => (e0.bs b o e).1
  have kinds : ∀ y ∈ ps.zip us, sc.names.lookup y.1 = some .local ∨ (sc.names.lookup y.1 = some .cell ∧ ((cellsFrom (s.heap.objs.size + 1) sc.names []).lookup y.1).isSome = true) := fun ⟨n, v⟩ hy => by
    rcases S.par n (List.of_mem_zip hy).1 with z | z
    · exact .inl z
    · exact .inr ⟨z, PySem.W.cellsFrom_some _ _ _ (.inl z)⟩
  refine PySem.W.kla_callFunE hr.depth of1 rfl S.co S.gen rfl hc ?_
  rw [hb]
  refine wpAny_pure (wpAny_newFunctionEnv_cells S.kind kinds fun env he s1 x => ?_)
  subst he
  refine ⟨lim.keeps x.toInCall.keep, PySem.W.kla_codeExpr ?_⟩
  obtain ⟨B, F, t⟩ := expr_start (N := N) h (by rw [hl]; exact hp) law
  have I : Inv (cxOf (L2.CX P w) P w K mg base N q sc f (.ref c') A outer s H E) [] (L2.start N vs) H s1 := inv_start S hr.hd e0 hl rv x
  refine wpAny_mono ((body B F (hr.deeper _)).run [] s1 (L2.start N vs) H Q I t) (fun v s' hq => ?_) fun e s' hq => hq
  obtain ⟨v2, H3, J3, r3, q3⟩ := hq
  exact ⟨v2, H3, J3.os, J3.bare, J3.base, J3.hok, r3, q3⟩
end
/-- a(..) in the frame Z of the def that got the lambda -/
def Asks1 (Z : Cx) (a : Str) (f c' : Addr) (q : Str) (w : DSp) : Prop := ∀ (W : WX) (pn : List (Addr × Obj)) (xe : Value → Shared → Prop) (p1 p2 : Pos) (e : Expr) (ta : TA), Takes (Z.tr pn xe) W → PA (Z.tr pn xe) [e] ta → starEach [e] Z.env = (false, eval e Z.env) :: starEach [] Z.env →
  PE (Z.tr pn xe) (.Call (.Name a p1) [e] [] p2) (fun σ2 H2 Q => σ2[0]? = some (some (.ref f)) ∧ ta σ2 H2 fun vs H3 => vs.length = 1 ∧ H3 c' = some (CodeO c' q) ∧ spD Z.K w vs H3 Q (WE W σ2))
section
variable {X : Cx} {pins : List (Addr × Obj)} {σ : L2.St} {H : Hp} {s : Shared}
theorem pe_ask1 {CXg : CXT} {Eg : XK} {Ng : List Str} {qg : Str} {sg : Scope} {g f c' : Addr} {cdg pm ctv : Value} {pr : Arguments} {bd e : Expr} {sc : Scope} {k i : Nat} {a y : Str} {pn : List (Addr × Obj)} {xe : Value → Shared → Prop} {W : WX} {w : DSp} {u : UE} {ta : TA} {p1 p2 : Pos} {q : Str}
    (I : Inv X pins σ H s) (S : FnScope [y] [y] sc) (hf : s.heap.get? f = some (PySem.W.kla_obj "<lambda>" q pr bd sc [] pm c' ctv)) (hfn : H f = none) (hfr : f ∉ frs X.stack)
    (bind1 : ∀ v, bindArgs (PySem.W.kla_fn "<lambda>" q pr bd sc [] pm (.ref c') ctv) ⟨[v], []⟩ = pure [(y, v)])
    (tk : Takes ((cxOf CXg X.prog X.w X.K X.mg X.base Ng qg sg g cdg X.A X.stack s H Eg).tr pn xe) W) (ha : PA ((cxOf CXg X.prog X.w X.K X.mg X.base Ng qg sg g cdg X.A X.stack s H Eg).tr pn xe) [e] ta) (hr : Room (k + 1) (X.A.deeper (envOfC qg sg s.heap.objs.size g cdg)))
    (hB : ∀ (A : Around) (outer : List Env) (s : Shared) (H : Hp) (E : XK) (B : Option Addr) (F : Hp), Room k (A.deeper (envOfC q sc s.heap.objs.size f (.ref c'))) → QE ⟨X.K, F, H, B⟩ (fun c d _ H' => E c d H') (cxOf (L2.CX X.prog X.w) X.prog X.w X.K X.mg X.base [y] q sc f (.ref c') A outer s H E) bd u)
    (law : ∀ ds Q R, w ds Q R → u (startD 1 ds) (fun r _ => Q r) (fun x _ => R x))
    (he : starEach [e] (envOfC qg sg s.heap.objs.size g cdg) = (false, eval e (envOfC qg sg s.heap.objs.size g cdg)) :: starEach [] (envOfC qg sg s.heap.objs.size g cdg))
    (hN : Ng[i]? = some a) (hv : Vis sg a) (hd : (a == ("__debug__" : Str)) = false := by decide) (hcd : (a == ("__classdict__" : Str)) = false := by decide) :
    PE ((cxOf CXg X.prog X.w X.K X.mg X.base Ng qg sg g cdg X.A X.stack s H Eg).tr pn xe) (.Call (.Name a p1) [e] [] p2)
      (fun σ2 H2 Q => σ2[i]? = some (some (.ref f)) ∧ ta σ2 H2 fun vs H3 => vs.length = 1 ∧ H3 c' = some (CodeO c' q) ∧ spD X.K w vs H3 Q (WE W σ2)) := by
  refine ⟨fun pins2 s2 σ2 H2 Q I2 ⟨q1, q2⟩ => ?_⟩
  refine wpAny_Call_Name_kw (thn ((pe_var (pos := p1) (i := i) hN hv hd hcd).run pins2 s2 σ2 H2 (fun v H1 => v = .ref f ∧ H1 = H2) I2 ⟨.ref f, q1, rfl, rfl⟩) fun u s1 ⟨v, H1, J1, ru, rq⟩ => ?_)
  obtain ⟨rfl, eH⟩ := rq
  rw [eH] at J1
  obtain rfl : u = Value.ref f := ru
  have at1 : s1.heap.get? f = some (PySem.W.kla_obj "<lambda>" q pr bd sc [] pm c' ctv) := J1.base.keep f _ hf hfn hfr (fun z => by cases z)
  refine PySem.W.callWith_F ⟨_, _, _, _, at1⟩ (thn (ha.run p2 pins2 s1 σ2 H2 _ J1 q2) fun us s3 ⟨vs, H3, J3, r3, hl3, hc3, h3⟩ => ?_) he (by rfl)
  have at3 : s3.heap.get? f = some (PySem.W.kla_obj "<lambda>" q pr bd sc [] pm c' ctv) := J3.base.keep f _ hf hfn hfr (fun z => by cases z)
  refine ⟨⟨_, _, _, _, at3⟩, ?_⟩
  obtain ⟨⟨oc, xs, t, o1, o2, o3⟩, _, _⟩ := J3.hok c' _ hc3
  obtain ⟨v1, eu⟩ : ∃ v1, us = [v1] := by
    match us, vs, r3, hl3 with
    | _, [_], .cons _ .nil, _ => exact ⟨_, rfl⟩
  subst eu
  have run : codeAny (model X.prog X.w) (X.A.deeper (envOfC qg sg s.heap.objs.size g cdg)) (.call (.ref f) ⟨[v1], []⟩) (CR (L2.CX X.prog X.w) (envOfC qg sg s.heap.objs.size g cdg :: X.stack) X.prog X.w H3 s3 Q (WE W σ2)) s3 :=
    lam1_run (N := [y]) (ps := [y]) S J3.env0 at3 ⟨c', oc, xs, t, rfl, o1, o2, o3⟩ hr (bind1 v1) r3 hl3 (Nat.le_refl _) (fun B F hr2 => hB _ _ s3 H3 (WE W σ2) B F hr2) law h3
  have hx := passAt tk σ2
  refine wpAny_call (codeAny_mono run fun r s4 hq => ?_)
  cases r with
  | error e => exact hx _ _ _ e s4 J3 hq
  | ok fl =>
    cases fl with
    | ret u => exact J3.after hq
    | next => exact False.elim hq
    | brk => exact False.elim hq
    | cont => exact False.elim hq
end
/-- what a(..) gives, where a is the slot i -/
@[simp] def uAsk1 (i : Nat) (f : Addr) (w : DSp) (ua : UA) : UE := fun δ Q R => δ[i]? = some (.sh (.obj f)) ∧ ua δ (fun ds δ1 => ds.length = 1 ∧ w ds (fun r => Q r δ1) (fun x => R x δ1)) R
section
variable {G : Gx} {W : WX} {Z : Cx} {e : Expr}
theorem qe_ask1 {i : Nat} {f c' : Addr} {q : Str} {w : DSp} {ua : UA} (h : PE Z e (fun σ2 H2 Q => σ2[i]? = some (some (.ref f)) ∧ tA G W ua σ2 H2 fun vs H3 => vs.length = 1 ∧ H3 c' = some (CodeO c' q) ∧ spD G.K w vs H3 Q (WE W σ2))) (hc : G.H0 c' = some (CodeO c' q)) (hb : G.B0 ≠ some c') : QE G W Z e (uAsk1 i f w ua) :=
  pe_mono h fun σ H Q ⟨B, F, δ, Qd, Rd, rs, ⟨h1, h2⟩, kq, kx⟩ => by
    refine ⟨?_, tG_then rs h2 kx fun ds δ1 ⟨hl, hq⟩ B1 F1 H1 vs st1 rs1 r1 => ⟨?_, rs1.keep _ _ hc hb, B1, F1, ds, _, _, rs1.sub, rs1.bag, r1, hq, fun r qr B' F' H' v fr rt => ?_, fun x' rx B' F' H' c da fr ex => kx _ _ rx B' F' H' c da (st1.toLe.trans (rs1.call fr).2.toLe) (rs1.call fr).1 (rs1.exUp ex)⟩⟩
    · obtain ⟨ov, e1, e2⟩ := rs.sl _ _ h1
      cases ov with
      | none => exact e2.elim
      | some v =>
        obtain rfl := rp_obj e2
        exact e1
    · rw [r1.length]
      exact hl
    · obtain ⟨rs2, st2⟩ := rs1.call fr
      refine kq _ _ qr B' F' H' v (st1.trans st2) rs2 ?_
      cases r with
      | sh d => exact rt
      | nw es =>
        obtain ⟨p, xs, e1, e2, e3, e4, e5, e6⟩ := rt
        have e2' : H1 p = none := e2
        exact ⟨p, xs, e1, rs1.noH0 e2', e3, e4, e5, e6, fun ho => rs1.noOwn e2' ho, .inl (none_back st1.dm e2')⟩
end
section
variable {X : Cx} {W : WX}
/-- x(lambda y: body), by the data layer's reading uT of x's body -/
theorem pe_told1 {T : List (Addr × Str)} {x a y : Str} {g c P : Addr} {k : Nat} {pg : Arguments} {bg : List Stmt} {sg : Scope} {dV kV doc pm cdv ct oc : Value} {an od : Option Addr} {osl : Array (Option Value)} {Ng : List Str} {w : DSp} {wr : (Rz → Prop) → (Exn → Prop) → Prop} {uT : Addr → US}
    {pr : Arguments} {bd : Expr} {sc : Scope} {u : UE} {p lpos pos : Pos} (hg : Gl X x) (hm : X.mg x = some (.ref g)) (hk : PySem.W.keepIn X.K (.ref g) = true)
    (lk : X.K.lookup g = some ⟨oc, od, .func (PySem.W.fnOf x x pg bg sg dV kV doc pm an cdv ct), osl⟩) (hcg : PySem.W.codeIn X.K cdv x = true) (hb : L2.Binds X.K (PySem.W.fnOf x x pg bg sg dV kV doc pm an cdv ct) [a] []) (Sg : FnScope Ng [a] sg) (hNg : Ng[0]? = some a) (hva : Vis sg a) (tk : Takes X W)
    (hG : ∀ (f c' : Addr) (s : Shared) (H : Hp) (B : Option Addr) (F : Hp) (E : XK), H c' = some (CodeO c' (X.env.qual ++ "<lambda>")) → B ≠ some c' → Asks1 (cxOf (L2.CX X.prog X.w) X.prog X.w X.K X.mg X.base Ng x sg g cdv X.A X.stack s H E) a f c' (X.env.qual ++ "<lambda>") w →
      QSs ⟨X.K, F, H, B⟩ (fun c d _ H' => E c d H') (cxOf (L2.CX X.prog X.w) X.prog X.w X.K X.mg X.base Ng x sg g cdv X.A X.stack s H E) bg (uT f))
    (law : ∀ f Q R, wr Q R → uT f (endD Q R) (startD Ng.length [.obj f]))
    (TB : TabB X.base X.mg c P) (hcode : X.env.code = .ref c) (hmT : (P, X.env.qual ++ "<lambda>") ∈ T) (hu : ∀ p ∈ T, p.1 = P → p.2 = X.env.qual ++ "<lambda>") (hr : Room (k + 2) X.A) (Sl : FnScope [y] [y] sc) (hdef : defaultsOf pr X.env = ([], [])) (hcl : cloFrom X.env.cells sc.names [] = [])
    (hbind : ∀ (q : Str) (pm cv ctv v : Value), bindArgs (PySem.W.kla_fn "<lambda>" q pr bd sc [] pm cv ctv) ⟨[v], []⟩ = pure [(y, v)])
    (hB : ∀ (A : Around) (outer : List Env) (s : Shared) (H : Hp) (E : XK) (f c' : Addr) (B : Option Addr) (F : Hp), Room k (A.deeper (envOfC (X.env.qual ++ "<lambda>") sc s.heap.objs.size f (.ref c'))) →
      QE ⟨X.K, F, H, B⟩ (fun c d _ H' => E c d H') (cxOf (L2.CX X.prog X.w) X.prog X.w X.K X.mg X.base [y] (X.env.qual ++ "<lambda>") sc f (.ref c') A outer s H E) bd u)
    (lawB : ∀ ds Q R, w ds Q R → u (startD 1 ds) (fun r _ => Q r) (fun x _ => R x))
    (hdb : (x == ("__debug__" : Str)) = false := by decide) (hd : (a == ("__debug__" : Str)) = false := by decide) (hcd : (a == ("__classdict__" : Str)) = false := by decide) :
    PE X (.Call (.Name x p) [.Lambda pr bd sc lpos] [] pos) (fun σ H Q => Tabs T H ∧ ∀ H1, ExtN H H1 → Tabs T H1 → ∃ B F Qd Rd, Same F H1 ∧ (∀ b, B = some b → F b = none ∧ Bagged X.K F H1 b) ∧ wr Qd Rd ∧
      (∀ r, Qd r → ∀ B' F' H' v, Fr0 ⟨X.K, F, H1, B⟩ B' F' H' → RtR ⟨X.K, F, H1, B⟩ B' F' H' r v → Q v H') ∧ (∀ y, Rd y → ∀ B' F' H' c da, Fr0 ⟨X.K, F, H1, B⟩ B' F' H' → ExR ⟨X.K, F, H1, B⟩ B' F' H' y c da → W c da σ H')) := by
  refine ⟨fun pins s σ H Q I ⟨hT, h⟩ => ?_⟩
  refine wpAny_Call_Name_kw (ld_glob I hg hm ?_ hdb)
  refine PySem.W.callWith_K (h₀ := X.base) I.ok.mod.kin hk ?_ (by rfl) (by rfl)
  show wpAny _ _ (spliced ((false, eval (.Lambda pr bd sc lpos) X.env) :: backTo pos (starEach [] X.env))) _ _ s
  refine Calls.spliced_cons (lam_make2 I TB hcode hmT hu hT hdef (fun z hz e => absurd e (Sl.nofree z hz)) fun f c' pm2 ctv H1 s1 J eN T1 hf hfn hfr hco => ?_)
  rw [hcl] at hf
  refine Calls.spliced_nil ⟨J.kIn, ?_⟩
  obtain ⟨B, F, Qd, Rd, hs, hbg, hw, kq, kr⟩ := h H1 eN T1
  have run : codeAny (model X.prog X.w) X.A (.call (.ref g) ⟨[.ref f], []⟩) (CR (L2.CX X.prog X.w) X.stack X.prog X.w H1 s1 Q (WE W σ)) s1 := by
    refine run_ofS (N := Ng) (ps := [a]) (us := [.ref f]) (vs := [.ref f]) lk hcg Sg hr J.env0 (hb s1 [.ref f] J.kIn rfl) (.cons rfl .nil) rfl fun hr2 => ?_
    have nb : B ≠ some c' := fun z => by
      obtain ⟨_, _, _, _, _, _, e, _⟩ := hbg _ z
      rw [hco] at e
      unfold CodeO at e
      cases e
    have ln : 1 ≤ Ng.length := by
      have := List.getElem?_eq_some_iff.mp hNg
      obtain ⟨z, _⟩ := this
      exact z
    refine ⟨_, hG f c' s1 H1 B F (WE W σ) hco nb (fun W2 pn xe p1 p2 e ta tk2 ha he => pe_ask1 (i := 0) J Sl hf hfn hfr (hbind _ _ _ _) tk2 ha hr2 (fun A outer s H E B F hr3 => hB A outer s H E f c' B F hr3) lawB he hNg hva hd hcd), ?_⟩
    exact ⟨B, F, _, _, Rs.start (N := Ng) (vs := [.ref f]) hs hbg (.cons (.obj f) .nil) ln, law f Qd Rd hw, ⟨fun δ' q B' F' H' σ' _ rs => kq _ q B' F' H' _ rs.toFr0 .non, fun _ q => q.elim, fun _ q => q.elim, kq, fun y δ' q B' F' H' σ' c da _ rs ex => kr y q B' F' H' c da rs.toFr0 ex⟩⟩
  have hx := passAt tk σ
  refine wpAny_call (codeAny_mono run fun r s2 hq => ?_)
  cases r with
  | error e => exact hx _ _ _ e s2 J hq
  | ok fl =>
    cases fl with
    | ret u => exact J.after hq
    | next => exact False.elim hq
    | brk => exact False.elim hq
    | cont => exact False.elim hq
end
/-! ### the law's tail, where what is told is True -/
def tTrue (K : PySem.W.Frag) (T : List (Addr × Str)) (wr : (Rz → Prop) → (Exn → Prop) → Prop) : TE := fun _ H Q => Tabs T H ∧ wr (fun r => r = .sh (.bl true)) (fun _ => False) ∧ ∀ H', Tabs T H' → Q (.bl true) H'
theorem true_tail {K : PySem.W.Frag} {W : WX} {T : List (Addr × Str)} {wr : (Rz → Prop) → (Exn → Prop) → Prop} {σ : L2.St} {H : Hp} {Q : VK} (h : tTrue K T wr σ H Q) :
    Tabs T H ∧ ∀ H1, ExtN H H1 → Tabs T H1 → ∃ B F Qd Rd, Same F H1 ∧ (∀ b, B = some b → F b = none ∧ Bagged K F H1 b) ∧ wr Qd Rd ∧
      (∀ r, Qd r → ∀ B' F' H' v, Fr0 ⟨K, F, H1, B⟩ B' F' H' → RtR ⟨K, F, H1, B⟩ B' F' H' r v → Q v H') ∧ (∀ y, Rd y → ∀ B' F' H' c da, Fr0 ⟨K, F, H1, B⟩ B' F' H' → ExR ⟨K, F, H1, B⟩ B' F' H' y c da → W c da σ H') := by
  obtain ⟨hT, hw, hk⟩ := h
  refine ⟨hT, fun H1 eN T1 => ⟨none, fun _ => none, _, _, (fun a o z => by cases z), (fun b z => by cases z), hw, fun r qr B' F' H' v fr rt => ?_, fun y z => z.elim⟩⟩
  subst qr
  have rt2 : Rp K B' F' v (.bl true) := rt
  rw [rp_bl rt2]
  exact hk H' (T1.ext fun b o e => fr.keep b o e (fun z => by cases z))
section
variable {X : Cx} {T : List (Addr × Str)}
/-- if not told(..): return ..; and what comes then -/
theorem pss_trueIf {e : Expr} {as rest : List Stmt} {wr : (Rz → Prop) → (Exn → Prop) → Prop} {ta tr : TS} {p2 p3 : Pos} (h : PE X e (tTrue X.K T wr)) (ha : PSs X as ta) (hr : PSs X rest tr) (he : ∀ whole, isTrue e X.env whole = (do let v ← whole; standAt e.pos; holding [v] (truthy v))) :
    PSs X (.If (.UnaryOp .Not e p2) as [] p3 :: rest) (fun D σ H => Tabs T H ∧ wr (fun r => r = .sh (.bl true)) (fun _ => False) ∧ ∀ H', Tabs T H' → tr D σ H') :=
  pss_mono (pss_cons (ps_if (pt_not (pt_val h he)) ha pss_nil) hr) fun D σ H ⟨hT, hw, hk⟩ => ⟨hT, hw, fun H' T' => ⟨true, rfl, hk H' T'⟩⟩
/-- return told(..) -/
theorem pss_trueRet {e : Expr} {wr : (Rz → Prop) → (Exn → Prop) → Prop} {p3 : Pos} (h : PE X e (tTrue X.K T wr)) :
    PSs X [.Return (some e) p3] (fun D σ H => Tabs T H ∧ wr (fun r => r = .sh (.bl true)) (fun _ => False) ∧ ∀ H', Tabs T H' → D.rt (.bl true) H') :=
  pss_mono (pss_one (ps_ret h)) fun D σ H ⟨hT, hw, hk⟩ => ⟨hT, hw, fun H' T' => hk H' T'⟩
end
/-- what a statement at a law's end asks -/
abbrev askOf : Stmt → Expr
  | .If (.UnaryOp _ e _) _ _ _ => e
  | .Return (some e) _ => e
  | _ => .Constant .none 0 ⟨0, 0, 0, 0⟩
end DL

set_option Elab.async false
set_option linter.all false
set_option maxRecDepth 100000
namespace DL
open PySem PySem.Spec PyProof.Rows L2
/-! ### sorted(set(a list of whole numbers)) -/
abbrev no_one (w : World) : Obj := { cls := .type "set", dict := none, data := .set #[] 0 (.fresh 0 0 (!w.params.followText "set-order")) }
abbrev gh (s : Shared) (w : World) : Heap := s.heap.push (no_one w)
section
variable {P : Program} {w : World} {A : Around} {E : Value → Shared → Prop} {s : Shared}
set_option maxHeartbeats 3200000 in
theorem set_of_list {l : Addr} {its : Array Value} (zs : List Int) {Q : Value → Shared → Prop} (nh : A.handled = none) (il : s.heap.IsList l its) (are : IntsAre its.toList zs) (room : zs.length + 1 < scanBound)
    (h : ∀ (hz : Heap) (tk c : Nat), SetR w hz s.heap.objs.size (fun j => decide (j ∈ zs)) c → c ≤ zs.length → (∀ b o, s.heap.get? b = some o → hz.get? b = some o) → Q (.ref s.heap.objs.size) { s with heap := hz, toks := tk }) :
    wpAny (model P w) A (call (.type "set") [.ref l]) Q E s := by
  have sz : its.size = zs.length := by
    have q := IntsAre.length are
    rw [Array.length_toList] at q
    exact q
  obtain ⟨c, tl, m0⟩ := F.called_set.mro
  have m1 := F.called_set.made
  have m2 := F.called_set.sub
  refine wpAny_call (codeAny_of_tree ?_)
  show wpAny _ _ (callAny (.type "set") _) _ _ _
  refine wpAny_pure ⟨Code.quiet_builtin _ (by decide +kernel), codeAny_builtin F.entry_type_call ?_⟩
  rw [Around.under_plain (weight_type_call_type "set" [.ref l] []) rfl]
  have k1 := F.called_set.notType
  have k2 := F.called_set.canCreate
  have m3 := F.typeCall_set_1 (.ref l)
  repeat (any_goals (first | assumption | wp_step))

  refine codeAny_mono (code_set_led1 (.ref l) (E := E) (Q₁ := fun ob sa => ob = .ref s.heap.objs.size ∧ sa = { s with heap := gh s w }) ⟨rfl, rfl⟩) fun r sa hr => ?_
  cases r with
  | error e => exact hr
  | ok fa =>
    cases fa with
    | ret ob =>
      obtain ⟨rfl, rfl⟩ := hr
      have aS : (gh s w).get? s.heap.objs.size = some (no_one w) := Heap.get?_push_size _ rfl
      have aT : Shared.TypeIs { s with heap := gh s w } (.ref s.heap.objs.size) "set" := ⟨_, aS, rfl⟩
      have m4 := F.called_set.init.lookup
      have m5 := F.called_set.init.bind (.ref s.heap.objs.size)
      repeat (any_goals (first | assumption | wp_step))

      refine codeAny_mono (codeAny_call_builtin (R := wants (fun r sb => r = .none ∧ ∃ hz tk c, sb = { s with heap := hz, toks := tk } ∧ SetR w hz s.heap.objs.size (fun j => decide (j ∈ zs)) c ∧ c ≤ zs.length ∧
          (∀ b o, s.heap.get? b = some o → hz.get? b = some o)) E) F.called_set.init.plain F.entry_set_init (check_set_init_1 aT ?_)) fun rb sb hrb => ?_
      · obtain ⟨o0, ol1, c1, n0, d1⟩ := il
        obtain ⟨x1, x2, x3, x4⟩ := o0
        simp only at c1 d1
        subst c1; subst d1
        have ol2 : (gh s w).get? l = some { cls := .type "list", dict := x2, data := .seq its n0, slots := x4 } := Heap.get?_push_of_some _ ol1
        have b1 := F.sub_list_set
        have b2 := F.sub_list_frozenset
        have b3 : (Value.type "list" == Value.type "dict") = false := by decide
        have isl : (gh s w).IsList l its := ⟨_, ol2, rfl, n0, rfl⟩
        unfold Builtin.«set.__init__» noKeywords Builtin.Frozenset.updateFrom
        generalize ePI : pyIter = PI
        wp_walk
        subst ePI

        refine wpAny_pyIter_list isl ?_
        refine wpAny_bind (wpAny_runValue ?_)
        have lS : l < s.heap.objs.size := Heap.lt_size ol1
        have noh : A.in1.in1.in1.handled = none := by simp [nh]
        have zz1 : (gh s w).objs.size = s.heap.objs.size + 1 := Heap.size_push ..
        have neI : l ≠ (gh s w).objs.size := by
          rw [Heap.size_push]; exact Nat.ne_of_lt (Nat.lt_succ_of_lt lS)
        have nS : s.heap.objs.size ∉ [(gh s w).objs.size, l] := by
          rw [Heap.size_push]; simp only [List.mem_cons, List.mem_singleton, List.not_mem_nil, or_false, not_or]
          exact ⟨Nat.ne_of_lt (Nat.lt_succ_self _), Nat.ne_of_gt lS⟩
        have vals : ∀ (i : Nat) (v : Value), its[i]? = some v → ∃ k t, zs[i]? = some k ∧ v = .int k t := fun i v hv => by
          have hi : i < zs.length := by rw [← sz]; exact (Array.getElem?_eq_some_iff.mp hv).1
          obtain ⟨t, e⟩ := PyProof.Rows.IntsAre.int_at are i v (by rw [Array.getElem?_toList]; exact hv)
          refine ⟨zs[i], t, List.getElem?_eq_getElem hi, ?_⟩
          rw [e, List.getD_eq_getElem?_getD, List.getElem?_eq_getElem hi] <;> rfl
        refine set_update_ints ((Walks.list noh _ l neI its).toS) s.heap.objs.size
          nS zs sz room vals (its.size - 0) 0 _ (by omega) (Nat.zero_le _)
          ⟨⟨_, Heap.get?_push_size _ rfl, rfl, rfl⟩, (isl.push _)⟩ ?hS0 ?hR
        case hS0 =>
          have got : ((gh s w).push { cls := .type "list_iterator", data := .fields #[.ref l, .int 0 0] }).get? s.heap.objs.size
              = some (no_one w) := Heap.get?_push_of_some _ aS
          exact ⟨0, Nat.le_refl 0, setR_new_at got⟩
        case hR =>
          intro sz1 cz mv lc rS
          obtain ⟨hz, gz, dz, tz, oz⟩ := sz1
          have e1 : gz = s.gens := mv.gens
          have e2 : dz = s.drawn := mv.drawn
          have e3 : oz = s.os := mv.os
          subst e1; subst e2; subst e3
          show wpAny _ _ _ _ _ _
          refine wpAny_pure ?_
          show wpAny _ _ (ret Value.none) _ _ _
          rw [sz] at lc
          refine wpAny_pure ⟨rfl, hz, tz, cz, rfl, rS, lc, fun b o e => ?_⟩
          have l0 : b < s.heap.objs.size := Heap.lt_size e
          have l1 : b ≠ s.heap.objs.size := Nat.ne_of_lt l0
          have l2 : b ≠ (gh s w).objs.size := by
            rw [Heap.size_push]; exact Nat.ne_of_lt (Nat.lt_succ_of_lt l0)
          exact mv.heap b o (by simp only [List.mem_cons, List.mem_singleton, List.not_mem_nil, or_false, not_or]; exact ⟨l1, l2⟩) (Heap.get?_push_of_some _ (Heap.get?_push_of_some _ e))

      · cases rb with
        | error e => exact hrb
        | ok fb =>
          cases fb with
          | ret r =>
            obtain ⟨rfl, hz, tk, cz, rfl, rS, lc, kz⟩ := hrb
            repeat (any_goals (first | assumption | wp_step))
            exact h _ _ _ rS lc kz
          | _ => exact hrb.elim
    | _ => exact hr.elim

end
section
variable {X : Cx}
/-- set(x) of a list of whole numbers -/
def rSetL (K : PySem.W.Frag) (w : World) : List V → Hp → VK → Prop := fun vs H Q => ∃ (a : Addr) (ns : List Int), vs = [V.ref a] ∧ SqL K H a (ns.map V.int) ∧ ns.length < 64 ∧ ∀ (p : Addr) (n : Nat), n ≤ ns.length → H p = none → Q (.ref p) (upd H p (SetO w p (fun j => decide (j ∈ ns)) n))
theorem cr_setL (hc : X.calm = true) : CallR X (.type "set") (rSetL X.K X.w) := by
  intro pins s σ H vs us Q I r h
  obtain ⟨a, ns, rfl, hs, h64, q⟩ := h
  rw [Vals.ref1 r]
  obtain ⟨its, rv, pl, hz⟩ := I.list hs
  refine set_of_list ns (I.ok.hd hc) pl.isList (by simpa using ints_of_vals rv) (by unfold scanBound; omega) fun h' tk c new hle kp => ?_
  have hn : H s.heap.objs.size = none := I.hok.fresh (Nat.le_refl _)
  exact ⟨.ref _, _, I.laid (t' := tk) kp (Nat.le_refl _) (setO_new new), rfl, q _ _ hle hn⟩
@[simp] def uSortSet (ua : UV) : UE := fun δ Q R => ua δ (fun d δ1 => match d with
  | .lst xs => ∃ ns : List Int, xs = ns.map .int ∧ ns.length < 64 ∧ ∀ ms : List Int, ms.Pairwise (· < ·) → (∀ k, k ∈ ms ↔ k ∈ ns) → Q (.nw (ms.map .int)) δ1
  | _ => False) R
theorem rpl_ints {K : PySem.W.Frag} {B : Option Addr} {F : Hp} (ns : List Int) : RpL K B F (ns.map V.int) (ns.map .int) := by
  induction ns with
  | nil => exact .nil
  | cons a r ih => exact .cons (.int a) ih
variable {G : Gx} {W : WX} {e : Expr} {pos : Pos}
theorem qe_sortSet {p p2 pos2 : Pos} {ua : UV} (hc : X.calm = true) (hg : Gl X "sorted") (hm : X.mg "sorted" = none) (hg2 : Gl X "set") (hm2 : X.mg "set" = none) (ha : QV G W X e ua) (hk : X.K = G.K := by rfl) (he : starEach [e] X.env = (false, eval e X.env) :: starEach [] X.env := by rfl)
    (he2 : starEach [.Call (.Name "set" p2) [e] [] pos2] X.env = (false, eval (.Call (.Name "set" p2) [e] [] pos2) X.env) :: starEach [] X.env := by rfl) :
    QE G W X (.Call (.Name "sorted" p) [.Call (.Name "set" p2) [e] [] pos2] [] pos) (uSortSet ua) :=
  pe_mono (pe_callB (cr_sortedSet hc) hg hm (by decide +kernel) (pa_one (pe_callTy (cr_setL hc) hg2 hm2 (by decide +kernel) (pa_one ha he) (he := he)) he2) (he := he2)) fun σ H Q ⟨B, F, δ, Qd, Rd, rs, h, k, x⟩ => tG_then rs h x fun d δ1 q B1 F1 H1 v st1 rs1 r1 => by
    rw [hk]
    split at q
    · obtain ⟨ns, rfl, h64, q⟩ := q
      obtain ⟨a, xs, rfl, h, r⟩ := rp_lst r1
      have ex := rpl_ints_of r
      subst ex
      refine ⟨a, ns, rfl, rs1.sub.seq h, h64, fun s n hn hs => ⟨s, _, n, rfl, upd_same, Nat.lt_of_le_of_lt hn h64, fun ms l up hm hl hf => ?_⟩⟩
      obtain ⟨rs2, st2⟩ := rs1.call (rs1.toFr0.newH (o := SetO X.w s (fun j => decide (j ∈ ns)) n) hs)
      obtain ⟨rs3, st3⟩ := rs2.call (rs2.toFr0.newH (o := .lst (ms.map V.int)) hf)
      exact k _ _ (q ms up fun k => by rw [hm k]; simp) _ _ _ _ ((st1.trans st2).trans st3) rs3 ⟨l, _, rfl, rs2.noH0 hf, rs2.toFr0.noF hf, rs2.toFr0.noB hf, upd_same, rpl_ints ms, rs2.noOwn hf, .inl (none_back (st1.trans st2).dm hf)⟩
    · exact q.elim
end
end DL

set_option Elab.async false
set_option linter.all false
set_option maxRecDepth 100000
namespace DL
open PySem PySem.Spec PyProof.Rows L2
/-! ### i in (a, b) of whole numbers -/
@[simp] def gIn : G2 := fun x y Q => match x, y with
  | .int i, .tup [.int a, .int b] => Q (.bl (decide (a = i) || decide (b = i)))
  | _, _ => False
theorem opd_in {K : PySem.W.Frag} : OpD K (rIn K false) gIn := fun B F H v w x y Qd Q e r1 r2 g k => by
  unfold gIn at g
  split at g
  · rename_i i a b
    obtain ⟨p, xs, rfl, h, r⟩ := rp_tup r2
    cases r with
    | cons ra r =>
      cases r with
      | cons rb r =>
        cases r
        have ea := rp_int ra
        have eb := rp_int rb
        have ei := rp_int r1
        subst ea eb ei
        refine ⟨p, _, rfl, .inr (sqT_mono e h), rfl, rfl, ?_⟩
        have q := k _ (.bl (decide (a = i) || decide (b = i))) g (.bl _)
        have en : (if (false : Bool) = true then !inV (.int i) [.int a, .int b] else inV (.int i) [.int a, .int b]) = (decide (a = i) || decide (b = i)) := by
          simp [inV, eqV]
          rw [Bool.eq_iff_iff]
          simp
        rw [en]
        exact q
  · exact g.elim
section
variable {G : Gx} {W : WX} {X : Cx} {a b : Expr} {pos : Pos} {ua ub : UV}
theorem qv_inP (ha : QV G W X a ua) (hb : QV G W X b ub) (hm : behindInMarks .In b = false := by rfl) (hk : X.K = G.K := by rfl) : QV G W X (.Compare a [.In] [b] pos) (uOp gIn ua ub) := qv_cmp op_in_seq (by rw [hk]; exact opd_in) ha hb hm
theorem qt_inP (ha : QV G W X a ua) (hb : QV G W X b ub) (hm : behindInMarks .In b = false := by rfl) (hk : X.K = G.K := by rfl) : QT G W X (.Compare a [.In] [b] pos) (uTst (uOp gIn ua ub)) := qt_cmp op_in_seq (by rw [hk]; exact opd_in) ha hb hm
end
end DL

set_option Elab.async false
set_option linter.all false
set_option maxRecDepth 100000
namespace DL
open PySem PySem.Spec PyProof.Rows L2
/-! ### a def called without arguments -/
section
variable {G : Gx} {W : WX} {X : Cx} {pos : Pos}
theorem pe_callSD0 {CX : CXT} {k : Nat} {f : Addr} {fd : FuncData} {ps : List Str} {sp : Sp} {ds : List Value} {dvs : List V} {E : L2.St → XK} {x : Str} {p : Pos} (F : FnOk X.prog X.w X.K X.mg X.base CX k f fd ps sp) (hr : Room k X.A) (hg : Gl X x) (hm : X.mg x = some (.ref f))
    (hk : PySem.W.keepIn X.K (.ref f) = true) (hb : Binds X.K fd ps ds) (hd : Vals dvs ds) (hx : ∀ σ, PassesAt CX X σ (E σ)) (hdb : (x == ("__debug__" : Str)) = false := by decide) : PE X (.Call (.Name x p) [] [] pos) (tCallSD sp dvs E tNil) := by
  refine ⟨fun pins s σ H Q I h => ?_⟩
  refine wpAny_Call_Name_kw (ld_glob I hg hm ?_ hdb)
  exact PySem.W.callWith_K0 I.kIn hk (run_fnSD F hr hb hd (hx σ) I .nil h)
theorem qe_cal0 {p : Pos} {j k : Nat} {x : Str} {wp : DSp} (c : CalD X.prog X.w X.K X.mg X.base j x wp) (hr : Room k X.A) (hjk : j ≤ k) (hg : Gl X x) (tk : Takes X W) (hk : X.K = G.K := by rfl) (hdb : (x == ("__debug__" : Str)) = false := by decide) :
    QE G W X (.Call (.Name x p) [] [] pos) (uCal wp uNil) := by
  obtain ⟨f, fd, ps, dvl, dvs, dds, w0, F, gm, kp, b, d, rd, rfl⟩ := (c.mono hjk).ex
  refine pe_mono (pe_callSD0 (sp := spD G.K w0) (E := WE W) (by rw [← hk]; exact F) hr hg gm kp b d (fun σ => passAt tk σ) hdb) fun σ H Q t => ?_
  have q := t_call (G := G) (W := W) (w := w0) (dds := dds) (dvs := dvs) (ua := uNil) (by rw [← hk]; exact rd) t
  obtain ⟨B, F', δ, Qd, Rd, rs, h, k2, x2⟩ := q
  exact k2 _ _ h B F' H [] Stp.refl rs .nil
end
end DL

set_option Elab.async false
set_option linter.all false
set_option maxRecDepth 100000
namespace DL
open PySem PySem.Spec PyProof.Rows L2
/-! ### try .. except C1 as n .. except C2 as n .. -/
/-- what each clause in turn asks of the exception that left the body -/
def wAsL (K : PySem.W.Frag) (i : Nat) (Wo : WX) (D : Ends) : List (Value × (Addr → Value → Option Addr → TS)) → WX
  | [] => Wo
  | (c, ts) :: r => fun kl dd σ H => ∃ b, PySem.W.exmOne K kl c = some b ∧
      (b = true → ∀ a, H a = none → ts a kl dd ⟨fun τ G => D.nx (τ.set i none) G, D.rt, fun τ G => D.bk (τ.set i none) G, fun τ G => D.ct (τ.set i none) G⟩ (σ.set i (some (.ref a))) H) ∧ (b = false → wAsL K i Wo D r kl dd σ H)
inductive HdsA (X : Cx) (n : Str) : List ExceptHandler → List (Value × (Addr → Value → Option Addr → TS)) → Prop
  | nil : HdsA X n [] []
  | cons {x : Str} {c : Value} {ts : Addr → Value → Option Addr → TS} {b0 : Stmt} {su : List Stmt} {np q : Pos} {hs : List ExceptHandler} {l : List (Value × (Addr → Value → Option Addr → TS))} (hc : Names X x c)
      (hsu : ∀ (a : Addr) (oe : Obj) (kl : Value) (dd : Option Addr) (pn : List (Addr × Obj)), Zc kl dd oe → (∃ vs, oe.data = .fields vs) → PSs (X.suite a ((a, oe) :: pn)) (b0 :: su) (ts a kl dd)) (r : HdsA X n hs l) :
      HdsA X n (.ExceptHandler (some (.Name x np)) (some n) (b0 :: su) q :: hs) ((c, ts) :: l)
section
variable {X : Cx} {n : Str} {i : Nat} {body : List Stmt} {h1 : ExceptHandler} {hs : List ExceptHandler} {l : List (Value × (Addr → Value → Option Addr → TS))} {pos : Pos} {tb : WX → TS} {Wo : WX}
theorem ps_try_asL (st : X.stack = X.env :: X.outer) (fr : X.env.frame = some X.env.locals) (nN : X.N.Nodup) (nI : X.N[i]? = some n) (nL : X.env.kindOf n = some .local) (tk : Takes X Wo)
    (hb : ∀ (W : WX) (pn : List (Addr × Obj)) (xe : Value → Shared → Prop), Takes (X.tr pn xe) W → PassesOwn (model X.prog X.w) X.A X.env xe → PSs (X.tr pn xe) body (tb W))
    (hh : HdsA X n (h1 :: hs) l) : PS X (.Try body (h1 :: hs) [] [] pos) (fun D σ H => tb (wAsL X.K i Wo D l) D σ H) := by
  refine ⟨fun ps s σ H D I0 w0 => ?_⟩
  have okI := I0.ok
  have frs0 : X.A.frames = some (X.env :: X.outer) := by rw [okI.frames, st]
  have lcN : Loc X.env.scope n := .inl nL
  refine wpAny_Try_except (wpAny_mono ((hb (wAsL X.K i Wo D l) (X.pn ++ ps) (fun ev t1 => wpAny (model X.prog X.w) X.A (noteFrame ev X.env) (fun _ t2 => wpAny (model X.prog X.w) X.A (setFlight ev none) (fun _ t3 =>
    wpAny (model X.prog X.w) X.A (handleBy ev X.env (h1 :: hs)) (SP X ps D) X.xe t3) X.xe t2) X.xe t1) (fun u sx xx => ?_) PassesOwn.looking).run [] s σ H D (I0.toTry _) w0) (fun fl s1 end1 => ?_) (fun e s1 he => he))
  · -- an exception has left the body
    obtain ⟨a, Bx, sI, ps2, τ, G, kl, dd, rfl, Jt, nbx, upx, skx, nax, osx, agx, w⟩ := xx
    have Jx : Inv X ps τ G sI := Jt.ofTry okI
    have skE : Sky Bx (X.env :: X.outer) a (Zc kl dd) X.env.locals sx.heap := by rw [← st]; exact skx
    show wpAny (model X.prog X.w) X.A (noteFrame (.ref a) X.env) _ _ _
    refine Sky.land Zc.steady frs0 fr skE fun hp fly up1 => ?_
    have Jl : Inv X ps τ G { sx with heap := hp } := Jx.landed nbx fly.1 (upx.trans up1) osx agx
    obtain ⟨ob, vs0, hob, zob, dob⟩ := fly.there
    have noFr : a ∉ frs (X.env :: X.outer) := fun hm => by
      obtain ⟨_, o2, eo, hnf⟩ := fly.2.2.1.mem hm
      rw [hob] at eo; cases eo
      exact hnf _ dob
    have aL : a ≠ X.env.locals := fun z => noFr (List.mem_filterMap.mpr ⟨X.env, List.mem_cons_self, by rw [fr, z]⟩)
    have aF : a ∉ X.fs := fun hm => by
      obtain ⟨en, hen, qn⟩ := List.mem_filterMap.mp hm
      exact noFr (List.mem_filterMap.mpr ⟨en, List.mem_cons_of_mem _ hen, qn⟩)
    have Su := Jl.suite hob dob nax aL aF
    have walk : ∀ {gs : List ExceptHandler} {k : List (Value × (Addr → Value → Option Addr → TS))}, HdsA X n gs k → wAsL X.K i Wo D k kl dd τ G →
        wpAny (model X.prog X.w) X.A (handleBy (.ref a) X.env gs) (SP X ps D) X.xe { sx with heap := hp } := by
      intro gs k hk
      induction hk with
      | nil =>
        intro w
        obtain ⟨y1, y2, y3, oz, vz, T, oT, tz, ez, zz, dz, gz, rz⟩ := id fly
        refine wpAny_handleBy_nil ?_
        unfold PySem.passOn
        refine wpAny_bind (wpAny_field ez dz gz ?_)
        rw [if_neg (show ¬ ((Value.ref T == Value.none) = true) from by simp)]
        have out : wpAny (model X.prog X.w) X.A (setFlight (.ref a) X.env.frame) (fun _ t4 => wpAny (model X.prog X.w) X.A (throw (.ref a) : Sem Flow) (SP X ps D) X.xe t4) X.xe { sx with heap := hp } := by
          rw [fr]
          exact HandSPX.setFlight_upZ fly fun h4 in4 up4 => wpAny_throw (tk _ _ ⟨a, Bx, sI, ps, τ, G, kl, dd, rfl, Jx, nbx, (upx.trans up1).trans up4, .inr (.inr (by rw [st]; exact in4)), nax, osx, agx, w⟩)
        first
          | exact wpAny_bind out
          | exact wpAny_bind (wpAny_pure (wpAny_bind out))
      | @cons x c ts b0 su np q hs2 l2 hc hsu r ih =>
        intro w
        obtain ⟨b, says, yes, no⟩ := w
        refine wpAny_handleBy_cons (codeAny_handlers_test ?_) (by intro q; cases q)
        have look : PySem.W.Looks (model X.prog X.w) hp (typeOf (.ref a)) kl := fun _ _ _ _ kk qq => wpAny_typeOf_ref (kk _ _ hob) (by rw [zob.1]; exact qq)
        have fits := PySem.W.exm_one (M := model X.prog X.w) (Jl.kIn) look says
        have name : ∀ {Q E : Value → Shared → Prop}, Q c { sx with heap := hp } → wpAny (model X.prog X.w) (X.A.mark (some (.ref a))) (eval (.Name x np) X.env) Q E { sx with heap := hp } := fun {Q E} qq => by
          obtain ⟨gx, nd, mx | ⟨mx, vx, nx⟩⟩ := hc
          · exact ld_glob (X := X.suite a ((a, ob) :: (X.pn ++ ps))) Su gx mx qq nd
          · exact ld_blt (X := X.suite a ((a, ob) :: (X.pn ++ ps))) Su gx mx vx qq nx nd
        refine name (fits.here ?_)
        cases b with
        | false => exact ih (no rfl)
        | true =>
          refine codeAny_handlers_suite_as (HandSPX.lands_againZ fly fun h4 fly4 up4 => ?_)
          have J4 : Inv X ps τ G { sx with heap := h4 } := Jx.landed nbx fly4.1 ((upx.trans up1).trans up4) osx agx
          obtain ⟨ob4, vs4, hob4, zob4, dob4⟩ := fly4.there
          have Su4 := J4.suite hob4 dob4 nax aL aF
          refine store_ok (X := X.suite a ((a, ob4) :: (X.pn ++ ps))) (v := .ref a) Su4 nN nI lcN rfl (fun s5 Su5 => ?_) (.inr nL)
          have away : ∀ {s6 : Shared} {σ6 : L2.St} {H6 : Hp} {Q : Shared → Prop}, Inv (X.suite a ((a, ob4) :: (X.pn ++ ps))) [] σ6 H6 s6 → (∀ s7, Inv X ps (σ6.set i none) H6 s7 → Q s7) →
              wpAny (model X.prog X.w) X.A (do bindName X.env n .none; unbindBehindTheSuite X.env n q) (fun _ s7 => Q s7) X.xe s6 := fun {s6 σ6 H6 Q} S6 qq => gone_ok (S6.unsuite okI) nN nI nL qq
          refine wpAny_mono ((hsu a ob4 kl dd (X.pn ++ ps) zob4 ⟨_, dob4⟩).run [] s5 _ G _ Su5 (yes rfl a nax)) (fun fl s6 end6 => ?_) (fun _ _ z => z.elim)
          cases fl with
          | next =>
            obtain ⟨σ6, H6, Z6, q6⟩ := end6
            exact away Z6 fun s7 Z7 => ⟨_, _, Z7, q6⟩
          | brk =>
            obtain ⟨σ6, H6, Z6, q6⟩ := end6
            exact away Z6 fun s7 Z7 => ⟨_, _, Z7, q6⟩
          | cont =>
            obtain ⟨σ6, H6, Z6, q6⟩ := end6
            exact away Z6 fun s7 Z7 => ⟨_, _, Z7, q6⟩
          | ret u =>
            obtain ⟨v6, σ6, H6, Z6, r6, q6⟩ := end6
            exact away Z6 fun s7 Z7 => ⟨_, _, _, Z7, r6, q6⟩
    exact walk hh w
  · cases fl with
    | next =>
      obtain ⟨σ1, H1, Z1, q1⟩ := end1
      exact wpAny_execs_nil ⟨σ1, H1, Z1.ofTry okI, q1⟩
    | brk =>
      obtain ⟨σ1, H1, Z1, q1⟩ := end1
      exact ⟨σ1, H1, Z1.ofTry okI, q1⟩
    | cont =>
      obtain ⟨σ1, H1, Z1, q1⟩ := end1
      exact ⟨σ1, H1, Z1.ofTry okI, q1⟩
    | ret u =>
      obtain ⟨v1, σ1, H1, Z1, r1, q1⟩ := end1
      exact ⟨v1, σ1, H1, Z1.ofTry okI, r1, q1⟩
end
section
variable {G : Gx} {W : WX} {X : Cx} {pos : Pos}
/-- two clauses -/
@[simp] def uTryAs2 (i : Nat) (m1 : Addr → Option Bool) (us1 : Addr → Addr → Addr → US) (m2 : Addr → Option Bool) (us2 : Addr → Addr → Addr → US) (ub : US) : US := fun E δ => ub { E with ex := fun x δ' => match m1 x.cls with
  | some true => ∀ a d, us1 a x.cls d ⟨fun δ2 => E.nx (δ2.set i .no), E.rt, fun δ2 => E.bk (δ2.set i .no), fun δ2 => E.ct (δ2.set i .no), R0⟩ (δ'.set i (.sh (.exc a d x.cls x.fs)))
  | some false => (match m2 x.cls with
    | some true => ∀ a d, us2 a x.cls d ⟨fun δ2 => E.nx (δ2.set i .no), E.rt, fun δ2 => E.bk (δ2.set i .no), fun δ2 => E.ct (δ2.set i .no), R0⟩ (δ'.set i (.sh (.exc a d x.cls x.fs)))
    | some false => E.ex x δ'
    | none => False)
  | none => False } δ
theorem qs_tryAs2 {x1 x2 n : Str} {cv1 cv2 : Value} {i : Nat} {body su1 su2 : List Stmt} {b1 b2 : Stmt} {np1 np2 pos1 pos2 : Pos} {m1 m2 : Addr → Option Bool} {us1 us2 : Addr → Addr → Addr → US} {ub : US} (hs : X.stack = X.env :: X.outer) (hf : X.env.frame = some X.env.locals) (hN : X.N.Nodup) (hi : X.N[i]? = some n) (hln : X.env.kindOf n = some .local) (hc1 : Names X x1 cv1) (hc2 : Names X x2 cv2) (tk : Takes X W)
    (hm1 : ∀ y b, m1 y = some b → PySem.W.exmOne X.K (.ref y) cv1 = some b) (hm2 : ∀ y b, m2 y = some b → PySem.W.exmOne X.K (.ref y) cv2 = some b)
    (hb : ∀ (W' : WX) (pn : List (Addr × Obj)) (xe : Value → Shared → Prop), Takes (X.tr pn xe) W' → PassesOwn (model X.prog X.w) X.A X.env xe → QSs G W' (X.tr pn xe) body ub)
    (hsu1 : ∀ (a : Addr) (oe : Obj) (C d : Addr) (pn : List (Addr × Obj)), Zc (.ref C) (some d) oe → (∃ vs, oe.data = .fields vs) → QSs G W0 (X.suite a ((a, oe) :: pn)) (b1 :: su1) (us1 a C d))
    (hsu2 : ∀ (a : Addr) (oe : Obj) (C d : Addr) (pn : List (Addr × Obj)), Zc (.ref C) (some d) oe → (∃ vs, oe.data = .fields vs) → QSs G W0 (X.suite a ((a, oe) :: pn)) (b2 :: su2) (us2 a C d)) :
    QS G W X (.Try body [.ExceptHandler (some (.Name x1 np1)) (some n) (b1 :: su1) pos1, .ExceptHandler (some (.Name x2 np2)) (some n) (b2 :: su2) pos2] [] [] pos) (uTryAs2 i m1 us1 m2 us2 ub) := by
  let ts : (Addr → Addr → Addr → US) → Addr → Value → Option Addr → TS := fun us a cls od D σ H => ∃ C d, cls = .ref C ∧ od = some d ∧ tS G W0 (us a C d) D σ H
  have lift : ∀ {b0 : Stmt} {su : List Stmt} {us : Addr → Addr → Addr → US}, (∀ (a : Addr) (oe : Obj) (C d : Addr) (pn : List (Addr × Obj)), Zc (.ref C) (some d) oe → (∃ vs, oe.data = .fields vs) → QSs G W0 (X.suite a ((a, oe) :: pn)) (b0 :: su) (us a C d)) →
      ∀ (a : Addr) (oe : Obj) (cls : Value) (od : Option Addr) (pn : List (Addr × Obj)), Zc cls od oe → (∃ vs, oe.data = .fields vs) → PSs (X.suite a ((a, oe) :: pn)) (b0 :: su) (ts us a cls od) := fun hsu a oe cls od pn z v =>
    ⟨fun pins s σ H D I ⟨C, d, e1, e2, w⟩ => by
      subst e1 e2
      exact (hsu a oe C d pn z v).run pins s σ H D I w⟩
  refine ps_mono (ps_try_asL (tb := fun W' => tS G W' ub) (l := [(cv1, ts us1), (cv2, ts us2)]) hs hf hN hi hln tk hb (.cons hc1 (lift hsu1) (.cons hc2 (lift hsu2) .nil))) fun D σ H ⟨B, F, δ, E, rs, h, k⟩ => ?_
  refine ⟨B, F, δ, _, rs, h, k.nx, k.bk, k.ct, k.rt, fun x δ' q B' F' H' σ' cl da mono rs' ex => ?_⟩
  obtain ⟨rfl, d, fs, rfl, x1, x2, x3, x4, x5⟩ := id ex
  have caught : ∀ us : Addr → Addr → Addr → US, (∀ a d, us a x.cls d ⟨fun δ2 => E.nx (δ2.set i .no), E.rt, fun δ2 => E.bk (δ2.set i .no), fun δ2 => E.ct (δ2.set i .no), R0⟩ (δ'.set i (.sh (.exc a d x.cls x.fs)))) →
      ∀ a, H' a = none → ts us a (.ref x.cls) (some d) ⟨fun τ G => D.nx (τ.set i none) G, D.rt, fun τ G => D.bk (τ.set i none) G, fun τ G => D.ct (τ.set i none) G⟩ (σ'.set i (some (.ref a))) H' := fun us q a ha => by
    refine ⟨x.cls, d, rfl, rfl, ?_⟩
    have rs2 := rs'.freezeX x1 x2 x3 x4
    have le2 : Same F' (upd F' d (.xd fs)) := same_upd x2
    have rs3 := rs2.setSh (i := i) (v := .ref a) (d := .exc a d x.cls x.fs) (.exc upd_same (x5.mono le2 fun _ h => h))
    have l3 : Le B F B' (upd F' d (.xd fs)) := mono.trans ⟨le2, fun _ h => h⟩
    exact ⟨B', _, _, _, rs3, q a d, k.nx.unset.later l3, k.bk.unset.later l3, k.ct.unset.later l3, k.rt, fun _ _ z => z.elim⟩
  dsimp only at q
  split at q
  · rename_i hx
    exact ⟨true, hm1 _ _ hx, fun _ => caught us1 q, (fun z => by cases z)⟩
  · rename_i hx
    refine ⟨false, hm1 _ _ hx, (fun z => by cases z), fun _ => ?_⟩
    split at q
    · rename_i hy
      exact ⟨true, hm2 _ _ hy, fun _ => caught us2 q, (fun z => by cases z)⟩
    · rename_i hy
      exact ⟨false, hm2 _ _ hy, (fun z => by cases z), fun _ => k.ex _ _ q B' F' H' σ' _ _ mono rs' ex⟩
    · exact q.elim
  · exact q.elim
end
end DL
namespace DL
open PySem PySem.Spec PyProof.Rows L2
/-! ### keywords in the parameters' order turned round -/
section
variable {X : Cx} {CX : CXT} {k n : Nat} {f : Addr} {fd : FuncData} {ps ks : List Str} {sp : Sp} {E : L2.St → XK} {x : Str} {p pos : Pos} {e : Expr} {es : List Expr} {kws : List Keyword} {t tk : TA}
abbrev KRev (K : PySem.W.Frag) (fd : FuncData) (ps : List Str) (n : Nat) (ks : List Str) : Prop := KBn K fd ps n ks (fun us ws => us ++ ws.reverse) (fun vs zs => vs ++ zs.reverse)
def tCallNR (n m : Nat) (sp : Sp) (E : L2.St → XK) (t tk : TA) : TE := fun σ H Q => t σ H fun vs H1 => tk σ H1 fun zs H2 => vs.length = n ∧ zs.length = m ∧ sp (vs ++ zs.reverse) H2 Q (E σ)
theorem pe_callNR (F : FnOk X.prog X.w X.K X.mg X.base CX k f fd ps sp) (hr : Room k X.A) (hg : Gl X x) (hm : X.mg x = some (.ref f)) (hk : PySem.W.keepIn X.K (.ref f) = true) (hb : KRev X.K fd ps n ks) (hx : ∀ σ, PassesAt CX X σ (E σ))
    (ha : PA X (e :: es) t) (hkw : PK X kws tk) (hall : (backToKw pos (keywordEach kws X.env)).all (·.1.isSome) = true := by rfl) (hks : (backToKw pos (keywordEach kws X.env)).filterMap (·.1) = ks := by rfl)
    (hdb : (x == ("__debug__" : Str)) = false := by decide) (he : starEach (e :: es) X.env = (false, eval e X.env) :: starEach es X.env := by rfl)
    (hpl : ((backTo pos (starEach (e :: es) X.env)).any (·.1) || (backToKw pos (keywordEach kws X.env)).any (·.1.isNone)) = false := by rfl) :
    PE X (.Call (.Name x p) (e :: es) kws pos) (tCallNR n ks.length sp E t tk) := by
  refine ⟨fun pins s σ H Q I h => ?_⟩
  refine wpAny_Call_Name_kw (ld_glob I hg hm ?_ hdb)
  refine PySem.W.callWith_KW (h₀ := X.base) I.ok.mod.kin hk hall (thn (ha.run pos pins s σ H _ I h) fun us s1 ⟨vs, H1, I1, r, q⟩ => ?_) hpl he
  refine thn (hkw.run pos pins s1 σ H1 _ I1 q) fun ws s2 ⟨zs, H2, I2, rz, l1, l2, q2⟩ => ⟨I2.kIn, ?_⟩
  rw [hks]
  have r2 : Vals (vs ++ zs.reverse) (us ++ ws.reverse) := hb.rel r rz
  have hl : (us ++ ws.reverse).length = ps.length := by rw [← r2.length]; exact F.len _ _ _ _ q2
  refine wpAny_call (codeAny_mono (F.run X.A X.stack s2 H2 ⟨us, ks.zip ws⟩ (us ++ ws.reverse) (vs ++ zs.reverse) Q (E σ) hr I2.env0 (hb.to s2 us ws I2.kIn (r.length.symm.trans l1) (rz.length.symm.trans l2)) r2 q2) fun r s' hq => ?_)
  cases r with
  | error e => exact hx σ pins H2 s2 e s' I2 hq
  | ok fl =>
    cases fl with
    | ret u => exact I2.after hq
    | next => exact False.elim hq
    | brk => exact False.elim hq
    | cont => exact False.elim hq
end
structure CalR (P : Program) (w : World) (K : PySem.W.Frag) (mg : Str → Option Value) (base : Heap) (k : Nat) (x : Str) (n : Nat) (ks : List Str) (wp : DSp) : Prop where
  ex : ∃ (f : Addr) (fd : FuncData) (ps : List Str), FnOk P w K mg base (L2.CX P w) k f fd ps (spD K wp) ∧ mg x = some (.ref f) ∧ PySem.W.keepIn K (.ref f) = true ∧ KRev K fd ps n ks
theorem calR {P : Program} {w : World} {K : PySem.W.Frag} {mg : Str → Option Value} {base : Heap} {x : Str} {params : Arguments} {body : List Stmt} {scope : Scope} {dvs : List V} {f : Addr} {fd : FuncData} {ps ks : List Str} {k n : Nat} {wp : DSp} (F : FunD K x x params body scope dvs [] f fd) (gm : mg x = some (.ref f)) (hd : dvs ≠ [])
    (h : ∀ (T : Addr) (kV doc pm : Value) (an : Option Addr) (cdv ct : Value) (us ws its : List Value), us.length = n → ws.length = ks.length → its.length = dvs.length →
      ∃ k, bindArgs (PySem.W.fnOf x x params body scope (.ref T) kV doc pm an cdv ct) ⟨us, ks.zip ws⟩ = seqItems? (.ref T) >>= k ∧ k (some its.toArray) = pure (ps.zip (us ++ ws.reverse)))
    (ok : FnOk P w K mg base (L2.CX P w) k f fd ps (spD K wp)) : CalR P w K mg base k x n ks wp := by
  refine ⟨f, fd, ps, ok, gm, F.kp, ⟨fun s us ws X l1 l2 => ?_, fun r1 r2 => r1.append (Vals.reverse r2)⟩⟩
  obtain ⟨oc, od, dV, kV, doc, pm, an, cdv, ct, osl, rfl, lk, hcd, hD, hK⟩ := F.ex
  rcases hD with ⟨e, _⟩ | ⟨_, T, o, its, m, rfl, lT, oT, rT⟩
  · exact absurd e hd
  · obtain ⟨k, e1, e2⟩ := h T kV doc pm an cdv ct us ws its l1 l2 rT.length.symm
    refine BindsTo.of_looks fun M => ?_
    rw [e1]
    exact looks_items X lT oT (.of_pure e2)
section
variable {G : Gx} {W : WX} {X : Cx} {k j n : Nat} {pos : Pos} {e : Expr} {es : List Expr} {kws : List Keyword} {x : Str} {p : Pos} {ks : List Str} {wp : DSp}
@[simp] def uCalR (n m : Nat) (wp : DSp) (ua ub : UA) : UE := fun δ Q R => ua δ (fun ds δ1 => ub δ1 (fun es δ2 => ds.length = n ∧ es.length = m ∧ wp (ds ++ es.reverse) (fun r => Q r δ2) (fun x => R x δ2)) R) R
theorem qe_calR {ua ub : UA} {m : Nat} (c : CalR X.prog X.w X.K X.mg X.base j x n ks wp) (hr : Room k X.A) (hjk : j ≤ k) (hg : Gl X x) (tk : Takes X W) (ha : QA G W X (e :: es) ua) (hkw : QK G W X kws ub) (hl : ks.length = m := by rfl) (hk : X.K = G.K := by rfl)
    (hall : (backToKw pos (keywordEach kws X.env)).all (·.1.isSome) = true := by rfl) (hks : (backToKw pos (keywordEach kws X.env)).filterMap (·.1) = ks := by rfl)
    (hdb : (x == ("__debug__" : Str)) = false := by decide) (he : starEach (e :: es) X.env = (false, eval e X.env) :: starEach es X.env := by rfl)
    (hpl : ((backTo pos (starEach (e :: es) X.env)).any (·.1) || (backToKw pos (keywordEach kws X.env)).any (·.1.isNone)) = false := by rfl) :
    QE G W X (.Call (.Name x p) (e :: es) kws pos) (uCalR n m wp ua ub) := by
  subst hl
  obtain ⟨f, fd, ps, F, gm, kp, b⟩ := c.ex
  refine pe_mono (pe_callNR (F.mono hjk) hr hg gm kp b (fun σ => passAt tk σ) ha hkw hall hks hdb he hpl) fun σ H Q ⟨B, F', δ, Qd, Rd, rs, h, k, x⟩ => ?_
  refine tG_then rs h x fun ds δ1 q B1 F1 H1 vs st1 rs1 r1 => tG_then rs1 q (x.later st1.toLe) fun es δ2 ⟨l1, l2, q2⟩ B2 F2 H2 zs st2 rs2 r2 => ⟨r1.length.trans l1, r2.length.trans l2, ?_⟩
  rw [hk]
  refine ⟨B2, F2, ds ++ es.reverse, _, _, rs2.sub, rs2.bag, (st2.rpl r1).append (RpL.reverse r2), q2, fun r qr B' F' H' v fr rt => ?_, fun x' rx B' F' H' c da fr ex => x _ _ rx B' F' H' c da ((st1.trans st2).toLe.trans (rs2.call fr).2.toLe) (rs2.call fr).1 (rs2.exUp ex)⟩
  obtain ⟨rs3, st3⟩ := rs2.call fr
  refine k _ _ qr B' F' H' v ((st1.trans st2).trans st3) rs3 ?_
  cases r with
  | sh d => exact rt
  | nw ds =>
    obtain ⟨p, xs, e1, e2, e3, e4, e5, e6⟩ := rt
    have e2' : H2 p = none := e2
    exact ⟨p, xs, e1, rs2.noH0 e2', e3, e4, e5, e6, fun ho => rs2.noOwn e2' ho, .inl (none_back (st1.trans st2).dm e2')⟩
end
end DL
namespace DL
open PySem PySem.Spec PyProof.Rows L2
theorem exc_m2 {K : PySem.W.Frag} {C C2 : Addr} (q : PySem.W.exmOne K (.ref C) (.ref C) = some true) (f : PySem.W.exmOne K (.ref C2) (.ref C) = some false) : ∀ y b, (fun y : Addr => if y = C2 then some false else if y = C then some true else none) y = some b → PySem.W.exmOne K (.ref y) (.ref C) = some b := fun y b h => by
  have h2 : (if y = C2 then some false else if y = C then some true else none) = some b := h
  by_cases e : y = C2
  · rw [if_pos e] at h2
    cases h2
    rw [e]; exact f
  · rw [if_neg e] at h2
    by_cases e2 : y = C
    · rw [if_pos e2] at h2
      cases h2
      rw [e2]; exact q
    · rw [if_neg e2] at h2
      cases h2
end DL

set_option Elab.async false
set_option linter.all false
set_option maxRecDepth 100000
set_option maxHeartbeats 4000000
namespace DL
open PySem PySem.Spec PySem.Calls PyProof.Rows L2
open PySem.W (excTail_contains)
/-! ### exceptions of own classes held as values -/
abbrev tl_LookupError : List Value := [.type "LookupError", .type "Exception", .type "BaseException", .type "object"]
abbrev tl_IndexError : List Value := [.type "IndexError", .type "LookupError", .type "Exception", .type "BaseException", .type "object"]
abbrev st_LookupError : StoreFacts "LookupError" tl_LookupError "object.__setattr__" "object" := PySem.F.store_LookupError
abbrev st_IndexError : StoreFacts "IndexError" tl_IndexError "object.__setattr__" "object" := PySem.F.store_IndexError
/-- C(args), C's own __init__ keeping sp, as a value -/
def tExV (C : Addr) (sp : List V → Sp) (n : Nat) (ta : TA) : TE := fun σ H Q => ta σ H fun vs H1 => vs.length = n ∧ ∀ a, H1 a = none → sp vs (.ref a :: vs) (upd H1 a (exo a C none)) (fun v H2 => v = .non ∧ Q (.ref a) H2) (fun _ _ _ => False)
section
variable {X : Cx} {e : Expr} {es : List Expr} {ta : TA} {p pos : Pos}
theorem run_exV {C fI : Addr} {k n : Nat} {fd : FuncData} {ps : List Str} {sp : List V → Sp} {Bt nI iI : String} {tl : List Value} (T : ExG X.K C Bt nI iI tl) (iC : PySem.W.findIn X.K (.ref C) "__init__" = some (some (.ref fI))) (tI : PySem.W.typeIn X.K (.ref fI) = some (.type "function"))
    (hn : n ≤ 1000) (F1 : ∀ vs, vs.length = n → FnOk X.prog X.w X.K X.mg X.base (L2.CX X.prog X.w) k fI fd ps (sp vs)) (hr : Room (k + 1) X.A) (hb : Binds X.K fd ps []) {pins : List (Addr × Obj)} {σ : L2.St} {H1 : Hp} {s : Shared} {Q : VK} {us : List Value} {vs : List V} (I1 : Inv X pins σ H1 s) (r1 : Vals vs us)
    (q1 : vs.length = n ∧ ∀ a, H1 a = none → sp vs (.ref a :: vs) (upd H1 a (exo a C none)) (fun v H2 => v = .non ∧ Q (.ref a) H2) (fun _ _ _ => False)) :
    wpAny (model X.prog X.w) X.A (call (.ref C) us) (fun u s => ∃ v H', Inv X pins σ H' s ∧ RelV v u ∧ Q v H') X.xe s := by
  obtain ⟨nm, q, N, bs, bm, sn, sub, ab, col, dd, k0, k1, k2, k3, k5, hC, hbm⟩ := T.cls
  obtain ⟨hp, g, dr, tk, os⟩ := s
  have hsz : hp.objs.size ≤ hp.objs.size + 1 := Nat.le_succ _
  have hq := q1.2 (hp.objs.size + 1) (I1.hok.fresh hsz)
  have keep : ∀ b o, hp.get? b = some o → ((hp.push (PySem.W.kdv_tup us)).push (PySem.HandSPX.excO C hp.objs.size)).get? b = some o := fun b o z => Heap.get?_push_of_some _ (Heap.get?_push_of_some _ z)
  have hnew : ((hp.push (PySem.W.kdv_tup us)).push (PySem.HandSPX.excO C hp.objs.size)).get? (hp.objs.size + 1) = some (PySem.HandSPX.excO C hp.objs.size) := by heap_get
  have I2 := I1.laid (t' := tk) (a := hp.objs.size + 1) (o := exo (hp.objs.size + 1) C none) (h' := (hp.push (PySem.W.kdv_tup us)).push (PySem.HandSPX.excO C hp.objs.size)) keep hsz (exo_ok hnew)
  have r2 : Vals (V.ref (hp.objs.size + 1) :: vs) (Value.ref (hp.objs.size + 1) :: us) := .cons rfl r1
  have F1 := F1 vs q1.1
  have hl : (Value.ref (hp.objs.size + 1) :: us).length = ps.length := by
    rw [← r2.length]
    exact F1.len _ _ _ _ hq
  have hus : us.length ≤ sizeLine := by
    rw [← Paired.length r1, sizeLine_eq, q1.1]
    omega
  have bnd := hb _ (Value.ref (hp.objs.size + 1) :: us) I2.kIn (by rw [List.append_nil]; exact hl)
  rw [List.append_nil] at bnd
  refine wpAny_call (PySem.HandSPX.call_own T.fb (fun Y => excTail_contains Y bm hbm) (I1.kIn _ _ hC) (PySem.W.looks_findIn I1.kIn iC) (fun self => PySem.W.bind_fn I1.kIn self tI) hus
    (codeAny_mono (F1.run _ X.stack _ _ ⟨Value.ref (hp.objs.size + 1) :: us, []⟩ (Value.ref (hp.objs.size + 1) :: us) _ _ (fun _ _ _ => False) (hr.make C us []) (I2.env0.make C us []) bnd r2 hq) fun r s' hq' => ?_))
  cases r with
  | error er =>
    obtain ⟨_, _, _, _, _, _, _, _, _, _, _, _, z⟩ := hq'
    exact z.elim
  | ok fl =>
    cases fl with
    | ret u =>
      obtain ⟨v, H2, os2, bare2, un2, hok2, rv, ev, q2⟩ := hq'
      subst ev
      obtain ⟨h2, g2, d2, t2, os'⟩ := s'
      exact ⟨rv, V.ref (hp.objs.size + 1), H2, I2.call' (ch := []) os2 un2 hok2 bare2 (fun b z => absurd z (by simp)), rfl, q2⟩
    | next => exact False.elim hq'
    | brk => exact False.elim hq'
    | cont => exact False.elim hq'
theorem pe_exV0 {x : Str} {C fI : Addr} {k : Nat} {fd : FuncData} {ps : List Str} {sp : List V → Sp} {Bt nI iI : String} {tl : List Value} (T : ExG X.K C Bt nI iI tl) (iC : PySem.W.findIn X.K (.ref C) "__init__" = some (some (.ref fI))) (tI : PySem.W.typeIn X.K (.ref fI) = some (.type "function"))
    (F1 : ∀ vs, vs.length = 0 → FnOk X.prog X.w X.K X.mg X.base (L2.CX X.prog X.w) k fI fd ps (sp vs)) (hr : Room (k + 1) X.A) (hb : Binds X.K fd ps []) (hg : Gl X x) (hm : X.mg x = some (.ref C)) (hdb : (x == ("__debug__" : Str)) = false := by decide) : PE X (.Call (.Name x p) [] [] pos) (tExV C sp 0 tNil) := by
  refine ⟨fun pins s σ H Q I h => ?_⟩
  refine wpAny_Call_Name_kw (ld_glob I hg hm ?_ hdb)
  exact PySem.W.callWith_K0 I.kIn T.kC (run_exV T iC tI (by decide) F1 hr hb I .nil h)
theorem pe_exV {x : Str} {C fI : Addr} {k n : Nat} {fd : FuncData} {ps : List Str} {sp : List V → Sp} {Bt nI iI : String} {tl : List Value} (T : ExG X.K C Bt nI iI tl) (iC : PySem.W.findIn X.K (.ref C) "__init__" = some (some (.ref fI))) (tI : PySem.W.typeIn X.K (.ref fI) = some (.type "function"))
    (hn : n ≤ 1000) (F1 : ∀ vs, vs.length = n → FnOk X.prog X.w X.K X.mg X.base (L2.CX X.prog X.w) k fI fd ps (sp vs)) (hr : Room (k + 1) X.A) (hb : Binds X.K fd ps []) (hg : Gl X x) (hm : X.mg x = some (.ref C)) (ha : PA X (e :: es) ta) (hdb : (x == ("__debug__" : Str)) = false := by decide)
    (he : starEach (e :: es) X.env = (false, eval e X.env) :: starEach es X.env := by rfl) (hpl : (backTo pos (starEach es X.env)).any (·.1) = false := by rfl) : PE X (.Call (.Name x p) (e :: es) [] pos) (tExV C sp n ta) := by
  refine ⟨fun pins s σ H Q I h => ?_⟩
  refine wpAny_Call_Name_kw (ld_glob I hg hm ?_ hdb)
  exact PySem.W.callWith_K (h₀ := X.base) I.ok.mod.kin T.kC (thn (ha.run pos pins s σ H _ I h) fun us s1 ⟨vs, H1, I1, r1, q1⟩ => ⟨I1.kIn, run_exV T iC tI hn F1 hr hb I1 r1 q1⟩) he hpl
end
/-! over data -/
theorem Fr0.freezeO {G : Gx} {B : Option Addr} {F H : Hp} (c : Fr0 G B F H) {p : Addr} {o : HO} (h0 : G.H0 p = none) (hF : F p = none) (hB : B ≠ some p) (hp : H p = some o) : Fr0 G B (upd F p o) H := by
  have le : Same F (upd F p o) := same_upd hF
  refine ⟨fun a u e => ?_, c.low.trans le, fun a u e => ?_, c.keep, c.bag0, c.bagn, fun b hb => ⟨?_, bagged_keep (c.bag b hb).2 le fun _ e => e⟩⟩
  · by_cases ha : a = p
    · rw [ha, upd_same] at e; cases e; rw [ha]; exact hp
    · rw [upd_ne ha] at e; exact c.sub a u e
  · by_cases ha : a = p
    · exact .inr (by rw [ha]; exact h0)
    · rw [upd_ne ha] at e; exact c.new a u e
  · rw [upd_ne (fun e => hB (by rw [hb, e]))]; exact (c.bag b hb).1
/-- C(args) of data: its dict holds fD args -/
structure ExV (P : Program) (w : World) (K : PySem.W.Frag) (mg : Str → Option Value) (base : Heap) (k : Nat) (x : Str) (n : Nat) (fD : List D → List (Str × D)) : Prop where
  ex : ∃ (Bt nI iI : String) (tl : List Value) (fI : Addr) (fd : FuncData) (ps : List Str) (fV : List V → List (Str × V)), ExG K (He.ga K x) Bt nI iI tl ∧ PySem.W.findIn K (.ref (He.ga K x)) "__init__" = some (some (.ref fI)) ∧ PySem.W.typeIn K (.ref fI) = some (.type "function") ∧
    (∀ vs, vs.length = n → FnOk P w K mg base (L2.CX P w) k fI fd ps (spIni (He.ga K x) vs (fV vs))) ∧ Binds K fd ps [] ∧ mg x = some (.ref (He.ga K x)) ∧ n ≤ 1000 ∧ ∀ B F vs ds, RpL K B F vs ds → RpF K B F (fV vs) (fD ds)
theorem ExU.exV {P : Program} {w : World} {K : PySem.W.Frag} {mg : Str → Option Value} {base : Heap} {k : Nat} {x : Str} {gs : List (Str × D)} (U : ExcU P w K mg base k x gs) : ExV P w K mg base k x 0 fun _ => gs := by
  obtain ⟨Bt, nI, iI, tl, fI, fd, ps, fs, T, iC, tI, F, b, g, hf⟩ := U.ex
  refine ⟨Bt, nI, iI, tl, fI, fd, ps, fun _ => fs, T, iC, tI, fun vs hv => ?_, b, g, by decide, fun B F vs ds _ => hf B F⟩
  cases vs with
  | nil => exact F
  | cons _ _ => cases hv
section
variable {G : Gx} {W : WX} {X : Cx} {e o t : Expr} {es : List Expr} {pos p apos : Pos}
/-- C(args) -/
@[simp] def uExV (C : Addr) (n : Nat) (fD : List D → List (Str × D)) (ua : UA) : UV := fun δ Q R => ua δ (fun ds δ1 => ds.length = n ∧ Q (.exi C (fD ds)) δ1) R
theorem t_exV {C : Addr} {n : Nat} {fD : List D → List (Str × D)} {fV : List V → List (Str × V)} {ua : UA} (hf : ∀ B F vs ds, RpL G.K B F vs ds → RpF G.K B F (fV vs) (fD ds)) {σ : L2.St} {H : Hp} {Q : VK} (t : tV G W (uExV C n fD ua) σ H Q) : tExV C (fun vs => spIni C vs (fV vs)) n (tA G W ua) σ H Q := by
  obtain ⟨B, F, δ, Qd, Rd, rs, h, k, xk⟩ := t
  refine tG_then rs h xk fun ds δ1 q B1 F1 H1 vs st1 rs1 r1 => ?_
  obtain ⟨hl, q⟩ := q
  refine ⟨by rw [r1.length]; exact hl, fun a ha => ⟨a, rfl, upd_same, fun d H' hd hda h1 h2 h3 => ⟨rfl, ?_⟩⟩⟩
  have hd' : H1 d = none := by rw [upd_ne hda] at hd; exact hd
  have c1 := rs1.toFr0.newH (o := exo a C none) ha
  have eH : H' = upd (upd H1 a (exo a C (some d))) d (exd d (fV vs)) := funext fun b => by
    by_cases hb : b = d
    · rw [hb, upd_same, h2]
    · rw [upd_ne hb]
      by_cases hba : b = a
      · rw [hba, upd_same, h1]
      · rw [upd_ne hba, h3 b hba hb, upd_ne hba]
  have f1 : Fr0 ⟨G.K, F1, H1, B1⟩ B1 F1 (upd H1 a (exo a C (some d))) := rs1.toFr0.newH ha
  have hd2 : upd H1 a (exo a C (some d)) d = none := by rw [upd_ne hda]; exact hd'
  have f2 : Fr0 ⟨G.K, F1, H1, B1⟩ B1 F1 H' := by
    rw [eH]
    have z := f1.newH (o := exd d (fV vs)) hd2
    exact ⟨z.sub, z.low, fun b o hb => .inl hb, fun b o hb hB => same_upd hd2 b o (same_upd ha b o hb), fun b hb => hb, fun hn b hb => (by rw [show B1 = none from hn] at hb; cases hb), z.bag⟩
  have nFa : F1 a = none := rs1.toFr0.noF ha
  have nFd : F1 d = none := rs1.toFr0.noF hd'
  have f3 := f2.freezeO (p := a) ha nFa (rs1.toFr0.noB ha) h1
  have f4 := f3.freezeO (p := d) hd' (by rw [upd_ne hda]; exact nFd) (rs1.toFr0.noB hd') h2
  obtain ⟨rs2, st2⟩ := rs1.call f4
  refine k _ _ q B1 _ H' (.ref a) (st1.trans st2) rs2 (.exi (d := d) (by rw [upd_ne (Ne.symm hda), upd_same]) upd_same ((hf B1 F1 vs ds r1).mono st2.le fun _ h => h))
theorem qv_exV {x : Str} {j k n : Nat} {fD : List D → List (Str × D)} {ua : UA} (U : ExV X.prog X.w X.K X.mg X.base j x n fD) (hr : Room k X.A) (hjk : j + 1 ≤ k) (hg : Gl X x) (ha : QA G W X (e :: es) ua) (hk : X.K = G.K := by rfl) (hdb : (x == ("__debug__" : Str)) = false := by decide)
    (he : starEach (e :: es) X.env = (false, eval e X.env) :: starEach es X.env := by rfl) (hpl : (backTo pos (starEach es X.env)).any (·.1) = false := by rfl) : QV G W X (.Call (.Name x p) (e :: es) [] pos) (uExV (He.ga X.K x) n fD ua) := by
  obtain ⟨Bt, nI, iI, tl, fI, fd, ps, fV, T, iC, tI, F, b, g, hn, hf⟩ := U.ex
  exact pe_mono (pe_exV T iC tI hn F (hr.mono hjk) b hg g ha hdb he hpl) fun σ H Q t => t_exV (by rw [← hk]; exact hf) t
theorem qv_exV0 {x : Str} {j k : Nat} {fD : List D → List (Str × D)} (U : ExV X.prog X.w X.K X.mg X.base j x 0 fD) (hr : Room k X.A) (hjk : j + 1 ≤ k) (hg : Gl X x) (hk : X.K = G.K := by rfl) (hdb : (x == ("__debug__" : Str)) = false := by decide) : QV G W X (.Call (.Name x p) [] [] pos) (uExV (He.ga X.K x) 0 fD uNil) := by
  obtain ⟨Bt, nI, iI, tl, fI, fd, ps, fV, T, iC, tI, F, b, g, hn, hf⟩ := U.ex
  refine pe_mono (pe_exV0 T iC tI F (hr.mono hjk) b hg g hdb) fun σ H Q t => ?_
  have z := t_exV (by rw [← hk]; exact hf) t
  obtain ⟨B, F', δ, Qd, Rd, rs, h, k2, x2⟩ := z
  exact k2 _ _ h B F' H [] Stp.refl rs .nil
theorem rp_exi {K : PySem.W.Frag} {B : Option Addr} {F : Hp} {v : V} {C : Addr} {gs : List (Str × D)} (r : Rp K B F v (.exi C gs)) : ∃ a d fs, v = .ref a ∧ F a = some (exo a C (some d)) ∧ F d = some (exd d fs) ∧ RpF K B F fs gs := by
  cases r with
  | exi h h2 r => exact ⟨_, _, _, rfl, h, h2, r⟩
theorem exi_at {pins : List (Addr × Obj)} {σ : L2.St} {H : Hp} {s : Shared} {a d C : Addr} {fs : List (Str × V)} (I : Inv X pins σ H s) (ha : H a = some (exo a C (some d))) (hd : H d = some (exd d fs)) :
    ∃ (ox od : Obj) (mA : Str → Option Value), PySem.W.InstAt s.heap a ox C (some od) ∧ (∀ f, RelO (fs.lookup f) (mA f)) ∧ (∀ f, PySem.W.lookIn f od = some (mA f)) := by
  obtain ⟨t0, ho⟩ := exo_at I.hok ha
  obtain ⟨mA, hns, rel⟩ := exd_at I.hok hd
  obtain ⟨od, hod, hl⟩ := lookIn_ns hns
  exact ⟨_, od, mA, ⟨ho, rfl, rfl, hod⟩, rel, hl⟩
/-- e.f of an exception that is held; xs: what it may be -/
@[simp] def uXi (K : PySem.W.Frag) (xs : List Str) (f : Str) (u : UV) : UV := fun δ Q R => u δ (fun d δ1 => match d with
  | .exi C gs => (∃ x, x ∈ xs ∧ C = He.ga K x) ∧ (match gs.lookup f with | some e => Q e δ1 | none => False)
  | _ => False) R
def tXi (K : PySem.W.Frag) (f : Str) (te : TE) : TE := fun σ H Q => te σ H fun x H1 => ∃ a C d fs v, x = .ref a ∧ XfC K C ∧ PySem.W.findIn K (.ref C) f = some none ∧ H1 a = some (exo a C (some d)) ∧ H1 d = some (exd d fs) ∧ fs.lookup f = some v ∧ Q v H1
theorem pe_xi {f : Str} {te : TE} (he : PE X e te) (hb : attributeBase e f X.env (eval e X.env) = eval e X.env := by rfl) : PE X (.Attribute e f pos) (tXi X.K f te) := by
  refine ⟨fun pins s σ H Q I h => ?_⟩
  refine attr_of hb (thn (he.run pins s σ H _ I h) fun u s1 hh => ?_)
  obtain ⟨x, H1, I1, rx, a, C, d, fs, v, ex, T, hno, ha, hd, l, q⟩ := hh
  subst ex
  obtain rfl : u = Value.ref a := rx
  obtain ⟨ox, od, mA, J, rel, hl⟩ := exi_at I1 ha hd
  obtain ⟨y, hy, ry⟩ := RelO.some_of (v := v) (o := mA f) (l ▸ rel f)
  have found := PySem.W.findObj_own T.hdC hno rfl (show PySem.W.lookIn f od = some (some y) by rw [hl, hy])
  exact HandSPX.exc_get I1.kIn J T.ga T.gg T.exC found (handed_of ry) ⟨v, H1, I1.tok _, ry, q⟩
theorem qv_xi {f : Str} {xs : List Str} {u : UV} (T : ∀ x ∈ xs, XfC X.K (He.ga X.K x) ∧ PySem.W.findIn X.K (.ref (He.ga X.K x)) f = some none) (he : QV G W X e u) (hb : attributeBase e f X.env (eval e X.env) = eval e X.env := by rfl) : QV G W X (.Attribute e f pos) (uXi X.K xs f u) :=
  pe_mono (pe_xi he hb) fun σ H Q ⟨B, F, δ, Qd, Rd, rs, h, k, xk⟩ => tG_then rs h xk fun d δ1 q B1 F1 H1 v st1 rs1 r1 => by
    split at q
    · rename_i C gs
      obtain ⟨⟨x, hx, rfl⟩, q⟩ := q
      split at q
      · rename_i e' he'
        obtain ⟨a, dd, fs, rfl, ha, hd, rf⟩ := rp_exi r1
        obtain ⟨v', l, rv⟩ := rf.lookup he'
        exact ⟨a, _, dd, fs, v', rfl, (T x hx).1, (T x hx).2, rs1.sub _ _ ha, rs1.sub _ _ hd, l, k _ _ q B1 F1 H1 _ st1 rs1 rv⟩
      · exact q.elim
    · exact q.elim
/-- isinstance(e, T) of an exception that is held: T a built-in class by its name, or an own one -/
def rIsE (K : PySem.W.Frag) : List V → Hp → VK → Prop := fun xs H Q => ∃ (a C d : Addr) (fs : List (Str × V)) (T0 : String) (b0 b : Bool) (c : V) (u : Value), xs = [.ref a, c] ∧ ClsV c u ∧ IsX K C T0 b0 ∧ H a = some (exo a C (some d)) ∧ H d = some (exd d fs) ∧ PySem.W.kitOne K (.ref C) u = some b ∧ Q (.bl b) H
theorem call_isE : CallR X (.builtin "isinstance") (rIsE X.K) := by
  intro pins s σ H xs us Q I r h
  obtain ⟨a, C, d, fs, T0, b0, b, c, u, rfl, k, Z, ha, hd, e, q⟩ := h
  obtain ⟨u1, u2, rfl, r1, r2⟩ := vals2 r
  have e2 := k.eq r2
  subst e2
  obtain rfl : u1 = Value.ref a := r1
  obtain ⟨ox, od, mA, J, rel, hl⟩ := exi_at I ha hd
  exact PySem.W.kia_one (isx_kit Z) I.kIn J e (fun z => nomatch z) fun tk => ⟨.bl b, H, I.tok tk, rfl, q⟩
/-- the class of the program called y, as a value -/
theorem qv_cls {y : Str} (hg : Gl X y) (hm : X.mg y = some (.ref (He.ga X.K y))) (hdb : (y == ("__debug__" : Str)) = false := by decide) : QV G W X (.Name y p) (uC (.obj (He.ga X.K y))) :=
  qv_glob (v := .ref (He.ga X.K y)) hg hm rfl (fun _ _ => .obj _) hdb
@[simp] def gIsE (K : PySem.W.Frag) (xs : List Str) (ts : List String) (os : List Str) (tt : Str → String → Bool) (tab : Str → Str → Bool) : GA := fun ds Q => match ds with
  | [.exi C _, .ty T] => ∃ x, x ∈ xs ∧ C = He.ga K x ∧ T ∈ ts ∧ Q (.bl (tt x T))
  | [.exi C _, .obj A] => ∃ x y, x ∈ xs ∧ C = He.ga K x ∧ y ∈ os ∧ A = He.ga K y ∧ Q (.bl (tab x y))
  | _ => False
structure IsE (K : PySem.W.Frag) (xs : List Str) (ts : List String) (os : List Str) (tt : Str → String → Bool) (tab : Str → Str → Bool) : Prop where
  ob : ∀ x ∈ xs, IsX K (He.ga K x) "BaseException" true
  ty : ∀ x ∈ xs, ∀ T ∈ ts, PySem.W.kitOne K (.ref (He.ga K x)) (.type T) = some (tt x T)
  os : ∀ x ∈ xs, ∀ y ∈ os, PySem.W.kitOne K (.ref (He.ga K x)) (.ref (He.ga K y)) = some (tab x y)
def iseB (K : PySem.W.Frag) (xs : List Str) (ts : List String) (os : List Str) (tt : Str → String → Bool) (tab : Str → Str → Bool) : Bool := (xs.all fun x => isxB K (He.ga K x) "BaseException" true) && ((xs.all fun x => ts.all fun T => decide (PySem.W.kitOne K (.ref (He.ga K x)) (.type T) = some (tt x T))) && xs.all fun x => os.all fun y => decide (PySem.W.kitOne K (.ref (He.ga K x)) (.ref (He.ga K y)) = some (tab x y)))
theorem iseB_ok {K : PySem.W.Frag} {xs : List Str} {ts : List String} {os : List Str} {tt : Str → String → Bool} {tab : Str → Str → Bool} (h : iseB K xs ts os tt tab = true) : IsE K xs ts os tt tab := by
  obtain ⟨h1, h⟩ := Bool.and_eq_true_iff.mp h
  obtain ⟨h2, h3⟩ := Bool.and_eq_true_iff.mp h
  exact ⟨fun x hx => isxB_ok (List.all_eq_true.mp h1 x hx), fun x hx T hT => of_decide_eq_true (List.all_eq_true.mp (List.all_eq_true.mp h2 x hx) T hT), fun x hx y hy => of_decide_eq_true (List.all_eq_true.mp (List.all_eq_true.mp h3 x hx) y hy)⟩
theorem cad_isE {K : PySem.W.Frag} {xs : List Str} {ts : List String} {os : List Str} {tt : Str → String → Bool} {tab : Str → Str → Bool} (Z : IsE K xs ts os tt tab) (hk : K = G.K) : CaD G.K (rIsE K) (gIsE K xs ts os tt tab) := fun B F H vs ds Qd Q sm r g k => by
  subst hk
  unfold gIsE at g
  split at g
  · obtain ⟨x, hx, rfl, hT, g⟩ := g
    obtain ⟨v, v', rfl, z, z'⟩ := rpl2 r
    cases rp_ty z'
    obtain ⟨a, dd, fs, rfl, ha, hd, rf⟩ := rp_exi z
    exact ⟨a, _, dd, fs, _, _, _, _, _, rfl, .ty _, Z.ob x hx, sm _ _ ha, sm _ _ hd, Z.ty x hx _ hT, k _ _ g (.bl _)⟩
  · obtain ⟨x, y, hx, rfl, hy, rfl, g⟩ := g
    obtain ⟨v, v', rfl, z, z'⟩ := rpl2 r
    cases z'
    obtain ⟨a, dd, fs, rfl, ha, hd, rf⟩ := rp_exi z
    exact ⟨a, _, dd, fs, _, _, _, _, _, rfl, .own _, Z.ob x hx, sm _ _ ha, sm _ _ hd, Z.os x hx y hy, k _ _ g (.bl _)⟩
  · exact g.elim
theorem qv_isE {xs : List Str} {ts : List String} {os : List Str} {tt : Str → String → Bool} {tab : Str → Str → Bool} {ua : UA} (Z : IsE X.K xs ts os tt tab) (hg : Gl X "isinstance") (hm : X.mg "isinstance" = none) (ha : QA G W X [e, t] ua) (hk : X.K = G.K := by rfl)
    (he : starEach [e, t] X.env = (false, eval e X.env) :: starEach [t] X.env := by rfl) (hpl : (backTo pos (starEach [t] X.env)).any (·.1) = false := by rfl) :
    QV G W X (.Call (.Name "isinstance" p) [e, t] [] pos) (uCaB (gIsE X.K xs ts os tt tab) ua) :=
  qv_cb call_isE (cad_isE Z hk) hg hm (by decide +kernel) ha (he := he) (hpl := hpl)
end
end DL

set_option Elab.async false
set_option linter.all false
set_option maxRecDepth 100000
namespace DL
open PySem PySem.Spec PyProof.Rows L2
section
variable {G : Gx} {W : WX} {X : Cx} {a b : Expr} {pos : Pos}
/-- two tuples put together -/
@[simp] def uCatT (ua ub : UV) : UV := fun δ Q R => ua δ (fun x δ1 => ub δ1 (fun y δ2 => match x, y with
  | .tup ds, .tup es => ds.length + es.length ≤ 16777216 ∧ Q (.tup (ds ++ es)) δ2
  | _, _ => False) R) R
theorem qv_catT {ua ub : UV} (ha : QV G W X a ua) (hb : QV G W X b ub) (hk : X.K = G.K := by rfl) : QV G W X (.BinOp a .Add b pos) (uCatT ua ub) := pe_mono (pe_op op_catA ha hb) fun σ H Q ⟨B, F, δ, Qd, Rd, rs, h, k, x⟩ =>
  tG_then rs h x fun d1 δ1 q B1 F1 H1 v st1 rs1 r1 => tG_then rs1 q (x.later st1.toLe) fun d2 δ2 q2 B2 F2 H2 w st2 rs2 r2 => by
    rw [hk]
    split at q2
    · rename_i ds es
      obtain ⟨hz, q2⟩ := q2
      obtain ⟨p1, xs, rfl, h1, e1⟩ := rp_tup (st2.rp r1)
      obtain ⟨p2, ys, rfl, h2, e2⟩ := rp_tup r2
      have st := st1.trans st2
      refine ⟨p1, p2, xs, ys, rfl, rfl, sqT_mono rs2.sub h1, sqT_mono rs2.sub h2, by rw [sizeLine_eq, e1.length, e2.length]; exact hz, fun hx => ?_, fun hx hy => ?_, fun hx hy p hp => ?_⟩
      · subst hx
        cases e1
        exact k _ _ q2 _ _ _ _ st rs2 (.tup h2 e2)
      · subst hy
        cases e2
        rw [List.append_nil] at q2
        exact k _ _ q2 _ _ _ _ st rs2 (.tup h1 e1)
      · obtain ⟨rs3, st3⟩ := rs2.call (rs2.toFr0.newF (o := .tup (xs ++ ys)) hp)
        exact k _ _ q2 _ _ _ _ (st.trans st3) rs3 (.tup (.inl (.inl upd_same)) (st3.rpl (e1.append e2)))
    · exact q2.elim
end
end DL

set_option Elab.async false
set_option linter.all false
set_option maxRecDepth 100000
namespace DL
open PySem PySem.Spec PyProof.Rows L2
/-! ### sizes by greatest numerators -/
def Cn (D : Int) (N : Nat) (x : Rat) : Prop := ∃ n : Int, x = Rat.divInt n D ∧ n.natAbs ≤ N
theorem Cn.mul {D E : Int} {m k : Nat} {x y : Rat} : Cn D m x → Cn E k y → Cn (D * E) (m * k) (x * y)
  | ⟨a, e1, h1⟩, ⟨b, e2, h2⟩ => ⟨a * b, by rw [e1, e2, Rat.divInt_mul_divInt], by rw [Int.natAbs_mul]; exact Nat.mul_le_mul h1 h2⟩
theorem Cn.add {D : Int} {m k : Nat} {x y : Rat} (hD : D ≠ 0) : Cn D m x → Cn D k y → Cn D (m + k) (x + y)
  | ⟨a, e1, h1⟩, ⟨b, e2, h2⟩ => ⟨a + b, by rw [e1, e2, Rat.divInt_add_divInt _ _ hD hD, ← Int.add_mul, Rat.divInt_mul_right hD], by omega⟩
theorem Cn.zero {D : Int} {m : Nat} : Cn D m 0 := ⟨0, by rw [Rat.zero_divInt], Nat.zero_le _⟩
theorem Cn.mono {D : Int} {m k : Nat} {x : Rat} (h : Cn D m x) (e : m ≤ k) : Cn D k x := by
  obtain ⟨a, e1, h1⟩ := h
  exact ⟨a, e1, by omega⟩
theorem Cn.cd {D : Int} {N m : Nat} {x : Rat} (h : Cn D N x) (e : N < 2 ^ m) : Cd D m x := by
  obtain ⟨a, e1, h1⟩ := h
  exact ⟨a, e1, by unfold Sz; omega⟩
theorem conv_cn {p q : List Rat} {D E : Int} {m k : Nat} (hD : D ≠ 0) (hE : E ≠ 0) (hp : ∀ j, Cn D m (p.getD j 0)) (hq : ∀ j, Cn E k (q.getD j 0)) : ∀ n j, Cn (D * E) (n * (m * k)) (convN p q n j)
  | 0, j => Cn.zero
  | n + 1, j => by
    unfold convN
    rw [Nat.succ_mul]
    refine (conv_cn hD hE hp hq n j).add (Int.mul_ne_zero hD hE) ?_
    split
    · exact (hp n).mul (hq _)
    · exact Cn.zero
theorem mulQ_cn {p q : List Rat} {D E : Int} {m k : Nat} (hD : D ≠ 0) (hE : E ≠ 0) (hp : ∀ j, Cn D m (p.getD j 0)) (hq : ∀ j, Cn E k (q.getD j 0)) (j : Nat) : Cn (D * E) (p.length * (m * k)) ((stripQ (mulQ p q)).getD j 0) := by
  rw [strip_get, mulQ_get]
  exact conv_cn hD hE hp hq _ j
/-! ### rows cut where nothing stands -/
theorem strip_lt {p : List Rat} {m : Nat} (h : ∀ j, m ≤ j → p.getD j 0 = 0) : (stripQ p).length ≤ m := by
  rw [strip_len]
  rcases Nat.lt_or_ge m (cutN p p.length) with g | g
  · have e : cutN p p.length = (cutN p p.length - 1) + 1 := by omega
    exact absurd (h _ (by omega)) (cutN_ne _ _ e)
  · exact g
theorem mul_len {p q : List Rat} (hq : 1 ≤ q.length) : (stripQ (mulQ p q)).length ≤ p.length + q.length - 1 := strip_lt fun j hj => by
  rw [mulQ_get]
  exact conv_far _ _ (by omega)
theorem rem_short {p q : List Rat} (h3 : 1 ≤ q.length) (hq : q.getD (q.length - 1) 0 ≠ 0) : (stripQ (remQ p q)).length < q.length := by
  have := strip_lt (p := remQ p q) (m := q.length - 1) fun j hj => rem_top h3 hq j (by omega)
  omega
/-! ### products of many rows -/
def prodQ (ps : List (List Rat)) : List Rat := ps.foldl (fun f p => stripQ (mulQ f p)) [1]
theorem prod_take {ps : List (List Rat)} {i : Nat} (h : i < ps.length) : prodQ (ps.take (i + 1)) = stripQ (mulQ (prodQ (ps.take i)) (ps.getD i [])) := by
  unfold prodQ
  rw [List.take_succ_eq_append_getElem h, List.foldl_append, List.getD_eq_getElem?_getD, List.getElem?_eq_getElem h]
  rfl
theorem prod_snoc {ps : List (List Rat)} {p : List Rat} : prodQ (ps ++ [p]) = stripQ (mulQ (prodQ ps) p) := by
  unfold prodQ
  rw [List.foldl_append]
  rfl
theorem prod_strip {ps : List (List Rat)} : stripQ (prodQ ps) = prodQ ps := by
  rcases List.eq_nil_or_concat ps with rfl | ⟨qs, p, rfl⟩
  · rfl
  · rw [List.concat_eq_append, prod_snoc, strip_strip]
/-! ### chains -/
def negrem (p q : List Rat) : List Rat := stripQ (scaleQ (stripQ (remQ p q)) (-1))
def chQ : Nat → List Rat → List Rat → List (List Rat)
  | 0, _, _ => []
  | f + 1, p, q => if q = [] then [] else q :: chQ f q (negrem p q)
def chL (p : List Rat) : List (List Rat) := p :: chQ (p.length + 1) p (stripQ (slopeQ p))
def fits : Nat → Nat → Nat → Nat → Nat → Bool
  | 0, _, _, _, _ => true
  | f + 1, lp, x, lq, y => decide (lq * (y + 4) + 5 ≤ 44000000) && (if lq ≤ 1 then decide (x + y ≤ 44000000) else decide (x + (lp + 1 - lq) * (y + 1) + y ≤ 44000000) && (List.range lq).all fun l => fits f lq y l (x + (lp + 1 - lq) * (y + 1)))
structure RowOk (p : List Rat) : Prop where
  ex : ∃ s, (∀ j, SzQ s (p.getD j 0)) ∧ p.length * (s + 4) + 5 ≤ 44000000
  len : p.length ≤ 800
structure ChSt (f : Nat) (p q : List Rat) : Prop where
  ex : ∃ (D E : Int) (x y : Nat), D ≠ 0 ∧ E ≠ 0 ∧ Sz x D ∧ Sz y E ∧ (∀ j, Cd D x (p.getD j 0)) ∧ (∀ j, Cd E y (q.getD j 0)) ∧ fits f p.length x q.length y = true
  sp : stripQ p = p
  sq : stripQ q = q
  lt : q.length < f
  le : q.length ≤ p.length
  l9 : p.length ≤ 800
/-- the sizes that the program's division wants, turn by turn, where the second row is one number -/
theorem divOk_one {q : List Rat} (hl : q.length = 1) {D : Int} {d m : Nat} (hD : D ≠ 0) (sD : Sz d D) (hd : d ≤ 44000000) (hm : m ≤ 44000000) (hb : ∀ x, Cd D m x → SzQ 44000000 (x / q.getD 0 0)) (hq : q.getD 0 0 ≠ 0) : ∀ (n : Nat) (r : List Rat), (∀ j, Cd D m (r.getD j 0)) → DivOk q n r
  | 0, _, _ => True.intro
  | n + 1, r, hr => by
    have ec : divC q n r = r.getD n 0 / q.getD 0 0 := by
      unfold divC
      rw [hl]
      rfl
    have e0 : -divC q n r * q.getD 0 0 = -r.getD n 0 := by
      rw [ec, Rat.neg_mul, Rat.div_mul_cancel hq]
    have hs : ∀ x, Cd D m x → SzQ 44000000 x := fun x h => h.szq hD (sD.mono hd) hm
    refine ⟨fun j => hs _ (hr j), by rw [ec]; exact hb _ (hr n), fun i => ?_, divOk_one hl hD sD hd hm hb hq n _ fun j => ?_⟩
    · cases i with
      | zero => rw [e0]; exact hs _ (hr n).neg
      | succ i =>
        rw [getD_off (p := q) (by omega), Rat.mul_zero]
        exact szq_zero
    · rcases mulRow_get' (q := q) (c := -divC q n r) (a := n) (r := r) (j := j) q.length with h | ⟨i, h1, h2, h3⟩
      · rw [h]; exact hr j
      · have hi : i = 0 := by omega
        subst hi
        rw [h3, e0, ← h2, Nat.add_zero, Rat.add_neg_cancel]
        exact Cd.zero
/-- .. and that the law's own division wants -/
def RestOk (q : List Rat) : Nat → List Rat → Prop
  | 0, _ => True
  | n + 1, r => q.length ≤ r.length → (∀ j, SzQ 44000000 (r.getD j 0)) ∧ SzQ 44000000 (divC q (r.length - q.length) r) ∧ (∀ i, SzQ 44000000 (divC q (r.length - q.length) r * q.getD i 0)) ∧ RestOk q n (stripQ (turnQ q r).dropLast)
theorem szq_neg {n : Nat} {x : Rat} (h : SzQ n (-x)) : SzQ n x := by
  have := h.neg
  rwa [Rat.neg_neg] at this
theorem restOk_cd {q : List Rat} {E t : Int} {e s : Nat} (v : DivBy q E t e s) : ∀ (n : Nat) {D : Int} {d m : Nat} {r : List Rat}, D ≠ 0 → Sz d D → (∀ j, Cd D m (r.getD j 0)) → d + (r.length + 1 - q.length) * s ≤ 44000000 → m + (r.length + 1 - q.length) * (s + 1) + e ≤ 44000000 → RestOk q n r
  | 0, _, _, _, _, _, _, _, _, _ => True.intro
  | n + 1, D, d, m, r, hD, sD, hr, b1, b2 => fun hl => by
    have en : r.length + 1 - q.length = (r.length - q.length) + 1 := by omega
    have ok := v.ok (n := r.length + 1 - q.length) hD sD hr b1 b2
    rw [en] at ok
    obtain ⟨z1, z2, z3, _⟩ := ok
    have l1 := v.len
    have short : (stripQ (turnQ q r).dropLast).length < r.length := turnQ_short (by omega)
    have mo : ∀ x : Nat, (r.length + 1 - q.length) * x = (r.length - q.length) * x + x := fun x => by rw [en, Nat.succ_mul]
    have mo2 : ∀ x : Nat, ((stripQ (turnQ q r).dropLast).length + 1 - q.length) * x ≤ (r.length - q.length) * x := fun x => Nat.mul_le_mul_right _ (by omega)
    have m1 := mo s
    have m2 := mo (s + 1)
    have m3 := mo2 s
    have m4 := mo2 (s + 1)
    exact ⟨z1, z2, fun i => szq_neg (by rw [← Rat.neg_mul]; exact z3 i), restOk_cd v n (Int.mul_ne_zero hD v.ht) (sD.mulB v.st) (turn_step v hD hr hl) (by omega) (by omega)⟩
theorem restOk_one {q : List Rat} (hl : q.length = 1) {D : Int} {d m : Nat} (hD : D ≠ 0) (sD : Sz d D) (hd : d ≤ 44000000) (hm : m ≤ 44000000) (hb : ∀ x, Cd D m x → SzQ 44000000 (x / q.getD 0 0)) (hq : q.getD 0 0 ≠ 0) : ∀ (n : Nat) (r : List Rat), (∀ j, Cd D m (r.getD j 0)) → RestOk q n r
  | 0, _, _ => True.intro
  | n + 1, r, hr => fun hlr => by
    have ec : divC q (r.length - q.length) r = r.getD (r.length - 1) 0 / q.getD 0 0 := by
      unfold divC
      rw [hl, show r.length - 1 + 1 - 1 = r.length - 1 by omega]
    have e0 : divC q (r.length - q.length) r * q.getD 0 0 = r.getD (r.length - 1) 0 := by
      rw [ec, Rat.div_mul_cancel hq]
    have hs : ∀ x, Cd D m x → SzQ 44000000 x := fun x h => h.szq hD (sD.mono hd) hm
    refine ⟨fun j => hs _ (hr j), by rw [ec]; exact hb _ (hr _), fun i => ?_, restOk_one hl hD sD hd hm hb hq n _ fun j => ?_⟩
    · cases i with
      | zero => rw [e0]; exact hs _ (hr _)
      | succ i =>
        rw [getD_off (p := q) (by omega), Rat.mul_zero]
        exact szq_zero
    · rw [turnQ_drop (by omega) (by rw [hl]; exact hq) hlr, turnQ_get (by omega) hlr]
      split
      · rename_i h
        by_cases e : j = r.length - q.length
        · subst e
          rw [Nat.sub_self, Rat.neg_mul, e0, hl, Rat.add_neg_cancel]
          exact Cd.zero
        · rw [getD_off (p := q) (by omega), Rat.mul_zero, Rat.add_zero]
          exact hr _
      · rw [Rat.add_zero]; exact hr _
theorem ChSt.step {f : Nat} {p q : List Rat} (c : ChSt (f + 1) p q) (hq : q ≠ []) : (∀ i, SzQ 44000000 (q.getD i 0)) ∧ DivOk q (p.length + 1 - q.length) p ∧ (∀ n, RestOk q n p) ∧ (∀ i, SzQ 44000000 ((stripQ (remQ p q)).getD i 0)) ∧ RowOk q ∧ ChSt f q (negrem p q) := by
  obtain ⟨D, E, x, y, hD, hE, sD, sE, hp, hqc, ft⟩ := c.ex
  have ne := strip_top c.sq hq
  have l1 : 1 ≤ q.length := List.length_pos_iff.mpr hq
  have short := rem_short (p := p) l1 ne
  have lneg : (negrem p q).length < q.length := by
    have h1 := strip_le (scaleQ (stripQ (remQ p q)) (-1))
    rw [scale_len] at h1
    unfold negrem
    omega
  have le := c.le
  have l9 := c.l9
  have lt := c.lt
  unfold fits at ft
  rw [Bool.and_eq_true, decide_eq_true_eq] at ft
  obtain ⟨f1, f2⟩ := ft
  have hy : y ≤ 43999991 := by
    have : 1 * (y + 4) ≤ q.length * (y + 4) := Nat.mul_le_mul_right _ l1
    omega
  have ro : RowOk q := ⟨⟨y, fun j => (hqc j).szq hE sE (Nat.le_refl _), f1⟩, by omega⟩
  have qs : ∀ i, SzQ 44000000 (q.getD i 0) := fun i => (hqc i).szq hE (sE.mono (by omega)) (by omega)
  by_cases h1 : q.length ≤ 1
  · rw [if_pos h1, decide_eq_true_eq] at f2
    have hl : q.length = 1 := by omega
    have ne0 : q.getD 0 0 ≠ 0 := by
      rw [hl] at ne
      exact ne
    obtain ⟨t, e1, e2⟩ := hqc 0
    have ht : t ≠ 0 := fun z => ne0 (by rw [e1, z, Rat.zero_divInt])
    have hb : ∀ z, Cd D x z → SzQ 44000000 (z / q.getD 0 0) := fun z hz => by
      rw [e1]
      exact (hz.share hD ht hE sE).szq (Int.mul_ne_zero hD ht) ((sD.mulB e2).mono f2) f2
    have r0 : stripQ (remQ p q) = [] := List.length_eq_zero_iff.mp (by omega)
    have n0 : negrem p q = [] := List.length_eq_zero_iff.mp (by omega)
    refine ⟨qs, divOk_one hl hD sD (by omega) (by omega) hb ne0 _ _ hp, fun n => restOk_one hl hD sD (by omega) (by omega) hb ne0 n p hp, fun i => by rw [r0]; exact szq_zero, ro, ?_⟩
    refine ⟨⟨E, 1, y, 1, hE, by decide, sE, (by unfold Sz; decide), hqc, fun j => by rw [n0]; exact Cd.zero, ?_⟩, c.sq, strip_strip _, by omega, by omega, by omega⟩
    rw [n0]
    cases f with
    | zero => rfl
    | succ f =>
      show fits (f + 1) q.length y 0 1 = true
      unfold fits
      rw [if_pos (by omega), Bool.and_eq_true, decide_eq_true_eq, decide_eq_true_eq]
      omega
  · rw [if_neg h1, Bool.and_eq_true, decide_eq_true_eq] at f2
    obtain ⟨f2, f3⟩ := f2
    obtain ⟨t, v⟩ := div_by c.sq hq hE sE hqc
    have mo : (p.length + 1 - q.length) * (y + 1) = (p.length + 1 - q.length) * y + (p.length + 1 - q.length) := Nat.mul_succ ..
    have b1 : x + (p.length + 1 - q.length) * y ≤ 44000000 := by omega
    obtain ⟨_, cr⟩ := v.res (p := p) hD hp
    have nD : D * t ^ (p.length + 1 - q.length) ≠ 0 := Int.mul_ne_zero hD (Int.pow_ne_zero v.ht)
    have sDt : Sz (x + (p.length + 1 - q.length) * (y + 1)) (D * t ^ (p.length + 1 - q.length)) := (sD.mulB (v.st.pow _)).mono (by omega)
    have cr' : ∀ j, Cd (D * t ^ (p.length + 1 - q.length)) (x + (p.length + 1 - q.length) * (y + 1)) ((negrem p q).getD j 0) := fun j => by
      unfold negrem
      rw [strip_get, neg_scale, strip_get]
      exact (cr j).neg
    refine ⟨qs, v.ok hD sD hp b1 f2, fun n => restOk_cd v n hD sD hp b1 f2, fun i => ?_, ro, ⟨⟨E, _, y, _, hE, nD, sE, sDt, hqc, cr', ?_⟩, c.sq, strip_strip _, by omega, by omega, by omega⟩⟩
    · rw [strip_get]
      exact (cr i).szq nD (sDt.mono (by omega)) (by omega)
    · exact List.all_eq_true.mp f3 _ (List.mem_range.mpr lneg)
theorem ChSt.rows : ∀ {f : Nat} {p q : List Rat}, ChSt f p q → ∀ r ∈ chQ f p q, RowOk r
  | 0, _, _, _, _, h => nomatch h
  | f + 1, p, q, c, r, h => by
    unfold chQ at h
    split at h
    · cases h
    · rename_i hq
      obtain ⟨_, _, _, _, ro, c'⟩ := c.step hq
      rcases List.mem_cons.mp h with rfl | h
      · exact ro
      · exact ChSt.rows c' r h
theorem chQ_len : ∀ f p q, (chQ f p q).length ≤ f
  | 0, _, _ => Nat.le_refl _
  | f + 1, p, q => by
    unfold chQ
    split
    · exact Nat.zero_le _
    · have := chQ_len f q (negrem p q)
      rw [List.length_cons]
      omega
/-! ### worths of rows and the turns of their signs -/
def WorthOk (z : Rat) (p : List Rat) : Prop := p.length ≤ 1000 ∧ SzQ 44000000 z ∧ (∀ i, SzQ 44000000 (p.getD i 0)) ∧ (∀ i, SzQ 44000000 (worthQ z (p.drop i)) ∧ SzQ 44000000 (worthQ z (p.drop i) * z)) ∧ (∀ i, i < p.length → SzQ 44000000 (patQ z (p.take i) 0 1) ∧ SzQ 44000000 (z ^ i) ∧ SzQ 44000000 (p.getD i 0 * z ^ i)) ∧ SzQ 44000000 (worthQ z p)
theorem RowOk.worth {z : Rat} (hz : SzQ 3 z) {p : List Rat} (h : RowOk p) : WorthOk z p := by
  obtain ⟨s, hs, hl⟩ := h.ex
  have l9 := h.len
  have drp : ∀ i, SzQ 43999996 (worthQ z (p.drop i)) := fun i => by
    have e : (p.drop i).length * (s + 3 + 1) ≤ p.length * (s + 4) := Nat.mul_le_mul_right _ (by rw [List.length_drop]; omega)
    exact (worth_sz (s := s) hz (p.drop i) (fun j => by rw [drop_get]; exact hs _)).mono (by omega)
  have sle : p.length ≠ 0 → s ≤ 43999991 := fun h => by
    have : 1 * (s + 4) ≤ p.length * (s + 4) := Nat.mul_le_mul_right _ (by omega)
    omega
  have h0 : ∀ j, SzQ 43999991 (p.getD j 0) := fun j => by
    by_cases e : p.length = 0
    · rw [getD_off (p := p) (by omega)]; exact szq_zero
    · exact (hs j).mono (sle e)
  refine ⟨by omega, hz.mono (by decide), fun i => (h0 i).mono (by decide), fun i => ⟨(drp i).mono (by decide), ((drp i).mul hz).mono (by decide)⟩, fun i hi => ⟨?_, ?_, ?_⟩, ?_⟩
  · have e : (p.take i).length * (s + 3 + 1) ≤ p.length * (s + 4) := Nat.mul_le_mul_right _ (by rw [List.length_take]; omega)
    rw [pat_worth]
    by_cases hsz : 1 ≤ s
    · exact (worth_sz (s := s) hz (p.take i) (fun j => take_sz (P := SzQ s) hs (szq_zero hsz) i j)).mono (by omega)
    · have s1 : ∀ j, SzQ 1 (p.getD j 0) := fun j => (hs j).mono (by omega)
      have e2 : (p.take i).length * (1 + 3 + 1) ≤ p.length * 5 := Nat.mul_le_mul_right _ (by rw [List.length_take]; omega)
      have e3 : s = 0 := by omega
      rw [e3] at hl
      exact (worth_sz (s := 1) hz (p.take i) (fun j => take_sz (P := SzQ 1) s1 szq_zero i j)).mono (by omega)
  · have : p.length * 4 ≤ p.length * (s + 4) := Nat.mul_le_mul_left _ (by omega)
    exact (pow_sz hz i).mono (by omega)
  · have e1 : p.length * (s + 4) = p.length * s + p.length * 4 := Nat.mul_add ..
    have e2 : 1 * s ≤ p.length * s := Nat.mul_le_mul_right _ (by omega)
    exact ((hs i).mul (pow_sz hz i)).mono (by omega)
  · have := (drp 0).mono (show 43999996 ≤ 44000000 by decide)
    exact this
def sgnI (n : Int) : Int := (if 0 < n then 1 else 0) - (if n < 0 then 1 else 0)
def turnsL (ns : List Int) : List D := (List.range' 0 (ns.length - 1)).filterMap fun j => if ns.getD (j + 1) 0 ≠ ns.getD j 0 then some (.int (1 + (j : Nat))) else none
def turnsI (ns : List Int) : Int := (turnsL (ns.filter fun n => decide (n ≠ 0))).length
theorem ints_at {ns : List Int} {n : Nat} {x : D} (hx : x = .lst (ns.map .int) ∨ x = .tup (ns.map .int)) (h : n < ns.length) (Q : D → Prop) : gIx x (.int n) Q = Q (.int (ns.getD n 0)) := by
  have e : atI (ns.map D.int) (n : Int) = some (.int (ns.getD n 0)) := by
    unfold atI ixN
    rw [List.length_map, if_pos (Int.natCast_nonneg n), if_pos (by omega)]
    show (ns.map D.int)[(n : Int).toNat]? = _
    rw [Int.toNat_natCast, List.getElem?_map, List.getElem?_eq_getElem h, List.getD_eq_getElem?_getD, List.getElem?_eq_getElem h]
    rfl
  rcases hx with rfl | rfl
  · show (match atI (ns.map D.int) (n : Int) with | some d => Q d | none => False) = _
    rw [e]
  · show (match atI (ns.map D.int) (n : Int) with | some d => Q d | none => False) = _
    rw [e]
def nz : D → Option D
  | .int n => if n ≠ 0 then some (.int n) else none
  | _ => none
theorem ints_filter {ns : List Int} : (ns.map D.int).filterMap nz = (ns.filter fun n => decide (n ≠ 0)).map D.int := by
  induction ns with
  | nil => rfl
  | cons n ns ih =>
    by_cases h : n = 0
    · simp [h, nz]
      simpa [nz] using ih
    · simp [h, nz]
      simpa [nz] using ih
theorem rows_at {ps : List (List Rat)} {i : Nat} {d : D} (h : (ps.map pD)[i]? = some d) : i < ps.length ∧ d = pD (ps.getD i []) := by
  rw [List.getElem?_map] at h
  obtain ⟨z, hz, rfl⟩ := Option.map_eq_some_iff.mp h
  have hl := (List.getElem?_eq_some_iff.mp hz).1
  exact ⟨hl, by rw [List.getD_eq_getElem?_getD, hz]; rfl⟩
theorem end2_ix {ds : List D} {x y : D} (Q : D → Prop) : gIx (.lst (ds ++ [x, y])) (.int (-2)) Q = Q x := by
  have e : atI (ds ++ [x, y]) (-2) = some x := by
    unfold atI ixN
    have l : (ds ++ [x, y]).length = ds.length + 2 := by simp
    rw [l, if_neg (by omega), if_pos (by omega), show ((-2 : Int) + ((ds.length + 2 : Nat) : Int)).toNat = ds.length by omega]
    show (ds ++ [x, y])[ds.length]? = _
    rw [List.getElem?_append_right (Nat.le_refl _), Nat.sub_self]
    rfl
  show (match atI (ds ++ [x, y]) (-2) with | some d => Q d | none => False) = _
  rw [e]
theorem gNe_nil (p : List Rat) (Q : D → Prop) : gNe (pD p) (.tup []) Q = Q (.bl (!decide (p = []))) := propext ⟨fun h => by
  obtain ⟨_, _, h⟩ : SeqAt.shaped (pD p).py = true ∧ SeqAt.shaped (D.tup []).py = true ∧ Q (.bl (!PyData.eqv (pD p).py (D.tup []).py)) := h
  rw [eqv_nil] at h
  exact h, fun h => ⟨shaped_pD p, shaped_pD [], by
    show Q (.bl (!PyData.eqv (pD p).py (D.tup []).py))
    rw [eqv_nil]; exact h⟩⟩
theorem map_rows {ps : List (List Rat)} (g : List Rat → D) : (List.range ps.length).map (fun j => g (ps.getD j [])) = ps.map g := by
  refine List.ext_getElem? fun i => ?_
  rw [List.getElem?_map, List.getElem?_map]
  by_cases h : i < ps.length
  · rw [List.getElem?_range h, List.getElem?_eq_getElem h]
    show some (g (ps.getD i [])) = some (g ps[i])
    rw [List.getD_eq_getElem?_getD, List.getElem?_eq_getElem h]
    rfl
  · rw [List.getElem?_eq_none (by rw [List.length_range]; omega), List.getElem?_eq_none (by omega)]
    rfl
/-! ### drawn numbers, lines -/
def NumOk (q : Rat) : Prop := SzQ 3 q ∧ Cn 6 36 q
theorem numOk_div {a b k : Int} (hb : 0 < b) (hb3 : b ≤ 3) (e : b * k = 6) (hk : 0 < k) (hk6 : k ≤ 6) (h1 : -6 ≤ a) (h2 : a ≤ 6) : NumOk (Rat.divInt a b) :=
  ⟨szq_divInt (by omega) (by unfold Sz; omega) (by unfold Sz; omega), a * k, by rw [← e, Rat.divInt_mul_right (by omega)], by
    rw [Int.natAbs_mul]
    have := Nat.mul_le_mul (show a.natAbs ≤ 6 by omega) (show k.natAbs ≤ 6 by omega)
    omega⟩
theorem Cn.neg {D : Int} {m : Nat} {x : Rat} : Cn D m x → Cn D m (-x)
  | ⟨a, e1, h1⟩ => ⟨-a, by rw [e1, Rat.neg_divInt], by omega⟩
def lineQ (z : Rat) : List Rat := [0 - z, 1]
theorem line_cn {z : Rat} (h : Cn 6 36 z) (j : Nat) : Cn 6 36 ((lineQ z).getD j 0) := match j with
  | 0 => by
    show Cn 6 36 (0 - z)
    rw [show (0 : Rat) - z = -z by grind]
    exact h.neg
  | 1 => ⟨6, by show (1 : Rat) = _; rw [Rat.divInt_self' (by decide)], by decide⟩
  | _ + 2 => Cn.zero
def Nn : Nat → Nat
  | 0 => 1
  | i + 1 => (i + 1) * (Nn i * 36)
theorem lines_ok {zs : List Rat} (hz : ∀ z ∈ zs, Cn 6 36 z) : ∀ i, i ≤ zs.length → (prodQ ((zs.map lineQ).take i)).length ≤ i + 1 ∧ ∀ j, Cn (6 ^ i) (Nn i) ((prodQ ((zs.map lineQ).take i)).getD j 0)
  | 0, _ => ⟨Nat.le_refl 1, fun j => by
    rw [Int.pow_zero]
    cases j with
    | zero => exact ⟨1, rfl, Nat.le_refl 1⟩
    | succ j => exact Cn.zero⟩
  | i + 1, h => by
    obtain ⟨h1, h2⟩ := lines_ok hz i (by omega)
    have hl : i < (zs.map lineQ).length := by rw [List.length_map]; omega
    have e : (zs.map lineQ).getD i [] = lineQ (zs.getD i 0) := by
      rw [List.getD_eq_getElem?_getD, List.getElem?_map, List.getD_eq_getElem?_getD, List.getElem?_eq_getElem (by omega)]
      rfl
    have hc : Cn 6 36 (zs.getD i 0) := getD_mem hz Cn.zero i
    rw [prod_take hl, e]
    constructor
    · have l := mul_len (p := prodQ ((zs.map lineQ).take i)) (q := lineQ (zs.getD i 0)) (show 1 ≤ 2 by decide)
      have l2 : (lineQ (zs.getD i 0)).length = 2 := rfl
      omega
    · intro j
      rw [Int.pow_succ]
      refine (mulQ_cn (Int.pow_ne_zero (by decide)) (by decide) h2 (line_cn hc) j).mono ?_
      exact Nat.mul_le_mul_right _ h1
theorem Nn_le {i : Nat} (h : i ≤ 3) : Nn i ≤ 279936 := by
  have : i = 0 ∨ i = 1 ∨ i = 2 ∨ i = 3 := by omega
  rcases this with rfl | rfl | rfl | rfl <;> decide
theorem pow6_sz {i : Nat} (h : i ≤ 4) : Sz 11 ((6 : Int) ^ i) := by
  have : i = 0 ∨ i = 1 ∨ i = 2 ∨ i = 3 ∨ i = 4 := by omega
  unfold Sz
  rcases this with rfl | rfl | rfl | rfl | rfl <;> decide
/-- lines and a row: what their product wants, and what it is -/
theorem drawn_prod {zs p : List Rat} (hz : ∀ z ∈ zs, Cn 6 36 z) (hl : zs.length ≤ 3) (hp : ∀ j, Cn 6 36 (p.getD j 0)) (lp : p.length ≤ 4) :
    (∀ i, i < (zs.map lineQ ++ [p]).length → (prodQ ((zs.map lineQ ++ [p]).take i)).length ≤ 1000 ∧ ((zs.map lineQ ++ [p]).getD i []).length ≤ 1000 ∧ MulOk (prodQ ((zs.map lineQ ++ [p]).take i)) ((zs.map lineQ ++ [p]).getD i [])) ∧
    (prodQ (zs.map lineQ ++ [p])).length ≤ 7 ∧ ∀ j, Cd (6 ^ (zs.length + 1)) 26 ((prodQ (zs.map lineQ ++ [p])).getD j 0) := by
  have lt : (zs.map lineQ).length = zs.length := List.length_map ..
  have n6 : (6 : Int) ≠ 0 := by decide
  have s6 : Sz 3 (6 : Int) := by unfold Sz; decide
  have tk : ∀ i, i ≤ zs.length → (zs.map lineQ ++ [p]).take i = (zs.map lineQ).take i := fun i hi => by
    rw [List.take_append_of_le_length (by omega)]
  have cd : ∀ i, i ≤ zs.length → ∀ j, Cd (6 ^ i) 19 ((prodQ ((zs.map lineQ).take i)).getD j 0) := fun i hi j => ((lines_ok hz i hi).2 j).cd (by
    have := Nn_le (i := i) (by omega)
    omega)
  have all : (zs.map lineQ).take zs.length = zs.map lineQ := by rw [← lt, List.take_length]
  refine ⟨fun i hi => ?_, ?_, ?_⟩
  · have hi2 : i ≤ zs.length := by
      rw [List.length_append, lt] at hi
      simp only [List.length_cons, List.length_nil] at hi
      omega
    obtain ⟨l1, _⟩ := lines_ok hz i hi2
    rw [tk i hi2]
    have q6 : ∀ q : List Rat, (∀ j, Cn 6 36 (q.getD j 0)) → MulOk (prodQ ((zs.map lineQ).take i)) q := fun q hq =>
      mulOk_cd (Int.pow_ne_zero n6) n6 (pow6_sz (by omega)) s6 (cd i hi2) (fun j => (hq j).cd (m := 6) (by decide)) (by decide) (by omega)
    by_cases hlt : i < zs.length
    · have e : (zs.map lineQ ++ [p]).getD i [] = lineQ (zs.getD i 0) := by
        rw [List.getD_eq_getElem?_getD, List.getElem?_append_left (by omega), List.getElem?_map, List.getD_eq_getElem?_getD, List.getElem?_eq_getElem (by omega)]
        rfl
      rw [e]
      exact ⟨by omega, (show 2 ≤ 1000 by decide), q6 _ (line_cn (getD_mem hz Cn.zero i))⟩
    · have e : (zs.map lineQ ++ [p]).getD i [] = p := by
        rw [List.getD_eq_getElem?_getD, List.getElem?_append_right (by omega), show i - (zs.map lineQ).length = 0 by omega]
        rfl
      rw [e]
      exact ⟨by omega, by omega, q6 _ hp⟩
  · rw [prod_snoc]
    obtain ⟨l1, _⟩ := lines_ok hz zs.length (Nat.le_refl _)
    rw [all] at l1
    by_cases h : p = []
    · rw [h, mulQ_nil_r]
      exact Nat.zero_le _
    · have l0 : 1 ≤ p.length := List.length_pos_iff.mpr h
      have := mul_len (p := prodQ (zs.map lineQ)) (q := p) l0
      omega
  · intro j
    obtain ⟨l1, c1⟩ := lines_ok hz zs.length (Nat.le_refl _)
    rw [all] at l1 c1
    rw [prod_snoc, Int.pow_succ]
    refine (mulQ_cn (Int.pow_ne_zero n6) n6 c1 hp j).cd ?_
    have b1 := Nn_le hl
    have b2 : Nn zs.length * 36 ≤ 279936 * 36 := Nat.mul_le_mul_right _ b1
    have b3 : (prodQ (zs.map lineQ)).length * (Nn zs.length * 36) ≤ 4 * (279936 * 36) := Nat.mul_le_mul (by omega) b2
    omega
theorem fits_all : ((List.range 8).all fun lp => (List.range lp).all fun lq => fits (lp + 1) lp 26 lq 29) = true := by decide +kernel
theorem chain_start {p : List Rat} {M : Int} (hM : M ≠ 0) (sM : Sz 26 M) (hp : stripQ p = p) (h0 : p ≠ []) (hl : p.length ≤ 7) (hc : ∀ j, Cd M 26 (p.getD j 0)) : ChSt (p.length + 1) p (stripQ (slopeQ p)) := by
  have l0 : 1 ≤ p.length := List.length_pos_iff.mpr h0
  have ls : (stripQ (slopeQ p)).length ≤ p.length - 1 := Nat.le_trans (strip_le _) (by rw [slope_len]; omega)
  refine ⟨⟨M, M, 26, 29, hM, hM, sM, sM.mono (by decide), hc, fun j => by rw [strip_get]; exact slope_cd (e := 3) hc (by omega) j, ?_⟩, hp, strip_strip _, by omega, by omega, by omega⟩
  exact List.all_eq_true.mp (List.all_eq_true.mp fits_all _ (List.mem_range.mpr (by omega))) _ (List.mem_range.mpr (by omega))
end DL

set_option Elab.async false
set_option linter.all false
set_option maxRecDepth 100000
namespace DL
open PySem PySem.Spec PyProof.Rows L2
section
variable {G : Gx} {W : WX} {X : Cx} {a b e o : Expr} {es : List Expr} {pos : Pos}
/-! ### ints and texts added -/
@[simp] def gAddT : G2 := fun x y Q => match x, y with
  | .int i, .int j => Q (.int (i + j))
  | .str i, .str j => i.length + j.length ≤ 16777216 ∧ Q (.str (i ++ j))
  | _, _ => False
theorem opd_addT {r : R2} (h1 : ∀ v w H Q, (∃ i j, v = .int i ∧ w = .int j ∧ Q (.int (i + j)) H) ∨ (∃ i j, v = .str i ∧ w = .str j ∧ i.length + j.length ≤ sizeLine ∧ Q (.str (i ++ j)) H) → r v w H Q) : OpD G.K r gAddT := fun B F H v w x y Qd Q _ r1 r2 g k => by
  unfold gAddT at g
  split at g
  · exact h1 _ _ _ _ (.inl ⟨_, _, rp_int r1, rp_int r2, k _ _ g (.int _)⟩)
  · exact h1 _ _ _ _ (.inr ⟨_, _, rp_str r1, rp_str r2, by rw [sizeLine_eq]; exact g.1, k _ _ g.2 (.str _)⟩)
  · exact g.elim
theorem op_addT : OpR X (binaryOp .Add) (fun v w H Q => (rI0 (fun i j => .int (i + j)) v w H Q) ∨ (∃ i j, v = .str i ∧ w = .str j ∧ i.length + j.length ≤ sizeLine ∧ Q (.str (i ++ j)) H)) := OpR.or op_add op_add_str
theorem iop_addT : OpR X (inplaceOp .Add) (fun v w H Q => (rI0 (fun i j => .int (i + j)) v w H Q) ∨ (∃ i j, v = .str i ∧ w = .str j ∧ i.length + j.length ≤ sizeLine ∧ Q (.str (i ++ j)) H)) := OpR.or iop_add iop_add_str
theorem opd_addT' : OpD G.K (fun v w H Q => (rI0 (fun i j => .int (i + j)) v w H Q) ∨ (∃ i j, v = .str i ∧ w = .str j ∧ i.length + j.length ≤ sizeLine ∧ Q (.str (i ++ j)) H)) gAddT := opd_addT fun _ _ _ _ h => h
theorem qv_addT {ua ub : UV} (ha : QV G W X a ua) (hb : QV G W X b ub) : QV G W X (.BinOp a .Add b pos) (uOp gAddT ua ub) := qv_op op_addT opd_addT' ha hb
/-! ### f-strings -/
@[simp] def uFmt (u : UV) : UV := fun δ Q R => u δ (fun d δ1 => match d with
  | .str y => y.length ≤ 16777216 ∧ Q (.str y) δ1
  | .int i => i.natAbs.log2 < 1920 ∧ Q (.str (toString i)) δ1
  | _ => False) R
theorem qv_fmt {u : UV} (h : QV G W X e u) : QV G W X (.FormattedValue e (-1) none pos) (uFmt u) := pe_mono (pe_fmt h) fun σ H Q ⟨B, F, δ, Qd, Rd, rs, h, k, x⟩ =>
  tG_then rs h x fun d δ1 q B1 F1 H1 v st1 rs1 r1 => by
    split at q
    · rw [rp_str r1]
      exact .inl ⟨_, rfl, by rw [sizeLine_eq]; exact q.1, k _ _ q.2 B1 F1 H1 _ st1 rs1 (.str _)⟩
    · rw [rp_int r1]
      exact .inr ⟨_, rfl, q.1, k _ _ q.2 B1 F1 H1 _ st1 rs1 (.str _)⟩
    · exact q.elim
@[simp] def uJs : List UV → Str → UV
  | [], acc => fun δ Q R => Q (.str acc) δ
  | u :: us, acc => fun δ Q R => u δ (fun d δ1 => match d with
    | .str y => (acc ++ y).length ≤ 16777216 ∧ uJs us (acc ++ y) δ1 Q R
    | _ => False) R
inductive QJ (G : Gx) (W : WX) (X : Cx) : List Expr → List UV → Prop where
  | nil : QJ G W X [] []
  | cons {e : Expr} {u : UV} {es : List Expr} {us : List UV} (h : QV G W X e u) (r : QJ G W X es us) : QJ G W X (e :: es) (u :: us)
theorem QJ.pj {es : List Expr} {us : List UV} (h : QJ G W X es us) : PJ X es (us.map fun u => tV G W u) := by
  induction h with
  | nil => exact .nil
  | cons h r ih => exact .cons h ih
theorem tJs_of {us : List UV} : ∀ (acc : Str) {σ : L2.St} {H : Hp} {Q : Str → Hp → Prop} {B : Option Addr} {F : Hp} {δ : DE} {Qd : D → DE → Prop} {Rd : KX}, Rs G B F H δ σ → uJs us acc δ Qd Rd → XOk G B F W σ Rd →
    (∀ y δ', Qd (.str y) δ' → ∀ B' F' H', Stp B F H δ σ B' F' H' δ' → Rs G B' F' H' δ' σ → Q y H') → tJs (us.map fun u => tV G W u) acc σ H Q := by
  induction us with
  | nil => exact fun acc σ H Q B F δ Qd Rd rs h x k => k _ _ h B F H Stp.refl rs
  | cons u us ih =>
    intro acc σ H Q B F δ Qd Rd rs h x k
    exact tG_then rs h x fun d δ1 q B1 F1 H1 v st1 rs1 r1 => by
      split at q
      · exact ⟨_, rp_str r1, by rw [sizeLine_eq]; exact q.1, ih _ rs1 q.2 (x.later st1.toLe) fun y δ' q' B' F' H' st rs' => k y δ' q' B' F' H' (st1.trans st) rs'⟩
      · exact q.elim
theorem qv_fs {v1 v2 : Expr} {rest : List Expr} {us : List UV} (h : QJ G W X (v1 :: v2 :: rest) us) : QV G W X (.JoinedStr (v1 :: v2 :: rest) pos) (uJs us Str.empty) := pe_mono (pe_joined h.pj) fun σ H Q ⟨B, F, δ, Qd, Rd, rs, h, k, x⟩ =>
  tJs_of Str.empty rs h x fun y δ' q B' F' H' st rs' => k _ _ q B' F' H' _ st rs' (.str y)
/-! ### sep.join(xs) -/
@[simp] def strsD : List D → Option (List Str)
  | [] => some []
  | .str y :: r => (strsD r).map (y :: ·)
  | _ => none
theorem strsD_rp {K : PySem.W.Frag} {B : Option Addr} {F : Hp} : ∀ {ds : List D} {ys : List Str} {vs : List V}, strsD ds = some ys → RpL K B F vs ds → vs = ys.map V.str
  | [], ys, vs, h, r => by
    cases h
    cases r
    rfl
  | .str y :: ds, ys, vs, h, r => by
    unfold strsD at h
    obtain ⟨zs, hz, rfl⟩ := Option.map_eq_some_iff.mp h
    cases r with
    | cons r1 r2 =>
      rw [rp_str r1, strsD_rp hz r2]
      rfl
@[simp] def uJoin (uo ue : UV) : UV := fun δ Q R => uo δ (fun x δ1 => match x with
  | .str a => ue δ1 (fun d δ2 => match seqD d with
    | some ds => (match strsD ds with
      | some ys => (ys.map (·.length)).sum + ys.length * a.length ≤ 16777216 ∧ Q (.str (Txt.join a ys)) δ2
      | none => False)
    | none => False) R
  | _ => False) R
theorem qv_join {apos : Pos} {uo ue : UV} (ho : QV G W X o uo) (he : QV G W X e ue) (hk : X.K = G.K := by rfl) (hs : starEach [e] X.env = [(false, eval e X.env)] := by rfl) (hbase : attributeBase o "join" X.env (eval o X.env) = eval o X.env := by rfl) (hline : (apos.endLine == pos.line) = true := by rfl) :
    QV G W X (.Call (.Attribute o "join" apos) [e] [] pos) (uJoin uo ue) := pe_mono (pe_join ho he hs hbase hline) fun σ H Q ⟨B, F, δ, Qd, Rd, rs, h, k, x⟩ =>
  tG_then rs h x fun d δ1 q B1 F1 H1 v st1 rs1 r1 => by
    split at q
    · rename_i sep
      rw [rp_str r1]
      refine ⟨⟨_, rfl⟩, tG_then rs1 q (x.later st1.toLe) fun d2 δ2 q2 B2 F2 H2 w st2 rs2 r2 => ?_⟩
      rw [hk]
      split at q2
      · rename_i ds hd
        split at q2
        · rename_i ys hy
          obtain ⟨q2, q3⟩ := q2
          have fin := k _ _ q3 B2 F2 H2 _ (st1.trans st2) rs2 (.str _)
          cases r2 with
          | lst hp r =>
            cases hd
            rw [strsD_rp hy r] at hp
            exact ⟨sep, _, ys, rfl, rfl, .inl (rs2.sub.seq hp), q2, fin⟩
          | tup hp r =>
            cases hd
            rw [strsD_rp hy r] at hp
            exact ⟨sep, _, ys, rfl, rfl, .inr (sqT_mono rs2.sub hp), q2, fin⟩
          | _ => cases hd
        · exact q2.elim
      · exact q2.elim
    · exact q.elim
end
end DL

set_option Elab.async false
set_option linter.all false
set_option maxRecDepth 100000
namespace DL
open PySem PySem.Spec PyProof.Rows L2
/-! ### texts of numbers -/
def tI (i : Int) : Str := toString i
def fT (n d : Int) : Str := if d = 1 then tI n else tI n ++ "/" ++ tI d
theorem tI_len {i : Int} (h : i.natAbs < 8) : (tI i).length ≤ 2 := by
  have : i = -7 ∨ i = -6 ∨ i = -5 ∨ i = -4 ∨ i = -3 ∨ i = -2 ∨ i = -1 ∨ i = 0 ∨ i = 1 ∨ i = 2 ∨ i = 3 ∨ i = 4 ∨ i = 5 ∨ i = 6 ∨ i = 7 := by omega
  rcases this with rfl | rfl | rfl | rfl | rfl | rfl | rfl | rfl | rfl | rfl | rfl | rfl | rfl | rfl | rfl <;> decide +kernel
theorem fT_len {n d : Int} (hn : n.natAbs < 8) (hd : d.natAbs < 8) : (fT n d).length ≤ 5 := by
  have h1 := tI_len hn
  have h2 := tI_len hd
  unfold fT
  split
  · omega
  · rw [Str.length_append, Str.length_append, show Str.length ("/" : Str) = 1 by decide +kernel]
    omega
theorem log8 {i : Int} (h : i.natAbs < 8) : i.natAbs.log2 < 1920 := by
  by_cases h0 : i.natAbs = 0
  · rw [h0]; decide
  · exact Nat.lt_of_lt_of_le ((Nat.log2_lt h0).mpr (show i.natAbs < 2 ^ 3 by omega)) (by decide)
/-- a letter's power -/
def pw (c : Str) (n : Nat) : List Str := if n = 0 then [] else if n = 1 then [c] else [c ++ ("^" ++ tI n)]
def wordsT (at_ to : Nat) : List Str := pw "x" at_ ++ pw "a" to
theorem pw_len {c : Str} {n : Nat} (hn : n < 8) (hc : c.length = 1) : ∀ s ∈ pw c n, 1 ≤ s.length ∧ s.length ≤ 4 := fun s hs => by
  unfold pw at hs
  split at hs
  · cases hs
  · split at hs
    · rw [List.mem_singleton.mp hs]
      omega
    · rw [List.mem_singleton.mp hs, Str.length_append, Str.length_append, show Str.length ("^" : Str) = 1 by decide +kernel]
      have := tI_len (i := (n : Int)) (by omega)
      omega
theorem pw_few {c : Str} {n : Nat} : (pw c n).length ≤ 1 := by
  unfold pw
  split
  · exact Nat.zero_le _
  · split <;> exact Nat.le_refl _
theorem words_len {a b : Nat} (ha : a < 8) (hb : b < 8) : ∀ s ∈ wordsT a b, 1 ≤ s.length ∧ s.length ≤ 4 := fun s hs => by
  rcases List.mem_append.mp hs with h | h
  · exact pw_len ha (by decide +kernel) s h
  · exact pw_len hb (by decide +kernel) s h
theorem words_few {a b : Nat} : (wordsT a b).length ≤ 2 := by
  unfold wordsT
  rw [List.length_append]
  have h1 := pw_few (c := "x") (n := a)
  have h2 := pw_few (c := "a") (n := b)
  omega
theorem sum_le {ys : List Str} {m : Nat} (h : ∀ s ∈ ys, s.length ≤ m) : (ys.map (·.length)).sum ≤ ys.length * m := by
  induction ys with
  | nil => exact Nat.zero_le _
  | cons y ys ih =>
    have h1 := h y (.head _)
    have h2 := ih fun s hs => h s (.tail _ hs)
    rw [List.map_cons, List.sum_cons, List.length_cons, Nat.succ_mul]
    omega
theorem join_eq (a : Str) (ys : List Str) : Txt.join a ys = Str.join a ys := StrLaws.glued_eq_join a ys
theorem join_len {ys : List Str} {m : Nat} {a : Str} (ha : a.length = 1) (h : ∀ s ∈ ys, s.length ≤ m) : (Txt.join a ys).length ≤ ys.length * (m + 1) := by
  rw [join_eq]
  induction ys with
  | nil => exact Nat.zero_le _
  | cons y ys ih =>
    cases ys with
    | nil =>
      have := h y (.head _)
      show y.length ≤ (0 + 1) * (m + 1)
      omega
    | cons z zs =>
      have h1 := h y (.head _)
      have h2 := ih fun s hs => h s (.tail _ hs)
      show (y ++ a ++ Str.join a (z :: zs)).length ≤ ((z :: zs).length + 1) * (m + 1)
      rw [Str.length_append, Str.length_append, Nat.succ_mul]
      omega
theorem join_pos {ys : List Str} {a : Str} (h0 : ys ≠ []) (h : ∀ s ∈ ys, 1 ≤ s.length) : Txt.join a ys ≠ "" := fun z => by
  have e : (Txt.join a ys).length = 0 := by rw [z]; decide +kernel
  rw [join_eq] at e
  cases ys with
  | nil => exact h0 rfl
  | cons y ys =>
    have h1 := h y (.head _)
    cases ys with
    | nil =>
      have e' : y.length = 0 := e
      omega
    | cons w ws =>
      have e' : (y ++ a ++ Str.join a (w :: ws)).length = 0 := e
      rw [Str.length_append, Str.length_append] at e'
      omega
/-- a term, by its words -/
def termT (n d : Int) (ws : List Str) : Str := if ws = [] then fT n d else if n = 1 ∧ d = 1 then Txt.join "*" ws else fT n d ++ "*" ++ Txt.join "*" ws
theorem term_join {n d : Int} {ws : List Str} : Txt.join "*" (if ws = [] ∨ ¬ (n = 1 ∧ d = 1) then fT n d :: ws else ws) = termT n d ws := by
  unfold termT
  by_cases h : ws = []
  · rw [if_pos (.inl h), if_pos h, h, join_eq]
    rfl
  · rw [if_neg h]
    by_cases h2 : n = 1 ∧ d = 1
    · rw [if_neg (by rintro (z | z); exact h z; exact z h2), if_pos h2]
    · rw [if_pos (.inr h2), if_neg h2, join_eq, join_eq]
      cases ws with
      | nil => exact absurd rfl h
      | cons w ws => rfl
theorem term_len {n d : Int} {a b : Nat} (hn : n.natAbs < 8) (hd : d.natAbs < 8) (ha : a < 8) (hb : b < 8) : (termT n d (wordsT a b)).length ≤ 16 := by
  have h1 := fT_len hn hd
  have h2 := join_len (a := "*") (ys := wordsT a b) (m := 4) (by decide +kernel) fun s hs => (words_len ha hb s hs).2
  have h3 := words_few (a := a) (b := b)
  have h4 : (wordsT a b).length * (4 + 1) ≤ 2 * (4 + 1) := Nat.mul_le_mul_right _ h3
  unfold termT
  split
  · omega
  · split
    · omega
    · rw [Str.length_append, Str.length_append, show Str.length ("*" : Str) = 1 by decide +kernel]
      omega
def stepT (f : Str) (a b : Nat) (q : Rat) : Str := if q.num = 0 then f else (if f = "" then (if q.num < 0 then ("-" : Str) else ("" : Str)) else f ++ (if q.num < 0 then (" - " : Str) else (" + " : Str))) ++ termT (if q.num < 0 then -q.num else q.num) q.den (wordsT a b)
def rowT (p : List Rat) (a : Nat) : Nat → Str → Str
  | 0, f => f
  | n + 1, f => rowT p a n (stepT f a n (p.getD n 0))
def allT (ps : List (List Rat)) : Nat → Str → Str
  | 0, f => f
  | n + 1, f => allT ps n (rowT (ps.getD n []) n (ps.getD n []).length f)
theorem step_len {f : Str} {a b : Nat} {q : Rat} (hq : SzQ 3 q) (ha : a < 8) (hb : b < 8) : (stepT f a b q).length ≤ f.length + 20 := by
  have h1 : q.num.natAbs < 8 := hq.1
  have h2 : (q.den : Int).natAbs < 8 := hq.2
  have h3 := term_len (n := if q.num < 0 then -q.num else q.num) (d := q.den) (by split <;> omega) h2 ha hb
  have e1 : Str.length ("-" : Str) = 1 := by decide +kernel
  have e2 : Str.length ("" : Str) = 0 := by decide +kernel
  have e3 : Str.length (" - " : Str) = 3 := by decide +kernel
  have e4 : Str.length (" + " : Str) = 3 := by decide +kernel
  unfold stepT
  generalize termT (if q.num < 0 then -q.num else q.num) q.den (wordsT a b) = tt at h3
  split
  · omega
  · rw [Str.length_append]
    split
    · split <;> omega
    · rw [Str.length_append]
      split <;> omega
/-! ### twos as data -/
def tD (ps : List (List Rat)) : D := .tup (ps.map pD)
theorem two_ix {ps : List (List Rat)} {x : D} (hx : x = .lst (ps.map pD) ∨ x = .tup (ps.map pD)) {n : Nat} (h : n < ps.length) (Q : D → Prop) : gIx x (.int n) Q = Q (pD (ps.getD n [])) := by
  have e : atI (ps.map pD) (n : Int) = some (pD (ps.getD n [])) := by
    unfold atI ixN
    rw [List.length_map, if_pos (Int.natCast_nonneg n), if_pos (by omega)]
    show (ps.map pD)[(n : Int).toNat]? = _
    rw [Int.toNat_natCast, List.getElem?_map, List.getElem?_eq_getElem h, List.getD_eq_getElem?_getD, List.getElem?_eq_getElem h]
    rfl
  rcases hx with rfl | rfl
  · show (match atI (ps.map pD) (n : Int) with | some d => Q d | none => False) = _
    rw [e]
  · show (match atI (ps.map pD) (n : Int) with | some d => Q d | none => False) = _
    rw [e]
def tcut (ps : List (List Rat)) : Nat → Nat
  | 0 => 0
  | n + 1 => if ps.getD n [] = [] then tcut ps n else n + 1
def tstripQ (ps : List (List Rat)) : List (List Rat) := ps.take (tcut ps ps.length)
theorem tcut_le (ps : List (List Rat)) : ∀ n, tcut ps n ≤ n
  | 0 => Nat.le_refl _
  | n + 1 => by
    unfold tcut
    split
    · exact Nat.le_succ_of_le (tcut_le ps n)
    · exact Nat.le_refl _
theorem eqv_strs : ∀ ys : List Str, PyData.eqvAll (D.pyL (ys.map D.str)) (D.pyL []) = decide (ys = [])
  | [] => by simp [D.pyL, PyData.eqvAll]
  | y :: ys => by simp [D.pyL, D.py, PyData.eqvAll]
theorem pw_ok {n : Nat} (hn : n < 8) : (∀ s ∈ pw "x" n, PyData.strOk s = true) ∧ ∀ s ∈ pw "a" n, PyData.strOk s = true := by
  have : n = 0 ∨ n = 1 ∨ n = 2 ∨ n = 3 ∨ n = 4 ∨ n = 5 ∨ n = 6 ∨ n = 7 := by omega
  rcases this with rfl | rfl | rfl | rfl | rfl | rfl | rfl | rfl <;> decide +kernel
theorem words_ok {a b : Nat} (ha : a < 8) (hb : b < 8) : ∀ s ∈ wordsT a b, PyData.strOk s = true := fun s hs => by
  rcases List.mem_append.mp hs with h | h
  · exact (pw_ok ha).1 s h
  · exact (pw_ok hb).2 s h
theorem lay_strs : ∀ ys : List Str, (∀ s ∈ ys, PyData.strOk s = true) → PyData.canLayAll0 (D.pyL (ys.map D.str)) = true ∧ PyData.depthAll (D.pyL (ys.map D.str)) ≤ 1
  | [], _ => by simp [D.pyL, PyData.canLayAll0, PyData.depthAll]
  | y :: ys, h => by
    have ih := lay_strs ys fun s hs => h s (.tail _ hs)
    simp [D.pyL, D.py, PyData.canLayAll0, PyData.canLay0, PyData.depthAll, PyData.depth]
    exact ⟨⟨h y (.head _), ih.1⟩, by omega⟩
theorem gEq_strs (ys : List Str) (hy : ∀ s ∈ ys, PyData.strOk s = true) (Q : D → Prop) : gEq (.lst (ys.map D.str)) (.lst []) Q = Q (.bl (decide (ys = []))) := by
  have s1 : SeqAt.shaped (D.lst (ys.map D.str)).py = true := by
    have h := lay_strs ys hy
    simp only [D.py, SeqAt.shaped, PyData.canLay0, PyData.depth, Bool.and_eq_true, decide_eq_true_eq]
    exact ⟨h.1, by omega⟩
  have s2 : SeqAt.shaped (D.lst []).py = true := by decide +kernel
  have e : PyData.eqv (D.lst (ys.map D.str)).py (D.lst []).py = decide (ys = []) := by
    simp only [D.py, PyData.eqv]
    exact eqv_strs ys
  show (SeqAt.shaped (D.lst (ys.map D.str)).py = true ∧ SeqAt.shaped (D.lst []).py = true ∧ Q (.bl (PyData.eqv (D.lst (ys.map D.str)).py (D.lst []).py))) = _
  rw [e]
  exact propext ⟨fun h => h.2.2, fun h => ⟨s1, s2, h⟩⟩
theorem pair_facts (a b c d : Int) : SeqAt.shaped (D.tup [.int a, .int b]).py = true ∧ PyData.eqv (D.tup [.int a, .int b]).py (D.tup [.int c, .int d]).py = decide (a = c ∧ b = d) := by
  constructor
  · simp [D.py, D.pyL, SeqAt.shaped, PyData.canLay0, PyData.canLayAll0, PyData.depth, PyData.depthAll]
  · by_cases h1 : a = c <;> by_cases h2 : b = d <;> simp [D.py, D.pyL, PyData.eqv, PyData.eqvAll, h1, h2]
theorem gEq_pair (a b c d : Int) (Q : D → Prop) : gEq (.tup [.int a, .int b]) (.tup [.int c, .int d]) Q = Q (.bl (decide (a = c ∧ b = d))) := by
  obtain ⟨s1, e⟩ := pair_facts a b c d
  obtain ⟨s2, _⟩ := pair_facts c d c d
  show (SeqAt.shaped (D.tup [.int a, .int b]).py = true ∧ SeqAt.shaped (D.tup [.int c, .int d]).py = true ∧ Q (.bl (PyData.eqv (D.tup [.int a, .int b]).py (D.tup [.int c, .int d]).py))) = _
  rw [e]
  exact propext ⟨fun h => h.2.2, fun h => ⟨s1, s2, h⟩⟩
theorem gNe_pair (a b c d : Int) (Q : D → Prop) : gNe (.tup [.int a, .int b]) (.tup [.int c, .int d]) Q = Q (.bl (!decide (a = c ∧ b = d))) := by
  obtain ⟨s1, e⟩ := pair_facts a b c d
  obtain ⟨s2, _⟩ := pair_facts c d c d
  show (SeqAt.shaped (D.tup [.int a, .int b]).py = true ∧ SeqAt.shaped (D.tup [.int c, .int d]).py = true ∧ Q (.bl (!PyData.eqv (D.tup [.int a, .int b]).py (D.tup [.int c, .int d]).py))) = _
  rw [e]
  exact propext ⟨fun h => h.2.2, fun h => ⟨s1, s2, h⟩⟩
theorem strsD_map : ∀ ys : List Str, strsD (ys.map D.str) = some ys
  | [] => rfl
  | y :: ys => by
    show (strsD (ys.map D.str)).map (y :: ·) = _
    rw [strsD_map ys]
    rfl
theorem rows_of {P : List Rat → Prop} : ∀ {ys : List D}, (∀ y ∈ ys, ∃ p, P p ∧ y = pD p) → ∃ ps : List (List Rat), ys = ps.map pD ∧ ∀ p ∈ ps, P p
  | [], _ => ⟨[], rfl, fun _ h => nomatch h⟩
  | y :: ys, h => by
    obtain ⟨p, hp, rfl⟩ := h y (.head _)
    obtain ⟨ps, rfl, hs⟩ := rows_of (ys := ys) fun y' h' => h y' (.tail _ h')
    refine ⟨p :: ps, rfl, fun q hq => ?_⟩
    cases hq with
    | head => exact hp
    | tail _ hq => exact hs q hq
end DL

set_option Elab.async false
set_option linter.all false
set_option maxRecDepth 100000
namespace DL
open PySem PySem.Spec PyProof.Rows L2
/-! ### max(xs, default=d) -/
theorem mxd_args (a d : Value) : argsOk "max" ⟨[a], [(Str.ofString "default", d)]⟩ := by
  unfold argsOk
  kernel_rfl
theorem mxd_name : (toString "max" ++ toString ".loop" : String) = "max.loop" := by decide
section
variable {pr : Program} {w : World} {A : Around} {R : Result → Shared → Prop} {it : Addr} {fp wr : List Addr} {n : Nat} {P : Nat → Value → Prop} {St : Nat → Heap → Prop} {kw : List (Str × Value)}
theorem mxd_enter {as : Args} {s : Shared} (h : wpAny (model pr w) A.in1 (Builtin.«max.loop» as) (fun fin s' => match fin with | .done f => R (.ok f) s' | .again c => c.quiet = true ∧ codeAny (model pr w) A c R s') (fun e s' => R (.error e) s') s) : codeAny (model pr w) A (.builtin "max.loop" as) R s := by
  apply codeAny_builtin F.entry_max_loop
  rw [Around.under_plainId F.plain_max_loop]
  exact h
/-- the turns behind the first one, whatever the keywords -/
theorem mxd_turns (W : Walks pr w A.in1 it fp wr n P St) (bt : Nat → Nat → Bool) (cmp : CmpOf pr w A.in1 .Gt P bt) (S : Addr) (out : S ∉ fp) :
    ∀ (k j : Nat) (s : Shared) (best : Value) (c : Nat), n - (j + 1) = k → j + 1 ≤ n → St (j + 1) s.heap → P (argBest bt j) best → s.heap.get? S = some { cls := .type "list", dict := none, data := .seq #[best, best] c, slots := #[] } →
    (∀ v hp tk, P (argBest bt (n - 1)) v → (∀ b o, b ∉ wr → b ≠ S → s.heap.get? b = some o → hp.get? b = some o) → R (.ok (.ret v)) { s with heap := hp, toks := tk }) → codeAny (model pr w) A (.builtin "max.loop" ⟨[.ref it, .none, .ref S], kw⟩) R s := fun k => by
  have outw : S ∉ wr := fun h => out (W.sub _ h)
  induction k with
  | zero =>
    intro j s best c ek le hst hb hS fin
    have e : j + 1 = n := by omega
    refine mxd_enter ?_
    show wpAny _ (Around.in1 A) (seqItems? (Value.ref S) >>= _) _ _ s
    refine wpAny_bind (wpAny_seqItems hS rfl (wpAny_bind (wpAny_tryCatch (W.done s _ _ (e ▸ hst) fun hp tk keep => ?_))))
    have hS2 := keep S _ outw hS
    refine wpAny_bind (wpAny_updateSeq hS2 rfl (wpAny_bind (wpAny_letGo (wpAny_pure (fin best _ tk (by rw [← e]; exact hb) fun b o hbw hbS z => ?_)))))
    exact (Heap.get?_update_other _ _ (Ne.symm hbS)).trans (keep b o hbw z)
  | succ k ih =>
    intro j s best c ek le hst hb hS fin
    have lt : j + 1 < n := by omega
    refine mxd_enter ?_
    show wpAny _ (Around.in1 A) (seqItems? (Value.ref S) >>= _) _ _ s
    refine wpAny_bind (wpAny_seqItems hS rfl (wpAny_bind (wpAny_tryCatch (W.item (j + 1) s _ _ lt hst fun v hp tk hP hst2 keep => ?_))))
    have hS2 := keep S _ outw hS
    show wpAny _ (Around.in1 A) (tryCatch (holding [v, v] (richCompare .Gt v best >>= _)) _ >>= _) _ _ _
    refine wpAny_bind (wpAny_tryCatch (wpAny_holding (wpAny_bind (cmp (j + 1) (argBest bt j) v best _ _ _ hP hb (wpAny_bind (wpAny_holding (wpAny_truthy_bool (wpAny_bind (wpAny_letGo (wpAny_pure ?_))))))))))
    cases q : bt (j + 1) (argBest bt j) with
    | true =>
      rw [if_pos rfl]
      refine wpAny_bind (wpAny_updateSeq hS2 rfl (wpAny_bind (wpAny_letGo ?_)))
      rw [mxd_name]
      refine wpAny_pure ⟨plainId_quiet F.plain_max_loop _, ih (j + 1) _ v _ (by omega) lt ?_ ?_ (Heap.get?_update_self _ hS2 rfl) fun v2 hp2 tk2 hP2 keep2 => ?_⟩
      · exact W.frame _ _ _ hst2 fun b hbf o z => (Heap.get?_update_other _ _ (fun y : S = b => out (by rw [y]; exact hbf))).trans z
      · unfold argBest
        rw [if_pos q]
        exact hP
      · exact fin v2 hp2 tk2 hP2 fun b o hbw hbS z => keep2 b o hbw hbS ((Heap.get?_update_other _ _ (Ne.symm hbS)).trans (keep b o hbw z))
    | false =>
      rw [if_neg (by decide)]
      refine wpAny_bind (wpAny_letGo ?_)
      rw [mxd_name]
      refine wpAny_pure ⟨plainId_quiet F.plain_max_loop _, ih (j + 1) _ best c (by omega) lt hst2 ?_ hS2 fun v2 hp2 tk2 hP2 keep2 => fin v2 hp2 tk2 hP2 fun b o hbw hbS z => keep2 b o hbw hbS (keep b o hbw z)⟩
      unfold argBest
      rw [if_neg (by rw [q]; decide)]
      exact hb
theorem mxd_first (W : Walks pr w A.in1 it fp wr n P St) (bt : Nat → Nat → Bool) (cmp : CmpOf pr w A.in1 .Gt P bt) (S : Addr) (out : S ∉ fp) (pos : 0 < n) {s : Shared} {c : Nat} (hst : St 0 s.heap) (hS : s.heap.get? S = some { cls := .type "list", dict := none, data := .seq #[] c, slots := #[] })
    (fin : ∀ v hp tk, P (argBest bt (n - 1)) v → (∀ b o, b ∉ wr → b ≠ S → s.heap.get? b = some o → hp.get? b = some o) → R (.ok (.ret v)) { s with heap := hp, toks := tk }) : codeAny (model pr w) A (.builtin "max.loop" ⟨[.ref it, .none, .ref S], kw⟩) R s := by
  have outw : S ∉ wr := fun h => out (W.sub _ h)
  refine mxd_enter ?_
  show wpAny _ (Around.in1 A) (seqItems? (Value.ref S) >>= _) _ _ s
  refine wpAny_bind (wpAny_seqItems hS rfl (wpAny_bind (wpAny_tryCatch (W.item 0 s _ _ pos hst fun v hp tk hP hst2 keep => ?_))))
  have hS2 := keep S _ outw hS
  show wpAny _ (Around.in1 A) (updateSeq S (fun _ => #[v, v]) >>= _) _ _ _
  refine wpAny_bind (wpAny_updateSeq hS2 rfl ?_)
  rw [mxd_name]
  refine wpAny_pure ⟨plainId_quiet F.plain_max_loop _, mxd_turns W bt cmp S out _ 0 _ v _ rfl pos ?_ hP (Heap.get?_update_self _ hS2 rfl) fun v2 hp2 tk2 hP2 keep2 => ?_⟩
  · exact W.frame _ _ _ hst2 fun b hbf o z => (Heap.get?_update_other _ _ (fun y : S = b => out (by rw [y]; exact hbf))).trans z
  · exact fin v2 hp2 tk2 hP2 fun b o hbw hbS z => keep2 b o hbw hbS ((Heap.get?_update_other _ _ (Ne.symm hbS)).trans (keep b o hbw z))
/-- nothing to walk: the default -/
theorem mxd_none (W : Walks pr w A.in1 it fp wr n P St) (none_ : n = 0) (S : Addr) (out : S ∉ fp) {s : Shared} {c : Nat} {d : Value} (hst : St 0 s.heap) (hS : s.heap.get? S = some { cls := .type "list", dict := none, data := .seq #[] c, slots := #[] })
    (fin : ∀ hp tk, (∀ b o, b ∉ wr → b ≠ S → s.heap.get? b = some o → hp.get? b = some o) → R (.ok (.ret d)) { s with heap := hp, toks := tk }) : codeAny (model pr w) A (.builtin "max.loop" ⟨[.ref it, .none, .ref S], [(Str.ofString "default", d)]⟩) R s := by
  refine mxd_enter ?_
  show wpAny _ (Around.in1 A) (seqItems? (Value.ref S) >>= _) _ _ s
  refine wpAny_bind (wpAny_seqItems hS rfl (wpAny_bind (wpAny_tryCatch (W.done s _ _ (by rw [none_]; exact hst) fun hp tk keep => ?_))))
  refine wpAny_bind (wpAny_rule (wpAny_pure (fin hp tk fun b o hbw _ z => keep b o hbw z)))
end
theorem ints_get : ∀ {vs : List Value} {ns : List Int}, IntsAre vs ns → ∀ (i : Nat) (v : Value), vs[i]? = some v → ∃ t, v = .int (ns.getD i 0) t
  | _, _, .nil, i, v, h => by simp at h
  | _, _, .cons n t r, 0, v, h => ⟨t, (Option.some.inj h).symm⟩
  | _, _, .cons n t r, i + 1, v, h => ints_get r i v h
section
variable {pr : Program} {w : World} {A : Around} {E : Value → Shared → Prop} {s : Shared} {l : Addr} {its : List Value} {ns : List Int} {d : Int} {td : Tok}
theorem mxd_call {Q : Value → Shared → Prop} (hh : A.handled = none) (hl : s.heap.IsList l its.toArray) (hi : IntsAre its ns)
    (fin : ∀ hp tk M t, (∀ b o, s.heap.get? b = some o → hp.get? b = some o) → (ns = [] ∧ M = d) ∨ (M ∈ ns ∧ ∀ y ∈ ns, y ≤ M) → Q (.int M t) { s with heap := hp, toks := tk }) :
    wpAny (model pr w) A (call (.builtin "max") [.ref l] [(Str.ofString "default", .int d td)]) Q E s := by
  have lt : l < s.heap.objs.size := by
    obtain ⟨_, e, _⟩ := hl
    exact Heap.lt_size e
  refine kmk_tree F.kind_max F.plain_max F.entry_max (mxd_args _ _) ?_
  show wpAny _ (Around.in1 A) (Builtin.Builtins.bindParams "max" ["key", "default"] 0 ⟨[], [(Str.ofString "default", .int d td)]⟩ >>= _) _ _ s
  refine wpAny_bind (wpAny_of_eq (show Builtin.Builtins.bindParams "max" ["key", "default"] 0 ⟨[], [(Str.ofString "default", .int d td)]⟩ = pure [none, some (.int d td)] from rfl) (wpAny_bind (wpAny_pure ?_)))
  refine wpAny_bind (wpAny_pyIter_list hl (wpAny_bind (wpAny_newList ?_ (Nat.zero_le _))))
  rw [mxd_name]
  have W := Walks.list (prog := pr) (w := w) (A := A.in1) hh s.heap.objs.size l (Nat.ne_of_lt lt) its.toArray
  refine wpAny_pure ⟨plainId_quiet F.plain_max_loop _, ?_⟩
  have up : (s.heap.push { cls := .type "list_iterator", data := .fields #[.ref l, .int 0 0] }).objs.size = s.heap.objs.size + 1 := Heap.size_push ..
  have out : (s.heap.push { cls := .type "list_iterator", data := .fields #[.ref l, .int 0 0] }).objs.size ∉ [s.heap.objs.size, l] := fun h => by
    rw [up] at h
    rcases List.mem_cons.mp h with h | h
    · exact absurd h (Nat.succ_ne_self _)
    · exact absurd (List.mem_singleton.mp h) (Nat.ne_of_gt (Nat.lt_succ_of_lt lt))
  have old : ∀ {hp : Heap}, (∀ b o, b ∉ [s.heap.objs.size] → b ≠ (s.heap.push { cls := .type "list_iterator", data := .fields #[.ref l, .int 0 0] }).objs.size → ((s.heap.push { cls := .type "list_iterator", data := .fields #[.ref l, .int 0 0] }).push { cls := .type "list", data := .seq [].toArray }).get? b = some o → hp.get? b = some o) → ∀ b o, s.heap.get? b = some o → hp.get? b = some o := fun {hp} keep b o z => by
    have lb := Heap.lt_size z
    refine keep b o (fun h => absurd (List.mem_singleton.mp h) (Nat.ne_of_lt lb)) (by rw [up]; exact Nat.ne_of_lt (Nat.lt_succ_of_lt lb)) (Heap.get?_push_of_some _ (Heap.get?_push_of_some _ z))
  have st : ((s.heap.push { cls := .type "list_iterator", data := .fields #[.ref l, .int 0 0] }).push { cls := .type "list", data := .seq [].toArray }).IsListIter s.heap.objs.size l 0 ∧ ((s.heap.push { cls := .type "list_iterator", data := .fields #[.ref l, .int 0 0] }).push { cls := .type "list", data := .seq [].toArray }).IsList l its.toArray :=
    ⟨⟨_, Heap.get?_push_of_some _ (Heap.get?_push_size _ rfl), rfl, rfl⟩, (hl.push _).push _⟩
  have hS : ((s.heap.push { cls := .type "list_iterator", data := .fields #[.ref l, .int 0 0] }).push { cls := .type "list", data := .seq [].toArray }).get? (s.heap.push { cls := .type "list_iterator", data := .fields #[.ref l, .int 0 0] }).objs.size = some { cls := .type "list", dict := none, data := .seq #[] 0, slots := #[] } := Heap.get?_push_size _ rfl
  have ln := hi.length
  have sz : its.toArray.size = ns.length := by rw [List.size_toArray, ln]
  by_cases e : ns.length = 0
  · exact mxd_none W (by omega) _ out st hS fun hp tk keep => fin hp tk d td (old keep) (.inl ⟨List.length_eq_zero_iff.mp e, rfl⟩)
  · refine mxd_first W _ (CmpOf.ints_gt (fun i => ns.getD i 0) fun i v h => ints_get hi i v (by simpa using h)) _ out (by omega) st hS fun v hp tk hP keep => ?_
    have hP2 : its[argBest (fun i j => decide (ns.getD i 0 > ns.getD j 0)) (its.toArray.size - 1)]? = some v := by
      have z : its.toArray[argBest (fun i j => decide (ns.getD i 0 > ns.getD j 0)) (its.toArray.size - 1)]? = some v := hP
      rwa [List.getElem?_toArray] at z
    obtain ⟨t, rfl⟩ := ints_get hi _ v hP2
    obtain ⟨g1, g2⟩ := argBest_gt (fun i => ns.getD i 0) (its.toArray.size - 1)
    refine fin hp tk _ t (old keep) (.inr ⟨?_, fun y hy => ?_⟩)
    · have hb : argBest (fun i j => decide (ns.getD i 0 > ns.getD j 0)) (its.toArray.size - 1) < ns.length := by omega
      rw [List.getD_eq_getElem?_getD, List.getElem?_eq_getElem hb]
      exact List.getElem_mem hb
    · obtain ⟨j, hj, rfl⟩ := List.getElem_of_mem hy
      have := g2 j (by omega)
      rwa [List.getD_eq_getElem?_getD, List.getElem?_eq_getElem hj] at this
end
/-! ### over the layer -/
def rMxd (K : PySem.W.Frag) : List V → List V → Hp → VK → Prop := fun xs zs H Q => ∃ a ns d, xs = [.ref a] ∧ zs = [.int d] ∧ SqL K H a (ns.map V.int) ∧ ∀ M, (ns = [] ∧ M = d) ∨ (M ∈ ns ∧ ∀ y ∈ ns, y ≤ M) → Q (.int M) H
theorem crk_mxd {X : Cx} (hc : X.calm = true) : CallRK X (.builtin "max") ["default"] (rMxd X.K) := by
  intro pins s σ H xs zs us ws Q I r1 r2 h
  obtain ⟨a, ns, d, rfl, rfl, hs, q⟩ := h
  obtain ⟨its, rv, hl, _⟩ := I.list hs
  rw [Vals.ref1 r1]
  cases r2 with
  | cons z r2 =>
    cases r2
    obtain ⟨td, rfl⟩ := z
    exact mxd_call (I.ok.hd hc) hl.isList rv.ints fun hp tk M t keep m => ⟨.int M, H, I.kept keep, ⟨_, rfl⟩, q M m⟩
@[simp] def intsD : List D → Option (List Int)
  | [] => some []
  | .int n :: r => (intsD r).map (n :: ·)
  | _ => none
theorem intsD_map : ∀ ns : List Int, intsD (ns.map D.int) = some ns
  | [] => rfl
  | n :: ns => by
    show (intsD (ns.map D.int)).map (n :: ·) = _
    rw [intsD_map ns]
    rfl
theorem intsD_rp {K : PySem.W.Frag} {B : Option Addr} {F : Hp} : ∀ {ds : List D} {ns : List Int} {vs : List V}, intsD ds = some ns → RpL K B F vs ds → vs = ns.map V.int
  | [], ns, vs, h, r => by
    cases h
    cases r
    rfl
  | .int n :: ds, ns, vs, h, r => by
    unfold intsD at h
    obtain ⟨zs, hz, rfl⟩ := Option.map_eq_some_iff.mp h
    cases r with
    | cons r1 r2 =>
      rw [rp_int r1, intsD_rp hz r2]
      rfl
section
variable {G : Gx} {W : WX} {X : Cx} {a b : Expr} {p pos kpos : Pos}
@[simp] def uMxd (ua ud : UV) : UV := fun δ Q R => ua δ (fun x δ1 => ud δ1 (fun z δ2 => match x, z with
  | .lst ds, .int d => (match intsD ds with
    | some ns => ∀ M, (ns = [] ∧ M = d) ∨ (M ∈ ns ∧ ∀ y ∈ ns, y ≤ M) → Q (.int M) δ2
    | none => False)
  | _, _ => False) R) R
theorem qv_mxd {ed : Expr} {ua ud : UV} (hc : X.calm = true) (hg : Gl X "max") (hm : X.mg "max" = none) (ha : QV G W X a ua) (hd : QV G W X ed ud) (hK : X.K = G.K := by rfl) (hs : starEach [a] X.env = (false, eval a X.env) :: starEach [] X.env := by rfl)
    (he : backTo pos (starEach [a] X.env) = (false, eval a X.env) :: backTo pos (starEach [] X.env) := by rfl) (hpl : (backTo pos (starEach [a] X.env)).any (·.1) = false := by rfl) (hall : (backToKw pos (keywordEach [⟨some "default", ed, kpos⟩] X.env)).all (·.1.isSome) = true := by rfl)
    (hnone : (backToKw pos (keywordEach [⟨some "default", ed, kpos⟩] X.env)).any (·.1.isNone) = false := by rfl) (hks : (backToKw pos (keywordEach [⟨some "default", ed, kpos⟩] X.env)).filterMap (·.1) = ([("default" : Str)] : List Str) := by rfl) : QV G W X (.Call (.Name "max" p) [a] [⟨some "default", ed, kpos⟩] pos) (uMxd ua ud) :=
  pe_mono (pe_callBK (crk_mxd hc) hg hm (by rfl) (pa_cons ha pa_nil hs) (pk_cons hd pk_nil) (he := he) (hpl := hpl) (hall := hall) (hnone := hnone) (hks := hks)) fun σ H Q ⟨B, F, δ, Qd, Rd, rs, h, k, x⟩ =>
    tG_then rs h x fun y δ1 q B1 F1 H1 v st1 rs1 r1 => tG_then rs1 q (x.later st1.toLe) fun z δ2 q2 B2 F2 H2 w st2 rs2 r2 => by
      split at q2
      · rename_i ds d
        split at q2
        · rename_i ns hn
          obtain ⟨p, xs, rfl, hp, r⟩ := rp_lst r1
          rw [intsD_rp hn r] at hp
          rw [rp_int r2]
          exact ⟨p, ns, d, rfl, rfl, by rw [hK]; exact (st2.le.trans rs2.sub).seq hp, fun M m => k _ _ (q2 M m) B2 F2 H2 _ (st1.trans st2) rs2 (.int M)⟩
        · exact q2.elim
      · exact q2.elim
/-- max(xs) -/
@[simp] def uMx1 (ua : UV) : UV := fun δ Q R => ua δ (fun x δ1 => match x with
  | .lst ds => (match intsD ds with
    | some ns => ns ≠ [] ∧ ∀ M, (M ∈ ns ∧ ∀ y ∈ ns, y ≤ M) → Q (.int M) δ1
    | none => False)
  | _ => False) R
theorem qv_mx1 {ua : UV} (hc : X.calm = true) (hg : Gl X "max") (hm : X.mg "max" = none) (ha : QV G W X a ua) (hK : X.K = G.K := by rfl) (hs : starEach [a] X.env = (false, eval a X.env) :: starEach [] X.env := by rfl) : QV G W X (.Call (.Name "max" p) [a] [] pos) (uMx1 ua) :=
  pe_mono (pe_callB (cr_max hc) hg hm (by rfl) (pa_cons ha pa_nil hs) (he := hs)) fun σ H Q ⟨B, F, δ, Qd, Rd, rs, h, k, x⟩ =>
    tG_then rs h x fun y δ1 q B1 F1 H1 v st1 rs1 r1 => by
      split at q
      · rename_i ds
        split at q
        · rename_i ns hn
          obtain ⟨p, xs, rfl, hp, r⟩ := rp_lst r1
          rw [intsD_rp hn r] at hp
          exact ⟨p, ns, rfl, by rw [hK]; exact rs1.sub.seq hp, List.length_pos_iff.mpr q.1, fun M hm hle => k _ _ (q.2 M ⟨hm, hle⟩) B1 F1 H1 _ st1 rs1 (.int M)⟩
        · exact q.elim
      · exact q.elim
end
end DL

set_option Elab.async false
set_option linter.all false
set_option maxRecDepth 100000
namespace DL
open PySem PySem.Spec PyProof.Rows L2
/-! ### twos -/
abbrev Two := List (List Rat)
structure TwoOk (t : Two) : Prop where
  len : t.length ≤ 20
  row : ∀ i, (t.getD i []).length ≤ 20
  str : ∀ i, stripQ (t.getD i []) = t.getD i []
  cd : ∀ i j, Cd 840 13 ((t.getD i []).getD j 0)
theorem n840 : (840 : Int) ≠ 0 := by decide
theorem s840 : Sz 10 840 := by unfold Sz; decide
theorem TwoOk.sz {t : Two} (h : TwoOk t) (i j : Nat) : SzQ 13 ((t.getD i []).getD j 0) := (h.cd i j).szq n840 (s840.mono (by decide)) (by decide)
theorem tget_mem {t : Two} {P : List Rat → Prop} (h : ∀ r ∈ t, P r) (h0 : P []) (i : Nat) : P (t.getD i []) := by
  rw [List.getD_eq_getElem?_getD]
  by_cases hi : i < t.length
  · rw [List.getElem?_eq_getElem hi]
    exact h _ (List.getElem_mem hi)
  · rw [List.getElem?_eq_none (by omega)]
    exact h0
theorem tget_off {t : Two} {i : Nat} (h : ¬ i < t.length) : t.getD i [] = [] := by
  rw [List.getD_eq_getElem?_getD, List.getElem?_eq_none (by omega)]
  rfl
theorem tget_map {t : Two} {g : List Rat → List Rat} (h0 : g [] = []) (i : Nat) : (t.map g).getD i [] = g (t.getD i []) := by
  rw [List.getD_eq_getElem?_getD, List.getElem?_map, List.getD_eq_getElem?_getD]
  cases t[i]? with
  | none => exact h0.symm
  | some r => rfl
theorem tget_range {n i : Nat} {g : Nat → List Rat} (h : i < n) : ((List.range n).map g).getD i [] = g i := by
  rw [List.getD_eq_getElem?_getD, List.getElem?_map, List.getElem?_range h]
  rfl
/-! #### strips -/
theorem tcut_top {t : Two} : ∀ n j, tcut t n ≤ j → j < n → t.getD j [] = []
  | 0, j, _, h => by omega
  | n + 1, j, h1, h2 => by
    unfold tcut at h1
    split at h1
    · rename_i hz
      by_cases e : j = n
      · rw [e]; exact hz
      · exact tcut_top n j h1 (by omega)
    · omega
theorem tstrip_get (t : Two) (j : Nat) : (tstripQ t).getD j [] = t.getD j [] := by
  unfold tstripQ
  rw [List.getD_eq_getElem?_getD, List.getElem?_take]
  by_cases h : j < tcut t t.length
  · rw [if_pos h, List.getD_eq_getElem?_getD]
  · rw [if_neg h]
    by_cases h2 : j < t.length
    · rw [tcut_top t.length j (by omega) h2]
      rfl
    · rw [tget_off h2]
      rfl
theorem tcut_ne {t : Two} : ∀ n m, tcut t n = m + 1 → t.getD m [] ≠ []
  | 0, m, h => by unfold tcut at h; omega
  | n + 1, m, h => by
    unfold tcut at h
    split at h
    · exact tcut_ne n m h
    · rename_i hz
      have e : n = m := by omega
      rw [← e]; exact hz
theorem tstrip_len (t : Two) : (tstripQ t).length = tcut t t.length := by
  unfold tstripQ
  rw [List.length_take]
  have := tcut_le t t.length
  omega
theorem tstrip_le (t : Two) : (tstripQ t).length ≤ t.length := by
  rw [tstrip_len]
  exact tcut_le t _
theorem tstrip_short {t u : Two} (h : ∀ j, t.getD j [] = u.getD j []) : (tstripQ u).length ≤ (tstripQ t).length := by
  rcases Nat.lt_or_ge (tstripQ t).length (tstripQ u).length with lt | ge
  · exfalso
    have e : (tstripQ u).length = ((tstripQ u).length - 1) + 1 := by omega
    rw [tstrip_len u] at e
    have ne := tcut_ne _ _ e
    rw [← h, ← tstrip_get t, tget_off (by have := tstrip_len u; omega)] at ne
    exact ne rfl
  · exact ge
theorem tstrip_eq {t u : Two} (h : ∀ j, t.getD j [] = u.getD j []) : tstripQ t = tstripQ u := by
  refine List.ext_getElem (Nat.le_antisymm (tstrip_short fun j => (h j).symm) (tstrip_short h)) fun j h1 h2 => ?_
  have e := (tstrip_get t j).trans ((h j).trans (tstrip_get u j).symm)
  rw [List.getD_eq_getElem?_getD, List.getD_eq_getElem?_getD, List.getElem?_eq_getElem h1, List.getElem?_eq_getElem h2] at e
  exact e
theorem tstrip_strip (t : Two) : tstripQ (tstripQ t) = tstripQ t := tstrip_eq fun j => tstrip_get t j
theorem TwoOk.strip {t : Two} (h : TwoOk t) : TwoOk (tstripQ t) := ⟨Nat.le_trans (tstrip_le t) h.len, fun i => by rw [tstrip_get]; exact h.row i, fun i => by rw [tstrip_get]; exact h.str i, fun i j => by rw [tstrip_get]; exact h.cd i j⟩
theorem TwoOk.nil : TwoOk [] := ⟨by decide, fun i => (by show 0 ≤ 20; decide), fun i => rfl, fun i j => Cd.zero⟩
/-! #### sums -/
def taddQ (t u : Two) : Two := (List.range (max t.length u.length)).map fun i => stripQ (addQ (t.getD i []) (u.getD i []))
theorem taddQ_len {t u : Two} : (taddQ t u).length = max t.length u.length := by simp [taddQ]
theorem add_nil {p : List Rat} (h : stripQ p = p) : stripQ (addQ p []) = p := by
  have e : stripQ (addQ p []) = stripQ p := strip_eq fun j => by rw [addQ_get, getD_off (p := ([] : List Rat)) (by simp), Rat.add_zero]
  rw [e, h]
theorem nil_add {p : List Rat} : stripQ (addQ [] p) = stripQ p := strip_eq fun j => by rw [addQ_get, getD_off (p := ([] : List Rat)) (by simp), Rat.zero_add]
theorem taddQ_take {t u : Two} {i : Nat} (h : i < max t.length u.length) : (taddQ t u).take (i + 1) = (taddQ t u).take i ++ [stripQ (addQ (t.getD i []) (u.getD i []))] := by
  rw [List.take_add_one]
  unfold taddQ
  rw [List.getElem?_map, List.getElem?_range h]
  rfl
theorem taddQ_comm {t u : Two} : taddQ t u = taddQ u t := by
  unfold taddQ
  rw [Nat.max_comm]
  refine List.map_congr_left fun i _ => addQ_comm
/-- the second one laid upon the first -/
def tlaid (t u : Two) : Nat → Two
  | 0 => t
  | n + 1 => (tlaid t u n).set n (stripQ (addQ (t.getD n []) (u.getD n [])))
theorem tlaid_len {t u : Two} : ∀ n, (tlaid t u n).length = t.length
  | 0 => rfl
  | n + 1 => by
    unfold tlaid
    rw [List.length_set, tlaid_len n]
theorem tlaid_get {t u : Two} : ∀ n j, n ≤ t.length → (tlaid t u n).getD j [] = if j < n then stripQ (addQ (t.getD j []) (u.getD j [])) else t.getD j []
  | 0, j, _ => by
    rw [if_neg (by omega)]
    rfl
  | n + 1, j, h => by
    unfold tlaid
    rw [List.getD_eq_getElem?_getD, List.getElem?_set]
    by_cases e : n = j
    · subst e
      rw [if_pos rfl, if_pos (by rw [tlaid_len]; omega), if_pos (by omega)]
      rfl
    · rw [if_neg e, ← List.getD_eq_getElem?_getD, tlaid_get n j (by omega)]
      by_cases h2 : j < n
      · rw [if_pos h2, if_pos (by omega)]
      · rw [if_neg h2, if_neg (by omega)]
theorem tlaid_all {t u : Two} (ht : ∀ i, stripQ (t.getD i []) = t.getD i []) (h : u.length ≤ t.length) : tlaid t u u.length = taddQ t u := by
  refine List.ext_getElem (by rw [tlaid_len, taddQ_len]; omega) fun j h1 h2 => ?_
  have e := tlaid_get (t := t) (u := u) u.length j h
  rw [List.getD_eq_getElem?_getD, List.getElem?_eq_getElem h1] at e
  have e' : (tlaid t u u.length)[j] = if j < u.length then stripQ (addQ (t.getD j []) (u.getD j [])) else t.getD j [] := e
  rw [e']
  have e2 : (taddQ t u)[j] = stripQ (addQ (t.getD j []) (u.getD j [])) := by
    have e3 : (taddQ t u).getD j [] = _ := tget_range (g := fun i => stripQ (addQ (t.getD i []) (u.getD i []))) (by rw [taddQ_len] at h2; exact h2)
    rw [List.getD_eq_getElem?_getD, List.getElem?_eq_getElem h2] at e3
    exact e3
  rw [e2]
  split
  · rfl
  · rename_i hj
    rw [tget_off hj, add_nil (ht j)]
/-! #### the opposite -/
def tneg (t : Two) : Two := t.map fun r => stripQ (mulQ r [-1])
theorem mul_one_get {r s : List Rat} {c : Rat} (hs : ∀ j, s.getD j 0 = if j = 0 then c else 0) (j : Nat) : (mulQ r s).getD j 0 = r.getD j 0 * c := by
  rw [mulQ_get]
  have key : ∀ n, convN r s n j = if j < n then r.getD j 0 * c else 0 := fun n => by
    induction n with
    | zero => rfl
    | succ n ih =>
      unfold convN
      rw [ih, hs]
      by_cases h : j < n
      · rw [if_pos h, if_pos (show j < n + 1 by omega)]
        split
        · omega
        · grind
      · by_cases e : n = j
        · subst e
          rw [if_neg h, if_pos (show n < n + 1 by omega)]
          grind
        · rw [if_neg h, if_neg (show ¬ j < n + 1 by omega)]
          grind
  rw [key]
  by_cases h : j < r.length
  · rw [if_pos h]
  · rw [if_neg h, getD_off h, Rat.zero_mul]
theorem neg1_get (j : Nat) : ([-1] : List Rat).getD j 0 = if j = 0 then -1 else 0 := by
  cases j with
  | zero => rfl
  | succ j => rfl
theorem tneg_get {t : Two} (i : Nat) : (tneg t).getD i [] = stripQ (mulQ (t.getD i []) [-1]) := by
  unfold tneg
  rw [tget_map]
  exact mulQ_nil_l
theorem tneg_len {t : Two} : (tneg t).length = t.length := by simp [tneg]
theorem TwoOk.neg {t : Two} (h : TwoOk t) : TwoOk (tneg t) := by
  refine ⟨by rw [tneg_len]; exact h.len, fun i => ?_, fun i => by rw [tneg_get, strip_strip], fun i j => ?_⟩
  · rw [tneg_get]
    have := mul_len (p := t.getD i []) (q := [-1]) (by decide)
    have l1 : ([-1] : List Rat).length = 1 := rfl
    have := h.row i
    omega
  · rw [tneg_get, strip_get, mul_one_get neg1_get, show (t.getD i []).getD j 0 * -1 = -(t.getD i []).getD j 0 by grind]
    exact (h.cd i j).neg
theorem neg_mulOk {t : Two} (h : TwoOk t) (i : Nat) : MulOk (t.getD i []) [-1] := by
  have c1 : ∀ j, Cd 840 13 (([-1] : List Rat).getD j 0) := fun j => by
    cases j with
    | zero => exact cd840 (show Sz 3 (-1 : Int) by unfold Sz; decide) (show Sz 3 (1 : Int) by unfold Sz; decide)
    | succ j => exact Cd.zero
  have := h.row i
  exact mulOk_cd n840 n840 s840 s840 (h.cd i) c1 (by decide) (by omega)
/-! #### products -/
def tput (R : Two) (k : Nat) (x : List Rat) : Two := R.set k (stripQ (addQ (R.getD k []) x))
def tmulR (r : List Rat) (u : Two) (a : Nat) (R : Two) : Nat → Two
  | 0 => R
  | n + 1 => tput (tmulR r u a R n) (a + n) (stripQ (mulQ r (u.getD n [])))
def tmulT (t u R : Two) : Nat → Two
  | 0 => R
  | n + 1 => tmulR (t.getD n []) u n (tmulT t u R n) u.length
theorem tput_len {R : Two} {k : Nat} {x : List Rat} : (tput R k x).length = R.length := by
  unfold tput
  rw [List.length_set]
theorem tput_get {R : Two} {k i : Nat} {x : List Rat} (h : k < R.length) : (tput R k x).getD i [] = if i = k then stripQ (addQ (R.getD k []) x) else R.getD i [] := by
  unfold tput
  rw [List.getD_eq_getElem?_getD, List.getElem?_set]
  by_cases e : k = i
  · subst e
    rw [if_pos rfl, if_pos h, if_pos rfl]
    rfl
  · rw [if_neg e, if_neg (Ne.symm e), ← List.getD_eq_getElem?_getD]
theorem tmulR_len {r : List Rat} {u R : Two} {a : Nat} : ∀ n, (tmulR r u a R n).length = R.length
  | 0 => rfl
  | n + 1 => by
    unfold tmulR
    rw [tput_len, tmulR_len n]
theorem tmulT_len {t u R : Two} : ∀ n, (tmulT t u R n).length = R.length
  | 0 => rfl
  | n + 1 => by
    unfold tmulT
    rw [tmulR_len, tmulT_len n]
theorem tmulR_same {r : List Rat} {u R S : Two} {a : Nat} (h : ∀ i, R.getD i [] = S.getD i []) (l1 : a + u.length ≤ R.length) (l2 : a + u.length ≤ S.length) : ∀ n, n ≤ u.length → ∀ i, (tmulR r u a R n).getD i [] = (tmulR r u a S n).getD i []
  | 0, _, i => h i
  | n + 1, hn, i => by
    unfold tmulR
    rw [tput_get (by rw [tmulR_len]; omega), tput_get (by rw [tmulR_len]; omega), tmulR_same h l1 l2 n (by omega), tmulR_same h l1 l2 n (by omega)]
theorem tmulT_same {t u R S : Two} (h : ∀ i, R.getD i [] = S.getD i []) (l1 : t.length + u.length ≤ R.length + 1) (l2 : t.length + u.length ≤ S.length + 1) : ∀ n, n ≤ t.length → ∀ i, (tmulT t u R n).getD i [] = (tmulT t u S n).getD i []
  | 0, _, i => h i
  | n + 1, hn, i => by
    unfold tmulT
    exact tmulR_same (tmulT_same h l1 l2 n (by omega)) (by rw [tmulT_len]; omega) (by rw [tmulT_len]; omega) _ (Nat.le_refl _) i
def tmulQ (t u : Two) : Two := tmulT t u (List.replicate (t.length + u.length) []) t.length
theorem trep_get {m i : Nat} : (List.replicate m ([] : List Rat)).getD i [] = [] := by
  rw [List.getD_eq_getElem?_getD, List.getElem?_replicate]
  split <;> rfl
theorem tmul_short {t u : Two} (h1 : 1 ≤ t.length) : tstripQ (tmulT t u (List.replicate (t.length + u.length - 1) []) t.length) = tstripQ (tmulQ t u) := tstrip_eq fun i =>
  tmulT_same (fun i => by rw [trep_get, trep_get]) (by rw [List.length_replicate]; omega) (by rw [List.length_replicate]; omega) _ (Nat.le_refl _) i
theorem tmul_nil_l {u : Two} : tstripQ (tmulQ [] u) = [] := by
  have e : tstripQ (tmulQ [] u) = tstripQ [] := tstrip_eq fun i => by
    show (List.replicate (0 + u.length) ([] : List Rat)).getD i [] = _
    rw [trep_get]
    rfl
  rw [e]
  rfl
theorem tmulT_nil {t R : Two} : ∀ n, tmulT t [] R n = R
  | 0 => rfl
  | n + 1 => by
    unfold tmulT
    rw [tmulT_nil n]
    rfl
theorem tmul_nil_r {t : Two} : tstripQ (tmulQ t []) = [] := by
  have e : tstripQ (tmulQ t []) = tstripQ [] := tstrip_eq fun i => by
    unfold tmulQ
    rw [tmulT_nil, trep_get]
    rfl
  rw [e]
  rfl
/-- sizes on the way -/
structure ROk (R : Two) (s : Nat) : Prop where
  row : ∀ i, (R.getD i []).length ≤ 40
  cd : ∀ i j, Cd (840 * 840) (46 + s) ((R.getD i []).getD j 0)
theorem ROk.put {R : Two} {s k : Nat} {x : List Rat} (h : ROk R s) (hk : k < R.length) (lx : x.length ≤ 40) (cx : ∀ j, Cd (840 * 840) 46 (x.getD j 0)) : ROk (tput R k x) (s + 1) := by
  refine ⟨fun i => ?_, fun i j => ?_⟩
  · rw [tput_get hk]
    split
    · have := strip_le (addQ (R.getD k []) x)
      rw [addQ_len] at this
      have := h.row k
      omega
    · exact h.row i
  · rw [tput_get hk]
    split
    · rw [strip_get, addQ_get]
      exact ((h.cd k j).add (m := 46 + s) (by decide) ((cx j).mono (by omega))).mono (by omega)
    · exact (h.cd i j).mono (by omega)
theorem cell_ok {t u : Two} (ht : TwoOk t) (hu : TwoOk u) (i k : Nat) : MulOk (t.getD i []) (u.getD k []) ∧ (stripQ (mulQ (t.getD i []) (u.getD k []))).length ≤ 40 ∧ ∀ j, Cd (840 * 840) 46 ((stripQ (mulQ (t.getD i []) (u.getD k []))).getD j 0) := by
  have l1 := ht.row i
  have l2 := hu.row k
  refine ⟨mulOk_cd n840 n840 s840 s840 (ht.cd i) (hu.cd k) (by decide) (by omega), ?_, fun j => ?_⟩
  · have := strip_le (mulQ (t.getD i []) (u.getD k []))
    rw [mulQ_len] at this
    omega
  · rw [strip_get]
    exact (mulQ_cd n840 n840 (ht.cd i) (hu.cd k) j).mono (by omega)
theorem tmulR_ok {t u R : Two} (ht : TwoOk t) (hu : TwoOk u) {a s : Nat} (h : ROk R s) (l1 : a + u.length ≤ R.length) : ∀ n, n ≤ u.length → ROk (tmulR (t.getD a []) u a R n) (s + n)
  | 0, _ => h
  | n + 1, hn => by
    obtain ⟨_, c2, c3⟩ := cell_ok ht hu a n
    exact (tmulR_ok ht hu h l1 n (by omega)).put (by rw [tmulR_len]; omega) c2 c3
theorem tmulT_ok {t u R : Two} (ht : TwoOk t) (hu : TwoOk u) (h : ROk R 0) (l1 : t.length + u.length ≤ R.length + 1) : ∀ n, n ≤ t.length → ROk (tmulT t u R n) (n * u.length)
  | 0, _ => by
    rw [Nat.zero_mul]
    exact h
  | n + 1, hn => by
    rw [Nat.succ_mul]
    exact tmulR_ok ht hu (tmulT_ok ht hu h l1 n (by omega)) (by rw [tmulT_len]; omega) _ (Nat.le_refl _)
theorem rok_rep {m : Nat} : ROk (List.replicate m []) 0 := ⟨fun i => by rw [trep_get]; decide, fun i j => by rw [trep_get]; exact Cd.zero⟩
/-! #### a number in the place of x -/
def hxQ (z : Rat) : Two → List Rat
  | [] => []
  | r :: t => stripQ (addQ (stripQ (scaleQ (hxQ z t) z)) r)
def axQ (z : Rat) (t : Two) : Nat → List Rat
  | 0 => []
  | n + 1 => stripQ (addQ (axQ z t n) (stripQ (mulQ (t.getD n []) (powQ (stripQ [z]) n))))
theorem pow1_get {z : Rat} : ∀ n j, (powQ (stripQ [z]) n).getD j 0 = if j = 0 then z ^ n else 0
  | 0, j => by
    rw [Rat.pow_zero]
    cases j <;> rfl
  | n + 1, j => by
    show (stripQ (mulQ (powQ (stripQ [z]) n) (stripQ [z]))).getD j 0 = _
    rw [strip_get, mul_one_get (c := z) (fun j => by rw [strip_get]; cases j <;> rfl), pow1_get n j]
    split
    · rw [Rat.pow_succ]
    · rw [Rat.zero_mul]
theorem ax_get {z : Rat} {t : Two} (j : Nat) : ∀ n, (axQ z t n).getD j 0 = sumF (fun i => (t.getD i []).getD j 0 * z ^ i) n
  | 0 => rfl
  | n + 1 => by
    unfold axQ sumF
    rw [strip_get, addQ_get, strip_get, mul_one_get (pow1_get n), ax_get j n]
theorem sumF_mul {f : Nat → Rat} {z : Rat} : ∀ n, sumF f n * z = sumF (fun i => f i * z) n
  | 0 => Rat.zero_mul z
  | n + 1 => by
    unfold sumF
    rw [Rat.add_mul, sumF_mul n]
theorem hx_get {z : Rat} : ∀ (t : Two) (j : Nat), (hxQ z t).getD j 0 = sumF (fun i => (t.getD i []).getD j 0 * z ^ i) t.length
  | [], j => rfl
  | r :: t, j => by
    unfold hxQ
    rw [strip_get, addQ_get, strip_get, scale_get, hx_get t j, List.length_cons, sumF_front, Rat.pow_zero, sumF_mul]
    have e : sumF (fun i => (t.getD i []).getD j 0 * z ^ i * z) t.length = sumF (fun i => ((r :: t).getD (i + 1) []).getD j 0 * z ^ (i + 1)) t.length := sumF_ext (fun i => by
      show _ = (t.getD i []).getD j 0 * z ^ (i + 1)
      rw [Rat.pow_succ, Rat.mul_assoc]) _
    rw [e]
    show _ + r.getD j 0 = r.getD j 0 * 1 + _
    rw [Rat.mul_one, Rat.add_comm]
theorem hx_strip {z : Rat} : ∀ t : Two, stripQ (hxQ z t) = hxQ z t
  | [] => rfl
  | r :: t => strip_strip _
theorem ax_strip {z : Rat} {t : Two} : ∀ n, stripQ (axQ z t n) = axQ z t n
  | 0 => rfl
  | n + 1 => strip_strip _
theorem ax_hx {z : Rat} {t : Two} : axQ z t t.length = hxQ z t := by
  rw [← ax_strip, ← hx_strip]
  exact strip_eq fun j => by rw [ax_get, hx_get]
theorem hx_len {z : Rat} {L : Nat} : ∀ {t : Two}, (∀ r ∈ t, r.length ≤ L) → (hxQ z t).length ≤ L
  | [], _ => Nat.zero_le _
  | r :: t, h => by
    have ih := hx_len (z := z) (t := t) fun r hr => h r (.tail _ hr)
    have h1 := h r (.head _)
    unfold hxQ
    have h2 := strip_le (addQ (stripQ (scaleQ (hxQ z t) z)) r)
    have h3 := strip_le (scaleQ (hxQ z t) z)
    rw [addQ_len] at h2
    rw [scale_len] at h3
    omega
/-- sizes: a number of at most s bits -/
theorem sum_sz {f : Nat → Rat} {m : Nat} : ∀ n, (∀ i, i < n → SzQ m (f i)) → SzQ (n * (m + 1) + 1) (sumF f n)
  | 0, _ => szq_zero (by omega)
  | n + 1, h => by
    unfold sumF
    exact ((sum_sz n fun i hi => h i (by omega)).add (h n (by omega))).mono (by rw [Nat.succ_mul]; omega)
theorem hx_sz {z : Rat} {t : Two} (hz : SzQ 3 z) (ht : ∀ i j, SzQ 13 ((t.getD i []).getD j 0)) (hl : t.length ≤ 20) (j : Nat) : SzQ 20000000 ((hxQ z t).getD j 0) := by
  rw [hx_get]
  refine (sum_sz (m := 80) t.length fun i hi => ((ht i j).mul (pow_sz hz i)).mono (by omega)).mono ?_
  have : t.length * (80 + 1) ≤ 20 * 81 := Nat.mul_le_mul_right _ hl
  omega
end DL

set_option Elab.async false
set_option linter.all false
set_option maxRecDepth 100000
namespace DL
open PySem PySem.Spec PyProof.Rows L2
/-! ### twos as data -/
theorem rowsT_at {t : Two} {i : Nat} {d : D} (h : (t.map pD)[i]? = some d) : i < t.length ∧ d = pD (t.getD i []) := by
  rw [List.getElem?_map] at h
  obtain ⟨z, hz, rfl⟩ := Option.map_eq_some_iff.mp h
  have hl := (List.getElem?_eq_some_iff.mp hz).1
  exact ⟨hl, by rw [List.getD_eq_getElem?_getD, hz]; rfl⟩
theorem enumT_at {t : Two} {i : Nat} {d : D} (h : (enumD (t.map pD))[i]? = some d) : i < t.length ∧ d = .tup [.int (i : Nat), pD (t.getD i [])] := by
  obtain ⟨x, hx, rfl⟩ := enumD_get h
  obtain ⟨hl, rfl⟩ := rowsT_at hx
  exact ⟨hl, rfl⟩
theorem revT_at {t : Two} {i : Nat} {d : D} (h : (t.map pD).reverse[i]? = some d) : i < t.length ∧ d = pD (t.getD (t.length - 1 - i) []) := by
  have hl : i < (t.map pD).length := by
    have := (List.getElem?_eq_some_iff.mp h).1
    rwa [List.length_reverse] at this
  rw [rev_at hl, List.length_map] at h
  rw [List.length_map] at hl
  exact ⟨hl, (rowsT_at h).2⟩
theorem drop_row {t : Two} {i : Nat} (h : i < t.length) : t.drop (t.length - (i + 1)) = t.getD (t.length - 1 - i) [] :: t.drop (t.length - i) := by
  rw [show t.length - (i + 1) = t.length - 1 - i by omega, List.drop_eq_getElem_cons (by omega), show t.length - 1 - i + 1 = t.length - i by omega, List.getD_eq_getElem?_getD, List.getElem?_eq_getElem (by omega)]
  rfl
theorem tnoughts (n : Nat) : ((rgD 0 n).filterMap fun _ => some (D.tup [])) = (List.replicate n ([] : List Rat)).map pD := by
  rw [same_all, List.map_replicate]
  rfl
theorem shp_tD {t : Two} {n : Nat} (h : t.length ≤ 1000000) (h2 : ∀ r ∈ t, r.length ≤ 1000000) : Shp (n + 4) (tD t) := ⟨by rw [List.length_map]; exact h, fun d hd => by
  obtain ⟨z, hz, rfl⟩ := List.mem_map.mp hd
  exact shp_pD (h2 z hz)⟩
theorem map_row {t : Two} {g : List Rat → List Rat} : (List.range t.length).map (fun j => pD (g (t.getD j []))) = (t.map g).map pD := by
  refine List.ext_getElem (by simp) fun i h1 h2 => ?_
  have hl : i < t.length := by simpa using h1
  simp [List.getD_eq_getElem?_getD, List.getElem?_eq_getElem hl]
theorem map_num {t : Two} {g : List Rat → Rat} : (List.range t.length).map (fun j => frq (g (t.getD j []))) = (t.map g).map frq := by
  refine List.ext_getElem (by simp) fun i h1 h2 => ?_
  have hl : i < t.length := by simpa using h1
  simp [List.getD_eq_getElem?_getD, List.getElem?_eq_getElem hl]
theorem map_int {t : Two} {g : List Rat → Int} : (List.range t.length).map (fun j => D.int (g (t.getD j []))) = (t.map g).map D.int := by
  refine List.ext_getElem (by simp) fun i h1 h2 => ?_
  have hl : i < t.length := by simpa using h1
  simp [List.getD_eq_getElem?_getD, List.getElem?_eq_getElem hl]
theorem lay_twos : ∀ t : Two, PyData.canLayAll0 (D.pyL (t.map pD)) = true
  | [] => rfl
  | p :: t => by
    have ih := lay_twos t
    have h1 := lay_rows p
    simp only [List.map_cons, D.pyL, pD, D.py, PyData.canLayAll0, PyData.canLay0, Bool.and_eq_true]
    exact ⟨h1, ih⟩
theorem depth_twos : ∀ t : Two, PyData.depthAll (D.pyL (t.map pD)) ≤ 2
  | [] => by simp [D.pyL, PyData.depthAll]
  | p :: t => by
    have ih := depth_twos t
    have h1 := depth_rows p
    simp only [List.map_cons, D.pyL, pD, D.py, PyData.depthAll, PyData.depth]
    omega
theorem eqv_twos : ∀ t : Two, PyData.eqvAll (D.pyL (t.map pD)) (D.pyL (t.map pD)) = true
  | [] => by simp [D.pyL, PyData.eqvAll]
  | p :: t => by
    have ih := eqv_twos t
    have h1 := eqv_rows p
    simp only [List.map_cons, D.pyL, pD, D.py, PyData.eqvAll, PyData.eqv, Bool.and_eq_true]
    exact ⟨h1, ih⟩
theorem eqv_tnil (t : Two) : PyData.eqv (tD t).py (D.tup []).py = decide (t = []) := by
  cases t <;> simp [tD, D.py, D.pyL, PyData.eqv, PyData.eqvAll]
theorem shaped_tD (t : Two) : SeqAt.shaped (tD t).py = true := by
  have h1 := lay_twos t
  have h2 := depth_twos t
  unfold tD
  simp only [D.py, SeqAt.shaped, PyData.canLay0, PyData.depth, Bool.and_eq_true, decide_eq_true_eq]
  exact ⟨h1, by omega⟩
theorem gEq_tnil (t : Two) (Q : D → Prop) : gEq (tD t) (.tup []) Q = Q (.bl (decide (t = []))) := by
  show (SeqAt.shaped (tD t).py = true ∧ SeqAt.shaped (D.tup []).py = true ∧ Q (.bl (PyData.eqv (tD t).py (D.tup []).py))) = _
  rw [eqv_tnil]
  exact propext ⟨fun h => h.2.2, fun h => ⟨shaped_tD t, shaped_tD [], h⟩⟩
theorem ne_twos (t : Two) (Q : D → Prop) (q : Q (.bl false)) : gNe (.lst (t.map pD)) (.lst (t.map pD)) Q := by
  have s : SeqAt.shaped (D.lst (t.map pD)).py = true := by
    have h1 := lay_twos t
    have h2 := depth_twos t
    simp only [D.py, SeqAt.shaped, PyData.canLay0, PyData.depth, Bool.and_eq_true, decide_eq_true_eq]
    exact ⟨h1, by omega⟩
  refine ⟨s, s, ?_⟩
  have e : PyData.eqv (D.lst (t.map pD)).py (D.lst (t.map pD)).py = true := by
    simp only [D.py, PyData.eqv]
    exact eqv_twos t
  show Q (.bl (!PyData.eqv (D.lst (t.map pD)).py (D.lst (t.map pD)).py))
  rw [e]; exact q
/-- the tail of noughts -/
theorem tpad (t : Two) (n : Nat) : tstripQ (t ++ List.replicate n []) = tstripQ t := tstrip_eq fun j => by
  rw [List.getD_eq_getElem?_getD, List.getD_eq_getElem?_getD]
  by_cases h : j < t.length
  · rw [List.getElem?_append_left h]
  · rw [List.getElem?_append_right (by omega), List.getElem?_eq_none (show t.length ≤ j by omega), List.getElem?_replicate]
    split <;> rfl
/-- the greatest of a row of numbers, as both say it -/
theorem max_one {ns : List Int} {M N : Int} (hN : (ns = [] ∧ N = -1) ∨ (N ∈ ns ∧ ∀ y ∈ ns, y ≤ N)) (hge : ∀ y ∈ ns, -1 ≤ y) (hM : M ∈ -1 :: ns ∧ ∀ y ∈ -1 :: ns, y ≤ M) : N = M := by
  obtain ⟨m1, m2⟩ := hM
  rcases hN with ⟨rfl, rfl⟩ | ⟨n1, n2⟩
  · rcases List.mem_cons.mp m1 with h | h
    · exact h.symm
    · cases h
  · have h1 := m2 N (.tail _ n1)
    have h2 := hge N n1
    rcases List.mem_cons.mp m1 with h | h
    · omega
    · have := n2 M h
      omega
theorem TwoOk.mem {t : Two} (h : TwoOk t) : ∀ r ∈ t, r.length ≤ 20 := fun r hr => by
  obtain ⟨i, hi, rfl⟩ := List.getElem_of_mem hr
  have := h.row i
  rwa [List.getD_eq_getElem?_getD, List.getElem?_eq_getElem hi] at this
theorem twoOk_draw {ps : Two} (h1 : ps.length ≤ 20) (h2 : ∀ p ∈ ps, p.length ≤ 20 ∧ stripQ p = p ∧ ∀ j, SzQ 3 (p.getD j 0)) : TwoOk (tstripQ ps) := by
  refine TwoOk.strip ⟨h1, fun i => tget_mem (P := fun r => r.length ≤ 20) (fun r hr => (h2 r hr).1) (by decide) i, fun i => tget_mem (P := fun r => stripQ r = r) (fun r hr => (h2 r hr).2.1) rfl i, fun i j => ?_⟩
  have s := tget_mem (P := fun r => ∀ j, SzQ 3 (r.getD j 0)) (fun r hr => (h2 r hr).2.2) (fun j => szq_zero) i j
  exact cd840 s.1 s.2
theorem neg1_scale {t : Two} : t.map (fun r => stripQ (mulQ r [-1])) = tneg t := rfl
theorem tadd_neg_nil {t : Two} : taddQ t [] = (List.range t.length).map fun i => stripQ (addQ (t.getD i []) []) := by
  unfold taddQ
  rw [show max t.length ([] : Two).length = t.length from Nat.max_eq_left (Nat.zero_le _)]
  rfl
theorem tadd_sz {t u : Two} (ht : TwoOk t) (hu : TwoOk u) (i : Nat) : (t.getD i []).length ≤ 1000 ∧ (u.getD i []).length ≤ 1000 ∧ (∀ j, SzQ 44000000 ((t.getD i []).getD j 0)) ∧ ∀ j, SzQ 44000000 ((u.getD i []).getD j 0) := by
  have h1 := ht.row i
  have h2 := hu.row i
  exact ⟨by omega, by omega, fun j => (ht.sz i j).mono (by decide), fun j => (hu.sz i j).mono (by decide)⟩
theorem tadd_len {t u : Two} (ht : TwoOk t) (hu : TwoOk u) : (taddQ t u).length ≤ 20 ∧ ∀ r ∈ taddQ t u, r.length ≤ 20 := by
  refine ⟨by rw [taddQ_len]; have := ht.len; have := hu.len; omega, fun r hr => ?_⟩
  obtain ⟨i, _, rfl⟩ := List.mem_map.mp hr
  have h1 := ht.row i
  have h2 := hu.row i
  have h3 := strip_le (addQ (t.getD i []) (u.getD i []))
  rw [addQ_len] at h3
  omega
theorem tstrip_mem {t : Two} {P : List Rat → Prop} (h : ∀ r ∈ t, P r) : ∀ r ∈ tstripQ t, P r := fun r hr => h r (List.mem_of_mem_take hr)
theorem tmul_len {t u : Two} (ht : TwoOk t) (hu : TwoOk u) : (tmulQ t u).length ≤ 40 ∧ ∀ r ∈ tmulQ t u, r.length ≤ 40 := by
  have l1 := ht.len
  have l2 := hu.len
  refine ⟨by unfold tmulQ; rw [tmulT_len, List.length_replicate]; omega, fun r hr => ?_⟩
  obtain ⟨i, hi, rfl⟩ := List.getElem_of_mem hr
  have ok := tmulT_ok ht hu (rok_rep (m := t.length + u.length)) (by rw [List.length_replicate]; omega) t.length (Nat.le_refl _)
  have := ok.row i
  unfold tmulQ at hi ⊢
  rwa [List.getD_eq_getElem?_getD, List.getElem?_eq_getElem hi] at this
theorem rok_sz {R : Two} {s : Nat} (h : ROk R s) (hs : s ≤ 800) (i j : Nat) : SzQ 44000000 ((R.getD i []).getD j 0) :=
  ((h.cd i j).mono (show 46 + s ≤ 1000 by omega)).szq (D := 840 * 840) (b := 1000) (by decide) ((s840.mulB s840).mono (by decide)) (Nat.le_refl _) |>.mono (by decide)
/-! #### rows of one number -/
theorem one_conv {r s : List Rat} {c : Rat} (hs : ∀ j, s.getD j 0 = if j = 0 then c else 0) (j : Nat) : ∀ n, convN r s n j = if j < n then r.getD j 0 * c else 0
  | 0 => rfl
  | n + 1 => by
    unfold convN
    rw [one_conv hs j n, hs]
    by_cases h : j < n
    · rw [if_pos h, if_pos (show j < n + 1 by omega)]
      split
      · omega
      · grind
    · by_cases e : n = j
      · subst e
        rw [if_neg h, if_pos (show n < n + 1 by omega)]
        grind
      · rw [if_neg h, if_neg (show ¬ j < n + 1 by omega)]
        grind
theorem one_mulOk {r s : List Rat} {c : Rat} {a b : Nat} (hs : ∀ j, s.getD j 0 = if j = 0 then c else 0) (hr : ∀ j, SzQ a (r.getD j 0)) (hc : SzQ b c) (h1 : 1 ≤ b) (h2 : a + b ≤ 44000000) : MulOk r s := by
  have sj : ∀ j, SzQ b (s.getD j 0) := fun j => by
    rw [hs]
    split
    · exact hc
    · exact szq_zero h1
  refine ⟨fun i => (hr i).mono (by omega), fun i => (sj i).mono (by omega), fun x i => ((hr x).mul (sj i)).mono (by omega), fun x j _ => ?_⟩
  rw [one_conv hs]
  split
  · exact ((hr j).mul hc).mono (by omega)
  · exact szq_zero (by decide)
theorem pow1_len {z : Rat} : ∀ n, (powQ (stripQ [z]) n).length ≤ 1
  | 0 => Nat.le_refl _
  | n + 1 => by
    have e : powQ (stripQ [z]) (n + 1) = stripQ [z ^ (n + 1)] := by
      show stripQ _ = _
      refine strip_eq fun j => ?_
      rw [← strip_get, show stripQ (mulQ (powQ (stripQ [z]) n) (stripQ [z])) = powQ (stripQ [z]) (n + 1) from rfl, pow1_get]
      cases j <;> rfl
    rw [e]
    exact strip_le _
theorem pow1_ok {z : Rat} (hz : SzQ 3 z) {n : Nat} (hn : n ≤ 20) : (powQ (stripQ [z]) n).length ≤ 1000 ∧ MulOk (powQ (stripQ [z]) n) (stripQ [z]) := by
  have hl := pow1_len (z := z) n
  have hp : SzQ 100 (z ^ n) := (pow_sz hz n).mono (by omega)
  refine ⟨by omega, one_mulOk (a := 100) (b := 3) (c := z) (fun j => by rw [strip_get]; cases j <;> rfl) (fun j => ?_) hz (by decide) (by decide)⟩
  rw [pow1_get]
  split
  · exact hp
  · exact szq_zero (by decide)
theorem ax_ok {z : Rat} (hz : SzQ 3 z) {t : Two} (ht : TwoOk t) {n : Nat} (hn : n ≤ 20) : MulOk (t.getD n []) (powQ (stripQ [z]) n) ∧ (∀ j, SzQ 44000000 ((stripQ (mulQ (t.getD n []) (powQ (stripQ [z]) n))).getD j 0)) ∧ ∀ j, SzQ 44000000 ((axQ z t n).getD j 0) := by
  have hp : SzQ 100 (z ^ n) := (pow_sz hz n).mono (by omega)
  refine ⟨one_mulOk (a := 13) (b := 100) (c := z ^ n) (pow1_get n) (fun j => ht.sz n j) hp (by decide) (by decide), fun j => ?_, fun j => ?_⟩
  · rw [strip_get, mul_one_get (pow1_get n)]
    exact ((ht.sz n j).mul hp).mono (by decide)
  · rw [ax_get]
    refine (sum_sz (m := 80) n fun i hi => ((ht.sz i j).mul (pow_sz hz i)).mono (by omega)).mono ?_
    have : n * (80 + 1) ≤ 20 * 81 := Nat.mul_le_mul_right _ hn
    omega
theorem ax_len {z : Rat} {t : Two} (ht : TwoOk t) : ∀ n, (axQ z t n).length ≤ 21
  | 0 => Nat.zero_le _
  | n + 1 => by
    have ih := ax_len (z := z) ht n
    unfold axQ
    have h1 := strip_le (addQ (axQ z t n) (stripQ (mulQ (t.getD n []) (powQ (stripQ [z]) n))))
    have h2 := strip_le (mulQ (t.getD n []) (powQ (stripQ [z]) n))
    have h3 := pow1_len (z := z) n
    have h4 := ht.row n
    rw [addQ_len] at h1
    rw [mulQ_len] at h2
    omega
theorem tdrop_get {t : Two} {n i : Nat} : (t.drop n).getD i [] = t.getD (n + i) [] := by
  rw [List.getD_eq_getElem?_getD, List.getElem?_drop, List.getD_eq_getElem?_getD]
theorem hx_drop {z : Rat} (hz : SzQ 3 z) {t : Two} (ht : TwoOk t) (n : Nat) : (hxQ z (t.drop n)).length ≤ 20 ∧ (∀ j, SzQ 20000000 ((hxQ z (t.drop n)).getD j 0)) ∧ ∀ j, SzQ 44000000 ((stripQ (scaleQ (hxQ z (t.drop n)) z)).getD j 0) := by
  have s := fun j => hx_sz hz (t := t.drop n) (fun i j => by rw [tdrop_get]; exact ht.sz _ j) (by rw [List.length_drop]; have := ht.len; omega) j
  refine ⟨hx_len fun r hr => ht.mem r (List.mem_of_mem_drop hr), s, fun j => ?_⟩
  rw [strip_get, scale_get]
  exact ((s j).mul hz).mono (by decide)
theorem worth_ok {z : Rat} (hz : SzQ 3 z) {t : Two} (ht : TwoOk t) (n : Nat) : (∀ i, SzQ 44000000 (worthQ z ((t.getD n []).drop i)) ∧ SzQ 44000000 (worthQ z ((t.getD n []).drop i) * z)) ∧ ∀ i, i < (t.getD n []).length → SzQ 44000000 (patQ z ((t.getD n []).take i) 0 1) ∧ SzQ 44000000 (z ^ i) ∧ SzQ 44000000 ((t.getD n []).getD i 0 * z ^ i) := by
  have hl := ht.row n
  have w : ∀ p : List Rat, p.length ≤ 20 → (∀ i, SzQ 13 (p.getD i 0)) → SzQ 400 (worthQ z p) := fun p lp hp => by
    refine (worth_sz (s := 13) hz p hp).mono ?_
    have : p.length * (13 + 3 + 1) ≤ 20 * 17 := Nat.mul_le_mul_right _ lp
    omega
  refine ⟨fun i => ?_, fun i hi => ?_⟩
  · have s := w ((t.getD n []).drop i) (by rw [List.length_drop]; omega) (fun j => by rw [drop_get]; exact ht.sz n _)
    exact ⟨s.mono (by decide), (s.mul hz).mono (by decide)⟩
  · have hp : SzQ 100 (z ^ i) := (pow_sz hz i).mono (by omega)
    rw [pat_worth]
    exact ⟨(w _ (by rw [List.length_take]; omega) (take_sz (fun j => ht.sz n j) (szq_zero (by decide)) i)).mono (by decide), hp.mono (by decide), ((ht.sz n i).mul hp).mono (by decide)⟩
end DL

set_option Elab.async false
set_option linter.all false
set_option maxRecDepth 100000
namespace DL
open PySem PySem.Spec PyProof.Rows L2
section
variable {G : Gx} {W : WX} {X : Cx} {a b e o tg : Expr} {es : List Expr} {pos : Pos}
/-! ### one sign in a text -/
@[simp] def gInS : G2 := fun x y Q => match x, y with
  | .str z, .str t => ∃ c, z = ⟨#[c]⟩ ∧ Q (.bl (decide (c ∈ t.cps.toList)))
  | _, _ => False
@[simp] def gNinS : G2 := fun x y Q => match x, y with
  | .str z, .str t => ∃ c, z = ⟨#[c]⟩ ∧ Q (.bl (!decide (c ∈ t.cps.toList)))
  | _, _ => False
abbrev rInC (sg : Bool → Bool) : R2 := fun x y H Q => ∃ (c : Nat) (z : Str), x = .str ⟨#[c]⟩ ∧ y = .str z ∧ Q (.bl (sg (decide (c ∈ z.cps.toList)))) H
theorem opd_inS : OpD G.K (rInC id) gInS := fun B F H v w x y Qd Q _ r1 r2 g k => by
  unfold gInS at g
  split at g
  · obtain ⟨c, rfl, g⟩ := g
    exact ⟨c, _, rp_str r1, rp_str r2, k _ _ g (.bl _)⟩
  · exact g.elim
theorem opd_ninS : OpD G.K (rInC not) gNinS := fun B F H v w x y Qd Q _ r1 r2 g k => by
  unfold gNinS at g
  split at g
  · obtain ⟨c, rfl, g⟩ := g
    exact ⟨c, _, rp_str r1, rp_str r2, k _ _ g (.bl _)⟩
  · exact g.elim
theorem qv_inS {ua ub : UV} (ha : QV G W X a ua) (hb : QV G W X b ub) (hm : behindInMarks .In b = false := by rfl) : QV G W X (.Compare a [.In] [b] pos) (uOp gInS ua ub) := qv_cmp (r := rInC id) op_in_sign opd_inS ha hb hm
theorem qt_inS {ua ub : UV} (ha : QV G W X a ua) (hb : QV G W X b ub) (hm : behindInMarks .In b = false := by rfl) : QT G W X (.Compare a [.In] [b] pos) (uTst (uOp gInS ua ub)) := qt_cmp (r := rInC id) op_in_sign opd_inS ha hb hm
theorem qv_ninS {ua ub : UV} (ha : QV G W X a ua) (hb : QV G W X b ub) (hm : behindInMarks .NotIn b = false := by rfl) : QV G W X (.Compare a [.NotIn] [b] pos) (uOp gNinS ua ub) := qv_cmp (r := rInC not) op_notIn_sign opd_ninS ha hb hm
theorem qt_ninS {ua ub : UV} (ha : QV G W X a ua) (hb : QV G W X b ub) (hm : behindInMarks .NotIn b = false := by rfl) : QT G W X (.Compare a [.NotIn] [b] pos) (uTst (uOp gNinS ua ub)) := qt_cmp (r := rInC not) op_notIn_sign opd_ninS ha hb hm
/-! ### a text sign by sign -/
def signsD (z : Str) : List D := z.cps.toList.map fun c => .str ⟨#[c]⟩
theorem signs_at {z : Str} {i : Nat} {d : D} (h : (signsD z)[i]? = some d) : ∃ c, z.cps[i]? = some c ∧ d = .str ⟨#[c]⟩ := by
  unfold signsD at h
  rw [List.getElem?_map] at h
  obtain ⟨c, hc, rfl⟩ := Option.map_eq_some_iff.mp h
  exact ⟨c, by simpa using hc, rfl⟩
theorem signs_len {z : Str} : (signsD z).length = z.cps.size := by
  unfold signsD
  rw [List.length_map, Array.length_toList]
@[simp] def uItS (u : UV) : UI := fun δ Q R => u δ (fun d δ1 => match d with | .str z => Q (signsD z) δ1 | _ => False) R
theorem qi_str {u : UV} (h : QV G W X e u) : QI G W X tg e (uItS u) := pi_mono (pi_str h) fun σ H R ⟨B, F, δ, Qd, Rd, rs, h, k, x⟩ => tG_then rs h x fun d δ1 q B1 F1 H1 v st1 rs1 r1 => by
  split at q
  · rename_i z
    refine ⟨z, rp_str r1, k _ _ q B1 F1 H1 _ st1 rs1 ⟨fun i H e hi => ?_, fun i H e hi => ?_, fun i H x H' d e y hd => ?_⟩⟩
    · rw [signs_len] at hi
      exact hi
    · rw [signs_len] at hi
      exact hi
    · obtain ⟨y1, c, hc, rfl⟩ := y
      obtain ⟨c', hc', rfl⟩ := signs_at hd
      rw [hc] at hc'
      cases hc'
      exact .inl ⟨y1, .str _⟩
  · exact q.elim
/-! ### int(text, 10) -/
structure Txs (p : Prop) : Prop where
  fact : p
set_option maxHeartbeats 4000000 in
theorem dec_gives {z : PySem.Str} {tz tb : Tok} {m : Int} (few : z.length ≤ 640) (says : PySem.intText? z = some m) :
    Gives (Builtin.«int.__new__» ⟨[.type "int", .str z tz, .int 10 tb], []⟩) (.int m) := .of_wp fun M A E s Q fin => by
  have k1 := PySem.F.conv_sub_int
  have k2 := PySem.F.madeHere_int
  have k3 : typeOf (.str z tz) = pure (.type "str") := rfl
  have lz : (numSeenOf z).length ≤ 640 := Nat.le_trans (seen_length z) few
  have all : (numSeenOf z).length ≤ 640 ∧ (int_private% "readNumeral") 0 10 (numSeenOf z) = (int_private% "Numeral.value") m ∧ ((numSeenOf z).length == (numTextOf z).length) = true := by
    refine ⟨lz, ?_⟩
    rcases read0 z lz with ⟨i, g1, g2, g3⟩ | ⟨g1, _⟩
    · rw [says] at g1
      cases g1
      exact ⟨g3, g2⟩
    · rw [says] at g1
      cases g1
  have held := Txs.mk all
  clear all lz says few
  obtain ⟨sh, sg, sd, st, so⟩ := s
  repeat (any_goals (first
    | assumption
    | ((with_reducible show wpAny _ _ ((int_private% "intFromText") _ _ _) _ _ _); refine Hx.wp_textB held.fact.1 held.fact.2.1 held.fact.2.2 ?_)
    | wp_step))
  all_goals first | exact ⟨_, rfl, fin⟩ | skip
theorem dec_call {pr : Program} {w : World} {A : Around} {E : Value → Shared → Prop} {s : Shared} {Q : Value → Shared → Prop} {z : PySem.Str} {tz tb : Tok} {m : Int} (few : z.length ≤ 640) (says : PySem.intText? z = some m)
    (fin : Q (.int m s.toks) { s with toks := s.toks + 1 }) : wpAny (model pr w) A (call (.type "int") [.str z tz, .int 10 tb]) Q E s :=
  callType_new PySem.F.called_int PySem.F.newNe_int (Hx.typeCall_int_2 _ _) (Hx.newCall_int_2 _ _) (fun ob => PySem.F.initArgs_range_2 ob _ _) PySem.F.entry_int_new (dec_gives few says).meets (show (Made.int m).post _ s from ⟨rfl, fin⟩)
def rInt10 : List V → Hp → VK → Prop := fun xs H Q => ∃ z m, xs = [.str z, .int 10] ∧ z.length ≤ 640 ∧ PySem.intText? z = some m ∧ Q (.int m) H
theorem call_int10 : CallR X (.type "int") rInt10 := fun pins s σ H xs us Q I r h => by
  obtain ⟨z, m, rfl, few, says, q⟩ := h
  obtain ⟨v1, v2, rfl, r1, r2⟩ := vals2 r
  obtain ⟨t1, rfl⟩ := r1
  obtain ⟨t2, rfl⟩ := r2
  exact dec_call few says ⟨.int m, H, I.tok _, ⟨_, rfl⟩, q⟩
@[simp] def gInt10 : GA := fun ds Q => match ds with
  | [.str z, .int i] => i = 10 ∧ z.length ≤ 640 ∧ ∃ m, PySem.intText? z = some m ∧ Q (.int m)
  | _ => False
theorem qv_int10 {p : Pos} {ua : UA} (hg : Gl X "int") (hm : X.mg "int" = none) (ha : QA G W X [a, b] ua) (he : starEach [a, b] X.env = (false, eval a X.env) :: starEach [b] X.env := by rfl) (hpl : (backTo pos (starEach [b] X.env)).any (·.1) = false := by rfl) : QV G W X (.Call (.Name "int" p) [a, b] [] pos) (uCaB gInt10 ua) :=
  qv_ct call_int10 (fun B F H vs ds Qd Q e r g k => by
    unfold gInt10 at g
    split at g
    · obtain ⟨v, v', rfl, z, z'⟩ := rpl2 r
      obtain ⟨rfl, few, m, says, g⟩ := g
      cases rp_str z
      cases rp_int z'
      exact ⟨_, m, rfl, few, says, k _ _ g (.int _)⟩
    · exact g.elim) hg hm (by decide +kernel) ha (he := he) (hpl := hpl)
/-! ### int(text) -/
@[simp] def gIntT : GA := fun ds Q => match ds with
  | [.str z] => z.length ≤ 640 ∧ ∃ m, PySem.intText? z = some m ∧ Q (.int m)
  | _ => False
def rIntT : List V → Hp → VK → Prop := fun xs H Q => ∃ z m, xs = [.str z] ∧ z.length ≤ 640 ∧ PySem.intText? z = some m ∧ Q (.int m) H
theorem call_intT : CallR X (.type "int") rIntT := fun pins s σ H xs us Q I r h => by
  obtain ⟨z, m, rfl, few, says, q⟩ := h
  obtain ⟨v1, rfl, r1⟩ := Vals.one r
  obtain ⟨t1, rfl⟩ := r1
  exact PySem.W.KIN.call_text says few ⟨.int m, H, I.tok _, ⟨_, rfl⟩, q⟩
theorem qv_intT {p : Pos} {ua : UA} (hg : Gl X "int") (hm : X.mg "int" = none) (ha : QA G W X [e] ua) (he : starEach [e] X.env = (false, eval e X.env) :: starEach [] X.env := by rfl) : QV G W X (.Call (.Name "int" p) [e] [] pos) (uCaB gIntT ua) :=
  qv_ct call_intT (fun B F H vs ds Qd Q e r g k => by
    unfold gIntT at g
    split at g
    · obtain ⟨v, rfl, z⟩ := rpl1 r
      obtain ⟨few, m, says, g⟩ := g
      cases rp_str z
      exact ⟨_, m, rfl, few, says, k _ _ g (.int _)⟩
    · exact g.elim) hg hm (by decide +kernel) ha (he := he)
/-! ### text * int -/
@[simp] def gMulT : G2 := fun x y Q => match x, y with
  | .str z, .int n => PySem.MulOk z n ∧ Q (.str (Txt.mul z n))
  | _, _ => False
abbrev rMulT : R2 := fun x y H Q => ∃ z n, x = .str z ∧ y = .int n ∧ PySem.MulOk z n ∧ Q (.str (Txt.mul z n)) H
theorem op_mulT : OpR X (binaryOp .Mult) rMulT := fun pins s σ H x y v u Q I rx ry h => by
  obtain ⟨z, n, rfl, rfl, ok, q⟩ := h
  obtain ⟨t1, rfl⟩ := rx
  obtain ⟨t2, rfl⟩ := ry
  exact PySem.SB.mul ok fun t' k => ⟨.str _, H, I.tok _, ⟨t', rfl⟩, q⟩
theorem opd_mulT : OpD G.K rMulT gMulT := fun B F H v w x y Qd Q _ r1 r2 g k => by
  unfold gMulT at g
  split at g
  · exact ⟨_, _, rp_str r1, rp_int r2, g.1, k _ _ g.2 (.str _)⟩
  · exact g.elim
theorem qv_mulT {ua ub : UV} (ha : QV G W X a ua) (hb : QV G W X b ub) : QV G W X (.BinOp a .Mult b pos) (uOp gMulT ua ub) := qv_op op_mulT opd_mulT ha hb
/-! ### x.partition(sep) -/
@[simp] def uPrt (uo ue : UV) : UV := fun δ Q R => uo δ (fun x δ1 => match x with
  | .str z => ue δ1 (fun y δ2 => match y with
    | .str sep => (sep.length == 0) = false ∧ z.length ≤ sizeLine ∧ Q (.tup [.str (Txt.partition z sep).1, .str (Txt.partition z sep).2.1, .str (Txt.partition z sep).2.2]) δ2
    | _ => False) R
  | _ => False) R
theorem qv_prt {apos : Pos} {uo ue : UV} (ho : QV G W X o uo) (he : QV G W X e ue)
    (hbase : attributeBase o "partition" X.env (eval o X.env) = eval o X.env := by rfl)
    (hfew : ((backTo pos (starEach [e] X.env)).all (fun x => !x.1) && (backToKw pos (keywordEach [] X.env)).all (fun x => x.1.isSome)
      && decide (([e] : List Expr).length + ([] : List Keyword).length + (if ([] : List Keyword).isEmpty then 0 else 1) < 30)) = true := by rfl)
    (hline : (apos.endLine == pos.line) = true := by rfl) (hs : starEach [e] X.env = (false, eval e X.env) :: starEach [] X.env := by rfl) (hplain : (backTo pos (starEach [] X.env)).any (·.1) = false := by rfl) :
    QV G W X (.Call (.Attribute o "partition" apos) [e] [] pos) (uPrt uo ue) :=
  pe_mono (pe_bm PySem.F.plainAttrs_str PySem.F.slot_str_partition PySem.F.type_str_partition mt_partition ho (pa_one he hs) hbase hfew hline hs hplain) fun σ H Q ⟨B, F, δ, Qd, Rd, rs, h, k, x⟩ =>
    tG_then rs h x fun d δ1 q B1 F1 H1 v st1 rs1 r1 => by
      split at q
      · rename_i z
        rw [rp_str r1]
        refine ⟨rfl, tG_then rs1 q (x.later st1.toLe) fun d2 δ2 q2 B2 F2 H2 w st2 rs2 r2 => ?_⟩
        split at q2
        · rename_i sep
          obtain ⟨h1, h2, q2⟩ := q2
          rw [rp_str r2]
          refine ⟨z, sep, rfl, rfl, h1, h2, fun p hp => ?_⟩
          obtain ⟨rs3, st3⟩ := rs2.call (rs2.toFr0.newF (o := .tup [.str (Txt.partition z sep).1, .str (Txt.partition z sep).2.1, .str (Txt.partition z sep).2.2]) hp)
          exact k _ _ q2 _ _ _ _ ((st1.trans st2).trans st3) rs3 (.tup (.inl (.inl upd_same)) (.cons (.str _) (.cons (.str _) (.cons (.str _) .nil))))
        · exact q2.elim
      · exact q.elim
end
end DL

set_option Elab.async false
set_option linter.all false
set_option maxRecDepth 100000
set_option maxHeartbeats 4000000
namespace DL
open PySem PySem.Spec PySem.Calls PyProof.Rows L2
/-- an own class over an own class, of one parameter: B.__init__(self); self.f = text; self.f2 = v -/
def tIni3 (sp : Sp) (E : L2.St → XK) (K : PySem.W.Frag) (f wd f2 : Str) : TS := tSeq (tDrop (tCallS sp E (tCons (tVar 0) tNil))) (tSeq (tExSt K f (tVar 0) (tC (.str wd))) (tExSt K f2 (tVar 0) (tVar 1)))
theorem pure_ini3 {K : PySem.W.Frag} {C : Addr} {Bt nI iI : String} {tl : List Value} {f wd f2 y : Str} {v : V} {fs : List (Str × V)} {E0 : L2.St → XK} (T : ExG K C Bt nI iI tl) (hno : PySem.W.findIn K (.ref C) f = some none) (hno2 : PySem.W.findIn K (.ref C) f2 = some none) (hl : fs.length ≤ 800) (vs : List V) (H : Hp) (Q : VK) (E : XK) (h : spIni C [v] ((f2, v) :: (f, .str wd) :: fs) vs H Q E) :
    tIni3 (spIni C [] fs) E0 K f wd f2 { nx := fun _ H' => Q .non H', rt := Q } (start ["self", y] vs) H := by
  obtain ⟨a, rfl, ea, k⟩ := h
  refine ⟨.ref a, rfl, a, rfl, ea, fun dx H' hd hda h1 h2 h3 => ?_⟩
  refine ⟨.ref a, rfl, a, C, Bt, nI, iI, tl, rfl, T, hno, .inr ⟨dx, fs, h1, h2, by omega, ?_⟩⟩
  have h1' : upd H' dx (exd dx ((f, .str wd) :: fs)) a = some (exo a C (some dx)) := by rw [upd_ne (Ne.symm hda)]; exact h1
  refine ⟨v, rfl, .ref a, rfl, a, C, Bt, nI, iI, tl, rfl, T, hno2, .inr ⟨dx, _, h1', upd_same, by rw [List.length_cons]; omega, ?_⟩⟩
  refine k dx _ hd hda ?_ upd_same fun b hb hb2 => ?_
  · rw [upd_ne (Ne.symm hda)]; exact h1'
  · rw [upd_ne hb2, upd_ne hb2]; exact h3 b hb hb2
/-- what is asked of exceptions whose attributes are read -/
def xaB (K : PySem.W.Frag) (xs fs : List Str) : Bool := xs.all fun x => xfB K (He.ga K x) && fs.all fun f => decide (PySem.W.findIn K (.ref (He.ga K x)) f = some none)
theorem xaB_ok {K : PySem.W.Frag} {xs fs : List Str} (h : xaB K xs fs = true) (f : Str) (hf : f ∈ fs) : ∀ x ∈ xs, XfC K (He.ga K x) ∧ PySem.W.findIn K (.ref (He.ga K x)) f = some none := fun x hx => by
  obtain ⟨h1, h2⟩ := Bool.and_eq_true_iff.mp (List.all_eq_true.mp h x hx)
  exact ⟨xfB_ok h1, of_decide_eq_true (List.all_eq_true.mp h2 f hf)⟩
section
variable {G : Gx} {W : WX} {X : Cx} {e o a b : Expr} {pos apos : Pos}
/-- x.split(sep) -/
@[simp] def uSplit (uo ue : UV) : UE := fun δ Q R => uo δ (fun x δ1 => match x with
  | .str z => ue δ1 (fun y δ2 => match y with
    | .str sep => (sep.length == 0) = false ∧ z.length + 2 ≤ sizeLine ∧ Q (.nw ((Txt.split z sep).map .str)) δ2
    | _ => False) R
  | _ => False) R
theorem rpl_strs {K : PySem.W.Frag} {B : Option Addr} {F : Hp} : ∀ ys : List Str, RpL K B F (ys.map V.str) (ys.map D.str)
  | [] => .nil
  | y :: ys => .cons (.str y) (rpl_strs ys)
theorem qe_split {uo ue : UV} (ho : QV G W X o uo) (he : QV G W X e ue) (hs : starEach [e] X.env = [(false, eval e X.env)] := by rfl) (hbase : attributeBase o "split" X.env (eval o X.env) = eval o X.env := by rfl) (hline : (apos.endLine == pos.line) = true := by rfl) :
    QE G W X (.Call (.Attribute o "split" apos) [e] [] pos) (uSplit uo ue) :=
  pe_mono (pe_split ho he hs hbase hline) fun σ H Q ⟨B, F, δ, Qd, Rd, rs, h, k, x⟩ =>
    tG_then rs h x fun d δ1 q B1 F1 H1 v st1 rs1 r1 => by
      split at q
      · rename_i z
        rw [rp_str r1]
        refine ⟨⟨z, rfl⟩, tG_then rs1 q (x.later st1.toLe) fun d2 δ2 q2 B2 F2 H2 w st2 rs2 r2 => ?_⟩
        split at q2
        · rename_i sep
          obtain ⟨h1, h2, q2⟩ := q2
          rw [rp_str r2]
          refine ⟨z, sep, rfl, rfl, h1, h2, fun p hp => ?_⟩
          obtain ⟨rs3, st3⟩ := rs2.call (rs2.toFr0.newH (o := .lst ((Txt.split z sep).map V.str)) hp)
          exact k _ _ q2 _ _ _ _ ((st1.trans st2).trans st3) rs3 ⟨p, _, rfl, rs2.noH0 hp, rs2.toFr0.noF hp, rs2.toFr0.noB hp, upd_same, rpl_strs _, rs2.noOwn hp, .inl (none_back (st1.trans st2).dm hp)⟩
        · exact q2.elim
      · exact q.elim
/-- i in [a, b, c] of whole numbers -/
@[simp] def gInL : G2 := fun x y Q => match x, y with
  | .int i, .lst [.int a, .int b, .int c] => Q (.bl (decide (a = i) || (decide (b = i) || decide (c = i))))
  | _, _ => False
theorem opd_inL {K : PySem.W.Frag} : OpD K (rIn K false) gInL := fun B F H v w x y Qd Q e r1 r2 g k => by
  unfold gInL at g
  split at g
  · rename_i i a b c
    obtain ⟨p, xs, rfl, h, r⟩ := rp_lst r2
    cases r with
    | cons ra r =>
      cases r with
      | cons rb r =>
        cases r with
        | cons rc r =>
        cases r
        have ea := rp_int ra
        have eb := rp_int rb
        have ec := rp_int rc
        have ei := rp_int r1
        subst ea eb ec ei
        refine ⟨p, _, rfl, .inl (e.seq h), rfl, rfl, ?_⟩
        have q := k _ (.bl (decide (a = i) || (decide (b = i) || decide (c = i)))) g (.bl _)
        have en : (if (false : Bool) = true then !inV (.int i) [.int a, .int b, .int c] else inV (.int i) [.int a, .int b, .int c]) = (decide (a = i) || (decide (b = i) || decide (c = i))) := by
          simp [inV, eqV]
          rw [Bool.eq_iff_iff]
          simp
        rw [en]
        exact q
  · exact g.elim
theorem qv_inL {ua ub : UV} (ha : QV G W X a ua) (hb : QV G W X b ub) (hm : behindInMarks .In b = false := by rfl) (hk : X.K = G.K := by rfl) : QV G W X (.Compare a [.In] [b] pos) (uOp gInL ua ub) := qv_cmp op_in_seq (by rw [hk]; exact opd_inL) ha hb hm
end
end DL

set_option Elab.async false
set_option linter.all false
set_option maxRecDepth 100000
set_option maxHeartbeats 0
namespace T92
open PySem PySem.Spec PyProof.Rows L2 DL
abbrev Pm : Program := PySem.Challenge.pw_surechalk_k92_refusals_and_their_kinds
abbrev top (i : Nat) : Stmt := Pm.main.body.getD i (.Pass ⟨0, 0, 0, 0⟩)
abbrev s__law_bag : Stmt := top 29
abbrev s__law_pull : Stmt := top 30
abbrev s__law_same : Stmt := top 31
abbrev s__law_kinds : Stmt := top 32
abbrev s_law : Stmt := top 33
abbrev s_ChalkError_ini : Stmt := methOf (top 1) 0
abbrev s_Missing_ini : Stmt := methOf (top 2) 0
abbrev s_BadText_ini : Stmt := methOf (top 3) 0
abbrev s_BadPoly_ini : Stmt := methOf (top 4) 0
abbrev s_BadStretch_ini : Stmt := methOf (top 5) 0
abbrev s_BadWindow_ini : Stmt := methOf (top 6) 0
abbrev s_BadFine_ini : Stmt := methOf (top 7) 0
abbrev s_BadRow_ini : Stmt := methOf (top 8) 0
abbrev s_BadCondition_ini : Stmt := methOf (top 9) 0
abbrev s_BadQuestion_ini : Stmt := methOf (top 10) 0
abbrev s_BadKind_ini : Stmt := methOf (top 11) 0
abbrev s_BadName_ini : Stmt := methOf (top 12) 0
abbrev s_Taken_ini : Stmt := methOf (top 13) 0
abbrev s_Full_ini : Stmt := methOf (top 14) 0
abbrev s_Ring_ini : Stmt := methOf (top 15) 0
abbrev s_TooGreat_ini : Stmt := methOf (top 16) 0
abbrev s_TooDeep_ini : Stmt := methOf (top 17) 0
abbrev s_NotWhole_ini : Stmt := methOf (top 18) 0
abbrev s_StillOpen_ini : Stmt := methOf (top 19) 0
abbrev s_NoWorth_ini : Stmt := methOf (top 20) 0
abbrev s_Leant_ini : Stmt := methOf (top 21) 0
abbrev s_Unread_ini : Stmt := methOf (top 22) 0
abbrev s_BadPage_ini : Stmt := methOf (top 23) 0
abbrev s_NoName_ini : Stmt := methOf (top 24) 0
abbrev s_NoRoot_ini : Stmt := methOf (top 25) 0
abbrev s_ByNought_ini : Stmt := methOf (top 26) 0
abbrev s_NothingLeft_ini : Stmt := methOf (top 27) 0
def g_NothingLeft : List (Str × D) := [("word", .str "nothingleft")]
def gf_NothingLeft : List D → List (Str × D) := fun _ => g_NothingLeft
abbrev x_NothingLeft (K : PySem.W.Frag) : Exn := ⟨He.ga K "NothingLeft", g_NothingLeft⟩
def m_exc_NothingLeft (K : PySem.W.Frag) : Addr → Option Bool := fun y => if y = He.ga K "NothingLeft" then some true else none
def g_ByNought : List (Str × D) := [("word", .str "bynought")]
def gf_ByNought : List D → List (Str × D) := fun _ => g_ByNought
abbrev x_ByNought (K : PySem.W.Frag) : Exn := ⟨He.ga K "ByNought", g_ByNought⟩
def m_exc_ByNought (K : PySem.W.Frag) : Addr → Option Bool := fun y => if y = He.ga K "ByNought" then some true else none
def g_Missing : List (Str × D) := [("word", .str "missing")]
def gf_Missing : List D → List (Str × D) := fun _ => g_Missing
abbrev x_Missing (K : PySem.W.Frag) : Exn := ⟨He.ga K "Missing", g_Missing⟩
def m_exc_Missing (K : PySem.W.Frag) : Addr → Option Bool := fun y => if y = He.ga K "Missing" then some true else none
def g_ChalkError : List (Str × D) := [("word", .str "chalkerror")]
def gf_ChalkError : List D → List (Str × D) := fun _ => g_ChalkError
abbrev x_ChalkError (K : PySem.W.Frag) : Exn := ⟨He.ga K "ChalkError", g_ChalkError⟩
def m_exc_ChalkError (K : PySem.W.Frag) : Addr → Option Bool := fun y => if y = He.ga K "ChalkError" then some true else none
def g_NoRoot : List (Str × D) := [("word", .str "noroot"), ("word", .str "missing")]
def gf_NoRoot : List D → List (Str × D) := fun _ => g_NoRoot
abbrev x_NoRoot (K : PySem.W.Frag) : Exn := ⟨He.ga K "NoRoot", g_NoRoot⟩
def m_exc_NoRoot (K : PySem.W.Frag) : Addr → Option Bool := fun y => if y = He.ga K "NoRoot" then some true else none
def g_NoName : List (Str × D) := [("word", .str "noname"), ("word", .str "missing")]
def gv_NoName : List V → List (Str × V)
  | [v] => [("name", v), ("word", .str "noname"), ("word", .str "missing")]
  | _ => []
def gf_NoName : List D → List (Str × D)
  | [v] => [("name", v), ("word", .str "noname"), ("word", .str "missing")]
  | _ => []
theorem rp_NoName {K : PySem.W.Frag} {B : Option Addr} {F : Hp} : ∀ {vs : List V} {ds : List D}, RpL K B F vs ds → RpF K B F (gv_NoName vs) (gf_NoName ds)
  | _, _, .nil => .nil
  | _, _, .cons r .nil => .cons r (.cons (.str _) (.cons (.str _) (.nil)))
  | _, _, .cons _ (.cons _ _) => .nil
abbrev x_NoName (K : PySem.W.Frag) : Exn := ⟨He.ga K "NoName", g_NoName⟩
def m_exc_NoName (K : PySem.W.Frag) : Addr → Option Bool := fun y => if y = He.ga K "NoName" then some true else none
def g_BadPage : List (Str × D) := [("word", .str "badpage"), ("word", .str "chalkerror")]
def gv_BadPage : List V → List (Str × V)
  | [v] => [("row", v), ("word", .str "badpage"), ("word", .str "chalkerror")]
  | _ => []
def gf_BadPage : List D → List (Str × D)
  | [v] => [("row", v), ("word", .str "badpage"), ("word", .str "chalkerror")]
  | _ => []
theorem rp_BadPage {K : PySem.W.Frag} {B : Option Addr} {F : Hp} : ∀ {vs : List V} {ds : List D}, RpL K B F vs ds → RpF K B F (gv_BadPage vs) (gf_BadPage ds)
  | _, _, .nil => .nil
  | _, _, .cons r .nil => .cons r (.cons (.str _) (.cons (.str _) (.nil)))
  | _, _, .cons _ (.cons _ _) => .nil
abbrev x_BadPage (K : PySem.W.Frag) : Exn := ⟨He.ga K "BadPage", g_BadPage⟩
def m_exc_BadPage (K : PySem.W.Frag) : Addr → Option Bool := fun y => if y = He.ga K "BadPage" then some true else none
def g_Unread : List (Str × D) := [("word", .str "unread"), ("word", .str "chalkerror")]
def gv_Unread : List V → List (Str × V)
  | [v] => [("at", v), ("word", .str "unread"), ("word", .str "chalkerror")]
  | _ => []
def gf_Unread : List D → List (Str × D)
  | [v] => [("at", v), ("word", .str "unread"), ("word", .str "chalkerror")]
  | _ => []
theorem rp_Unread {K : PySem.W.Frag} {B : Option Addr} {F : Hp} : ∀ {vs : List V} {ds : List D}, RpL K B F vs ds → RpF K B F (gv_Unread vs) (gf_Unread ds)
  | _, _, .nil => .nil
  | _, _, .cons r .nil => .cons r (.cons (.str _) (.cons (.str _) (.nil)))
  | _, _, .cons _ (.cons _ _) => .nil
abbrev x_Unread (K : PySem.W.Frag) : Exn := ⟨He.ga K "Unread", g_Unread⟩
def m_exc_Unread (K : PySem.W.Frag) : Addr → Option Bool := fun y => if y = He.ga K "Unread" then some true else none
def g_Leant : List (Str × D) := [("word", .str "leant"), ("word", .str "chalkerror")]
def gv_Leant : List V → List (Str × V)
  | [v] => [("name", v), ("word", .str "leant"), ("word", .str "chalkerror")]
  | _ => []
def gf_Leant : List D → List (Str × D)
  | [v] => [("name", v), ("word", .str "leant"), ("word", .str "chalkerror")]
  | _ => []
theorem rp_Leant {K : PySem.W.Frag} {B : Option Addr} {F : Hp} : ∀ {vs : List V} {ds : List D}, RpL K B F vs ds → RpF K B F (gv_Leant vs) (gf_Leant ds)
  | _, _, .nil => .nil
  | _, _, .cons r .nil => .cons r (.cons (.str _) (.cons (.str _) (.nil)))
  | _, _, .cons _ (.cons _ _) => .nil
abbrev x_Leant (K : PySem.W.Frag) : Exn := ⟨He.ga K "Leant", g_Leant⟩
def m_exc_Leant (K : PySem.W.Frag) : Addr → Option Bool := fun y => if y = He.ga K "Leant" then some true else none
def g_NoWorth : List (Str × D) := [("word", .str "noworth"), ("word", .str "chalkerror")]
def gf_NoWorth : List D → List (Str × D) := fun _ => g_NoWorth
abbrev x_NoWorth (K : PySem.W.Frag) : Exn := ⟨He.ga K "NoWorth", g_NoWorth⟩
def m_exc_NoWorth (K : PySem.W.Frag) : Addr → Option Bool := fun y => if y = He.ga K "NoWorth" then some true else none
def g_StillOpen : List (Str × D) := [("word", .str "stillopen"), ("word", .str "chalkerror")]
def gf_StillOpen : List D → List (Str × D) := fun _ => g_StillOpen
abbrev x_StillOpen (K : PySem.W.Frag) : Exn := ⟨He.ga K "StillOpen", g_StillOpen⟩
def m_exc_StillOpen (K : PySem.W.Frag) : Addr → Option Bool := fun y => if y = He.ga K "StillOpen" then some true else none
def g_NotWhole : List (Str × D) := [("word", .str "notwhole"), ("word", .str "chalkerror")]
def gf_NotWhole : List D → List (Str × D) := fun _ => g_NotWhole
abbrev x_NotWhole (K : PySem.W.Frag) : Exn := ⟨He.ga K "NotWhole", g_NotWhole⟩
def m_exc_NotWhole (K : PySem.W.Frag) : Addr → Option Bool := fun y => if y = He.ga K "NotWhole" then some true else none
def g_TooDeep : List (Str × D) := [("word", .str "toodeep"), ("word", .str "chalkerror")]
def gf_TooDeep : List D → List (Str × D) := fun _ => g_TooDeep
abbrev x_TooDeep (K : PySem.W.Frag) : Exn := ⟨He.ga K "TooDeep", g_TooDeep⟩
def m_exc_TooDeep (K : PySem.W.Frag) : Addr → Option Bool := fun y => if y = He.ga K "TooDeep" then some true else none
def g_TooGreat : List (Str × D) := [("word", .str "toogreat"), ("word", .str "chalkerror")]
def gf_TooGreat : List D → List (Str × D) := fun _ => g_TooGreat
abbrev x_TooGreat (K : PySem.W.Frag) : Exn := ⟨He.ga K "TooGreat", g_TooGreat⟩
def m_exc_TooGreat (K : PySem.W.Frag) : Addr → Option Bool := fun y => if y = He.ga K "TooGreat" then some true else none
def g_Ring : List (Str × D) := [("word", .str "ring"), ("word", .str "chalkerror")]
def gf_Ring : List D → List (Str × D) := fun _ => g_Ring
abbrev x_Ring (K : PySem.W.Frag) : Exn := ⟨He.ga K "Ring", g_Ring⟩
def m_exc_Ring (K : PySem.W.Frag) : Addr → Option Bool := fun y => if y = He.ga K "Ring" then some true else none
def g_Full : List (Str × D) := [("word", .str "full"), ("word", .str "chalkerror")]
def gf_Full : List D → List (Str × D) := fun _ => g_Full
abbrev x_Full (K : PySem.W.Frag) : Exn := ⟨He.ga K "Full", g_Full⟩
def m_exc_Full (K : PySem.W.Frag) : Addr → Option Bool := fun y => if y = He.ga K "Full" then some true else none
def g_Taken : List (Str × D) := [("word", .str "taken"), ("word", .str "chalkerror")]
def gf_Taken : List D → List (Str × D) := fun _ => g_Taken
abbrev x_Taken (K : PySem.W.Frag) : Exn := ⟨He.ga K "Taken", g_Taken⟩
def m_exc_Taken (K : PySem.W.Frag) : Addr → Option Bool := fun y => if y = He.ga K "Taken" then some true else none
def g_BadName : List (Str × D) := [("word", .str "badname"), ("word", .str "chalkerror")]
def gf_BadName : List D → List (Str × D) := fun _ => g_BadName
abbrev x_BadName (K : PySem.W.Frag) : Exn := ⟨He.ga K "BadName", g_BadName⟩
def m_exc_BadName (K : PySem.W.Frag) : Addr → Option Bool := fun y => if y = He.ga K "BadName" then some true else none
def g_BadKind : List (Str × D) := [("word", .str "badkind"), ("word", .str "chalkerror")]
def gf_BadKind : List D → List (Str × D) := fun _ => g_BadKind
abbrev x_BadKind (K : PySem.W.Frag) : Exn := ⟨He.ga K "BadKind", g_BadKind⟩
def m_exc_BadKind (K : PySem.W.Frag) : Addr → Option Bool := fun y => if y = He.ga K "BadKind" then some true else none
def g_BadQuestion : List (Str × D) := [("word", .str "badquestion"), ("word", .str "chalkerror")]
def gf_BadQuestion : List D → List (Str × D) := fun _ => g_BadQuestion
abbrev x_BadQuestion (K : PySem.W.Frag) : Exn := ⟨He.ga K "BadQuestion", g_BadQuestion⟩
def m_exc_BadQuestion (K : PySem.W.Frag) : Addr → Option Bool := fun y => if y = He.ga K "BadQuestion" then some true else none
def g_BadCondition : List (Str × D) := [("word", .str "badcondition"), ("word", .str "chalkerror")]
def gf_BadCondition : List D → List (Str × D) := fun _ => g_BadCondition
abbrev x_BadCondition (K : PySem.W.Frag) : Exn := ⟨He.ga K "BadCondition", g_BadCondition⟩
def m_exc_BadCondition (K : PySem.W.Frag) : Addr → Option Bool := fun y => if y = He.ga K "BadCondition" then some true else none
def g_BadRow : List (Str × D) := [("word", .str "badrow"), ("word", .str "chalkerror")]
def gf_BadRow : List D → List (Str × D) := fun _ => g_BadRow
abbrev x_BadRow (K : PySem.W.Frag) : Exn := ⟨He.ga K "BadRow", g_BadRow⟩
def m_exc_BadRow (K : PySem.W.Frag) : Addr → Option Bool := fun y => if y = He.ga K "BadRow" then some true else none
def g_BadFine : List (Str × D) := [("word", .str "badfine"), ("word", .str "chalkerror")]
def gf_BadFine : List D → List (Str × D) := fun _ => g_BadFine
abbrev x_BadFine (K : PySem.W.Frag) : Exn := ⟨He.ga K "BadFine", g_BadFine⟩
def m_exc_BadFine (K : PySem.W.Frag) : Addr → Option Bool := fun y => if y = He.ga K "BadFine" then some true else none
def g_BadWindow : List (Str × D) := [("word", .str "badwindow"), ("word", .str "chalkerror")]
def gf_BadWindow : List D → List (Str × D) := fun _ => g_BadWindow
abbrev x_BadWindow (K : PySem.W.Frag) : Exn := ⟨He.ga K "BadWindow", g_BadWindow⟩
def m_exc_BadWindow (K : PySem.W.Frag) : Addr → Option Bool := fun y => if y = He.ga K "BadWindow" then some true else none
def g_BadStretch : List (Str × D) := [("word", .str "badstretch"), ("word", .str "chalkerror")]
def gf_BadStretch : List D → List (Str × D) := fun _ => g_BadStretch
abbrev x_BadStretch (K : PySem.W.Frag) : Exn := ⟨He.ga K "BadStretch", g_BadStretch⟩
def m_exc_BadStretch (K : PySem.W.Frag) : Addr → Option Bool := fun y => if y = He.ga K "BadStretch" then some true else none
def g_BadPoly : List (Str × D) := [("word", .str "badpoly"), ("word", .str "chalkerror")]
def gf_BadPoly : List D → List (Str × D) := fun _ => g_BadPoly
abbrev x_BadPoly (K : PySem.W.Frag) : Exn := ⟨He.ga K "BadPoly", g_BadPoly⟩
def m_exc_BadPoly (K : PySem.W.Frag) : Addr → Option Bool := fun y => if y = He.ga K "BadPoly" then some true else none
def g_BadText : List (Str × D) := [("word", .str "badtext"), ("word", .str "chalkerror")]
def gf_BadText : List D → List (Str × D) := fun _ => g_BadText
abbrev x_BadText (K : PySem.W.Frag) : Exn := ⟨He.ga K "BadText", g_BadText⟩
def m_exc_BadText (K : PySem.W.Frag) : Addr → Option Bool := fun y => if y = He.ga K "BadText" then some true else none
abbrev w__law_pull (K : PySem.W.Frag) : DSp := wPull
def xsK : List Str := ["BadText", "BadPoly", "BadStretch", "BadWindow", "BadFine", "BadRow", "BadCondition", "BadQuestion", "BadKind", "BadName", "Taken", "Full", "Ring", "TooGreat", "TooDeep", "NotWhole", "StillOpen", "NoWorth", "Leant", "Unread", "BadPage", "NoName", "NoRoot", "ChalkError", "Missing", "ByNought", "NothingLeft"]
def tsK : List String := ["ValueError", "LookupError", "ZeroDivisionError", "IndexError"]
def osK : List Str := ["ChalkError", "Missing", "BadName", "NoName", "BadText", "BadRow"]
def chalkK : List Str := ["BadText", "BadPoly", "BadStretch", "BadWindow", "BadFine", "BadRow", "BadCondition", "BadQuestion", "BadKind", "BadName", "Taken", "Full", "Ring", "TooGreat", "TooDeep", "NotWhole", "StillOpen", "NoWorth", "Leant", "Unread", "BadPage", "ChalkError"]
def missK : List Str := ["NoName", "NoRoot", "Missing"]
def ttK (x : Str) (T : String) : Bool := if T = "ValueError" then decide (x ∈ chalkK) else if T = "LookupError" then decide (x ∈ missK) || decide (x = "NothingLeft") else if T = "ZeroDivisionError" then decide (x = "ByNought") else decide (x = "NothingLeft")
def toK (x y : Str) : Bool := if y = "ChalkError" then decide (x ∈ chalkK) else if y = "Missing" then decide (x ∈ missK) else decide (x = y)
def trueD : D → Option D
  | .bl true => some (.bl true)
  | _ => none
def kindsK (x : Str) : List D := [.bl (toK x "ChalkError"), .bl (toK x "Missing"), .bl (ttK x "ValueError"), .bl (ttK x "LookupError"), .bl (ttK x "ZeroDivisionError"), .bl (ttK x "IndexError"), .int ((([toK x "BadName", toK x "NoName", toK x "BadText", toK x "BadRow"].map D.bl).filterMap trueD).length : Nat)]
def Shp : Nat → D → Prop
  | 0, _ => False
  | _ + 1, .non => True
  | _ + 1, .bl _ => True
  | _ + 1, .int _ => True
  | _ + 1, .str _ => True
  | n + 1, .tup ds => ds.length ≤ 1000000 ∧ ∀ d ∈ ds, Shp n d
  | n + 1, .lst ds => ds.length ≤ 1000000 ∧ ∀ d ∈ ds, Shp n d
  | _, _ => False
def fn : List He.DefD := [⟨("_law_bag", none), "_law_bag", "_law_bag", defArgs s__law_bag, defBody s__law_bag, defScope s__law_bag, [], []⟩,
  ⟨("_law_pull", none), "_law_pull", "_law_pull", defArgs s__law_pull, defBody s__law_pull, defScope s__law_pull, [], []⟩,
  ⟨("_law_same", none), "_law_same", "_law_same", defArgs s__law_same, defBody s__law_same, defScope s__law_same, [], []⟩,
  ⟨("_law_kinds", none), "_law_kinds", "_law_kinds", defArgs s__law_kinds, defBody s__law_kinds, defScope s__law_kinds, [], []⟩,
  ⟨("law", none), "law", "law", defArgs s_law, defBody s_law, defScope s_law, [], []⟩,
  ⟨("NothingLeft", some "__init__"), "__init__", "NothingLeft.__init__", defArgs s_NothingLeft_ini, defBody s_NothingLeft_ini, defScope s_NothingLeft_ini, [], []⟩,
  ⟨("ByNought", some "__init__"), "__init__", "ByNought.__init__", defArgs s_ByNought_ini, defBody s_ByNought_ini, defScope s_ByNought_ini, [], []⟩,
  ⟨("Missing", some "__init__"), "__init__", "Missing.__init__", defArgs s_Missing_ini, defBody s_Missing_ini, defScope s_Missing_ini, [], []⟩,
  ⟨("ChalkError", some "__init__"), "__init__", "ChalkError.__init__", defArgs s_ChalkError_ini, defBody s_ChalkError_ini, defScope s_ChalkError_ini, [], []⟩,
  ⟨("NoRoot", some "__init__"), "__init__", "NoRoot.__init__", defArgs s_NoRoot_ini, defBody s_NoRoot_ini, defScope s_NoRoot_ini, [], []⟩,
  ⟨("NoName", some "__init__"), "__init__", "NoName.__init__", defArgs s_NoName_ini, defBody s_NoName_ini, defScope s_NoName_ini, [], []⟩,
  ⟨("BadPage", some "__init__"), "__init__", "BadPage.__init__", defArgs s_BadPage_ini, defBody s_BadPage_ini, defScope s_BadPage_ini, [], []⟩,
  ⟨("Unread", some "__init__"), "__init__", "Unread.__init__", defArgs s_Unread_ini, defBody s_Unread_ini, defScope s_Unread_ini, [], []⟩,
  ⟨("Leant", some "__init__"), "__init__", "Leant.__init__", defArgs s_Leant_ini, defBody s_Leant_ini, defScope s_Leant_ini, [], []⟩,
  ⟨("NoWorth", some "__init__"), "__init__", "NoWorth.__init__", defArgs s_NoWorth_ini, defBody s_NoWorth_ini, defScope s_NoWorth_ini, [], []⟩,
  ⟨("StillOpen", some "__init__"), "__init__", "StillOpen.__init__", defArgs s_StillOpen_ini, defBody s_StillOpen_ini, defScope s_StillOpen_ini, [], []⟩,
  ⟨("NotWhole", some "__init__"), "__init__", "NotWhole.__init__", defArgs s_NotWhole_ini, defBody s_NotWhole_ini, defScope s_NotWhole_ini, [], []⟩,
  ⟨("TooDeep", some "__init__"), "__init__", "TooDeep.__init__", defArgs s_TooDeep_ini, defBody s_TooDeep_ini, defScope s_TooDeep_ini, [], []⟩,
  ⟨("TooGreat", some "__init__"), "__init__", "TooGreat.__init__", defArgs s_TooGreat_ini, defBody s_TooGreat_ini, defScope s_TooGreat_ini, [], []⟩,
  ⟨("Ring", some "__init__"), "__init__", "Ring.__init__", defArgs s_Ring_ini, defBody s_Ring_ini, defScope s_Ring_ini, [], []⟩,
  ⟨("Full", some "__init__"), "__init__", "Full.__init__", defArgs s_Full_ini, defBody s_Full_ini, defScope s_Full_ini, [], []⟩,
  ⟨("Taken", some "__init__"), "__init__", "Taken.__init__", defArgs s_Taken_ini, defBody s_Taken_ini, defScope s_Taken_ini, [], []⟩,
  ⟨("BadName", some "__init__"), "__init__", "BadName.__init__", defArgs s_BadName_ini, defBody s_BadName_ini, defScope s_BadName_ini, [], []⟩,
  ⟨("BadKind", some "__init__"), "__init__", "BadKind.__init__", defArgs s_BadKind_ini, defBody s_BadKind_ini, defScope s_BadKind_ini, [], []⟩,
  ⟨("BadQuestion", some "__init__"), "__init__", "BadQuestion.__init__", defArgs s_BadQuestion_ini, defBody s_BadQuestion_ini, defScope s_BadQuestion_ini, [], []⟩,
  ⟨("BadCondition", some "__init__"), "__init__", "BadCondition.__init__", defArgs s_BadCondition_ini, defBody s_BadCondition_ini, defScope s_BadCondition_ini, [], []⟩,
  ⟨("BadRow", some "__init__"), "__init__", "BadRow.__init__", defArgs s_BadRow_ini, defBody s_BadRow_ini, defScope s_BadRow_ini, [], []⟩,
  ⟨("BadFine", some "__init__"), "__init__", "BadFine.__init__", defArgs s_BadFine_ini, defBody s_BadFine_ini, defScope s_BadFine_ini, [], []⟩,
  ⟨("BadWindow", some "__init__"), "__init__", "BadWindow.__init__", defArgs s_BadWindow_ini, defBody s_BadWindow_ini, defScope s_BadWindow_ini, [], []⟩,
  ⟨("BadStretch", some "__init__"), "__init__", "BadStretch.__init__", defArgs s_BadStretch_ini, defBody s_BadStretch_ini, defScope s_BadStretch_ini, [], []⟩,
  ⟨("BadPoly", some "__init__"), "__init__", "BadPoly.__init__", defArgs s_BadPoly_ini, defBody s_BadPoly_ini, defScope s_BadPoly_ini, [], []⟩,
  ⟨("BadText", some "__init__"), "__init__", "BadText.__init__", defArgs s_BadText_ini, defBody s_BadText_ini, defScope s_BadText_ini, [], []⟩]
def fa : List He.Fa := [.glo "_law_bag", .glo "_law_pull", .glo "_law_same", .glo "_law_kinds", .glo "law", .glo "NothingLeft", .glo "ByNought", .glo "Missing", .glo "ChalkError", .glo "NoRoot", .glo "NoName", .glo "BadPage", .glo "Unread", .glo "Leant", .glo "NoWorth", .glo "StillOpen", .glo "NotWhole", .glo "TooDeep", .glo "TooGreat", .glo "Ring", .glo "Full", .glo "Taken", .glo "BadName", .glo "BadKind", .glo "BadQuestion", .glo "BadCondition", .glo "BadRow", .glo "BadFine", .glo "BadWindow", .glo "BadStretch", .glo "BadPoly", .glo "BadText", .exm "NothingLeft" "NothingLeft" true, .exm "ByNought" "ByNought" true, .exm "Missing" "Missing" true, .exm "ChalkError" "ChalkError" true, .exm "NoRoot" "NoRoot" true, .exm "NoName" "NoName" true, .exm "BadPage" "BadPage" true, .exm "Unread" "Unread" true, .exm "Leant" "Leant" true, .exm "NoWorth" "NoWorth" true, .exm "StillOpen" "StillOpen" true, .exm "NotWhole" "NotWhole" true, .exm "TooDeep" "TooDeep" true, .exm "TooGreat" "TooGreat" true, .exm "Ring" "Ring" true, .exm "Full" "Full" true, .exm "Taken" "Taken" true, .exm "BadName" "BadName" true, .exm "BadKind" "BadKind" true, .exm "BadQuestion" "BadQuestion" true, .exm "BadCondition" "BadCondition" true, .exm "BadRow" "BadRow" true, .exm "BadFine" "BadFine" true, .exm "BadWindow" "BadWindow" true, .exm "BadStretch" "BadStretch" true, .exm "BadPoly" "BadPoly" true, .exm "BadText" "BadText" true, .free "list", .free "len", .free "range", .free "all", .free "isinstance", .free "tuple", .free "str", .free "int", .free "bool", .free "IndexError", .free "ZeroDivisionError", .free "LookupError", .free "ValueError"]
def ex (K : PySem.W.Frag) : Bool := exB K "NothingLeft" tl_IndexError "IndexError.__new__" ["word"] && exB K "ByNought" tl_ZeroDivisionError "ZeroDivisionError.__new__" ["word"] && exB K "Missing" tl_LookupError "LookupError.__new__" ["word"] && exB K "ChalkError" tl_ValueError "ValueError.__new__" ["word"] && exB K "NoRoot" tl_LookupError "LookupError.__new__" ["word"] && exB K "NoName" tl_LookupError "LookupError.__new__" ["word", "name"] && exB K "BadPage" tl_ValueError "ValueError.__new__" ["word", "row"] && exB K "Unread" tl_ValueError "ValueError.__new__" ["word", "at"] && exB K "Leant" tl_ValueError "ValueError.__new__" ["word", "name"] && exB K "NoWorth" tl_ValueError "ValueError.__new__" ["word"] && exB K "StillOpen" tl_ValueError "ValueError.__new__" ["word"] && exB K "NotWhole" tl_ValueError "ValueError.__new__" ["word"] && exB K "TooDeep" tl_ValueError "ValueError.__new__" ["word"] && exB K "TooGreat" tl_ValueError "ValueError.__new__" ["word"] && exB K "Ring" tl_ValueError "ValueError.__new__" ["word"] && exB K "Full" tl_ValueError "ValueError.__new__" ["word"] && exB K "Taken" tl_ValueError "ValueError.__new__" ["word"] && exB K "BadName" tl_ValueError "ValueError.__new__" ["word"] && exB K "BadKind" tl_ValueError "ValueError.__new__" ["word"] && exB K "BadQuestion" tl_ValueError "ValueError.__new__" ["word"] && exB K "BadCondition" tl_ValueError "ValueError.__new__" ["word"] && exB K "BadRow" tl_ValueError "ValueError.__new__" ["word"] && exB K "BadFine" tl_ValueError "ValueError.__new__" ["word"] && exB K "BadWindow" tl_ValueError "ValueError.__new__" ["word"] && exB K "BadStretch" tl_ValueError "ValueError.__new__" ["word"] && exB K "BadPoly" tl_ValueError "ValueError.__new__" ["word"] && exB K "BadText" tl_ValueError "ValueError.__new__" ["word"] && cbB K "Missing" && cbB K "ChalkError" && iseB K xsK tsK osK ttK toK && xaB K xsK ["word", "name", "at", "row"]
abbrev R : PySem.W.OpenRow := PySem.W.OpenLaw.row PySem.Challenge.rw_surechalk_k92_refusals_and_their_kinds
abbrev hk : PySem.W.Hook := hookZ 5 fa fn ex
def ob (s : PySem.W.SharedT) : He.AlX := obsZ 5 fa fn ex (HandSHeadRun.getT s)
theorem ob_eq (s : PySem.W.SharedT) : ob s = hk.obs s.abs := obsZ_eq (HandSHeadRun.getT_eq s)
def names : List Str := [("ChalkError" : Str), ("Missing" : Str), ("BadText" : Str), ("BadPoly" : Str), ("BadStretch" : Str), ("BadWindow" : Str), ("BadFine" : Str), ("BadRow" : Str), ("BadCondition" : Str), ("BadQuestion" : Str), ("BadKind" : Str), ("BadName" : Str), ("Taken" : Str), ("Full" : Str), ("Ring" : Str), ("TooGreat" : Str), ("TooDeep" : Str), ("NotWhole" : Str), ("StillOpen" : Str), ("NoWorth" : Str), ("Leant" : Str), ("Unread" : Str), ("BadPage" : Str), ("NoName" : Str), ("NoRoot" : Str), ("ByNought" : Str), ("NothingLeft" : Str), ("_law_bag" : Str), ("_law_pull" : Str), ("_law_same" : Str), ("_law_kinds" : Str)]
theorem run (w : World) : HandSHeadRun.RunEq R (PySem.W.view R.prog [33]) hk ob 20000 names w := by
  intro os
  kernel_rfl
end T92
set_option Elab.async false
set_option linter.all false
set_option maxRecDepth 100000
namespace DL
open PySem PySem.Spec PyProof.Rows L2
/-! ### texts by their codes -/
abbrev cs (z : Str) : List Nat := z.cps.toList
theorem cs_ext {z w : Str} (h : cs z = cs w) : z = w := by
  cases z
  cases w
  exact congrArg Str.mk (Array.toList_inj.mp h)
theorem cs_app (z w : Str) : cs (z ++ w) = cs z ++ cs w := Array.toList_append
theorem cs_len (z : Str) : z.length = (cs z).length := (Array.length_toList).symm
theorem cs_mk (l : List Nat) : cs ⟨l.toArray⟩ = l := rfl
theorem str_slash : ("/" : Str) = ⟨#[47]⟩ := by decide +kernel
theorem str_minus : ("-" : Str) = ⟨#[45]⟩ := by decide +kernel
theorem str_none : ("" : Str) = Str.empty := by decide +kernel
theorem str_zero : ("0" : Str) = ⟨#[48]⟩ := by decide +kernel
theorem at_iff (z : Str) (c i : Nat) : StrLaws.At z ⟨#[c]⟩ z.length i ↔ (cs z)[i]? = some c := StrLaws.subAt_one z c i
theorem part_cases (z : Str) : (47 ∉ cs z ∧ Txt.partition z "/" = (z, Str.empty, Str.empty)) ∨
    ∃ u v, cs z = u ++ 47 :: v ∧ 47 ∉ u ∧ Txt.partition z "/" = ((⟨u.toArray⟩ : Str), ("/" : Str), (⟨v.toArray⟩ : Str)) := by
  rw [str_slash]
  rcases partition_whole z ⟨#[47]⟩ with ⟨e, h⟩ | ⟨i, e, h, first⟩
  · refine .inl ⟨fun hm => ?_, e⟩
    obtain ⟨j, hj⟩ := List.getElem?_of_mem hm
    exact h j ((at_iff z 47 j).mpr hj)
  · have hi := (at_iff z 47 i).mp h
    obtain ⟨hl, ei⟩ := List.getElem?_eq_some_iff.mp hi
    refine .inr ⟨(cs z).take i, (cs z).drop (i + 1), ?_, fun hm => ?_, ?_⟩
    · rw [← ei, ← List.drop_eq_getElem_cons hl, List.take_append_drop]
    · obtain ⟨j, hj⟩ := List.getElem?_of_mem hm
      rw [List.getElem?_take] at hj
      split at hj
      · rename_i lt
        exact first j lt ((at_iff z 47 j).mpr hj)
      · cases hj
    · rw [e]
      have e1 : Builtin.Str.strSub z 0 i = (⟨((cs z).take i).toArray⟩ : Str) := cs_ext (by
        rw [cs_mk]
        show (Builtin.Str.strSub z 0 i).cps.toList = _
        rw [StrLaws.strSub_toList, List.drop_zero, Nat.sub_zero])
      have e2 : Builtin.Str.strSub z (i + (⟨#[47]⟩ : Str).length) z.length = (⟨((cs z).drop (i + 1)).toArray⟩ : Str) := cs_ext (by
        rw [cs_mk]
        show (Builtin.Str.strSub z (i + 1) z.length).cps.toList = _
        rw [StrLaws.strSub_toList]
        exact List.take_of_length_le (by rw [List.length_drop, cs_len]; exact Nat.le_refl _))
      rw [e1, e2]
/-! ### figures -/
def dg (m : Nat) : List Nat := (Nat.toDigits 10 m).map Char.toNat
theorem dg_nat (m : Nat) : cs (tI (m : Int)) = dg m := PySem.W.KIN.signs_num m
theorem cs_tI (i : Int) : cs (tI i) = (if i < 0 then [45] else []) ++ dg i.natAbs := by
  cases i with
  | ofNat m =>
    rw [if_neg (show ¬ (Int.ofNat m) < 0 from Int.not_lt.mpr (Int.natCast_nonneg m))]
    exact dg_nat m
  | negSucc m =>
    rw [if_pos (by omega)]
    have e : tI (Int.negSucc m) = (("-" ++ toString (m + 1) : String) : Str) := rfl
    have e2 := dg_nat (m + 1)
    show cs (tI (Int.negSucc m)) = 45 :: dg (m + 1)
    rw [← e2, e]
    show (PySem.Str.ofString _).cps.toList = 45 :: (PySem.Str.ofString _).cps.toList
    rw [PySem.Str.ofString_eq_toList, PySem.Str.ofString_eq_toList]
    have e3 : toString (((m + 1 : Nat)) : Int) = toString (m + 1) := rfl
    rw [e3]
    simp
theorem dg_all (m : Nat) : NumText.AllDigits (dg m) := fun c hc => by
  obtain ⟨ch, hch, e⟩ := List.mem_map.mp hc
  rw [← e]
  exact digit_range (Nat.isDigit_of_mem_toDigits (by decide) (by decide) hch)
theorem dg_val (m : Nat) : NumText.digitsVal (dg m) = m := PySem.W.KIN.val_back m
theorem dg_ne (m : Nat) : dg m ≠ [] := fun e => by
  have h := toDigits_len_ge 10 m
  rw [List.map_eq_nil_iff.mp e] at h
  exact absurd h (by decide)
def okC (l : List Nat) : Bool := decide (1 ≤ l.length ∧ l.length ≤ 40) && (l.all (fun c => decide (48 ≤ c ∧ c ≤ 57)) && (decide (l = [48]) || decide (l.head? ≠ some 48)))
theorem okC_iff {l : List Nat} : okC l = true ↔ (1 ≤ l.length ∧ l.length ≤ 40) ∧ NumText.AllDigits l ∧ (l = [48] ∨ l.head? ≠ some 48) := by
  unfold okC
  simp only [Bool.and_eq_true, Bool.or_eq_true, decide_eq_true_eq, List.all_eq_true]
  exact Iff.rfl
theorem ok_dg {l : List Nat} (h : okC l = true) : dg (NumText.digitsVal l) = l := by
  obtain ⟨⟨l1, _⟩, ad, hd⟩ := okC_iff.mp h
  have e : Nat.toDigits 10 (NumText.digitsVal l) = l.map Char.ofNat := PySem.NumText.toDigits_digitsVal (l.length - 1) l (by omega) ad (by
    rcases hd with rfl | hd
    · exact .inl rfl
    · cases l with
      | nil => exact absurd l1 (by decide)
      | cons c r =>
        refine .inr ⟨c, r, rfl, ?_⟩
        have := (ad c (.head _)).1
        have : c ≠ 48 := fun e => hd (by rw [e]; rfl)
        omega)
  unfold dg
  rw [e, List.map_map]
  refine (List.map_congr_left (g := id) fun c hc => ?_).trans (List.map_id l)
  have r := ad c hc
  show (Char.ofNat c).toNat = c
  have : c < 58 := by omega
  have key : ∀ c, c < 58 → (Char.ofNat c).toNat = c := by decide
  exact key c this
/-! ### a fraction's text read back -/
theorem slash_inj {a b c d : List Nat} (ha : 47 ∉ a) (hc : 47 ∉ c) (h : a ++ 47 :: b = c ++ 47 :: d) : a = c ∧ b = d := by
  induction a generalizing c with
  | nil =>
    cases c with
    | nil => exact ⟨rfl, (List.cons.inj h).2⟩
    | cons x r => exact absurd ((List.cons.inj h).1 ▸ List.mem_cons_self) hc
  | cons y s ih =>
    cases c with
    | nil => exact absurd ((List.cons.inj h).1 ▸ List.mem_cons_self) ha
    | cons x r =>
      obtain ⟨e1, e2⟩ := List.cons.inj h
      obtain ⟨e3, e4⟩ := ih (fun m => ha (.tail _ m)) (fun m => hc (.tail _ m)) e2
      exact ⟨by rw [e1, e3], e4⟩
theorem dg_slash (m : Nat) : 47 ∉ dg m := fun h => by
  have := (dg_all m 47 h).1
  omega
theorem tI_slash (i : Int) : 47 ∉ cs (tI i) := by
  rw [cs_tI]
  intro h
  rcases List.mem_append.mp h with h | h
  · split at h
    · simp at h
    · cases h
  · exact dg_slash _ h
theorem ok_slash {l : List Nat} (h : okC l = true) : 47 ∉ l := fun hm => by
  have := ((okC_iff.mp h).2.1 47 hm).1
  omega
def sgL (ng : Bool) : List Nat := if ng then [45] else []
def sgI (ng : Bool) (m : Nat) : Int := if ng then -(m : Int) else m
theorem cs_fT (q : Rat) : cs (fT q.num q.den) = if q.den = 1 then cs (tI q.num) else cs (tI q.num) ++ 47 :: dg q.den := by
  unfold fT
  by_cases h : q.den = 1
  · rw [if_pos h, if_pos (by omega)]
  · rw [if_neg h, if_neg (by omega), cs_app, cs_app, str_slash, dg_nat, List.append_assoc]
    rfl
theorem tI_sg {ng : Bool} {u : List Nat} (hu : okC u = true) : cs (tI (sgI ng (NumText.digitsVal u))) = sgL ng ++ u ↔ ¬ (NumText.digitsVal u = 0 ∧ ng = true) := by
  have e := ok_dg hu
  rw [cs_tI]
  cases ng with
  | false =>
    have h1 : ¬ sgI false (NumText.digitsVal u) < 0 := by unfold sgI; simp
    have h2 : (sgI false (NumText.digitsVal u)).natAbs = NumText.digitsVal u := by unfold sgI; simp
    rw [if_neg h1, h2, e]
    simp [sgL]
  | true =>
    have h2 : (sgI true (NumText.digitsVal u)).natAbs = NumText.digitsVal u := by unfold sgI; simp
    rw [h2, e]
    by_cases h0 : NumText.digitsVal u = 0
    · have h1 : ¬ sgI true (NumText.digitsVal u) < 0 := by unfold sgI; rw [h0]; decide
      rw [if_neg h1]
      refine ⟨fun h => ?_, fun h => absurd ⟨h0, rfl⟩ h⟩
      have := congrArg List.length h
      simp [sgL] at this
    · have h1 : sgI true (NumText.digitsVal u) < 0 := by unfold sgI; rw [if_pos rfl]; omega
      rw [if_pos h1]
      exact ⟨fun _ h => h0 h.1, fun _ => rfl⟩
theorem back_whole {z : Str} {ng : Bool} {u : List Nat} (hz : cs z = sgL ng ++ u) (hu : okC u = true) :
    (fT (Rat.divInt (sgI ng (NumText.digitsVal u)) 1).num (Rat.divInt (sgI ng (NumText.digitsVal u)) 1).den = z) ↔ ¬ (NumText.digitsVal u = 0 ∧ ng = true) := by
  have e : Rat.divInt (sgI ng (NumText.digitsVal u)) 1 = ((sgI ng (NumText.digitsVal u) : Int) : Rat) := Rat.num_divInt_den ((sgI ng (NumText.digitsVal u) : Int) : Rat)
  rw [e, ← tI_sg hu, ← hz]
  have c := cs_fT ((sgI ng (NumText.digitsVal u) : Int) : Rat)
  rw [if_pos (show ((sgI ng (NumText.digitsVal u) : Int) : Rat).den = 1 from rfl)] at c
  exact ⟨fun h => by rw [← h, c]; rfl, fun h => cs_ext (by rw [c]; exact h)⟩
theorem den_num {a : Int} {n : Nat} (hn : n ≠ 0) : (Rat.divInt a n).den = n / Int.gcd a n ∧ (Rat.divInt a n).num = a / Int.gcd a n := by
  constructor
  · rw [Rat.den_divInt, if_neg (by omega)]
    simp [Int.gcd_comm]
  · rw [Rat.num_divInt]
    have : ((n : Nat) : Int).sign = 1 := Int.sign_eq_one_of_pos (by omega)
    rw [this, Int.one_mul, Int.gcd_comm]
theorem back_stroke {z : Str} {ng : Bool} {u v : List Nat} (hz : cs z = sgL ng ++ u ++ 47 :: v) (hu : okC u = true) (hv : okC v = true) (hn : NumText.digitsVal v ≠ 0) :
    (fT (Rat.divInt (sgI ng (NumText.digitsVal u)) (NumText.digitsVal v)).num (Rat.divInt (sgI ng (NumText.digitsVal u)) (NumText.digitsVal v)).den = z) ↔
      (2 ≤ NumText.digitsVal v ∧ Nat.gcd (NumText.digitsVal u) (NumText.digitsVal v) = 1 ∧ ¬ (NumText.digitsVal u = 0 ∧ ng = true)) := by
  have ev := ok_dg hv
  have su : 47 ∉ sgL ng ++ u := fun h => by
    rcases List.mem_append.mp h with h | h
    · unfold sgL at h
      split at h
      · simp at h
      · cases h
    · exact ok_slash hu h
  obtain ⟨hd, hm⟩ := den_num (a := sgI ng (NumText.digitsVal u)) hn
  have hg : Int.gcd (sgI ng (NumText.digitsVal u)) (NumText.digitsVal v) = Nat.gcd (NumText.digitsVal u) (NumText.digitsVal v) := by
    unfold sgI
    cases ng <;> simp [Int.gcd]
  rw [hg] at hd hm
  have c := cs_fT (Rat.divInt (sgI ng (NumText.digitsVal u)) (NumText.digitsVal v))
  rw [hm, hd] at c ⊢
  generalize hN : NumText.digitsVal v = n at *
  generalize hG : Nat.gcd (NumText.digitsVal u) n = g at *
  have gn : g ∣ n := by rw [← hG]; exact Nat.gcd_dvd_right _ _
  have gp : 0 < g := Nat.pos_of_ne_zero fun e => hn (Nat.eq_zero_of_zero_dvd (e ▸ gn))
  constructor
  · intro h
    rw [h, hz] at c
    by_cases h1 : n / g = 1
    · rw [if_pos h1] at c
      exact absurd (c ▸ List.mem_append_right _ List.mem_cons_self) (tI_slash _)
    · rw [if_neg h1] at c
      obtain ⟨c1, c2⟩ := slash_inj su (tI_slash _) c
      have e : n = n / g := by
        have := congrArg NumText.digitsVal c2
        rwa [dg_val, hN] at this
      have g1 : g = 1 := by
        rcases Nat.lt_or_ge 1 g with lt | ge
        · have := Nat.div_lt_self (Nat.pos_of_ne_zero hn) lt
          omega
        · omega
      rw [g1] at c1
      rw [Int.natCast_one, Int.ediv_one] at c1
      exact ⟨by rw [g1, Nat.div_one] at h1; omega, g1, (tI_sg hu).mp c1.symm⟩
  · rintro ⟨n2, g1, h0⟩
    rw [g1, Nat.div_one, if_neg (by omega)] at c
    refine cs_ext ?_
    rw [g1, Nat.div_one]
    rw [c, Int.natCast_one, Int.ediv_one, (tI_sg hu).mpr h0, hz, ev]
/-! ### what a text tells -/
def ngB (l : List Nat) : Bool := decide (l.head? = some 45)
def bareL (l : List Nat) : List Nat := if ngB l = true then l.tail else l
theorem bare_sum (l : List Nat) : l = sgL (ngB l) ++ bareL l := by
  unfold bareL sgL
  by_cases h : ngB l = true
  · rw [if_pos h, if_pos h]
    cases l with
    | nil => cases h
    | cons c r =>
      have e : c = 45 := by simpa [ngB] using h
      rw [e]
      rfl
  · rw [if_neg h, if_neg h]
    rfl
def splitL : List Nat → List Nat × Option (List Nat)
  | [] => ([], none)
  | c :: r => if c = 47 then ([], some r) else (c :: (splitL r).1, (splitL r).2)
theorem splitL_says : ∀ l : List Nat, ((splitL l).2 = none ∧ (splitL l).1 = l ∧ 47 ∉ l) ∨ ∃ v, (splitL l).2 = some v ∧ l = (splitL l).1 ++ 47 :: v ∧ 47 ∉ (splitL l).1
  | [] => .inl ⟨rfl, rfl, by simp⟩
  | c :: r => by
    unfold splitL
    by_cases h : c = 47
    · rw [if_pos h]
      exact .inr ⟨r, rfl, by rw [h]; rfl, by simp⟩
    · rw [if_neg h]
      rcases splitL_says r with ⟨e1, e2, e3⟩ | ⟨v, e1, e2, e3⟩
      · exact .inl ⟨e1, by show c :: (splitL r).1 = _; rw [e2], fun hm => (List.mem_cons.mp hm).elim (fun e => h e.symm) e3⟩
      · exact .inr ⟨v, e1, by show c :: r = c :: ((splitL r).1 ++ 47 :: v); rw [← e2], fun hm => (List.mem_cons.mp hm).elim (fun e => h e.symm) e3⟩
def dueR (z : Str) : Option (Int × Int) := match (splitL (bareL (cs z))).2 with
  | none => if okC (splitL (bareL (cs z))).1 = true ∧ ¬ (NumText.digitsVal (splitL (bareL (cs z))).1 = 0 ∧ ngB (cs z) = true) then some (sgI (ngB (cs z)) (NumText.digitsVal (splitL (bareL (cs z))).1), 1) else none
  | some v => if (okC (splitL (bareL (cs z))).1 = true ∧ okC v = true) ∧ 2 ≤ NumText.digitsVal v ∧ Nat.gcd (NumText.digitsVal (splitL (bareL (cs z))).1) (NumText.digitsVal v) = 1 ∧ ¬ (NumText.digitsVal (splitL (bareL (cs z))).1 = 0 ∧ ngB (cs z) = true) then some (sgI (ngB (cs z)) (NumText.digitsVal (splitL (bareL (cs z))).1), NumText.digitsVal v) else none
theorem sg_slash {ng : Bool} : 47 ∉ sgL ng := by
  cases ng <;> simp [sgL]
theorem part_due (z : Str) : (∃ u, splitL (bareL (cs z)) = (u, none) ∧ Txt.partition z "/" = (z, Str.empty, Str.empty) ∧ cs z = sgL (ngB (cs z)) ++ u ∧ bareL (cs z) = u) ∨
    ∃ u v, splitL (bareL (cs z)) = (u, some v) ∧ Txt.partition z "/" = ((⟨(sgL (ngB (cs z)) ++ u).toArray⟩ : Str), ("/" : Str), (⟨v.toArray⟩ : Str)) ∧ cs z = sgL (ngB (cs z)) ++ u ++ 47 :: v ∧ 47 ∉ u ∧ bareL (cs z) = u ++ 47 :: v := by
  have bs := bare_sum (cs z)
  rcases splitL_says (bareL (cs z)) with ⟨e1, e2, e3⟩ | ⟨v, e1, e2, e3⟩
  · refine .inl ⟨_, by rw [← e1], ?_, by rw [e2]; exact bs, e2.symm⟩
    rcases part_cases z with ⟨_, e⟩ | ⟨u, v, e, _, _⟩
    · exact e
    · have hm : 47 ∈ cs z := e ▸ List.mem_append_right _ List.mem_cons_self
      rw [bs] at hm
      rcases List.mem_append.mp hm with h | h
      · exact absurd h sg_slash
      · exact absurd h e3
  · have hz : cs z = sgL (ngB (cs z)) ++ (splitL (bareL (cs z))).1 ++ 47 :: v := by
      rw [List.append_assoc, ← e2]
      exact bs
    refine .inr ⟨_, v, by rw [← e1], ?_, hz, e3, e2⟩
    rcases part_cases z with ⟨h, _⟩ | ⟨u, w, e, eu, ep⟩
    · exact absurd (hz ▸ List.mem_append_right _ List.mem_cons_self) h
    · have hz2 := e.symm.trans hz
      obtain ⟨c1, c2⟩ := slash_inj eu (fun h => (List.mem_append.mp h).elim sg_slash e3) hz2
      rw [ep, c1, c2]
theorem cut_to1 (z : Str) : cs (cutS z none (some 1)) = (cs z).take 1 := by
  rw [C8.cutS_slice]
  have e : z = SX.S (cs z) := cs_ext rfl
  rw [e, SX.slice_to (by decide)]
  rfl
theorem cut_from1 (z : Str) : cs (cutS z (some 1) none) = (cs z).drop 1 := by
  rw [C8.cutS_slice]
  have e : z = SX.S (cs z) := cs_ext rfl
  rw [e, SX.slice_from (by decide)]
  rfl
theorem minus_iff (w : Str) : cutS w none (some 1) = "-" ↔ ngB (cs w) = true := by
  rw [str_minus]
  constructor
  · intro h
    have c := cut_to1 w
    rw [h] at c
    unfold ngB
    cases e : cs w with
    | nil => rw [e] at c; cases c
    | cons x r =>
      rw [e] at c
      have : [45] = [x] := c
      injection this with this
      simp [this]
  · intro h
    refine cs_ext ?_
    rw [cut_to1]
    cases e : cs w with
    | nil => rw [e] at h; cases h
    | cons x r =>
      rw [e] at h
      have e2 : x = 45 := by simpa [ngB] using h
      rw [e2]
      rfl
theorem bare_of (w : Str) : (if ngB (cs w) = true then cutS w (some 1) none else w) = ⟨(bareL (cs w)).toArray⟩ := by
  unfold bareL
  by_cases h : ngB (cs w) = true
  · rw [if_pos h, if_pos h]
    exact cs_ext (by rw [cut_from1, List.drop_one])
  · rw [if_neg h, if_neg h]
theorem bare_sg {ng : Bool} {u : List Nat} (h : ng = false → u.head? ≠ some 45) : ngB (sgL ng ++ u) = ng ∧ bareL (sgL ng ++ u) = u := by
  unfold bareL
  cases ng with
  | true => exact ⟨rfl, rfl⟩
  | false =>
    have e : ngB (sgL false ++ u) = false := by
      show decide (u.head? = some 45) = false
      exact decide_eq_false (h rfl)
    exact ⟨e, by rw [e]; rfl⟩
theorem bare_eq {w : Str} : (⟨(bareL (cs w)).toArray⟩ : Str) = w ↔ ngB (cs w) = false := by
  constructor
  · intro h
    have e := bare_sum (cs w)
    have c := congrArg (fun z : Str => (cs z).length) h
    have c' : (bareL (cs w)).length = (cs w).length := c
    have e4 := congrArg List.length e
    rw [List.length_append] at e4
    cases hn : ngB (cs w) with
    | false => rfl
    | true =>
      rw [hn] at e4
      have : (sgL true).length = 1 := rfl
      omega
  · intro h
    refine cs_ext ?_
    unfold bareL
    rw [h]
    rfl
theorem first_none {u v : List Nat} {z : Str} {n : Bool} (hz : cs z = sgL n ++ u ++ v) (hn : ngB (cs z) = n) (hv : n = false → u ≠ [] → True) : n = false → u.head? ≠ some 45 := fun h0 hu => by
  rw [h0] at hz hn
  have e : cs z = u ++ v := hz
  rw [e] at hn
  cases u with
  | nil => cases hu
  | cons x r =>
    have : x = 45 := by simpa using hu
    rw [this] at hn
    have h5 : ngB (45 :: r ++ v) = true := rfl
    rw [h5] at hn
    cases hn
theorem read_ok {l : List Nat} (h : okC l = true) : PySem.intText? ⟨l.toArray⟩ = some ((NumText.digitsVal l : Nat) : Int) := by
  obtain ⟨⟨l1, l2⟩, ad, _⟩ := okC_iff.mp h
  exact intText_digits (x := ⟨l.toArray⟩) ad (fun e => by rw [show l = [] from e] at l1; exact absurd l1 (by decide)) (Nat.le_trans (show (⟨l.toArray⟩ : Str).length ≤ 40 from l2) (by decide))
/-! ### a drawn fraction's text -/
theorem dg_step {m : Nat} (h : 10 ≤ m) : dg m = dg (m / 10) ++ dg (m % 10) := by
  have t : Nat.toDigits 10 (m / 10) ++ Nat.toDigits 10 (m % 10) = Nat.toDigits 10 (10 * (m / 10) + m % 10) := Nat.toDigits_append_toDigits (by decide) (by omega) (Nat.mod_lt m (by decide))
  rw [Nat.div_add_mod] at t
  unfold dg
  rw [← t, List.map_append]
theorem dg_one {m : Nat} (h : m < 10) : dg m = [48 + m] := by
  have key : ∀ m, m < 10 → dg m = [48 + m] := by decide +kernel
  exact key m h
theorem dg_len : ∀ (k m : Nat), m < 10 ^ (k + 1) → (dg m).length ≤ k + 1
  | 0, m, h => by
    rw [dg_one (by omega)]
    exact Nat.le_refl _
  | k + 1, m, h => by
    by_cases h2 : m < 10
    · rw [dg_one h2]
      show 1 ≤ _
      omega
    · rw [dg_step (by omega), List.length_append, dg_one (Nat.mod_lt m (by decide))]
      have := dg_len k (m / 10) (by rw [Nat.pow_succ] at h; omega)
      show _ + 1 ≤ _
      omega
theorem dg_head (m : Nat) : 0 < m → ∃ c r, dg m = c :: r ∧ 49 ≤ c ∧ c ≤ 57 := by
  induction m using Nat.strongRecOn with
  | _ m ih =>
    intro h0
    by_cases h2 : m < 10
    · exact ⟨_, _, dg_one h2, by omega, by omega⟩
    · obtain ⟨c, r, e, h3⟩ := ih (m / 10) (by omega) (by omega)
      exact ⟨c, r ++ dg (m % 10), by rw [dg_step (by omega), e]; rfl, h3⟩
theorem dg_ok {m : Nat} (h : m < 10 ^ 40) : okC (dg m) = true := by
  refine okC_iff.mpr ⟨⟨List.length_pos_iff.mpr (dg_ne m), dg_len 39 m h⟩, dg_all m, ?_⟩
  by_cases h0 : m = 0
  · exact .inl (by rw [h0]; exact dg_one (by decide))
  · obtain ⟨c, r, e, h3⟩ := dg_head m (by omega)
    refine .inr ?_
    rw [e]
    intro he
    injection he with he
    omega
theorem dg_minus (m : Nat) (l : List Nat) : (dg m ++ l).head? ≠ some 45 := fun h => by
  cases e : dg m with
  | nil => exact dg_ne m e
  | cons c r =>
    rw [e] at h
    have h1 : c = 45 := by simpa using h
    have := (dg_all m c (e ▸ List.mem_cons_self)).1
    omega
theorem split_at {u v : List Nat} (h : 47 ∉ u) : splitL (u ++ 47 :: v) = (u, some v) := by
  rcases splitL_says (u ++ 47 :: v) with ⟨_, _, e3⟩ | ⟨w, e1, e2, e3⟩
  · exact absurd (List.mem_append_right _ List.mem_cons_self) e3
  · obtain ⟨c1, c2⟩ := slash_inj h e3 e2
    rw [Prod.ext_iff]
    exact ⟨c1.symm, by rw [e1, c2]⟩
theorem split_not {u : List Nat} (h : 47 ∉ u) : splitL u = (u, none) := by
  rcases splitL_says u with ⟨e1, e2, _⟩ | ⟨w, _, e2, _⟩
  · rw [Prod.ext_iff]
    exact ⟨e2, e1⟩
  · exact absurd (e2 ▸ List.mem_append_right _ List.mem_cons_self) h
theorem due_back {q : Rat} (hn : q.num.natAbs < 10 ^ 40) (hd : q.den < 10 ^ 40) : dueR (fT q.num q.den) = some (q.num, (q.den : Int)) := by
  have c := cs_fT q
  have sg : sgI (decide (q.num < 0)) q.num.natAbs = q.num := by
    unfold sgI
    by_cases h : q.num < 0
    · rw [if_pos (decide_eq_true h)]
      omega
    · rw [if_neg (by simpa using h)]
      omega
  have s0 : (if q.num < 0 then [45] else ([] : List Nat)) = sgL (decide (q.num < 0)) := by
    unfold sgL
    by_cases h : q.num < 0
    · rw [if_pos h, if_pos (decide_eq_true h)]
    · rw [if_neg h, if_neg (by simpa using h)]
  have z0 : ¬ (q.num.natAbs = 0 ∧ decide (q.num < 0) = true) := fun h => by
    have := of_decide_eq_true h.2
    omega
  rw [cs_tI, s0] at c
  unfold dueR
  by_cases h1 : q.den = 1
  · rw [if_pos h1] at c
    have b := bare_sg (ng := decide (q.num < 0)) (u := dg q.num.natAbs) fun _ => by
      have := dg_minus q.num.natAbs []
      rwa [List.append_nil] at this
    rw [c, b.1, b.2, split_not (dg_slash _)]
    dsimp only
    rw [dg_val, if_pos ⟨dg_ok hn, z0⟩, sg, h1]
    rfl
  · rw [if_neg h1, List.append_assoc] at c
    have b := bare_sg (ng := decide (q.num < 0)) (u := dg q.num.natAbs ++ 47 :: dg q.den) fun _ => dg_minus q.num.natAbs _
    rw [c, b.1, b.2, split_at (dg_slash _)]
    dsimp only
    have dp := q.den_pos
    rw [dg_val, dg_val, if_pos ⟨⟨dg_ok hn, dg_ok hd⟩, by omega, q.reduced, z0⟩, sg]
theorem fQ_len {q : Rat} (hn : q.num.natAbs < 10 ^ 40) (hd : q.den < 10 ^ 40) : (tI q.num).length ≤ 41 ∧ (tI q.den).length ≤ 41 ∧ (fT q.num q.den).length ≤ 83 := by
  have l1 := dg_len 39 _ hn
  have l2 := dg_len 39 _ hd
  have a1 : (cs (tI q.num)).length ≤ 41 := by
    rw [cs_tI, List.length_append]
    split
    · show 1 + _ ≤ _
      omega
    · show 0 + _ ≤ _
      omega
  have a2 : (cs (tI q.den)).length ≤ 41 := by
    rw [dg_nat]
    omega
  refine ⟨by rw [cs_len]; exact a1, by rw [cs_len]; exact a2, ?_⟩
  rw [cs_len, cs_fT]
  split
  · omega
  · rw [List.length_append, List.length_cons]
    omega
theorem log40 {n : Nat} (h : n < 10 ^ 40) : n.log2 < 1920 := by
  by_cases h0 : n = 0
  · rw [h0]; decide
  · exact Nat.lt_of_lt_of_le ((Nat.log2_lt h0).mpr (Nat.lt_of_lt_of_le h (by decide : 10 ^ 40 ≤ 2 ^ 133))) (by decide)
/-- a module's constant that is a text -/
theorem gl_str {K : PySem.W.Frag} {mg : Str → Option Value} {x z : Str} (g : ∃ t, mg x = some (.str z t)) : GlC K mg x (.str z) := by
  obtain ⟨t, g⟩ := g
  exact ⟨.str z, _, g, ⟨_, rfl⟩, fun B F => .str z⟩
end DL

set_option Elab.async false
set_option linter.all false
set_option maxRecDepth 100000
set_option maxHeartbeats 0
namespace T92
open PySem PySem.Spec PyProof.Rows L2 DL
section
variable {P : Program} {w : World} {K : PySem.W.Frag} {mg : Str → Option Value} {base : Heap}
theorem sc__law_bag : FnScope ["script", "salt", "cell"] ["script"] (defScope s__law_bag) := ⟨rfl, rfl, rfl, by decide +kernel, rfl, by decide +kernel, by decide +kernel⟩
def u__law_bag (K : PySem.W.Frag) : US := uSeq (uSet 1 (uSh (uC (.int 7))))
    (uSeq (uFor (uItV (uFz (uSl (uNm 0) (uNoP) (uPart (uC (.int 63)))))) (uGN 2) (uSet 1 (uSh (uOp gMod (uOp gAdd (uOp gMul (uNm 1) (uC (.int 1009))) (uNm 2)) (uC (.int 2147483629))))))
    (uRet (uLst (uCons (uFz (uLstOf (uFz (uSl (uNm 0) (uNoP) (uPart (uC (.int 63))))))) (uCons (uC (.int 0)) (uCons (uC (.int 0)) (uCons (uNm 1) (uNil))))))))
theorem cut63 {ds : List D} (h : ds.length ≤ 63) : DL.cutD ds none (some 63) = ds := by
  unfold DL.cutD HT.sIx
  simp
  rw [Nat.min_eq_right h]
  exact List.take_length
theorem len__law_bag (K : PySem.W.Frag) (ds : List D) (Q : Rz → Prop) (R : Exn → Prop) (h : wBag0 ds Q R) : ds.length = 1 := by
  obtain ⟨a, rfl, _⟩ := h
  rfl
theorem l__law_bag (K : PySem.W.Frag) (ds : List D) (Q : Rz → Prop) (R : Exn → Prop) (h : wBag0 ds Q R) : u__law_bag K (endD Q R) (startD 3 ds) := by
  obtain ⟨ns, rfl, hl, q⟩ := h
  have hc : DL.cutD (ns.map D.int) none (some 63) = ns.map D.int := by
    exact cut63 (by rw [List.length_map]; exact hl)
  simp [u__law_bag, hc]
  refine forW_inv (fun δ => ∃ z x, δ = [.sh (.lst (ns.map .int)), .sh (.int z), x] ∧ 0 ≤ z ∧ z < 2147483648) _ _ ⟨7, _, rfl, by decide, by decide⟩ ?_ ?_
  · intro d hd δ k ⟨z, x, e, hz, hz2⟩ hk
    subst e
    obtain ⟨i, _, rfl⟩ := List.mem_map.mp hd
    have r := fmod_rng (a := z * 1009 + i) (n := 2147483629) (by decide)
    simp [gI, gI0, mul_small]
    exact hk _ ⟨_, _, rfl, r.1, by omega⟩
  · rintro δ ⟨z, x, rfl, hz, hz2⟩
    simp [hc]
    exact q ns z hz hz2
theorem ok__law_bag {f : Addr} {fd : FuncData} (F : FunD K "_law_bag" "_law_bag" (defArgs s__law_bag) (defBody s__law_bag) (defScope s__law_bag) [] [] f fd) (m_list : mg "list" = none) : FnOk P w K mg base (L2.CX P w) (1) f fd ["script"] (spD K wBag0) := by
  have S := sc__law_bag
  refine def_fnD F S (by decide) (len__law_bag K) (fun cdv A outer s H E B F' hr => ?_) (l__law_bag K)
  have hu := hr.units
  have tk := tk_of (P := P) (w := w) (K := K) (mg := mg) (base := base) (N := ["script", "salt", "cell"]) (qual := "_law_bag") (sc := defScope s__law_bag) (f := f) (cd := cdv) (A := A) (outer := outer) (s := s) (H := H) (E := E)
  have po := po_of (CX := L2.CX P w) (P := P) (w := w) (K := K) (mg := mg) (base := base) (N := ["script", "salt", "cell"]) (qual := "_law_bag") (sc := defScope s__law_bag) (f := f) (cd := cdv) (A := A) (outer := outer) (s := s) (H := H) (E := E)
  exact (qss_cons (qs_set (i := 1) S.nd rfl (.inl rfl) (qe_sh qv_int))
      (qss_cons (qs_for po rfl (qi_val (qv_fz (qe_sl (qv_nm (pv 0)) qo_none (qo_some qv_int)))) (qg_name (i := 2) S.nd rfl (.inl rfl)) (qss_one (qs_set (i := 1) S.nd rfl (.inl rfl) (qe_sh (qv_mod (qv_add (qv_mul (qv_nm (pv 1)) qv_int) (qv_nm (pv 2))) qv_int)))))
      (qss_one (qs_ret (qe_lst (qa_cons (qv_fz (qe_lstOf (by rfl) m_list (qv_fz (qe_sl (qv_nm (pv 0)) qo_none (qo_some qv_int))))) (qa_cons qv_int (qa_cons qv_int (qa_cons (qv_nm (pv 1)) qa_nil)))))))))
theorem sc__law_pull : FnScope ["bag", "many", "found", "cell"] ["bag", "many"] (defScope s__law_pull) := ⟨rfl, rfl, rfl, by decide +kernel, rfl, by decide +kernel, by decide +kernel⟩
theorem ok__law_pull {f : Addr} {fd : FuncData} (F : FunD K "_law_pull" "_law_pull" (defArgs s__law_pull) (defBody s__law_pull) (defScope s__law_pull) [] [] f fd) (m_len : mg "len" = none) : FnOk P w K mg base (L2.CX P w) 1 f fd ["bag", "many"] (spD K (w__law_pull K)) := by
  have S := sc__law_pull
  refine F.ok S (fun vs H Q E h => ?_) (fun cdv A outer s H vs Q E hr h => ⟨tPullA K, ?_, pure_pullA vs H Q E h⟩)
  · obtain ⟨B, F, ds, Qd, Rd, _, _, r, hw, _⟩ := h
    obtain ⟨n, rfl, _⟩ := wPull_of hw
    exact r.length
  · exact (pss_cons (ps_if (pt_cmpR op_gt (pe_ix ix_seq (pv 0) pe_int (fun _ _ => rfl)) pe_int (nomark _))
        (pss_cons (ps_set (i := 2) S.nd rfl (.inl rfl) (pe_op op_modN (pe_ix ix_seq (pv 0) pe_int (fun _ _ => rfl)) (pv 1)))
        (pss_cons (ps_asg (pe_op op_fdivX (pe_ix ix_seq (pv 0) pe_int (fun _ _ => rfl)) (pv 1)) (pg_sub (pv 0) pe_int set_list (by intro _; rfl)))
        (pss_one (ps_ret (pv 2))))) pss_nil)
      (pss_cons (ps_set (i := 3) S.nd rfl (.inl rfl) pe_int)
      (pss_cons (ps_if (pt_cmpR op_lt (pe_ix ix_seq (pv 0) pe_int (fun _ _ => rfl)) (pe_callB call_len (by rfl) m_len boot_len (pa_cons (pe_ix ix_seq (pv 0) pe_int (fun _ _ => rfl)) pa_nil)) (nomark _))
        (pss_one (ps_set (i := 3) S.nd rfl (.inl rfl) (pe_ix ix_seq (pe_ix ix_seq (pv 0) pe_int (fun _ _ => rfl)) (pe_ix ix_seq (pv 0) pe_int (fun _ _ => rfl)) (fun _ _ => rfl)))) pss_nil)
      (pss_cons (ps_asg (pe_op op_add (pe_ix ix_seq (pv 0) pe_int (fun _ _ => rfl)) pe_int) (pg_sub (pv 0) pe_int set_list (by intro _; rfl)))
      (pss_cons (ps_if (pt_cmpR op_ge (pv 3) (pe_op op_pow pe_int pe_int) (nomark _))
        (pss_cons (ps_asg (pe_op op_fdivX (pv 3) (pv 1)) (pg_sub (pv 0) pe_int set_list (by intro _; rfl)))
        (pss_one (ps_ret (pe_op op_modN (pv 3) (pv 1))))) pss_nil)
      (pss_cons (ps_asg (pe_op op_modN (pe_op op_add (pe_op op_add (pe_op op_mulX (pe_ix ix_seq (pv 0) pe_int (fun _ _ => rfl)) pe_int) (pe_op op_modN (pv 3) pe_int)) (pe_op op_mulX pe_int (pe_ix ix_seq (pv 0) pe_int (fun _ _ => rfl)))) pe_int) (pg_sub (pv 0) pe_int set_list (by intro _; rfl)))
      (pss_cons (ps_asg (pe_op op_modN (pe_op op_add (pe_op op_mulX (pe_ix ix_seq (pv 0) pe_int (fun _ _ => rfl)) pe_int) pe_int) pe_int) (pg_sub (pv 0) pe_int set_list (by intro _; rfl)))
      (pss_one (ps_ret (pe_op op_modN (pe_op op_fdivX (pe_ix ix_seq (pv 0) pe_int (fun _ _ => rfl)) pe_int) (pv 1)))))))))))
theorem sc__law_same : FnScope ["found", "due", "at"] ["found", "due"] (defScope s__law_same) := ⟨rfl, rfl, rfl, by decide +kernel, rfl, by decide +kernel, by decide +kernel⟩
def wr__law_same (n : Nat) : DSp := fun ds Q _ => ∃ x, ds = [x, x] ∧ Shp n x ∧ Q (.sh (.bl true))
theorem z__law_same {ds : List D} {Q : Rz → Prop} {R : Exn → Prop} (h : wr__law_same 0 ds Q R) : False := by
  obtain ⟨x, _, h, _⟩ := h
  exact h
abbrev w__law_same (K : PySem.W.Frag) : DSp := wr__law_same 8
def u__law_same (K : PySem.W.Frag) (n : Nat) : US := uSeq (uIfS (uTst (uOp gIsN (uNm 1) (uC .non))) (uRet (uSh (uOp gIsN (uNm 0) (uC .non)))) (uSkip))
    (uSeq (uIfS (uTru (uCaB gIsi (uCons (uNm 1) (uCons (uC (.ty "bool")) (uNil))))) (uRet (uSh (uAndV (uCaB gIsi (uCons (uNm 0) (uCons (uC (.ty "bool")) (uNil)))) (uOp gEq (uNm 0) (uNm 1))))) (uSkip))
    (uSeq (uIfS (uTru (uCaB gIsi (uCons (uNm 1) (uCons (uC (.ty "int")) (uNil))))) (uRet (uSh (uAndV (uCaB gIsi (uCons (uNm 0) (uCons (uC (.ty "int")) (uNil)))) (uAndV (uNotV (uCaB gIsi (uCons (uNm 0) (uCons (uC (.ty "bool")) (uNil))))) (uOp gEq (uNm 0) (uNm 1)))))) (uSkip))
    (uSeq (uIfS (uTru (uCaB gIsi (uCons (uNm 1) (uCons (uC (.ty "str")) (uNil))))) (uRet (uSh (uAndV (uCaB gIsi (uCons (uNm 0) (uCons (uC (.ty "str")) (uNil)))) (uOp gEq (uNm 0) (uNm 1))))) (uSkip))
    (uSeq (uIfS (uAnd (uTru (uCaB gIsi (uCons (uNm 1) (uCons (uC (.ty "tuple")) (uNil))))) (uNot (uTru (uCaB gIsi (uCons (uNm 0) (uCons (uC (.ty "tuple")) (uNil))))))) (uRet (uSh (uC (.bl false)))) (uSkip))
    (uSeq (uIfS (uAnd (uTru (uCaB gIsi (uCons (uNm 1) (uCons (uC (.ty "list")) (uNil))))) (uNot (uTru (uCaB gIsi (uCons (uNm 0) (uCons (uC (.ty "list")) (uNil))))))) (uRet (uSh (uC (.bl false)))) (uSkip))
    (uSeq (uIfS (uTst (uOp gNe (uCaB gLen (uCons (uNm 0) (uNil))) (uCaB gLen (uCons (uNm 1) (uNil))))) (uRet (uSh (uC (.bl false)))) (uSkip))
    (uRet (uSh (uCaB gAll (uCons (uFz (uLc (uRg1 (uCons (uCaB gLen (uCons (uNm 1) (uNil))) (uNil))) (uGN 2) (uYes) (uFz (uCal (wr__law_same n) (uCons (uOp gIx (uNm 0) (uNm 2)) (uCons (uOp gIx (uNm 1) (uNm 2)) (uNil))))) [2])) (uNil)))))))))))
theorem len__law_same (K : PySem.W.Frag) {n : Nat} (ds : List D) (Q : Rz → Prop) (R : Exn → Prop) (h : wr__law_same n ds Q R) : ds.length = 2 := by
  obtain ⟨x, rfl, _⟩ := h
  rfl
theorem same_loop {n : Nat} {es : List D} {y : D} {Q : Rz → Prop} (hy : y = .tup es ∨ y = .lst es) (h : ∀ d ∈ es, Shp n d) (q : Q (.sh (.bl true))) :
    lcW (uGN 2) uYes (uFz (uCal (wr__law_same n) (uCons (uOp gIx (uNm 0) (uNm 2)) (uCons (uOp gIx (uNm 1) (uNm 2)) uNil)))) [2] (rgD 0 es.length) [.sh y, .sh y, .no] fun ys δ2 =>
      match blsD ys with
      | some bs => Q (.sh (.bl (bs.all id)))
      | none => False := by
  refine lcW_inv (fun δ => ∃ s, δ = [.sh y, .sh y, s]) (fun _ => some (.bl true)) _ _ _ ⟨_, rfl⟩ ?_ ?_
  · rintro d hd δ K K' ⟨s, rfl⟩ hk _
    obtain ⟨i, hi, rfl⟩ := mem_rgD hd
    have e : atI es (i : Int) = some es[i] := by
      unfold atI ixN
      simp [hi]
    have hs := h es[i] (List.getElem_mem hi)
    rcases hy with rfl | rfl
    · simp [e]
      exact ⟨_, rfl, hs, hk _ rfl _ ⟨_, rfl⟩⟩
    · simp [e]
      exact ⟨_, rfl, hs, hk _ rfl _ ⟨_, rfl⟩⟩
  · rintro δ ⟨s, rfl⟩
    rw [blsD_all]
    have e : ((rgD 0 es.length).map fun _ => true).all id = true := by
      rw [List.all_eq_true]
      intro b hb
      obtain ⟨_, _, rfl⟩ := List.mem_map.mp hb
      rfl
    show Q (.sh (.bl (((rgD 0 es.length).map fun _ => true).all id)))
    rw [e]; exact q
theorem l__law_same (K : PySem.W.Frag) (n : Nat) (ds : List D) (Q : Rz → Prop) (R : Exn → Prop) (h : wr__law_same (n + 1) ds Q R) : u__law_same K n (endD Q R) (startD 3 ds) := by
  obtain ⟨x, rfl, h, q⟩ := h
  cases x with
  | non => simpa [u__law_same] using q
  | bl b => cases b <;> simpa [u__law_same] using q
  | int i => simpa [u__law_same] using q
  | str z => simpa [u__law_same] using q
  | tup es =>
    obtain ⟨h1, h2⟩ := h
    have h3 := same_loop (n := n) (es := es) (y := .tup es) (.inl rfl) h2 q
    simp [u__law_same, Sm, length_rgD]
    exact ⟨by omega, by omega, h3⟩
  | lst es =>
    obtain ⟨h1, h2⟩ := h
    have h3 := same_loop (n := n) (es := es) (y := .lst es) (.inr rfl) h2 q
    simp [u__law_same, Sm, length_rgD]
    exact ⟨by omega, by omega, h3⟩
  | _ => exact (show False from h).elim
theorem ok__law_same {f : Addr} {fd : FuncData} (F : FunD K "_law_same" "_law_same" (defArgs s__law_same) (defBody s__law_same) (defScope s__law_same) [] [] f fd) (m_len : mg "len" = none) (m_range : mg "range" = none) (m_all : mg "all" = none) (m_list : mg "list" = none) (m_isinstance : mg "isinstance" = none) (m_tuple : mg "tuple" = none) (m_str : mg "str" = none) (m_int : mg "int" = none) (m_bool : mg "bool" = none) {n : Nat} (c__law_same : CalD P w K mg base (n + 0) "_law_same" (wr__law_same n)) : FnOk P w K mg base (L2.CX P w) (n + 0 + 1) f fd ["found", "due"] (spD K (wr__law_same (n + 1))) := by
  have S := sc__law_same
  refine def_fnD F S (by decide) (len__law_same K) (fun cdv A outer s H E B F' hr => ?_) (l__law_same K n)
  have hu := hr.units
  have tk := tk_of (P := P) (w := w) (K := K) (mg := mg) (base := base) (N := ["found", "due", "at"]) (qual := "_law_same") (sc := defScope s__law_same) (f := f) (cd := cdv) (A := A) (outer := outer) (s := s) (H := H) (E := E)
  have po := po_of (CX := L2.CX P w) (P := P) (w := w) (K := K) (mg := mg) (base := base) (N := ["found", "due", "at"]) (qual := "_law_same") (sc := defScope s__law_same) (f := f) (cd := cdv) (A := A) (outer := outer) (s := s) (H := H) (E := E)
  exact (qss_cons (qs_if (qt_isN (qv_nm (pv 1)) qv_non) (qss_one (qs_ret (qe_sh (qv_isN (qv_nm (pv 0)) qv_non)))) qss_nil)
      (qss_cons (qs_if (qt_tru (qv_isi (by rfl) m_isinstance (qa_cons (qv_nm (pv 1)) (qa_cons (qv_ty (by rfl) m_bool (by decide +kernel)) qa_nil)))) (qss_one (qs_ret (qe_sh (qv_and (qv_isi (by rfl) m_isinstance (qa_cons (qv_nm (pv 0)) (qa_cons (qv_ty (by rfl) m_bool (by decide +kernel)) qa_nil))) (qv_one (qv_eq hu (qv_nm (pv 0)) (qv_nm (pv 1)))))))) qss_nil)
      (qss_cons (qs_if (qt_tru (qv_isi (by rfl) m_isinstance (qa_cons (qv_nm (pv 1)) (qa_cons (qv_ty (by rfl) m_int (by decide +kernel)) qa_nil)))) (qss_one (qs_ret (qe_sh (qv_and (qv_isi (by rfl) m_isinstance (qa_cons (qv_nm (pv 0)) (qa_cons (qv_ty (by rfl) m_int (by decide +kernel)) qa_nil))) (qv_and (qv_not (qv_isi (by rfl) m_isinstance (qa_cons (qv_nm (pv 0)) (qa_cons (qv_ty (by rfl) m_bool (by decide +kernel)) qa_nil)))) (qv_one (qv_eq hu (qv_nm (pv 0)) (qv_nm (pv 1))))))))) qss_nil)
      (qss_cons (qs_if (qt_tru (qv_isi (by rfl) m_isinstance (qa_cons (qv_nm (pv 1)) (qa_cons (qv_ty (by rfl) m_str (by decide +kernel)) qa_nil)))) (qss_one (qs_ret (qe_sh (qv_and (qv_isi (by rfl) m_isinstance (qa_cons (qv_nm (pv 0)) (qa_cons (qv_ty (by rfl) m_str (by decide +kernel)) qa_nil))) (qv_one (qv_eq hu (qv_nm (pv 0)) (qv_nm (pv 1)))))))) qss_nil)
      (qss_cons (qs_if (qt_w (qw_and (qt_tru (qv_isi (by rfl) m_isinstance (qa_cons (qv_nm (pv 1)) (qa_cons (qv_ty (by rfl) m_tuple (by decide +kernel)) qa_nil)))) (qw_and1 (qt_not (qt_tru (qv_isi (by rfl) m_isinstance (qa_cons (qv_nm (pv 0)) (qa_cons (qv_ty (by rfl) m_tuple (by decide +kernel)) qa_nil)))))))) (qss_one (qs_ret (qe_sh qv_bl))) qss_nil)
      (qss_cons (qs_if (qt_w (qw_and (qt_tru (qv_isi (by rfl) m_isinstance (qa_cons (qv_nm (pv 1)) (qa_cons (qv_ty (by rfl) m_list (by decide +kernel)) qa_nil)))) (qw_and1 (qt_not (qt_tru (qv_isi (by rfl) m_isinstance (qa_cons (qv_nm (pv 0)) (qa_cons (qv_ty (by rfl) m_list (by decide +kernel)) qa_nil)))))))) (qss_one (qs_ret (qe_sh qv_bl))) qss_nil)
      (qss_cons (qs_if (qt_ne hu (qv_len (by rfl) m_len (qa_cons (qv_nm (pv 0)) qa_nil)) (qv_len (by rfl) m_len (qa_cons (qv_nm (pv 1)) qa_nil))) (qss_one (qs_ret (qe_sh qv_bl))) qss_nil)
      (qss_one (qs_ret (qe_sh (qv_all rfl (by rfl) m_all (qa_cons (qv_fz (qe_lc (own := [("at", 2)]) rfl S.nd (qi_rg1 (by rfl) m_range (qa_cons (qv_len (by rfl) m_len (qa_cons (qv_nm (pv 1)) qa_nil)) qa_nil)) (blkOk_by (by kernel_rfl)) (fun _ _ _ _ _ => pg_name (i := 2) S.nd rfl (.inl rfl)) (lct_name (by decide)) (fun _ _ _ _ _ => qts_nil) (fun _ _ _ _ _ => (qv_fz (qe_cal c__law_same hr (by omega) (by rfl) takes0 (qa_cons (qv_ix (qv_nm (pv 0)) (qv_nm (pv 2))) (qa_cons (qv_ix (qv_nm (pv 1)) (qv_nm (pv 2))) qa_nil))))))) qa_nil))))))))))))
theorem sc__law_kinds : FnScope ["one", "found", "beside", "each"] ["one"] (defScope s__law_kinds) := ⟨rfl, rfl, rfl, by decide +kernel, rfl, by decide +kernel, by decide +kernel⟩
def u__law_kinds (K : PySem.W.Frag) : US := uSeq (uSet 1 (uLst (uCons (uCaB (gIsE K xsK tsK osK ttK toK) (uCons (uNm 0) (uCons (uC (.obj (He.ga K "ChalkError"))) (uNil)))) (uCons (uCaB (gIsE K xsK tsK osK ttK toK) (uCons (uNm 0) (uCons (uC (.obj (He.ga K "Missing"))) (uNil)))) (uCons (uCaB (gIsE K xsK tsK osK ttK toK) (uCons (uNm 0) (uCons (uC (.ty "ValueError")) (uNil)))) (uNil))))))
    (uSeq (uDrop (uExt 1 (uLst (uCons (uCaB (gIsE K xsK tsK osK ttK toK) (uCons (uNm 0) (uCons (uC (.ty "LookupError")) (uNil)))) (uCons (uCaB (gIsE K xsK tsK osK ttK toK) (uCons (uNm 0) (uCons (uC (.ty "ZeroDivisionError")) (uNil)))) (uNil))))))
    (uSeq (uDrop (uApp 1 (uCaB (gIsE K xsK tsK osK ttK toK) (uCons (uNm 0) (uCons (uC (.ty "IndexError")) (uNil))))))
    (uSeq (uSet 2 (uLst (uCons (uCaB (gIsE K xsK tsK osK ttK toK) (uCons (uNm 0) (uCons (uC (.obj (He.ga K "BadName"))) (uNil)))) (uCons (uCaB (gIsE K xsK tsK osK ttK toK) (uCons (uNm 0) (uCons (uC (.obj (He.ga K "NoName"))) (uNil)))) (uNil)))))
    (uSeq (uSet 2 (uCat (uMv 2) (uLst (uCons (uCaB (gIsE K xsK tsK osK ttK toK) (uCons (uNm 0) (uCons (uC (.obj (He.ga K "BadText"))) (uNil)))) (uCons (uCaB (gIsE K xsK tsK osK ttK toK) (uCons (uNm 0) (uCons (uC (.obj (He.ga K "BadRow"))) (uNil)))) (uNil))))))
    (uRet (uCat (uMv 1) (uLst (uCons (uCaB gLen (uCons (uFz (uLc (uItV (uNm 2)) (uGN 3) (uTru (uNm 3)) (uNm 3) [3])) (uNil))) (uNil)))))))))
def w__law_kinds (K : PySem.W.Frag) : DSp := fun ds Q R => match ds with
  | [.exi C _] => ∃ x, x ∈ xsK ∧ C = He.ga K x ∧ Q (.nw (kindsK x))
  | _ => False
theorem len__law_kinds (K : PySem.W.Frag) (ds : List D) (Q : Rz → Prop) (R : Exn → Prop) (h : w__law_kinds K ds Q R) : ds.length = 1 := by
  unfold w__law_kinds at h
  split at h
  · rfl
  · exact h.elim
theorem true_loop {a0 a1 a2 : Sl} {k : List D → DE → Prop} (bs : List Bool) (h : ∀ s, k ((bs.map D.bl).filterMap trueD) [a0, a1, a2, s]) : lcW (uGN 3) (uTru (uNm 3)) (uNm 3) [3] (bs.map D.bl) [a0, a1, a2, .no] k := by
  refine lcW_inv (fun δ => ∃ s, δ = [a0, a1, a2, s]) trueD _ _ _ ⟨_, rfl⟩ ?_ ?_
  · rintro d hd δ K K' ⟨s, rfl⟩ hk hk'
    obtain ⟨b, _, rfl⟩ := List.mem_map.mp hd
    cases b with
    | true => simpa [wipeD] using hk _ rfl _ ⟨_, rfl⟩
    | false => simpa [wipeD] using hk' rfl _ ⟨_, rfl⟩
  · rintro δ ⟨s, rfl⟩
    exact h s
theorem l__law_kinds (K : PySem.W.Frag) (ds : List D) (Q : Rz → Prop) (R : Exn → Prop) (h : w__law_kinds K ds Q R) : u__law_kinds K (endD Q R) (startD 4 ds) := by
  unfold w__law_kinds at h
  split at h
  rotate_left
  · exact h.elim
  rename_i C gs
  obtain ⟨x, hx, hC, h⟩ := h
  subst hC
  simp only [u__law_kinds, gIsE, uExt, uCat, lstR, uNm, uMv, uFz, uC, uNil, uCons, uLst, DL.isNon, gTru, uTru, uCaB, gLen, isiAny, D.cls, Bool.or_true, Bool.or_false, Bool.true_or, Bool.false_or, uSeq, Rz.sl, uSet, uRet, uDrop, uGN, uApp, seqD, uItV, uLc, endD, wPull, CPow, nat10, List.getElem?_cons_zero, List.getElem?_cons_succ, List.set_cons_zero, List.set_cons_succ, Int.reduceLT, Int.reduceLE, Int.reduceToNat, Int.reducePow, Int.reduceNeg, Int.reduceMul, Int.reduceAdd, Int.reduceSub, Nat.reducePow, Nat.reduceLT, Nat.reduceLeDiff, List.length_cons, List.length_nil, Nat.reduceAdd, true_and, and_true, and_self, reduceIte, ↓reduceIte, Bool.false_eq_true, decide_eq_true_eq, Bool.not_true, Bool.not_false, Bool.not_eq_true, decide_eq_false_iff_not, Rz.dat, startD, w__law_pull, List.map_cons, List.map_nil, List.cons_append, List.nil_append, List.reduceReplicate, Nat.reduceSub, List.append_nil, List.set_nil, uExt, uCat, lstR, strsD, intsD, startW, endW]
  refine ⟨x, "ChalkError", hx, rfl, by decide, rfl, x, "Missing", hx, rfl, by decide, rfl, x, hx, rfl, by decide, ?_⟩
  refine ⟨⟨_, rfl⟩, x, hx, rfl, by decide, x, hx, rfl, by decide, _, _, rfl, rfl, by simp, ⟨_, rfl⟩, x, hx, rfl, by decide, by simp, x, "BadName", hx, rfl, by decide, rfl, x, "NoName", hx, rfl, by decide, rfl, x, "BadText", hx, rfl, by decide, rfl, x, "BadRow", hx, rfl, by decide, rfl, ?_⟩
  refine true_loop [toK x "BadName", toK x "NoName", toK x "BadText", toK x "BadRow"] fun s => ⟨by simp, ?_⟩
  exact h
theorem ok__law_kinds {f : Addr} {fd : FuncData} (F : FunD K "_law_kinds" "_law_kinds" (defArgs s__law_kinds) (defBody s__law_kinds) (defScope s__law_kinds) [] [] f fd) (m_len : mg "len" = none) (m_isinstance : mg "isinstance" = none) (m_IndexError : mg "IndexError" = none) (m_ZeroDivisionError : mg "ZeroDivisionError" = none) (m_LookupError : mg "LookupError" = none) (m_ValueError : mg "ValueError" = none) (n_BadRow : mg "BadRow" = some (.ref (He.ga K "BadRow"))) (n_BadText : mg "BadText" = some (.ref (He.ga K "BadText"))) (n_NoName : mg "NoName" = some (.ref (He.ga K "NoName"))) (n_BadName : mg "BadName" = some (.ref (He.ga K "BadName"))) (n_Missing : mg "Missing" = some (.ref (He.ga K "Missing"))) (n_ChalkError : mg "ChalkError" = some (.ref (He.ga K "ChalkError"))) (isE : IsE K xsK tsK osK ttK toK) : FnOk P w K mg base (L2.CX P w) (1) f fd ["one"] (spD K (w__law_kinds K)) := by
  have S := sc__law_kinds
  refine def_fnD F S (by decide) (len__law_kinds K) (fun cdv A outer s H E B F' hr => ?_) (l__law_kinds K)
  have hu := hr.units
  have tk := tk_of (P := P) (w := w) (K := K) (mg := mg) (base := base) (N := ["one", "found", "beside", "each"]) (qual := "_law_kinds") (sc := defScope s__law_kinds) (f := f) (cd := cdv) (A := A) (outer := outer) (s := s) (H := H) (E := E)
  have po := po_of (CX := L2.CX P w) (P := P) (w := w) (K := K) (mg := mg) (base := base) (N := ["one", "found", "beside", "each"]) (qual := "_law_kinds") (sc := defScope s__law_kinds) (f := f) (cd := cdv) (A := A) (outer := outer) (s := s) (H := H) (E := E)
  exact (qss_cons (qs_set (i := 1) S.nd rfl (.inl rfl) (qe_lst (qa_cons (qv_isE isE (by rfl) m_isinstance (qa_cons (qv_nm (pv 0)) (qa_cons (qv_cls (by rfl) n_ChalkError) qa_nil))) (qa_cons (qv_isE isE (by rfl) m_isinstance (qa_cons (qv_nm (pv 0)) (qa_cons (qv_cls (by rfl) n_Missing) qa_nil))) (qa_cons (qv_isE isE (by rfl) m_isinstance (qa_cons (qv_nm (pv 0)) (qa_cons (qv_ty (by rfl) m_ValueError (by decide +kernel)) qa_nil))) qa_nil)))))
      (qss_cons (qs_expr (qe_ext (pv 1) (qe_lst (qa_cons (qv_isE isE (by rfl) m_isinstance (qa_cons (qv_nm (pv 0)) (qa_cons (qv_ty (by rfl) m_LookupError (by decide +kernel)) qa_nil))) (qa_cons (qv_isE isE (by rfl) m_isinstance (qa_cons (qv_nm (pv 0)) (qa_cons (qv_ty (by rfl) m_ZeroDivisionError (by decide +kernel)) qa_nil))) qa_nil)))))
      (qss_cons (qs_expr (qe_app (pv 1) (qv_isE isE (by rfl) m_isinstance (qa_cons (qv_nm (pv 0)) (qa_cons (qv_ty (by rfl) m_IndexError (by decide +kernel)) qa_nil)))))
      (qss_cons (qs_set (i := 2) S.nd rfl (.inl rfl) (qe_lst (qa_cons (qv_isE isE (by rfl) m_isinstance (qa_cons (qv_nm (pv 0)) (qa_cons (qv_cls (by rfl) n_BadName) qa_nil))) (qa_cons (qv_isE isE (by rfl) m_isinstance (qa_cons (qv_nm (pv 0)) (qa_cons (qv_cls (by rfl) n_NoName) qa_nil))) qa_nil))))
      (qss_cons (qs_set (i := 2) S.nd rfl (.inl rfl) (qe_cat (qe_mv (pv 2)) (qe_lst (qa_cons (qv_isE isE (by rfl) m_isinstance (qa_cons (qv_nm (pv 0)) (qa_cons (qv_cls (by rfl) n_BadText) qa_nil))) (qa_cons (qv_isE isE (by rfl) m_isinstance (qa_cons (qv_nm (pv 0)) (qa_cons (qv_cls (by rfl) n_BadRow) qa_nil))) qa_nil)))))
      (qss_one (qs_ret (qe_cat (qe_mv (pv 1)) (qe_lst (qa_cons (qv_len (by rfl) m_len (qa_cons (qv_fz (qe_lc (own := [("each", 3)]) rfl S.nd (qi_val (qv_nm (pv 2))) (blkOk_by (by kernel_rfl)) (fun _ _ _ _ _ => pg_name (i := 3) S.nd rfl (.inl rfl)) (lct_name (by decide)) (fun _ _ _ _ _ => qts_one (qt_tru (qv_nm (pv 3)))) (fun _ _ _ _ _ => (qv_nm (pv 3))))) qa_nil)) qa_nil))))))))))
theorem sc_law : FnScope ["script", "bag", "name", "number", "first", "words", "at", "due", "lost", "last", "dues", "one"] ["script"] (defScope s_law) := ⟨rfl, rfl, rfl, by decide +kernel, rfl, by decide +kernel, by decide +kernel⟩
def u_law (K : PySem.W.Frag) : US := uSeq (uSet 2 (uSh (uOp gIx (uFz (uLst (uCons (uC (.str "f")) (uCons (uC (.str "")) (uCons (uC (.str "zz")) (uNil)))))) (uFz (uCal (w__law_pull K) (uCons (uNm 1) (uCons (uC (.int 3)) (uNil))))))))
    (uSeq (uSet 3 (uCal (w__law_pull K) (uCons (uNm 1) (uCons (uC (.int 2000)) (uNil)))))
    (uSeq (uSet 4 (uLst (uCons (uExV (He.ga K "BadText") 0 gf_BadText uNil) (uCons (uExV (He.ga K "BadPoly") 0 gf_BadPoly uNil) (uCons (uExV (He.ga K "BadStretch") 0 gf_BadStretch uNil) (uCons (uExV (He.ga K "BadWindow") 0 gf_BadWindow uNil) (uCons (uExV (He.ga K "BadFine") 0 gf_BadFine uNil) (uCons (uExV (He.ga K "BadRow") 0 gf_BadRow uNil) (uCons (uExV (He.ga K "BadCondition") 0 gf_BadCondition uNil) (uCons (uExV (He.ga K "BadQuestion") 0 gf_BadQuestion uNil) (uNil)))))))))))
    (uSeq (uSet 4 (uCat (uMv 4) (uLst (uCons (uExV (He.ga K "BadKind") 0 gf_BadKind uNil) (uCons (uExV (He.ga K "BadName") 0 gf_BadName uNil) (uCons (uExV (He.ga K "Taken") 0 gf_Taken uNil) (uCons (uExV (He.ga K "Full") 0 gf_Full uNil) (uCons (uExV (He.ga K "Ring") 0 gf_Ring uNil) (uCons (uExV (He.ga K "TooGreat") 0 gf_TooGreat uNil) (uCons (uExV (He.ga K "TooDeep") 0 gf_TooDeep uNil) (uCons (uExV (He.ga K "NotWhole") 0 gf_NotWhole uNil) (uCons (uExV (He.ga K "StillOpen") 0 gf_StillOpen uNil) (uNil)))))))))))))
    (uSeq (uSet 4 (uCat (uMv 4) (uLst (uCons (uExV (He.ga K "NoWorth") 0 gf_NoWorth uNil) (uCons (uExV (He.ga K "Leant") 1 gf_Leant (uCons (uNm 2) (uNil))) (uCons (uExV (He.ga K "Unread") 1 gf_Unread (uCons (uNm 3) (uNil))) (uCons (uExV (He.ga K "BadPage") 1 gf_BadPage (uCons (uNm 3) (uNil))) (uNil))))))))
    (uSeq (uSet 5 (uSh (uC (.str "badtext badpoly badstretch badwindow badfine badrow badcondition badquestion badkind badname"))))
    (uSeq (uSet 5 (uSh (uOp gAddT (uNm 5) (uC (.str " taken full ring toogreat toodeep notwhole stillopen noworth leant unread badpage")))))
    (uSeq (uIfS (uNot (uTru (uFz (uCal (w__law_same K) (uCons (uFz (uLc (uItV (uNm 4)) (uGN 11) (uYes) (uXi K xsK "word" (uNm 11)) [11])) (uCons (uFz (uSplit (uNm 5) (uC (.str " ")))) (uNil))))))) (uRet (uSh (uC (.bl false)))) (uSkip))
    (uSeq (uFor (uRg1 (uCons (uLenN 4) (uNil))) (uGN 6) (uSeq (uSet 7 (uLst (uCons (uC (.bl true)) (uCons (uC (.bl false)) (uCons (uC (.bl true)) (uCons (uC (.bl false)) (uCons (uC (.bl false)) (uCons (uC (.bl false)) (uCons (uCaB gInt (uCons (uOp gInL (uNm 6) (uFz (uLst (uCons (uC (.int 0)) (uCons (uC (.int 5)) (uCons (uC (.int 9)) (uNil))))))) (uNil))) (uNil))))))))))
    (uIfS (uNot (uTru (uFz (uCal (w__law_same K) (uCons (uFz (uCal (w__law_kinds K) (uCons (uIxN 4 (uNm 6)) (uNil)))) (uCons (uNm 7) (uNil))))))) (uRet (uSh (uC (.bl false)))) (uSkip))))
    (uSeq (uSet 8 (uLst (uCons (uExV (He.ga K "NoName") 1 gf_NoName (uCons (uNm 2) (uNil))) (uCons (uExV (He.ga K "NoRoot") 0 gf_NoRoot uNil) (uNil)))))
    (uSeq (uIfS (uNot (uTru (uFz (uCal (w__law_same K) (uCons (uFz (uLc (uItV (uNm 8)) (uGN 11) (uYes) (uXi K xsK "word" (uNm 11)) [11])) (uCons (uFz (uLst (uCons (uC (.str "noname")) (uCons (uC (.str "noroot")) (uNil))))) (uNil))))))) (uRet (uSh (uC (.bl false)))) (uSkip))
    (uSeq (uFor (uRg1 (uCons (uC (.int 2)) (uNil))) (uGN 6) (uIfS (uNot (uTru (uFz (uCal (w__law_same K) (uCons (uFz (uCal (w__law_kinds K) (uCons (uIxN 8 (uNm 6)) (uNil)))) (uCons (uFz (uLst (uCons (uC (.bl false)) (uCons (uC (.bl true)) (uCons (uC (.bl false)) (uCons (uC (.bl true)) (uCons (uC (.bl false)) (uCons (uC (.bl false)) (uCons (uOp gSub (uC (.int 1)) (uNm 6)) (uNil)))))))))) (uNil))))))) (uRet (uSh (uC (.bl false)))) (uSkip)))
    (uSeq (uIfS (uNot (uTru (uFz (uCal (w__law_same K) (uCons (uFz (uLst (uCons (uXi K xsK "name" (uIxN 4 (uC (.int 18)))) (uCons (uXi K xsK "at" (uIxN 4 (uC (.int 19)))) (uCons (uXi K xsK "row" (uIxN 4 (uC (.int 20)))) (uCons (uXi K xsK "name" (uIxN 8 (uC (.int 0)))) (uNil))))))) (uCons (uFz (uLst (uCons (uNm 2) (uCons (uNm 3) (uCons (uNm 3) (uCons (uNm 2) (uNil))))))) (uNil))))))) (uRet (uSh (uC (.bl false)))) (uSkip))
    (uSeq (uIfS (uNot (uTru (uFz (uCal (w__law_same K) (uCons (uFz (uLst (uCons (uXi K xsK "word" (uExV (He.ga K "ChalkError") 0 gf_ChalkError uNil)) (uCons (uXi K xsK "word" (uExV (He.ga K "Missing") 0 gf_Missing uNil)) (uNil))))) (uCons (uFz (uLst (uCons (uC (.str "chalkerror")) (uCons (uC (.str "missing")) (uNil))))) (uNil))))))) (uRet (uSh (uC (.bl false)))) (uSkip))
    (uSeq (uSet 9 (uLst (uCons (uExV (He.ga K "ByNought") 0 gf_ByNought uNil) (uCons (uExV (He.ga K "NothingLeft") 0 gf_NothingLeft uNil) (uNil)))))
    (uSeq (uSet 10 (uLst (uCons (uFz (uLst (uCons (uC (.bl false)) (uCons (uC (.bl false)) (uCons (uC (.bl false)) (uCons (uC (.bl false)) (uCons (uC (.bl true)) (uCons (uC (.bl false)) (uCons (uC (.int 0)) (uNil)))))))))) (uCons (uFz (uLst (uCons (uC (.bl false)) (uCons (uC (.bl false)) (uCons (uC (.bl false)) (uCons (uC (.bl true)) (uCons (uC (.bl false)) (uCons (uC (.bl true)) (uCons (uC (.int 0)) (uNil)))))))))) (uNil)))))
    (uSeq (uIfS (uNot (uTru (uFz (uCal (w__law_same K) (uCons (uFz (uLc (uItV (uNm 9)) (uGN 11) (uYes) (uFz (uCal (w__law_kinds K) (uCons (uNm 11) (uNil)))) [11])) (uCons (uNm 10) (uNil))))))) (uRet (uSh (uC (.bl false)))) (uSkip))
    (uRet (uCal (w__law_same K) (uCons (uFz (uLc (uItV (uNm 9)) (uGN 11) (uYes) (uXi K xsK "word" (uNm 11)) [11])) (uCons (uFz (uLst (uCons (uC (.str "bynought")) (uCons (uC (.str "nothingleft")) (uNil))))) (uNil)))))))))))))))))))))
def firstD (K : PySem.W.Frag) (s n : D) : List D := [.exi (He.ga K "BadText") g_BadText, .exi (He.ga K "BadPoly") g_BadPoly, .exi (He.ga K "BadStretch") g_BadStretch, .exi (He.ga K "BadWindow") g_BadWindow, .exi (He.ga K "BadFine") g_BadFine, .exi (He.ga K "BadRow") g_BadRow, .exi (He.ga K "BadCondition") g_BadCondition, .exi (He.ga K "BadQuestion") g_BadQuestion, .exi (He.ga K "BadKind") g_BadKind, .exi (He.ga K "BadName") g_BadName, .exi (He.ga K "Taken") g_Taken, .exi (He.ga K "Full") g_Full, .exi (He.ga K "Ring") g_Ring, .exi (He.ga K "TooGreat") g_TooGreat, .exi (He.ga K "TooDeep") g_TooDeep, .exi (He.ga K "NotWhole") g_NotWhole, .exi (He.ga K "StillOpen") g_StillOpen, .exi (He.ga K "NoWorth") g_NoWorth] ++ [.exi (He.ga K "Leant") (gf_Leant [s]), .exi (He.ga K "Unread") (gf_Unread [n]), .exi (He.ga K "BadPage") (gf_BadPage [n])]
def lostD (K : PySem.W.Frag) (s : D) : List D := [.exi (He.ga K "NoName") (gf_NoName [s]), .exi (He.ga K "NoRoot") g_NoRoot]
def lastD (K : PySem.W.Frag) : List D := [.exi (He.ga K "ByNought") g_ByNought, .exi (He.ga K "NothingLeft") g_NothingLeft]
def firstN : List Str := ["BadText", "BadPoly", "BadStretch", "BadWindow", "BadFine", "BadRow", "BadCondition", "BadQuestion", "BadKind", "BadName", "Taken", "Full", "Ring", "TooGreat", "TooDeep", "NotWhole", "StillOpen", "NoWorth", "Leant", "Unread", "BadPage"]
def wordsA : Str := "badtext badpoly badstretch badwindow badfine badrow badcondition badquestion badkind badname"
def wordsB : Str := " taken full ring toogreat toodeep notwhole stillopen noworth leant unread badpage"
def wordD : D → Option D
  | .exi _ gs => gs.lookup ("word" : Str)
  | _ => none
def kindD (K : PySem.W.Frag) (x : Str) : D := .lst (kindsK x)
theorem words_split : Txt.split (wordsA ++ wordsB) " " = (["badtext", "badpoly", "badstretch", "badwindow", "badfine", "badrow", "badcondition", "badquestion", "badkind", "badname", "taken", "full", "ring", "toogreat", "toodeep", "notwhole", "stillopen", "noworth", "leant", "unread", "badpage"] : List Str) := by kernel_rfl
def E92 (ns : List Int) (a2 a3 a4 a5 a6 a7 a8 a9 a10 a11 : Sl) : DE := [.sh (.lst (ns.map .int)), .sh .bag, a2, a3, a4, a5, a6, a7, a8, a9, a10, a11]
theorem shp_strs {n : Nat} (ys : List Str) (h : ys.length ≤ 1000000) : Shp (n + 2) (.lst (ys.map .str)) := ⟨by rw [List.length_map]; exact h, fun d hd => by
  obtain ⟨y, _, rfl⟩ := List.mem_map.mp hd
  trivial⟩
theorem gIx_at {F : List D} {i : Nat} {d : D} (h : F[i]? = some d) (Q : D → Prop) : gIx (.lst F) (.int ((0 : Int) + (i : Nat))) Q = Q d := by
  have hi : i < F.length := (List.getElem?_eq_some_iff.mp h).1
  have he : F[i] = d := (List.getElem?_eq_some_iff.mp h).2
  have e : atI F ((0 : Int) + (i : Nat)) = some d := by
    unfold atI ixN
    simp [hi, he]
  show (match atI F ((0 : Int) + (i : Nat)) with | some d => Q d | none => False) = Q d
  rw [e]
theorem shp_kinds (x : Str) : Shp 8 (.lst (kindsK x)) := by
  refine ⟨by simp [kindsK], ?_⟩
  unfold kindsK
  simp only [List.forall_mem_cons]
  exact ⟨trivial, trivial, trivial, trivial, trivial, trivial, trivial, fun _ h => nomatch h⟩
theorem shp_kinds7 (x : Str) : Shp 7 (.lst (kindsK x)) := by
  refine ⟨by simp [kindsK], ?_⟩
  unfold kindsK
  simp only [List.forall_mem_cons]
  exact ⟨trivial, trivial, trivial, trivial, trivial, trivial, trivial, fun _ h => nomatch h⟩
def lostN : List Str := ["NoName", "NoRoot"]
theorem lost_at (K : PySem.W.Frag) (s : D) : ∀ i < 2, ∃ gs, (lostD K s)[i]? = some (.exi (He.ga K (lostN.getD i "")) gs)
  | 0, _ => ⟨_, rfl⟩
  | 1, _ => ⟨_, rfl⟩
  | n + 2, h => by omega
theorem lost_kind : ∀ i < 2, lostN.getD i "" ∈ xsK ∧ kindsK (lostN.getD i "") = [.bl false, .bl true, .bl false, .bl true, .bl false, .bl false, .int (1 - ((0 : Int) + (i : Nat)))]
  | 0, _ => ⟨by decide, by rfl⟩
  | 1, _ => ⟨by decide, by rfl⟩
  | n + 2, h => by omega
theorem lst_kind : kindsK "ByNought" = [.bl false, .bl false, .bl false, .bl false, .bl true, .bl false, .int 0] ∧ kindsK "NothingLeft" = [.bl false, .bl false, .bl false, .bl true, .bl false, .bl true, .int 0] := ⟨by rfl, by rfl⟩
theorem word_loop {K : PySem.W.Frag} {k : List D → DE → Prop} {b0 b1 b2 b3 b4 b5 b6 b7 b8 b9 b10 b11 : Sl} (es : List D) (hw : ∀ d ∈ es, ∃ x gs z, d = .exi (He.ga K x) gs ∧ x ∈ xsK ∧ gs.lookup ("word" : Str) = some z) (h : ∀ s, k (es.filterMap wordD) [b0, b1, b2, b3, b4, b5, b6, b7, b8, b9, b10, s]) :
    lcW (uGN 11) uYes (uXi K xsK "word" (uNm 11)) [11] es [b0, b1, b2, b3, b4, b5, b6, b7, b8, b9, b10, b11] k := by
  refine lcW_inv (fun δ => ∃ s, δ = [b0, b1, b2, b3, b4, b5, b6, b7, b8, b9, b10, s]) wordD _ _ _ ⟨_, rfl⟩ ?_ ?_
  · rintro d hd δ K1 K' ⟨s, rfl⟩ hk hk'
    obtain ⟨x, gs, z, rfl, hx, hz⟩ := hw d hd
    have q := hk z hz _ ⟨.sh (.exi (He.ga K x) gs), rfl⟩
    simp only [wipeD, uXi, uYes, uGN, uNm, List.set_cons_succ, List.set_cons_zero, List.getElem?_cons_succ, List.getElem?_cons_zero, hz, if_true]
    exact ⟨⟨x, hx, rfl⟩, q⟩
  · rintro δ ⟨s, rfl⟩
    exact h s
theorem kind2 {K : PySem.W.Frag} {k : List D → DE → Prop} {b0 b1 b2 b3 b4 b5 b6 b7 b8 b9 b10 b11 : Sl} {x y : Str} {g1 g2 : List (Str × D)} (hx : x ∈ xsK) (hy : y ∈ xsK) (h : ∀ s, k [.lst (kindsK x), .lst (kindsK y)] [b0, b1, b2, b3, b4, b5, b6, b7, b8, b9, b10, s]) :
    lcW (uGN 11) uYes (uFz (uCal (w__law_kinds K) (uCons (uNm 11) uNil))) [11] [.exi (He.ga K x) g1, .exi (He.ga K y) g2] [b0, b1, b2, b3, b4, b5, b6, b7, b8, b9, b10, b11] k := by
  simp only [lcW, wipeD, w__law_kinds, uNm, uMv, uFz, uSh, uC, uNil, uCons, uLst, uOp, DL.gSub, DL.isNon, gTru, uTru, uNot, uIxN, uCaB, gLen, uLenN, gInt, isiAny, D.cls, Bool.or_true, Bool.or_false, Bool.true_or, Bool.false_or, uSkip, uSeq, uIfS, Rz.sl, uSet, uRet, uGN, seqD, uItV, uRg1, uFor, uLc, uYes, endD, uCal, wPull, CPow, nat10, List.getElem?_cons_zero, List.getElem?_cons_succ, List.set_cons_zero, List.set_cons_succ, Int.reduceLT, Int.reduceLE, Int.reduceToNat, Int.reducePow, Int.reduceNeg, Int.reduceMul, Int.reduceAdd, Int.reduceSub, Nat.reducePow, Nat.reduceLT, Nat.reduceLeDiff, List.length_cons, List.length_nil, Nat.reduceAdd, true_and, and_true, and_self, reduceIte, ↓reduceIte, Bool.false_eq_true, decide_eq_true_eq, Bool.not_true, Bool.not_false, Bool.not_eq_true, decide_eq_false_iff_not, Rz.dat, startD, w__law_pull, List.map_cons, List.map_nil, List.cons_append, List.nil_append, List.reduceReplicate, Nat.reduceSub, List.append_nil, List.set_nil, uCat, lstR, gAddT, strsD, intsD, startW, endW]
  exact ⟨x, hx, rfl, y, hy, rfl, h _⟩
theorem lst_word (K : PySem.W.Frag) : ∀ d ∈ lastD K, ∃ x gs z, d = .exi (He.ga K x) gs ∧ x ∈ xsK ∧ gs.lookup ("word" : Str) = some z := by
  unfold lastD
  simp only [List.forall_mem_cons]
  exact ⟨⟨"ByNought", _, _, rfl, by decide, rfl⟩, ⟨"NothingLeft", _, _, rfl, by decide, rfl⟩, fun _ h => nomatch h⟩
theorem lost_word (K : PySem.W.Frag) (s : D) : ∀ d ∈ lostD K s, ∃ x gs z, d = .exi (He.ga K x) gs ∧ x ∈ xsK ∧ gs.lookup ("word" : Str) = some z := by
  unfold lostD
  simp only [List.forall_mem_cons]
  exact ⟨⟨"NoName", _, _, rfl, by decide, rfl⟩, ⟨"NoRoot", _, _, rfl, by decide, rfl⟩, fun _ h => nomatch h⟩
theorem first_word (K : PySem.W.Frag) (s n : D) : ∀ d ∈ firstD K s n, ∃ x gs z, d = .exi (He.ga K x) gs ∧ x ∈ xsK ∧ gs.lookup ("word" : Str) = some z := by
  unfold firstD
  simp only [List.cons_append, List.nil_append, List.forall_mem_cons]
  exact ⟨⟨"BadText", _, _, rfl, by decide, rfl⟩, ⟨"BadPoly", _, _, rfl, by decide, rfl⟩, ⟨"BadStretch", _, _, rfl, by decide, rfl⟩, ⟨"BadWindow", _, _, rfl, by decide, rfl⟩, ⟨"BadFine", _, _, rfl, by decide, rfl⟩, ⟨"BadRow", _, _, rfl, by decide, rfl⟩, ⟨"BadCondition", _, _, rfl, by decide, rfl⟩, ⟨"BadQuestion", _, _, rfl, by decide, rfl⟩, ⟨"BadKind", _, _, rfl, by decide, rfl⟩, ⟨"BadName", _, _, rfl, by decide, rfl⟩, ⟨"Taken", _, _, rfl, by decide, rfl⟩, ⟨"Full", _, _, rfl, by decide, rfl⟩, ⟨"Ring", _, _, rfl, by decide, rfl⟩, ⟨"TooGreat", _, _, rfl, by decide, rfl⟩, ⟨"TooDeep", _, _, rfl, by decide, rfl⟩, ⟨"NotWhole", _, _, rfl, by decide, rfl⟩, ⟨"StillOpen", _, _, rfl, by decide, rfl⟩, ⟨"NoWorth", _, _, rfl, by decide, rfl⟩, ⟨"Leant", _, _, rfl, by decide, rfl⟩, ⟨"Unread", _, _, rfl, by decide, rfl⟩, ⟨"BadPage", _, _, rfl, by decide, rfl⟩, fun _ h => nomatch h⟩
theorem first_words (K : PySem.W.Frag) (s n : D) : (firstD K s n).filterMap wordD = ((Txt.split (wordsA ++ wordsB) " ").map .str : List D) := by
  rw [words_split]; rfl
theorem first_at (K : PySem.W.Frag) (s n : D) : ∀ i < 21, ∃ gs, (firstD K s n)[i]? = some (.exi (He.ga K (firstN.getD i "")) gs)
  | 0, _ => ⟨_, rfl⟩
  | 1, _ => ⟨_, rfl⟩
  | 2, _ => ⟨_, rfl⟩
  | 3, _ => ⟨_, rfl⟩
  | 4, _ => ⟨_, rfl⟩
  | 5, _ => ⟨_, rfl⟩
  | 6, _ => ⟨_, rfl⟩
  | 7, _ => ⟨_, rfl⟩
  | 8, _ => ⟨_, rfl⟩
  | 9, _ => ⟨_, rfl⟩
  | 10, _ => ⟨_, rfl⟩
  | 11, _ => ⟨_, rfl⟩
  | 12, _ => ⟨_, rfl⟩
  | 13, _ => ⟨_, rfl⟩
  | 14, _ => ⟨_, rfl⟩
  | 15, _ => ⟨_, rfl⟩
  | 16, _ => ⟨_, rfl⟩
  | 17, _ => ⟨_, rfl⟩
  | 18, _ => ⟨_, rfl⟩
  | 19, _ => ⟨_, rfl⟩
  | 20, _ => ⟨_, rfl⟩
  | n + 21, h => by omega
theorem first_kind : ∀ i < 21, firstN.getD i "" ∈ xsK ∧ kindsK (firstN.getD i "") = [.bl true, .bl false, .bl true, .bl false, .bl false, .bl false, .int (if (decide ((0 : Int) = (i : Nat)) || (decide ((5 : Int) = (i : Nat)) || decide ((9 : Int) = (i : Nat)))) = true then 1 else 0)]
  | 0, _ => ⟨by decide, by rfl⟩
  | 1, _ => ⟨by decide, by rfl⟩
  | 2, _ => ⟨by decide, by rfl⟩
  | 3, _ => ⟨by decide, by rfl⟩
  | 4, _ => ⟨by decide, by rfl⟩
  | 5, _ => ⟨by decide, by rfl⟩
  | 6, _ => ⟨by decide, by rfl⟩
  | 7, _ => ⟨by decide, by rfl⟩
  | 8, _ => ⟨by decide, by rfl⟩
  | 9, _ => ⟨by decide, by rfl⟩
  | 10, _ => ⟨by decide, by rfl⟩
  | 11, _ => ⟨by decide, by rfl⟩
  | 12, _ => ⟨by decide, by rfl⟩
  | 13, _ => ⟨by decide, by rfl⟩
  | 14, _ => ⟨by decide, by rfl⟩
  | 15, _ => ⟨by decide, by rfl⟩
  | 16, _ => ⟨by decide, by rfl⟩
  | 17, _ => ⟨by decide, by rfl⟩
  | 18, _ => ⟨by decide, by rfl⟩
  | 19, _ => ⟨by decide, by rfl⟩
  | 20, _ => ⟨by decide, by rfl⟩
  | n + 21, h => by omega
theorem l_law (K : PySem.W.Frag) (ns : List Int) (hl : ns.length ≤ 63) : u_law K endLaw ((startD 12 [.lst (ns.map .int)]).set 1 (.sh .bag)) := by
  unfold u_law
  refine seq_mid (fun δ => ∃ (s : Str) (a3 a4 a5 a6 a7 a8 a9 a10 a11 : Sl), δ = E92 ns (.sh (.str s)) a3 a4 a5 a6 a7 a8 a9 a10 a11) (fun k hk => ?_) ?_
  · simp only [uCal, uNm, uMv, uFz, uSh, uC, uNil, uCons, uLst, uOp, DL.gSub, DL.isNon, gTru, uTru, uNot, uIxN, uCaB, gLen, uLenN, gInt, isiAny, D.cls, Bool.or_true, Bool.or_false, Bool.true_or, Bool.false_or, uSkip, uSeq, uIfS, Rz.sl, uSet, uRet, uGN, seqD, uItV, uRg1, uFor, uLc, uYes, endD, uCal, wPull, CPow, nat10, List.getElem?_cons_zero, List.getElem?_cons_succ, List.set_cons_zero, List.set_cons_succ, Int.reduceLT, Int.reduceLE, Int.reduceToNat, Int.reducePow, Int.reduceNeg, Int.reduceMul, Int.reduceAdd, Int.reduceSub, Nat.reducePow, Nat.reduceLT, Nat.reduceLeDiff, List.length_cons, List.length_nil, Nat.reduceAdd, true_and, and_true, and_self, reduceIte, ↓reduceIte, Bool.false_eq_true, decide_eq_true_eq, Bool.not_true, Bool.not_false, Bool.not_eq_true, decide_eq_false_iff_not, Rz.dat, startD, w__law_pull, List.map_cons, List.map_nil, List.cons_append, List.nil_append, List.reduceReplicate, Nat.reduceSub, List.append_nil, List.set_nil, uCat, lstR, gAddT, strsD, intsD, startW, endW]
    refine fun r h0 h1 => ix3 h0 h1 ?_ ?_ ?_
    · exact hk _ ⟨_, _, _, _, _, _, _, _, _, _, rfl⟩
    · exact hk _ ⟨_, _, _, _, _, _, _, _, _, _, rfl⟩
    · exact hk _ ⟨_, _, _, _, _, _, _, _, _, _, rfl⟩
  rintro δ ⟨s, a3, a4, a5, a6, a7, a8, a9, a10, a11, rfl⟩
  refine seq_mid (fun δ => ∃ (n : Int) (a4 a5 a6 a7 a8 a9 a10 a11 : Sl), δ = E92 ns (.sh (.str s)) (.sh (.int n)) a4 a5 a6 a7 a8 a9 a10 a11) (fun k hk => ?_) ?_
  · simp only [E92, uCal, uNm, uMv, uFz, uSh, uC, uNil, uCons, uLst, uOp, DL.gSub, DL.isNon, gTru, uTru, uNot, uIxN, uCaB, gLen, uLenN, gInt, isiAny, D.cls, Bool.or_true, Bool.or_false, Bool.true_or, Bool.false_or, uSkip, uSeq, uIfS, Rz.sl, uSet, uRet, uGN, seqD, uItV, uRg1, uFor, uLc, uYes, endD, uCal, wPull, CPow, nat10, List.getElem?_cons_zero, List.getElem?_cons_succ, List.set_cons_zero, List.set_cons_succ, Int.reduceLT, Int.reduceLE, Int.reduceToNat, Int.reducePow, Int.reduceNeg, Int.reduceMul, Int.reduceAdd, Int.reduceSub, Nat.reducePow, Nat.reduceLT, Nat.reduceLeDiff, List.length_cons, List.length_nil, Nat.reduceAdd, true_and, and_true, and_self, reduceIte, ↓reduceIte, Bool.false_eq_true, decide_eq_true_eq, Bool.not_true, Bool.not_false, Bool.not_eq_true, decide_eq_false_iff_not, Rz.dat, startD, w__law_pull, List.map_cons, List.map_nil, List.cons_append, List.nil_append, List.reduceReplicate, Nat.reduceSub, List.append_nil, List.set_nil, uCat, lstR, gAddT, strsD, intsD, startW, endW]
    exact fun r h0 h1 => hk _ ⟨r, _, _, _, _, _, _, _, _, rfl⟩
  rintro δ ⟨n, a4, a5, a6, a7, a8, a9, a10, a11, rfl⟩
  refine seq_mid (fun δ => ∃ (l : List D) (a5 a6 a7 a8 a9 a10 a11 : Sl), l = ((firstD K (.str s) (.int n)).take 8) ∧ δ = E92 ns (.sh (.str s)) (.sh (.int n)) (.ow l) a5 a6 a7 a8 a9 a10 a11) (fun k hk => ?_) ?_
  · simp only [E92, uExV, eq_self, uNm, uMv, uFz, uSh, uC, uNil, uCons, uLst, uOp, DL.gSub, DL.isNon, gTru, uTru, uNot, uIxN, uCaB, gLen, uLenN, gInt, isiAny, D.cls, Bool.or_true, Bool.or_false, Bool.true_or, Bool.false_or, uSkip, uSeq, uIfS, Rz.sl, uSet, uRet, uGN, seqD, uItV, uRg1, uFor, uLc, uYes, endD, uCal, wPull, CPow, nat10, List.getElem?_cons_zero, List.getElem?_cons_succ, List.set_cons_zero, List.set_cons_succ, Int.reduceLT, Int.reduceLE, Int.reduceToNat, Int.reducePow, Int.reduceNeg, Int.reduceMul, Int.reduceAdd, Int.reduceSub, Nat.reducePow, Nat.reduceLT, Nat.reduceLeDiff, List.length_cons, List.length_nil, Nat.reduceAdd, true_and, and_true, and_self, reduceIte, ↓reduceIte, Bool.false_eq_true, decide_eq_true_eq, Bool.not_true, Bool.not_false, Bool.not_eq_true, decide_eq_false_iff_not, Rz.dat, startD, w__law_pull, List.map_cons, List.map_nil, List.cons_append, List.nil_append, List.reduceReplicate, Nat.reduceSub, List.append_nil, List.set_nil, uCat, lstR, gAddT, strsD, intsD, startW, endW]
    exact hk _ ⟨_, _, _, _, _, _, _, _, rfl, rfl⟩
  rintro δ ⟨l, a5, a6, a7, a8, a9, a10, a11, el, rfl⟩
  refine seq_mid (fun δ => ∃ (l : List D) (a5 a6 a7 a8 a9 a10 a11 : Sl), l = ((firstD K (.str s) (.int n)).take 17) ∧ δ = E92 ns (.sh (.str s)) (.sh (.int n)) (.ow l) a5 a6 a7 a8 a9 a10 a11) (fun k hk => ?_) ?_
  · simp only [E92, uExV, uCat, lstR, eq_self, uNm, uMv, uFz, uSh, uC, uNil, uCons, uLst, uOp, DL.gSub, DL.isNon, gTru, uTru, uNot, uIxN, uCaB, gLen, uLenN, gInt, isiAny, D.cls, Bool.or_true, Bool.or_false, Bool.true_or, Bool.false_or, uSkip, uSeq, uIfS, Rz.sl, uSet, uRet, uGN, seqD, uItV, uRg1, uFor, uLc, uYes, endD, uCal, wPull, CPow, nat10, List.getElem?_cons_zero, List.getElem?_cons_succ, List.set_cons_zero, List.set_cons_succ, Int.reduceLT, Int.reduceLE, Int.reduceToNat, Int.reducePow, Int.reduceNeg, Int.reduceMul, Int.reduceAdd, Int.reduceSub, Nat.reducePow, Nat.reduceLT, Nat.reduceLeDiff, List.length_cons, List.length_nil, Nat.reduceAdd, true_and, and_true, and_self, reduceIte, ↓reduceIte, Bool.false_eq_true, decide_eq_true_eq, Bool.not_true, Bool.not_false, Bool.not_eq_true, decide_eq_false_iff_not, Rz.dat, startD, w__law_pull, List.map_cons, List.map_nil, List.cons_append, List.nil_append, List.reduceReplicate, Nat.reduceSub, List.append_nil, List.set_nil, uCat, lstR, gAddT, strsD, intsD, startW, endW]
    refine ⟨by rw [el]; simp [firstD], hk _ ⟨_, _, _, _, _, _, _, _, ?_, rfl⟩⟩
    rw [el]; rfl
  clear el l
  rintro δ ⟨l, a5, a6, a7, a8, a9, a10, a11, el, rfl⟩
  refine seq_mid (fun δ => ∃ (l : List D) (a5 a6 a7 a8 a9 a10 a11 : Sl), l = firstD K (.str s) (.int n) ∧ δ = E92 ns (.sh (.str s)) (.sh (.int n)) (.ow l) a5 a6 a7 a8 a9 a10 a11) (fun k hk => ?_) ?_
  · simp only [E92, uExV, uCat, lstR, eq_self, uNm, uMv, uFz, uSh, uC, uNil, uCons, uLst, uOp, DL.gSub, DL.isNon, gTru, uTru, uNot, uIxN, uCaB, gLen, uLenN, gInt, isiAny, D.cls, Bool.or_true, Bool.or_false, Bool.true_or, Bool.false_or, uSkip, uSeq, uIfS, Rz.sl, uSet, uRet, uGN, seqD, uItV, uRg1, uFor, uLc, uYes, endD, uCal, wPull, CPow, nat10, List.getElem?_cons_zero, List.getElem?_cons_succ, List.set_cons_zero, List.set_cons_succ, Int.reduceLT, Int.reduceLE, Int.reduceToNat, Int.reducePow, Int.reduceNeg, Int.reduceMul, Int.reduceAdd, Int.reduceSub, Nat.reducePow, Nat.reduceLT, Nat.reduceLeDiff, List.length_cons, List.length_nil, Nat.reduceAdd, true_and, and_true, and_self, reduceIte, ↓reduceIte, Bool.false_eq_true, decide_eq_true_eq, Bool.not_true, Bool.not_false, Bool.not_eq_true, decide_eq_false_iff_not, Rz.dat, startD, w__law_pull, List.map_cons, List.map_nil, List.cons_append, List.nil_append, List.reduceReplicate, Nat.reduceSub, List.append_nil, List.set_nil, uCat, lstR, gAddT, strsD, intsD, startW, endW]
    refine ⟨by rw [el]; simp [firstD], hk _ ⟨_, _, _, _, _, _, _, _, ?_, rfl⟩⟩
    rw [el]; rfl
  clear el l
  rintro δ ⟨l, a5, a6, a7, a8, a9, a10, a11, rfl, rfl⟩
  have hlen : (firstD K (.str s) (.int n)).length = 21 := rfl
  have hF : ∃ F, F = firstD K (.str s) (.int n) := ⟨_, rfl⟩
  obtain ⟨F, eF⟩ := hF
  rw [← eF]
  refine seq_mid (fun δ => ∃ (a6 a7 a8 a9 a10 a11 : Sl), δ = E92 ns (.sh (.str s)) (.sh (.int n)) (.ow F) (.sh (.str wordsA)) a6 a7 a8 a9 a10 a11) (fun k hk => ?_) ?_
  · simp only [E92, uNm, uMv, uFz, uSh, uC, uNil, uCons, uLst, uOp, DL.gSub, DL.isNon, gTru, uTru, uNot, uIxN, uCaB, gLen, uLenN, gInt, isiAny, D.cls, Bool.or_true, Bool.or_false, Bool.true_or, Bool.false_or, uSkip, uSeq, uIfS, Rz.sl, uSet, uRet, uGN, seqD, uItV, uRg1, uFor, uLc, uYes, endD, uCal, wPull, CPow, nat10, List.getElem?_cons_zero, List.getElem?_cons_succ, List.set_cons_zero, List.set_cons_succ, Int.reduceLT, Int.reduceLE, Int.reduceToNat, Int.reducePow, Int.reduceNeg, Int.reduceMul, Int.reduceAdd, Int.reduceSub, Nat.reducePow, Nat.reduceLT, Nat.reduceLeDiff, List.length_cons, List.length_nil, Nat.reduceAdd, true_and, and_true, and_self, reduceIte, ↓reduceIte, Bool.false_eq_true, decide_eq_true_eq, Bool.not_true, Bool.not_false, Bool.not_eq_true, decide_eq_false_iff_not, Rz.dat, startD, w__law_pull, List.map_cons, List.map_nil, List.cons_append, List.nil_append, List.reduceReplicate, Nat.reduceSub, List.append_nil, List.set_nil, uCat, lstR, gAddT, strsD, intsD, startW, endW]
    exact hk _ ⟨_, _, _, _, _, _, rfl⟩
  rintro δ ⟨a6, a7, a8, a9, a10, a11, rfl⟩
  refine seq_mid (fun δ => ∃ (a6 a7 a8 a9 a10 a11 : Sl), δ = E92 ns (.sh (.str s)) (.sh (.int n)) (.ow F) (.sh (.str (wordsA ++ wordsB))) a6 a7 a8 a9 a10 a11) (fun k hk => ?_) ?_
  · simp only [E92, gAddT, uNm, uMv, uFz, uSh, uC, uNil, uCons, uLst, uOp, DL.gSub, DL.isNon, gTru, uTru, uNot, uIxN, uCaB, gLen, uLenN, gInt, isiAny, D.cls, Bool.or_true, Bool.or_false, Bool.true_or, Bool.false_or, uSkip, uSeq, uIfS, Rz.sl, uSet, uRet, uGN, seqD, uItV, uRg1, uFor, uLc, uYes, endD, uCal, wPull, CPow, nat10, List.getElem?_cons_zero, List.getElem?_cons_succ, List.set_cons_zero, List.set_cons_succ, Int.reduceLT, Int.reduceLE, Int.reduceToNat, Int.reducePow, Int.reduceNeg, Int.reduceMul, Int.reduceAdd, Int.reduceSub, Nat.reducePow, Nat.reduceLT, Nat.reduceLeDiff, List.length_cons, List.length_nil, Nat.reduceAdd, true_and, and_true, and_self, reduceIte, ↓reduceIte, Bool.false_eq_true, decide_eq_true_eq, Bool.not_true, Bool.not_false, Bool.not_eq_true, decide_eq_false_iff_not, Rz.dat, startD, w__law_pull, List.map_cons, List.map_nil, List.cons_append, List.nil_append, List.reduceReplicate, Nat.reduceSub, List.append_nil, List.set_nil, uCat, lstR, gAddT, strsD, intsD, startW, endW]
    exact ⟨by decide, hk _ ⟨_, _, _, _, _, _, rfl⟩⟩
  rintro δ ⟨a6, a7, a8, a9, a10, a11, rfl⟩
  refine seq_mid (fun δ => ∃ (a6 a7 a8 a9 a10 a11 : Sl), δ = E92 ns (.sh (.str s)) (.sh (.int n)) (.sh (.lst F)) (.sh (.str (wordsA ++ wordsB))) a6 a7 a8 a9 a10 a11) (fun k hk => ?_) ?_
  · simp only [E92, uNm, uMv, uFz, uSh, uC, uNil, uCons, uLst, uOp, DL.gSub, DL.isNon, gTru, uTru, uNot, uIxN, uCaB, gLen, uLenN, gInt, isiAny, D.cls, Bool.or_true, Bool.or_false, Bool.true_or, Bool.false_or, uSkip, uSeq, uIfS, Rz.sl, uSet, uRet, uGN, seqD, uItV, uRg1, uFor, uLc, uYes, endD, uCal, wPull, CPow, nat10, List.getElem?_cons_zero, List.getElem?_cons_succ, List.set_cons_zero, List.set_cons_succ, Int.reduceLT, Int.reduceLE, Int.reduceToNat, Int.reducePow, Int.reduceNeg, Int.reduceMul, Int.reduceAdd, Int.reduceSub, Nat.reducePow, Nat.reduceLT, Nat.reduceLeDiff, List.length_cons, List.length_nil, Nat.reduceAdd, true_and, and_true, and_self, reduceIte, ↓reduceIte, Bool.false_eq_true, decide_eq_true_eq, Bool.not_true, Bool.not_false, Bool.not_eq_true, decide_eq_false_iff_not, Rz.dat, startD, w__law_pull, List.map_cons, List.map_nil, List.cons_append, List.nil_append, List.reduceReplicate, Nat.reduceSub, List.append_nil, List.set_nil, uCat, lstR, gAddT, strsD, intsD, startW, endW]
    refine ⟨by rw [eF, hlen]; decide, word_loop F (by rw [eF]; exact first_word K _ _) fun q => ?_⟩
    simp only [uSplit, back, w__law_same, wr__law_same, uNm, uMv, uFz, uSh, uC, uNil, uCons, uLst, uOp, DL.gSub, DL.isNon, gTru, uTru, uNot, uIxN, uCaB, gLen, uLenN, gInt, isiAny, D.cls, Bool.or_true, Bool.or_false, Bool.true_or, Bool.false_or, uSkip, uSeq, uIfS, Rz.sl, uSet, uRet, uGN, seqD, uItV, uRg1, uFor, uLc, uYes, endD, uCal, wPull, CPow, nat10, List.getElem?_cons_zero, List.getElem?_cons_succ, List.set_cons_zero, List.set_cons_succ, Int.reduceLT, Int.reduceLE, Int.reduceToNat, Int.reducePow, Int.reduceNeg, Int.reduceMul, Int.reduceAdd, Int.reduceSub, Nat.reducePow, Nat.reduceLT, Nat.reduceLeDiff, List.length_cons, List.length_nil, Nat.reduceAdd, true_and, and_true, and_self, reduceIte, ↓reduceIte, Bool.false_eq_true, decide_eq_true_eq, Bool.not_true, Bool.not_false, Bool.not_eq_true, decide_eq_false_iff_not, Rz.dat, startD, w__law_pull, List.map_cons, List.map_nil, List.cons_append, List.nil_append, List.reduceReplicate, Nat.reduceSub, List.append_nil, List.set_nil, uCat, lstR, gAddT, strsD, intsD, startW, endW]
    refine ⟨by decide, by decide, .lst (F.filterMap wordD), by rw [eF, first_words], ?_, hk _ ⟨_, _, _, _, _, _, rfl⟩⟩
    rw [eF, first_words, words_split]
    exact shp_strs (n := 6) _ (by decide)
  rintro δ ⟨a6, a7, a8, a9, a10, a11, rfl⟩
  refine seq_mid (fun δ => ∃ (a6 a7 a8 a9 a10 a11 : Sl), δ = E92 ns (.sh (.str s)) (.sh (.int n)) (.sh (.lst F)) (.sh (.str (wordsA ++ wordsB))) a6 a7 a8 a9 a10 a11) (fun k hk => ?_) ?_
  · simp only [E92, uFor, uRg1, uLenN, uCons, uNil, gLen, List.getElem?_cons_zero, List.getElem?_cons_succ]
    refine ⟨⟨by rw [eF, hlen]; decide, by rw [eF, hlen]; decide⟩, ?_⟩
    rw [show ((F.length : Nat) : Int).toNat = 21 by rw [eF, hlen]; rfl]
    refine forW_inv (fun δ => ∃ (a6 a7 a8 a9 a10 a11 : Sl), δ = E92 ns (.sh (.str s)) (.sh (.int n)) (.sh (.lst F)) (.sh (.str (wordsA ++ wordsB))) a6 a7 a8 a9 a10 a11) _ _ ⟨_, _, _, _, _, _, rfl⟩ ?_ ?_
    · rintro d hd δ k1 ⟨a6, a7, a8, a9, a10, a11, rfl⟩ hk1
      obtain ⟨i, hi, rfl⟩ := mem_rgD hd
      obtain ⟨gs, hat⟩ := first_at K (.str s) (.int n) i hi
      obtain ⟨hx, hkd⟩ := first_kind i hi
      rw [← eF] at hat
      simp only [uGN, E92, List.set_cons_zero, List.set_cons_succ]
      refine seq_mid (fun δ => ∃ (ds : List D) (a8 a9 a10 a11 : Sl), ds = kindsK (firstN.getD i "") ∧ δ = E92 ns (.sh (.str s)) (.sh (.int n)) (.sh (.lst F)) (.sh (.str (wordsA ++ wordsB))) (.sh (.int ((0 : Int) + (i : Nat)))) (.ow ds) a8 a9 a10 a11) (fun k2 hk2 => ?_) ?_
      · simp only [E92, gInL, uNm, uMv, uFz, uSh, uC, uNil, uCons, uLst, uOp, DL.gSub, DL.isNon, gTru, uTru, uNot, uIxN, uCaB, gLen, uLenN, gInt, isiAny, D.cls, Bool.or_true, Bool.or_false, Bool.true_or, Bool.false_or, uSkip, uSeq, uIfS, Rz.sl, uSet, uRet, uGN, seqD, uItV, uRg1, uFor, uLc, uYes, endD, uCal, wPull, CPow, nat10, List.getElem?_cons_zero, List.getElem?_cons_succ, List.set_cons_zero, List.set_cons_succ, Int.reduceLT, Int.reduceLE, Int.reduceToNat, Int.reducePow, Int.reduceNeg, Int.reduceMul, Int.reduceAdd, Int.reduceSub, Nat.reducePow, Nat.reduceLT, Nat.reduceLeDiff, List.length_cons, List.length_nil, Nat.reduceAdd, true_and, and_true, and_self, reduceIte, ↓reduceIte, Bool.false_eq_true, decide_eq_true_eq, Bool.not_true, Bool.not_false, Bool.not_eq_true, decide_eq_false_iff_not, Rz.dat, startD, w__law_pull, List.map_cons, List.map_nil, List.cons_append, List.nil_append, List.reduceReplicate, Nat.reduceSub, List.append_nil, List.set_nil, uCat, lstR, gAddT, strsD, intsD, startW, endW]
        refine hk2 _ ⟨_, _, _, _, _, ?_, rfl⟩
        rw [hkd, Int.zero_add]
      rintro δ ⟨ds, a8, a9, a10, a11, rfl, rfl⟩
      have hix : ∀ Q : D → Prop, gIx (.lst F) (.int ((0 : Int) + (i : Nat))) Q = Q (.exi (He.ga K (firstN.getD i "")) gs) := fun Q => gIx_at hat Q
      simp only [E92, hix, w__law_kinds, w__law_same, wr__law_same, notNo, uNm, uMv, uFz, uSh, uC, uNil, uCons, uLst, uOp, DL.gSub, DL.isNon, gTru, uTru, uNot, uIxN, uCaB, gLen, uLenN, gInt, isiAny, D.cls, Bool.or_true, Bool.or_false, Bool.true_or, Bool.false_or, uSkip, uSeq, uIfS, Rz.sl, uSet, uRet, uGN, seqD, uItV, uRg1, uFor, uLc, uYes, endD, uCal, wPull, CPow, nat10, List.getElem?_cons_zero, List.getElem?_cons_succ, List.set_cons_zero, List.set_cons_succ, Int.reduceLT, Int.reduceLE, Int.reduceToNat, Int.reducePow, Int.reduceNeg, Int.reduceMul, Int.reduceAdd, Int.reduceSub, Nat.reducePow, Nat.reduceLT, Nat.reduceLeDiff, List.length_cons, List.length_nil, Nat.reduceAdd, true_and, and_true, and_self, reduceIte, ↓reduceIte, Bool.false_eq_true, decide_eq_true_eq, Bool.not_true, Bool.not_false, Bool.not_eq_true, decide_eq_false_iff_not, Rz.dat, startD, w__law_pull, List.map_cons, List.map_nil, List.cons_append, List.nil_append, List.reduceReplicate, Nat.reduceSub, List.append_nil, List.set_nil, uCat, lstR, gAddT, strsD, intsD, startW, endW]
      exact ⟨_, hx, rfl, _, rfl, shp_kinds _, hk1 _ ⟨_, _, _, _, _, _, rfl⟩⟩
    · rintro δ ⟨a6, a7, a8, a9, a10, a11, rfl⟩
      exact hk _ ⟨_, _, _, _, _, _, rfl⟩
  rintro δ ⟨a6, a7, a8, a9, a10, a11, rfl⟩
  have hG : ∃ M, M = lostD K (.str s) := ⟨_, rfl⟩
  obtain ⟨M, eM⟩ := hG
  have lM : M.length = 2 := by rw [eM]; rfl
  refine seq_mid (fun δ => ∃ (a6 a7 a9 a10 a11 : Sl), δ = E92 ns (.sh (.str s)) (.sh (.int n)) (.sh (.lst F)) (.sh (.str (wordsA ++ wordsB))) a6 a7 (.ow M) a9 a10 a11) (fun k hk => ?_) ?_
  · simp only [E92, uExV, eq_self, uNm, uMv, uFz, uSh, uC, uNil, uCons, uLst, uOp, DL.gSub, DL.isNon, gTru, uTru, uNot, uIxN, uCaB, gLen, uLenN, gInt, isiAny, D.cls, Bool.or_true, Bool.or_false, Bool.true_or, Bool.false_or, uSkip, uSeq, uIfS, Rz.sl, uSet, uRet, uGN, seqD, uItV, uRg1, uFor, uLc, uYes, endD, uCal, wPull, CPow, nat10, List.getElem?_cons_zero, List.getElem?_cons_succ, List.set_cons_zero, List.set_cons_succ, Int.reduceLT, Int.reduceLE, Int.reduceToNat, Int.reducePow, Int.reduceNeg, Int.reduceMul, Int.reduceAdd, Int.reduceSub, Nat.reducePow, Nat.reduceLT, Nat.reduceLeDiff, List.length_cons, List.length_nil, Nat.reduceAdd, true_and, and_true, and_self, reduceIte, ↓reduceIte, Bool.false_eq_true, decide_eq_true_eq, Bool.not_true, Bool.not_false, Bool.not_eq_true, decide_eq_false_iff_not, Rz.dat, startD, w__law_pull, List.map_cons, List.map_nil, List.cons_append, List.nil_append, List.reduceReplicate, Nat.reduceSub, List.append_nil, List.set_nil, uCat, lstR, gAddT, strsD, intsD, startW, endW]
    rw [eM] at hk
    exact hk _ ⟨_, _, _, _, _, rfl⟩
  rintro δ ⟨a6, a7, a9, a10, a11, rfl⟩
  refine seq_mid (fun δ => ∃ (a6 a7 a9 a10 a11 : Sl), δ = E92 ns (.sh (.str s)) (.sh (.int n)) (.sh (.lst F)) (.sh (.str (wordsA ++ wordsB))) a6 a7 (.sh (.lst M)) a9 a10 a11) (fun k hk => ?_) ?_
  · simp only [E92, uNm, uMv, uFz, uSh, uC, uNil, uCons, uLst, uOp, DL.gSub, DL.isNon, gTru, uTru, uNot, uIxN, uCaB, gLen, uLenN, gInt, isiAny, D.cls, Bool.or_true, Bool.or_false, Bool.true_or, Bool.false_or, uSkip, uSeq, uIfS, Rz.sl, uSet, uRet, uGN, seqD, uItV, uRg1, uFor, uLc, uYes, endD, uCal, wPull, CPow, nat10, List.getElem?_cons_zero, List.getElem?_cons_succ, List.set_cons_zero, List.set_cons_succ, Int.reduceLT, Int.reduceLE, Int.reduceToNat, Int.reducePow, Int.reduceNeg, Int.reduceMul, Int.reduceAdd, Int.reduceSub, Nat.reducePow, Nat.reduceLT, Nat.reduceLeDiff, List.length_cons, List.length_nil, Nat.reduceAdd, true_and, and_true, and_self, reduceIte, ↓reduceIte, Bool.false_eq_true, decide_eq_true_eq, Bool.not_true, Bool.not_false, Bool.not_eq_true, decide_eq_false_iff_not, Rz.dat, startD, w__law_pull, List.map_cons, List.map_nil, List.cons_append, List.nil_append, List.reduceReplicate, Nat.reduceSub, List.append_nil, List.set_nil, uCat, lstR, gAddT, strsD, intsD, startW, endW]
    refine ⟨by rw [lM]; decide, word_loop M (by rw [eM]; exact lost_word K _) fun q => ?_⟩
    simp only [back, w__law_same, wr__law_same, uNm, uMv, uFz, uSh, uC, uNil, uCons, uLst, uOp, DL.gSub, DL.isNon, gTru, uTru, uNot, uIxN, uCaB, gLen, uLenN, gInt, isiAny, D.cls, Bool.or_true, Bool.or_false, Bool.true_or, Bool.false_or, uSkip, uSeq, uIfS, Rz.sl, uSet, uRet, uGN, seqD, uItV, uRg1, uFor, uLc, uYes, endD, uCal, wPull, CPow, nat10, List.getElem?_cons_zero, List.getElem?_cons_succ, List.set_cons_zero, List.set_cons_succ, Int.reduceLT, Int.reduceLE, Int.reduceToNat, Int.reducePow, Int.reduceNeg, Int.reduceMul, Int.reduceAdd, Int.reduceSub, Nat.reducePow, Nat.reduceLT, Nat.reduceLeDiff, List.length_cons, List.length_nil, Nat.reduceAdd, true_and, and_true, and_self, reduceIte, ↓reduceIte, Bool.false_eq_true, decide_eq_true_eq, Bool.not_true, Bool.not_false, Bool.not_eq_true, decide_eq_false_iff_not, Rz.dat, startD, w__law_pull, List.map_cons, List.map_nil, List.cons_append, List.nil_append, List.reduceReplicate, Nat.reduceSub, List.append_nil, List.set_nil, uCat, lstR, gAddT, strsD, intsD, startW, endW]
    have e : M.filterMap wordD = [.str "noname", .str "noroot"] := by rw [eM]; rfl
    exact ⟨_, by rw [e]; rfl, shp_strs (n := 6) ["noname", "noroot"] (by decide), hk _ ⟨_, _, _, _, _, rfl⟩⟩
  rintro δ ⟨a6, a7, a9, a10, a11, rfl⟩
  refine seq_mid (fun δ => ∃ (a6 a7 a9 a10 a11 : Sl), δ = E92 ns (.sh (.str s)) (.sh (.int n)) (.sh (.lst F)) (.sh (.str (wordsA ++ wordsB))) a6 a7 (.sh (.lst M)) a9 a10 a11) (fun k hk => ?_) ?_
  · simp only [E92, uFor, uRg1, uC, uCons, uNil, Int.reduceToNat]
    refine ⟨⟨by decide, by decide⟩, ?_⟩
    refine forW_inv (fun δ => ∃ (a6 a7 a9 a10 a11 : Sl), δ = E92 ns (.sh (.str s)) (.sh (.int n)) (.sh (.lst F)) (.sh (.str (wordsA ++ wordsB))) a6 a7 (.sh (.lst M)) a9 a10 a11) _ _ ⟨_, _, _, _, _, rfl⟩ ?_ ?_
    · rintro d hd δ k1 ⟨a6, a7, a9, a10, a11, rfl⟩ hk1
      obtain ⟨i, hi, rfl⟩ := mem_rgD hd
      obtain ⟨gs, hat⟩ := lost_at K (.str s) i hi
      obtain ⟨hx, hkd⟩ := lost_kind i hi
      rw [← eM] at hat
      have hix : ∀ Q : D → Prop, gIx (.lst M) (.int ((0 : Int) + (i : Nat))) Q = Q (.exi (He.ga K (lostN.getD i "")) gs) := fun Q => gIx_at hat Q
      simp only [uGN, E92, hix, w__law_kinds, w__law_same, wr__law_same, notNo, uNm, uMv, uFz, uSh, uC, uNil, uCons, uLst, uOp, DL.gSub, DL.isNon, gTru, uTru, uNot, uIxN, uCaB, gLen, uLenN, gInt, isiAny, D.cls, Bool.or_true, Bool.or_false, Bool.true_or, Bool.false_or, uSkip, uSeq, uIfS, Rz.sl, uSet, uRet, uGN, seqD, uItV, uRg1, uFor, uLc, uYes, endD, uCal, wPull, CPow, nat10, List.getElem?_cons_zero, List.getElem?_cons_succ, List.set_cons_zero, List.set_cons_succ, Int.reduceLT, Int.reduceLE, Int.reduceToNat, Int.reducePow, Int.reduceNeg, Int.reduceMul, Int.reduceAdd, Int.reduceSub, Nat.reducePow, Nat.reduceLT, Nat.reduceLeDiff, List.length_cons, List.length_nil, Nat.reduceAdd, true_and, and_true, and_self, reduceIte, ↓reduceIte, Bool.false_eq_true, decide_eq_true_eq, Bool.not_true, Bool.not_false, Bool.not_eq_true, decide_eq_false_iff_not, Rz.dat, startD, w__law_pull, List.map_cons, List.map_nil, List.cons_append, List.nil_append, List.reduceReplicate, Nat.reduceSub, List.append_nil, List.set_nil, uCat, lstR, gAddT, strsD, intsD, startW, endW]
      exact ⟨_, hx, rfl, _, by rw [hkd], shp_kinds _, hk1 _ ⟨_, _, _, _, _, rfl⟩⟩
    · rintro δ ⟨a6, a7, a9, a10, a11, rfl⟩
      exact hk _ ⟨_, _, _, _, _, rfl⟩
  rintro δ ⟨a6, a7, a9, a10, a11, rfl⟩
  refine seq_mid (fun δ => ∃ (a6 a7 a9 a10 a11 : Sl), δ = E92 ns (.sh (.str s)) (.sh (.int n)) (.sh (.lst F)) (.sh (.str (wordsA ++ wordsB))) a6 a7 (.sh (.lst M)) a9 a10 a11) (fun k hk => ?_) ?_
  · have h18 : ∀ Q : D → Prop, gIx (.lst F) (.int 18) Q = Q (.exi (He.ga K "Leant") (gf_Leant [.str s])) := fun Q => by rw [eF]; rfl
    have h19 : ∀ Q : D → Prop, gIx (.lst F) (.int 19) Q = Q (.exi (He.ga K "Unread") (gf_Unread [.int n])) := fun Q => by rw [eF]; rfl
    have h20 : ∀ Q : D → Prop, gIx (.lst F) (.int 20) Q = Q (.exi (He.ga K "BadPage") (gf_BadPage [.int n])) := fun Q => by rw [eF]; rfl
    have m0 : ∀ Q : D → Prop, gIx (.lst M) (.int 0) Q = Q (.exi (He.ga K "NoName") (gf_NoName [.str s])) := fun Q => by rw [eM]; rfl
    have l1 : (gf_Leant [.str s]).lookup ("name" : Str) = some (.str s) := rfl
    have l2 : (gf_Unread [.int n]).lookup ("at" : Str) = some (.int n) := rfl
    have l3 : (gf_BadPage [.int n]).lookup ("row" : Str) = some (.int n) := rfl
    have l4 : (gf_NoName [.str s]).lookup ("name" : Str) = some (.str s) := rfl
    simp only [E92, uXi, h18, h19, h20, m0, l1, l2, l3, l4, w__law_same, wr__law_same, notNo, uNm, uMv, uFz, uSh, uC, uNil, uCons, uLst, uOp, DL.gSub, DL.isNon, gTru, uTru, uNot, uIxN, uCaB, gLen, uLenN, gInt, isiAny, D.cls, Bool.or_true, Bool.or_false, Bool.true_or, Bool.false_or, uSkip, uSeq, uIfS, Rz.sl, uSet, uRet, uGN, seqD, uItV, uRg1, uFor, uLc, uYes, endD, uCal, wPull, CPow, nat10, List.getElem?_cons_zero, List.getElem?_cons_succ, List.set_cons_zero, List.set_cons_succ, Int.reduceLT, Int.reduceLE, Int.reduceToNat, Int.reducePow, Int.reduceNeg, Int.reduceMul, Int.reduceAdd, Int.reduceSub, Nat.reducePow, Nat.reduceLT, Nat.reduceLeDiff, List.length_cons, List.length_nil, Nat.reduceAdd, true_and, and_true, and_self, reduceIte, ↓reduceIte, Bool.false_eq_true, decide_eq_true_eq, Bool.not_true, Bool.not_false, Bool.not_eq_true, decide_eq_false_iff_not, Rz.dat, startD, w__law_pull, List.map_cons, List.map_nil, List.cons_append, List.nil_append, List.reduceReplicate, Nat.reduceSub, List.append_nil, List.set_nil, uCat, lstR, gAddT, strsD, intsD, startW, endW]
    refine ⟨⟨"Leant", by decide, rfl⟩, ⟨"Unread", by decide, rfl⟩, ⟨"BadPage", by decide, rfl⟩, ⟨"NoName", by decide, rfl⟩, _, rfl, ⟨by simp, ?_⟩, hk _ ⟨_, _, _, _, _, rfl⟩⟩
    simp only [List.forall_mem_cons]
    exact ⟨trivial, trivial, trivial, trivial, fun _ h => nomatch h⟩
  rintro δ ⟨a6, a7, a9, a10, a11, rfl⟩
  refine seq_mid (fun δ => ∃ (a6 a7 a9 a10 a11 : Sl), δ = E92 ns (.sh (.str s)) (.sh (.int n)) (.sh (.lst F)) (.sh (.str (wordsA ++ wordsB))) a6 a7 (.sh (.lst M)) a9 a10 a11) (fun k hk => ?_) ?_
  · have l1 : ∀ ds, (gf_ChalkError ds).lookup ("word" : Str) = some (.str "chalkerror") := fun _ => rfl
    have l2 : ∀ ds, (gf_Missing ds).lookup ("word" : Str) = some (.str "missing") := fun _ => rfl
    simp only [E92, uXi, uExV, eq_self, l1, l2, w__law_same, wr__law_same, uNm, uMv, uFz, uSh, uC, uNil, uCons, uLst, uOp, DL.gSub, DL.isNon, gTru, uTru, uNot, uIxN, uCaB, gLen, uLenN, gInt, isiAny, D.cls, Bool.or_true, Bool.or_false, Bool.true_or, Bool.false_or, uSkip, uSeq, uIfS, Rz.sl, uSet, uRet, uGN, seqD, uItV, uRg1, uFor, uLc, uYes, endD, uCal, wPull, CPow, nat10, List.getElem?_cons_zero, List.getElem?_cons_succ, List.set_cons_zero, List.set_cons_succ, Int.reduceLT, Int.reduceLE, Int.reduceToNat, Int.reducePow, Int.reduceNeg, Int.reduceMul, Int.reduceAdd, Int.reduceSub, Nat.reducePow, Nat.reduceLT, Nat.reduceLeDiff, List.length_cons, List.length_nil, Nat.reduceAdd, true_and, and_true, and_self, reduceIte, ↓reduceIte, Bool.false_eq_true, decide_eq_true_eq, Bool.not_true, Bool.not_false, Bool.not_eq_true, decide_eq_false_iff_not, Rz.dat, startD, w__law_pull, List.map_cons, List.map_nil, List.cons_append, List.nil_append, List.reduceReplicate, Nat.reduceSub, List.append_nil, List.set_nil, uCat, lstR, gAddT, strsD, intsD, startW, endW]
    exact ⟨⟨"ChalkError", by decide, rfl⟩, ⟨"Missing", by decide, rfl⟩, _, rfl, shp_strs (n := 6) ["chalkerror", "missing"] (by decide), hk _ ⟨_, _, _, _, _, rfl⟩⟩
  rintro δ ⟨a6, a7, a9, a10, a11, rfl⟩
  have hL : ∃ L, L = lastD K := ⟨_, rfl⟩
  obtain ⟨L, eL⟩ := hL
  have lL : L.length = 2 := by rw [eL]; rfl
  refine seq_mid (fun δ => ∃ (a6 a7 a10 a11 : Sl), δ = E92 ns (.sh (.str s)) (.sh (.int n)) (.sh (.lst F)) (.sh (.str (wordsA ++ wordsB))) a6 a7 (.sh (.lst M)) (.ow L) a10 a11) (fun k hk => ?_) ?_
  · simp only [E92, uExV, eq_self, uNm, uMv, uFz, uSh, uC, uNil, uCons, uLst, uOp, DL.gSub, DL.isNon, gTru, uTru, uNot, uIxN, uCaB, gLen, uLenN, gInt, isiAny, D.cls, Bool.or_true, Bool.or_false, Bool.true_or, Bool.false_or, uSkip, uSeq, uIfS, Rz.sl, uSet, uRet, uGN, seqD, uItV, uRg1, uFor, uLc, uYes, endD, uCal, wPull, CPow, nat10, List.getElem?_cons_zero, List.getElem?_cons_succ, List.set_cons_zero, List.set_cons_succ, Int.reduceLT, Int.reduceLE, Int.reduceToNat, Int.reducePow, Int.reduceNeg, Int.reduceMul, Int.reduceAdd, Int.reduceSub, Nat.reducePow, Nat.reduceLT, Nat.reduceLeDiff, List.length_cons, List.length_nil, Nat.reduceAdd, true_and, and_true, and_self, reduceIte, ↓reduceIte, Bool.false_eq_true, decide_eq_true_eq, Bool.not_true, Bool.not_false, Bool.not_eq_true, decide_eq_false_iff_not, Rz.dat, startD, w__law_pull, List.map_cons, List.map_nil, List.cons_append, List.nil_append, List.reduceReplicate, Nat.reduceSub, List.append_nil, List.set_nil, uCat, lstR, gAddT, strsD, intsD, startW, endW]
    rw [eL] at hk
    exact hk _ ⟨_, _, _, _, rfl⟩
  rintro δ ⟨a6, a7, a10, a11, rfl⟩
  refine seq_mid (fun δ => ∃ (a6 a7 a11 : Sl), δ = E92 ns (.sh (.str s)) (.sh (.int n)) (.sh (.lst F)) (.sh (.str (wordsA ++ wordsB))) a6 a7 (.sh (.lst M)) (.ow L) (.ow [.lst (kindsK "ByNought"), .lst (kindsK "NothingLeft")]) a11) (fun k hk => ?_) ?_
  · simp only [E92, lst_kind.1, lst_kind.2, uNm, uMv, uFz, uSh, uC, uNil, uCons, uLst, uOp, DL.gSub, DL.isNon, gTru, uTru, uNot, uIxN, uCaB, gLen, uLenN, gInt, isiAny, D.cls, Bool.or_true, Bool.or_false, Bool.true_or, Bool.false_or, uSkip, uSeq, uIfS, Rz.sl, uSet, uRet, uGN, seqD, uItV, uRg1, uFor, uLc, uYes, endD, uCal, wPull, CPow, nat10, List.getElem?_cons_zero, List.getElem?_cons_succ, List.set_cons_zero, List.set_cons_succ, Int.reduceLT, Int.reduceLE, Int.reduceToNat, Int.reducePow, Int.reduceNeg, Int.reduceMul, Int.reduceAdd, Int.reduceSub, Nat.reducePow, Nat.reduceLT, Nat.reduceLeDiff, List.length_cons, List.length_nil, Nat.reduceAdd, true_and, and_true, and_self, reduceIte, ↓reduceIte, Bool.false_eq_true, decide_eq_true_eq, Bool.not_true, Bool.not_false, Bool.not_eq_true, decide_eq_false_iff_not, Rz.dat, startD, w__law_pull, List.map_cons, List.map_nil, List.cons_append, List.nil_append, List.reduceReplicate, Nat.reduceSub, List.append_nil, List.set_nil, uCat, lstR, gAddT, strsD, intsD, startW, endW] at hk ⊢
    exact hk _ ⟨_, _, _, rfl⟩
  rintro δ ⟨a6, a7, a11, rfl⟩
  refine seq_mid (fun δ => ∃ (a6 a7 a10 a11 : Sl), δ = E92 ns (.sh (.str s)) (.sh (.int n)) (.sh (.lst F)) (.sh (.str (wordsA ++ wordsB))) a6 a7 (.sh (.lst M)) (.sh (.lst L)) a10 a11) (fun k hk => ?_) ?_
  · simp only [E92, uNm, uMv, uFz, uSh, uC, uNil, uCons, uLst, uOp, DL.gSub, DL.isNon, gTru, uTru, uNot, uIxN, uCaB, gLen, uLenN, gInt, isiAny, D.cls, Bool.or_true, Bool.or_false, Bool.true_or, Bool.false_or, uSkip, uSeq, uIfS, Rz.sl, uSet, uRet, uGN, seqD, uItV, uRg1, uFor, uLc, uYes, endD, uCal, wPull, CPow, nat10, List.getElem?_cons_zero, List.getElem?_cons_succ, List.set_cons_zero, List.set_cons_succ, Int.reduceLT, Int.reduceLE, Int.reduceToNat, Int.reducePow, Int.reduceNeg, Int.reduceMul, Int.reduceAdd, Int.reduceSub, Nat.reducePow, Nat.reduceLT, Nat.reduceLeDiff, List.length_cons, List.length_nil, Nat.reduceAdd, true_and, and_true, and_self, reduceIte, ↓reduceIte, Bool.false_eq_true, decide_eq_true_eq, Bool.not_true, Bool.not_false, Bool.not_eq_true, decide_eq_false_iff_not, Rz.dat, startD, w__law_pull, List.map_cons, List.map_nil, List.cons_append, List.nil_append, List.reduceReplicate, Nat.reduceSub, List.append_nil, List.set_nil, uCat, lstR, gAddT, strsD, intsD, startW, endW]
    refine ⟨by rw [lL]; decide, ?_⟩
    have e0 : L = [.exi (He.ga K "ByNought") g_ByNought, .exi (He.ga K "NothingLeft") g_NothingLeft] := eL
    rw [e0] at hk ⊢
    refine kind2 (by decide) (by decide) fun q => ?_
    simp only [back, w__law_same, wr__law_same, uNm, uMv, uFz, uSh, uC, uNil, uCons, uLst, uOp, DL.gSub, DL.isNon, gTru, uTru, uNot, uIxN, uCaB, gLen, uLenN, gInt, isiAny, D.cls, Bool.or_true, Bool.or_false, Bool.true_or, Bool.false_or, uSkip, uSeq, uIfS, Rz.sl, uSet, uRet, uGN, seqD, uItV, uRg1, uFor, uLc, uYes, endD, uCal, wPull, CPow, nat10, List.getElem?_cons_zero, List.getElem?_cons_succ, List.set_cons_zero, List.set_cons_succ, Int.reduceLT, Int.reduceLE, Int.reduceToNat, Int.reducePow, Int.reduceNeg, Int.reduceMul, Int.reduceAdd, Int.reduceSub, Nat.reducePow, Nat.reduceLT, Nat.reduceLeDiff, List.length_cons, List.length_nil, Nat.reduceAdd, true_and, and_true, and_self, reduceIte, ↓reduceIte, Bool.false_eq_true, decide_eq_true_eq, Bool.not_true, Bool.not_false, Bool.not_eq_true, decide_eq_false_iff_not, Rz.dat, startD, w__law_pull, List.map_cons, List.map_nil, List.cons_append, List.nil_append, List.reduceReplicate, Nat.reduceSub, List.append_nil, List.set_nil, uCat, lstR, gAddT, strsD, intsD, startW, endW]
    refine ⟨_, rfl, ⟨by simp, ?_⟩, hk _ ⟨_, _, _, _, rfl⟩⟩
    simp only [List.forall_mem_cons]
    exact ⟨shp_kinds7 _, shp_kinds7 _, fun _ h => nomatch h⟩
  rintro δ ⟨a6, a7, a10, a11, rfl⟩
  simp only [E92, uNm, uMv, uFz, uSh, uC, uNil, uCons, uLst, uOp, DL.gSub, DL.isNon, gTru, uTru, uNot, uIxN, uCaB, gLen, uLenN, gInt, isiAny, D.cls, Bool.or_true, Bool.or_false, Bool.true_or, Bool.false_or, uSkip, uSeq, uIfS, Rz.sl, uSet, uRet, uGN, seqD, uItV, uRg1, uFor, uLc, uYes, endD, uCal, wPull, CPow, nat10, List.getElem?_cons_zero, List.getElem?_cons_succ, List.set_cons_zero, List.set_cons_succ, Int.reduceLT, Int.reduceLE, Int.reduceToNat, Int.reducePow, Int.reduceNeg, Int.reduceMul, Int.reduceAdd, Int.reduceSub, Nat.reducePow, Nat.reduceLT, Nat.reduceLeDiff, List.length_cons, List.length_nil, Nat.reduceAdd, true_and, and_true, and_self, reduceIte, ↓reduceIte, Bool.false_eq_true, decide_eq_true_eq, Bool.not_true, Bool.not_false, Bool.not_eq_true, decide_eq_false_iff_not, Rz.dat, startD, w__law_pull, List.map_cons, List.map_nil, List.cons_append, List.nil_append, List.reduceReplicate, Nat.reduceSub, List.append_nil, List.set_nil, uCat, lstR, gAddT, strsD, intsD, startW, endW]
  refine ⟨by rw [lL]; decide, word_loop L (by rw [eL]; exact lst_word K) fun q => ?_⟩
  simp only [back, w__law_same, wr__law_same, uNm, uMv, uFz, uSh, uC, uNil, uCons, uLst, uOp, DL.gSub, DL.isNon, gTru, uTru, uNot, uIxN, uCaB, gLen, uLenN, gInt, isiAny, D.cls, Bool.or_true, Bool.or_false, Bool.true_or, Bool.false_or, uSkip, uSeq, uIfS, Rz.sl, uSet, uRet, uGN, seqD, uItV, uRg1, uFor, uLc, uYes, endD, uCal, wPull, CPow, nat10, List.getElem?_cons_zero, List.getElem?_cons_succ, List.set_cons_zero, List.set_cons_succ, Int.reduceLT, Int.reduceLE, Int.reduceToNat, Int.reducePow, Int.reduceNeg, Int.reduceMul, Int.reduceAdd, Int.reduceSub, Nat.reducePow, Nat.reduceLT, Nat.reduceLeDiff, List.length_cons, List.length_nil, Nat.reduceAdd, true_and, and_true, and_self, reduceIte, ↓reduceIte, Bool.false_eq_true, decide_eq_true_eq, Bool.not_true, Bool.not_false, Bool.not_eq_true, decide_eq_false_iff_not, Rz.dat, startD, w__law_pull, List.map_cons, List.map_nil, List.cons_append, List.nil_append, List.reduceReplicate, Nat.reduceSub, List.append_nil, List.set_nil, uCat, lstR, gAddT, strsD, intsD, startW, endW]
  have e : L.filterMap wordD = [.str "bynought", .str "nothingleft"] := by rw [eL]; rfl
  exact ⟨_, by rw [e]; rfl, shp_strs (n := 6) ["bynought", "nothingleft"] (by decide), rfl⟩
theorem ok_law {f : Addr} {fd : FuncData} (F : FunD K "law" "law" (defArgs s_law) (defBody s_law) (defScope s_law) [] [] f fd) {fb : Addr} {fdb : FuncData} (gB : mg "_law_bag" = some (.ref fb)) (kB : PySem.W.keepIn K (.ref fb) = true) (bB : Binds K fdb ["script"] []) (oB : FnOk P w K mg base (L2.CX P w) 1 fb fdb ["script"] (spD K wBag0)) (c__law_same : CalD P w K mg base 8 "_law_same" (w__law_same K)) (c__law_kinds : CalD P w K mg base 1 "_law_kinds" (w__law_kinds K)) (c__law_pull : CalD P w K mg base 1 "_law_pull" (w__law_pull K)) (m_range : mg "range" = none) (m_len : mg "len" = none) (m_int : mg "int" = none) (v_NothingLeft : ExV P w K mg base 1 "NothingLeft" 0 gf_NothingLeft) (v_ByNought : ExV P w K mg base 1 "ByNought" 0 gf_ByNought) (v_Missing : ExV P w K mg base 1 "Missing" 0 gf_Missing) (v_ChalkError : ExV P w K mg base 1 "ChalkError" 0 gf_ChalkError) (v_NoRoot : ExV P w K mg base 2 "NoRoot" 0 gf_NoRoot) (v_NoName : ExV P w K mg base 2 "NoName" 1 gf_NoName) (v_BadPage : ExV P w K mg base 2 "BadPage" 1 gf_BadPage) (v_Unread : ExV P w K mg base 2 "Unread" 1 gf_Unread) (v_Leant : ExV P w K mg base 2 "Leant" 1 gf_Leant) (v_NoWorth : ExV P w K mg base 2 "NoWorth" 0 gf_NoWorth) (v_StillOpen : ExV P w K mg base 2 "StillOpen" 0 gf_StillOpen) (v_NotWhole : ExV P w K mg base 2 "NotWhole" 0 gf_NotWhole) (v_TooDeep : ExV P w K mg base 2 "TooDeep" 0 gf_TooDeep) (v_TooGreat : ExV P w K mg base 2 "TooGreat" 0 gf_TooGreat) (v_Ring : ExV P w K mg base 2 "Ring" 0 gf_Ring) (v_Full : ExV P w K mg base 2 "Full" 0 gf_Full) (v_Taken : ExV P w K mg base 2 "Taken" 0 gf_Taken) (v_BadName : ExV P w K mg base 2 "BadName" 0 gf_BadName) (v_BadKind : ExV P w K mg base 2 "BadKind" 0 gf_BadKind) (v_BadQuestion : ExV P w K mg base 2 "BadQuestion" 0 gf_BadQuestion) (v_BadCondition : ExV P w K mg base 2 "BadCondition" 0 gf_BadCondition) (v_BadRow : ExV P w K mg base 2 "BadRow" 0 gf_BadRow) (v_BadFine : ExV P w K mg base 2 "BadFine" 0 gf_BadFine) (v_BadWindow : ExV P w K mg base 2 "BadWindow" 0 gf_BadWindow) (v_BadStretch : ExV P w K mg base 2 "BadStretch" 0 gf_BadStretch) (v_BadPoly : ExV P w K mg base 2 "BadPoly" 0 gf_BadPoly) (v_BadText : ExV P w K mg base 2 "BadText" 0 gf_BadText) (xa : xaB K xsK ["word", "name", "at", "row"] = true) : FnOk P w K mg base CX0 9 f fd ["script"] (spLaw K) := by
  have S := sc_law
  refine law_walk F S (by decide) rfl (fun cdv A outer s H E hr => ⟨?_, fun F' H0 B => ?_⟩) (l_law K)
  · exact ps_set (i := 1) S.nd rfl (.inl rfl) (pe_callS (ok_bagH oB) (hr.mono (by decide)) (by rfl) gB kB bB (fun σ => passAt takes0 σ) (pa_cons (pv 0) pa_nil))
  · have hu := hr.units
    have po := po_of (CX := CX0) (P := P) (w := w) (K := K) (mg := mg) (base := base) (N := ["script", "bag", "name", "number", "first", "words", "at", "due", "lost", "last", "dues", "one"]) (qual := "law") (sc := defScope s_law) (f := f) (cd := cdv) (A := A) (outer := outer) (s := s) (H := H) (E := E)
    exact (qss_cons (qs_set (i := 2) S.nd rfl (.inl rfl) (qe_sh (qv_ix (qv_fz (qe_lst (qa_cons qv_str (qa_cons qv_str (qa_cons qv_str qa_nil))))) (qv_fz (qe_cal c__law_pull hr (by decide) (by rfl) takes0 (qa_cons (qv_nm (pv 1)) (qa_cons qv_int qa_nil)))))))
      (qss_cons (qs_set (i := 3) S.nd rfl (.inl rfl) (qe_cal c__law_pull hr (by decide) (by rfl) takes0 (qa_cons (qv_nm (pv 1)) (qa_cons qv_int qa_nil))))
      (qss_cons (qs_set (i := 4) S.nd rfl (.inl rfl) (qe_lst (qa_cons (qv_exV0 v_BadText hr (by decide) (by rfl)) (qa_cons (qv_exV0 v_BadPoly hr (by decide) (by rfl)) (qa_cons (qv_exV0 v_BadStretch hr (by decide) (by rfl)) (qa_cons (qv_exV0 v_BadWindow hr (by decide) (by rfl)) (qa_cons (qv_exV0 v_BadFine hr (by decide) (by rfl)) (qa_cons (qv_exV0 v_BadRow hr (by decide) (by rfl)) (qa_cons (qv_exV0 v_BadCondition hr (by decide) (by rfl)) (qa_cons (qv_exV0 v_BadQuestion hr (by decide) (by rfl)) qa_nil))))))))))
      (qss_cons (qs_set (i := 4) S.nd rfl (.inl rfl) (qe_cat (qe_mv (pv 4)) (qe_lst (qa_cons (qv_exV0 v_BadKind hr (by decide) (by rfl)) (qa_cons (qv_exV0 v_BadName hr (by decide) (by rfl)) (qa_cons (qv_exV0 v_Taken hr (by decide) (by rfl)) (qa_cons (qv_exV0 v_Full hr (by decide) (by rfl)) (qa_cons (qv_exV0 v_Ring hr (by decide) (by rfl)) (qa_cons (qv_exV0 v_TooGreat hr (by decide) (by rfl)) (qa_cons (qv_exV0 v_TooDeep hr (by decide) (by rfl)) (qa_cons (qv_exV0 v_NotWhole hr (by decide) (by rfl)) (qa_cons (qv_exV0 v_StillOpen hr (by decide) (by rfl)) qa_nil))))))))))))
      (qss_cons (qs_set (i := 4) S.nd rfl (.inl rfl) (qe_cat (qe_mv (pv 4)) (qe_lst (qa_cons (qv_exV0 v_NoWorth hr (by decide) (by rfl)) (qa_cons (qv_exV v_Leant hr (by decide) (by rfl) (qa_cons (qv_nm (pv 2)) qa_nil)) (qa_cons (qv_exV v_Unread hr (by decide) (by rfl) (qa_cons (qv_nm (pv 3)) qa_nil)) (qa_cons (qv_exV v_BadPage hr (by decide) (by rfl) (qa_cons (qv_nm (pv 3)) qa_nil)) qa_nil)))))))
      (qss_cons (qs_set (i := 5) S.nd rfl (.inl rfl) (qe_sh qv_str))
      (qss_cons (qs_set (i := 5) S.nd rfl (.inl rfl) (qe_sh (qv_addT (qv_nm (pv 5)) qv_str)))
      (qss_cons (qs_if (qt_not (qt_tru (qv_fz (qe_cal c__law_same hr (by decide) (by rfl) takes0 (qa_cons (qv_fz (qe_lc (own := [("one", 11)]) rfl S.nd (qi_val (qv_nm (pv 4))) (blkOk_by (by kernel_rfl)) (fun _ _ _ _ _ => pg_name (i := 11) S.nd rfl (.inl rfl)) (lct_name (by decide)) (fun _ _ _ _ _ => qts_nil) (fun _ _ _ _ _ => (qv_xi (xaB_ok xa "word" (by decide)) (qv_nm (pv 11)))))) (qa_cons (qv_fz (qe_split (qv_nm (pv 5)) qv_str)) qa_nil)))))) (qss_one (qs_ret (qe_sh qv_bl))) qss_nil)
      (qss_cons (qs_for po rfl (qi_rg1 (by rfl) m_range (qa_cons (qv_lenN (by rfl) m_len (pv 4)) qa_nil)) (qg_name (i := 6) S.nd rfl (.inl rfl)) (qss_cons (qs_set (i := 7) S.nd rfl (.inl rfl) (qe_lst (qa_cons qv_bl (qa_cons qv_bl (qa_cons qv_bl (qa_cons qv_bl (qa_cons qv_bl (qa_cons qv_bl (qa_cons (qv_toInt (by rfl) m_int (qa_cons (qv_inL (qv_nm (pv 6)) (qv_fz (qe_lst (qa_cons qv_int (qa_cons qv_int (qa_cons qv_int qa_nil)))))) qa_nil)) qa_nil)))))))))
      (qss_one (qs_if (qt_not (qt_tru (qv_fz (qe_cal c__law_same hr (by decide) (by rfl) takes0 (qa_cons (qv_fz (qe_cal c__law_kinds hr (by decide) (by rfl) takes0 (qa_cons (qv_ixN (pv 4) (qv_nm (pv 6))) qa_nil))) (qa_cons (qv_nm (pv 7)) qa_nil)))))) (qss_one (qs_ret (qe_sh qv_bl))) qss_nil))))
      (qss_cons (qs_set (i := 8) S.nd rfl (.inl rfl) (qe_lst (qa_cons (qv_exV v_NoName hr (by decide) (by rfl) (qa_cons (qv_nm (pv 2)) qa_nil)) (qa_cons (qv_exV0 v_NoRoot hr (by decide) (by rfl)) qa_nil))))
      (qss_cons (qs_if (qt_not (qt_tru (qv_fz (qe_cal c__law_same hr (by decide) (by rfl) takes0 (qa_cons (qv_fz (qe_lc (own := [("one", 11)]) rfl S.nd (qi_val (qv_nm (pv 8))) (blkOk_by (by kernel_rfl)) (fun _ _ _ _ _ => pg_name (i := 11) S.nd rfl (.inl rfl)) (lct_name (by decide)) (fun _ _ _ _ _ => qts_nil) (fun _ _ _ _ _ => (qv_xi (xaB_ok xa "word" (by decide)) (qv_nm (pv 11)))))) (qa_cons (qv_fz (qe_lst (qa_cons qv_str (qa_cons qv_str qa_nil)))) qa_nil)))))) (qss_one (qs_ret (qe_sh qv_bl))) qss_nil)
      (qss_cons (qs_for po rfl (qi_rg1 (by rfl) m_range (qa_cons qv_int qa_nil)) (qg_name (i := 6) S.nd rfl (.inl rfl)) (qss_one (qs_if (qt_not (qt_tru (qv_fz (qe_cal c__law_same hr (by decide) (by rfl) takes0 (qa_cons (qv_fz (qe_cal c__law_kinds hr (by decide) (by rfl) takes0 (qa_cons (qv_ixN (pv 8) (qv_nm (pv 6))) qa_nil))) (qa_cons (qv_fz (qe_lst (qa_cons qv_bl (qa_cons qv_bl (qa_cons qv_bl (qa_cons qv_bl (qa_cons qv_bl (qa_cons qv_bl (qa_cons (qv_sub qv_int (qv_nm (pv 6))) qa_nil))))))))) qa_nil)))))) (qss_one (qs_ret (qe_sh qv_bl))) qss_nil)))
      (qss_cons (qs_if (qt_not (qt_tru (qv_fz (qe_cal c__law_same hr (by decide) (by rfl) takes0 (qa_cons (qv_fz (qe_lst (qa_cons (qv_xi (xaB_ok xa "name" (by decide)) (qv_ixN (pv 4) qv_int)) (qa_cons (qv_xi (xaB_ok xa "at" (by decide)) (qv_ixN (pv 4) qv_int)) (qa_cons (qv_xi (xaB_ok xa "row" (by decide)) (qv_ixN (pv 4) qv_int)) (qa_cons (qv_xi (xaB_ok xa "name" (by decide)) (qv_ixN (pv 8) qv_int)) qa_nil)))))) (qa_cons (qv_fz (qe_lst (qa_cons (qv_nm (pv 2)) (qa_cons (qv_nm (pv 3)) (qa_cons (qv_nm (pv 3)) (qa_cons (qv_nm (pv 2)) qa_nil)))))) qa_nil)))))) (qss_one (qs_ret (qe_sh qv_bl))) qss_nil)
      (qss_cons (qs_if (qt_not (qt_tru (qv_fz (qe_cal c__law_same hr (by decide) (by rfl) takes0 (qa_cons (qv_fz (qe_lst (qa_cons (qv_xi (xaB_ok xa "word" (by decide)) (qv_exV0 v_ChalkError hr (by decide) (by rfl))) (qa_cons (qv_xi (xaB_ok xa "word" (by decide)) (qv_exV0 v_Missing hr (by decide) (by rfl))) qa_nil)))) (qa_cons (qv_fz (qe_lst (qa_cons qv_str (qa_cons qv_str qa_nil)))) qa_nil)))))) (qss_one (qs_ret (qe_sh qv_bl))) qss_nil)
      (qss_cons (qs_set (i := 9) S.nd rfl (.inl rfl) (qe_lst (qa_cons (qv_exV0 v_ByNought hr (by decide) (by rfl)) (qa_cons (qv_exV0 v_NothingLeft hr (by decide) (by rfl)) qa_nil))))
      (qss_cons (qs_set (i := 10) S.nd rfl (.inl rfl) (qe_lst (qa_cons (qv_fz (qe_lst (qa_cons qv_bl (qa_cons qv_bl (qa_cons qv_bl (qa_cons qv_bl (qa_cons qv_bl (qa_cons qv_bl (qa_cons qv_int qa_nil))))))))) (qa_cons (qv_fz (qe_lst (qa_cons qv_bl (qa_cons qv_bl (qa_cons qv_bl (qa_cons qv_bl (qa_cons qv_bl (qa_cons qv_bl (qa_cons qv_int qa_nil))))))))) qa_nil))))
      (qss_cons (qs_if (qt_not (qt_tru (qv_fz (qe_cal c__law_same hr (by decide) (by rfl) takes0 (qa_cons (qv_fz (qe_lc (own := [("one", 11)]) rfl S.nd (qi_val (qv_nm (pv 9))) (blkOk_by (by kernel_rfl)) (fun _ _ _ _ _ => pg_name (i := 11) S.nd rfl (.inl rfl)) (lct_name (by decide)) (fun _ _ _ _ _ => qts_nil) (fun _ _ _ _ _ => (qv_fz (qe_cal c__law_kinds hr (by decide) (by rfl) takes0 (qa_cons (qv_nm (pv 11)) qa_nil)))))) (qa_cons (qv_nm (pv 10)) qa_nil)))))) (qss_one (qs_ret (qe_sh qv_bl))) qss_nil)
      (qss_one (qs_ret (qe_cal c__law_same hr (by decide) (by rfl) takes0 (qa_cons (qv_fz (qe_lc (own := [("one", 11)]) rfl S.nd (qi_val (qv_nm (pv 9))) (blkOk_by (by kernel_rfl)) (fun _ _ _ _ _ => pg_name (i := 11) S.nd rfl (.inl rfl)) (lct_name (by decide)) (fun _ _ _ _ _ => qts_nil) (fun _ _ _ _ _ => (qv_xi (xaB_ok xa "word" (by decide)) (qv_nm (pv 11)))))) (qa_cons (qv_fz (qe_lst (qa_cons qv_str (qa_cons qv_str qa_nil)))) qa_nil))))))))))))))))))))))
theorem sc_NothingLeft_ini : FnScope ["self"] ["self"] (defScope s_NothingLeft_ini) := ⟨rfl, rfl, rfl, by decide +kernel, rfl, by decide +kernel, by decide +kernel⟩
theorem ok_NothingLeft_ini {f : Addr} {fd : FuncData} (F : FunD K "__init__" "NothingLeft.__init__" (defArgs s_NothingLeft_ini) (defBody s_NothingLeft_ini) (defScope s_NothingLeft_ini) [] [] f fd) {C : Addr} (T : ExG K C "IndexError" "IndexError.__new__" "IndexError.__init__" tl_IndexError) (hno : PySem.W.findIn K (.ref C) "word" = some none) (m_B : mg "IndexError" = none) :
    FnOk P w K mg base (L2.CX P w) 1 f fd ["self"] (spIni C [] [("word", .str "nothingleft")]) := by
  have S := sc_NothingLeft_ini
  refine F.ok S (fun vs H Q E h => ?_) (fun cdv A outer s H vs Q E hr h => ⟨tIni K "IndexError" "IndexError.__init__" "nothing left" "word" "nothingleft", ?_, pure_ini T hno vs H Q E h⟩)
  · obtain ⟨a, rfl, _⟩ := h
    rfl
  · exact pss_cons (ps_expr (pe_exBase (by rfl) m_B (by rfl) (by decide) (by decide) (by rfl) (by rfl) (pa_cons (pv 0) (pa_cons pe_str pa_nil)))) (pss_one (ps_exSt (pv 0) pe_str))
theorem sc_ByNought_ini : FnScope ["self"] ["self"] (defScope s_ByNought_ini) := ⟨rfl, rfl, rfl, by decide +kernel, rfl, by decide +kernel, by decide +kernel⟩
theorem ok_ByNought_ini {f : Addr} {fd : FuncData} (F : FunD K "__init__" "ByNought.__init__" (defArgs s_ByNought_ini) (defBody s_ByNought_ini) (defScope s_ByNought_ini) [] [] f fd) {C : Addr} (T : ExG K C "ZeroDivisionError" "ZeroDivisionError.__new__" "ZeroDivisionError.__init__" tl_ZeroDivisionError) (hno : PySem.W.findIn K (.ref C) "word" = some none) (m_B : mg "ZeroDivisionError" = none) :
    FnOk P w K mg base (L2.CX P w) 1 f fd ["self"] (spIni C [] [("word", .str "bynought")]) := by
  have S := sc_ByNought_ini
  refine F.ok S (fun vs H Q E h => ?_) (fun cdv A outer s H vs Q E hr h => ⟨tIni K "ZeroDivisionError" "ZeroDivisionError.__init__" "by nought" "word" "bynought", ?_, pure_ini T hno vs H Q E h⟩)
  · obtain ⟨a, rfl, _⟩ := h
    rfl
  · exact pss_cons (ps_expr (pe_exBase (by rfl) m_B (by rfl) (by decide) (by decide) (by rfl) (by rfl) (pa_cons (pv 0) (pa_cons pe_str pa_nil)))) (pss_one (ps_exSt (pv 0) pe_str))
theorem sc_Missing_ini : FnScope ["self"] ["self"] (defScope s_Missing_ini) := ⟨rfl, rfl, rfl, by decide +kernel, rfl, by decide +kernel, by decide +kernel⟩
theorem ok_Missing_ini {f : Addr} {fd : FuncData} (F : FunD K "__init__" "Missing.__init__" (defArgs s_Missing_ini) (defBody s_Missing_ini) (defScope s_Missing_ini) [] [] f fd) {C : Addr} (T : ExG K C "LookupError" "LookupError.__new__" "LookupError.__init__" tl_LookupError) (hno : PySem.W.findIn K (.ref C) "word" = some none) (m_B : mg "LookupError" = none) :
    FnOk P w K mg base (L2.CX P w) 1 f fd ["self"] (spIni C [] [("word", .str "missing")]) := by
  have S := sc_Missing_ini
  refine F.ok S (fun vs H Q E h => ?_) (fun cdv A outer s H vs Q E hr h => ⟨tIni K "LookupError" "LookupError.__init__" "missing" "word" "missing", ?_, pure_ini T hno vs H Q E h⟩)
  · obtain ⟨a, rfl, _⟩ := h
    rfl
  · exact pss_cons (ps_expr (pe_exBase (by rfl) m_B (by rfl) (by decide) (by decide) (by rfl) (by rfl) (pa_cons (pv 0) (pa_cons pe_str pa_nil)))) (pss_one (ps_exSt (pv 0) pe_str))
theorem sc_ChalkError_ini : FnScope ["self"] ["self"] (defScope s_ChalkError_ini) := ⟨rfl, rfl, rfl, by decide +kernel, rfl, by decide +kernel, by decide +kernel⟩
theorem ok_ChalkError_ini {f : Addr} {fd : FuncData} (F : FunD K "__init__" "ChalkError.__init__" (defArgs s_ChalkError_ini) (defBody s_ChalkError_ini) (defScope s_ChalkError_ini) [] [] f fd) {C : Addr} (T : ExG K C "ValueError" "ValueError.__new__" "ValueError.__init__" tl_ValueError) (hno : PySem.W.findIn K (.ref C) "word" = some none) (m_B : mg "ValueError" = none) :
    FnOk P w K mg base (L2.CX P w) 1 f fd ["self"] (spIni C [] [("word", .str "chalkerror")]) := by
  have S := sc_ChalkError_ini
  refine F.ok S (fun vs H Q E h => ?_) (fun cdv A outer s H vs Q E hr h => ⟨tIni K "ValueError" "ValueError.__init__" "refused" "word" "chalkerror", ?_, pure_ini T hno vs H Q E h⟩)
  · obtain ⟨a, rfl, _⟩ := h
    rfl
  · exact pss_cons (ps_expr (pe_exBase (by rfl) m_B (by rfl) (by decide) (by decide) (by rfl) (by rfl) (pa_cons (pv 0) (pa_cons pe_str pa_nil)))) (pss_one (ps_exSt (pv 0) pe_str))
theorem sc_NoRoot_ini : FnScope ["self"] ["self"] (defScope s_NoRoot_ini) := ⟨rfl, rfl, rfl, by decide +kernel, rfl, by decide +kernel, by decide +kernel⟩
theorem ok_NoRoot_ini {f : Addr} {fd : FuncData} (F : FunD K "__init__" "NoRoot.__init__" (defArgs s_NoRoot_ini) (defBody s_NoRoot_ini) (defScope s_NoRoot_ini) [] [] f fd) (T : ExG K (He.ga K "NoRoot") "LookupError" "LookupError.__new__" "LookupError.__init__" tl_LookupError) (hno : PySem.W.findIn K (.ref (He.ga K "NoRoot")) "word" = some none) {f0 : Addr} {fd0 : FuncData} (n_B : mg "Missing" = some (.ref (He.ga K "Missing"))) (I_B : ClsI K (He.ga K "Missing") f0) (o_B : FnOk P w K mg base (L2.CX P w) 1 f0 fd0 ["self"] (spIni (He.ga K "NoRoot") [] [("word", .str "missing")])) (b_B : Binds K fd0 ["self"] []) :
    FnOk P w K mg base (L2.CX P w) 2 f fd ["self"] (spIni (He.ga K "NoRoot") [] [("word", .str "noroot"), ("word", .str "missing")]) := by
  have S := sc_NoRoot_ini
  refine F.ok S (fun vs H Q E h => ?_) (fun cdv A outer s H vs Q E hr h => ⟨tIni2 (spIni (He.ga K "NoRoot") [] [("word", .str "missing")]) (WE (fun c d _ H' => E c d H')) K "word" "noroot", ?_, pure_ini2 T hno (by decide) vs H Q E h⟩)
  · obtain ⟨a, rfl, _⟩ := h
    rfl
  · have tk := tk_of (P := P) (w := w) (K := K) (mg := mg) (base := base) (N := ["self"]) (qual := "NoRoot.__init__") (sc := defScope s_NoRoot_ini) (f := f) (cd := cdv) (A := A) (outer := outer) (s := s) (H := H) (E := E)
    exact pss_cons (ps_expr (pe_ini (by rfl) n_B I_B o_B (hr.mono (by decide)) b_B (fun σ => passAt tk σ) (pa_cons (pv 0) pa_nil))) (pss_one (ps_exSt (pv 0) pe_str))
theorem sc_NoName_ini : FnScope ["self", "name"] ["self", "name"] (defScope s_NoName_ini) := ⟨rfl, rfl, rfl, by decide +kernel, rfl, by decide +kernel, by decide +kernel⟩
theorem ok_NoName_ini {f : Addr} {fd : FuncData} (F : FunD K "__init__" "NoName.__init__" (defArgs s_NoName_ini) (defBody s_NoName_ini) (defScope s_NoName_ini) [] [] f fd) (T : ExG K (He.ga K "NoName") "LookupError" "LookupError.__new__" "LookupError.__init__" tl_LookupError) (hno : PySem.W.findIn K (.ref (He.ga K "NoName")) "word" = some none) (hno2 : PySem.W.findIn K (.ref (He.ga K "NoName")) "name" = some none) {f0 : Addr} {fd0 : FuncData} (n_B : mg "Missing" = some (.ref (He.ga K "Missing"))) (I_B : ClsI K (He.ga K "Missing") f0) (o_B : FnOk P w K mg base (L2.CX P w) 1 f0 fd0 ["self"] (spIni (He.ga K "NoName") [] [("word", .str "missing")])) (b_B : Binds K fd0 ["self"] []) (v : V) :
    FnOk P w K mg base (L2.CX P w) 2 f fd ["self", "name"] (spIni (He.ga K "NoName") [v] [("name", v), ("word", .str "noname"), ("word", .str "missing")]) := by
  have S := sc_NoName_ini
  refine F.ok S (fun vs H Q E h => ?_) (fun cdv A outer s H vs Q E hr h => ⟨tIni3 (spIni (He.ga K "NoName") [] [("word", .str "missing")]) (WE (fun c d _ H' => E c d H')) K "word" "noname" "name", ?_, pure_ini3 T hno hno2 (by decide) vs H Q E h⟩)
  · obtain ⟨a, rfl, _⟩ := h
    rfl
  · have tk := tk_of (P := P) (w := w) (K := K) (mg := mg) (base := base) (N := ["self", "name"]) (qual := "NoName.__init__") (sc := defScope s_NoName_ini) (f := f) (cd := cdv) (A := A) (outer := outer) (s := s) (H := H) (E := E)
    exact pss_cons (ps_expr (pe_ini (by rfl) n_B I_B o_B (hr.mono (by decide)) b_B (fun σ => passAt tk σ) (pa_cons (pv 0) pa_nil))) (pss_cons (ps_exSt (pv 0) pe_str) (pss_one (ps_exSt (pv 0) (pv 1))))
theorem sc_BadPage_ini : FnScope ["self", "row"] ["self", "row"] (defScope s_BadPage_ini) := ⟨rfl, rfl, rfl, by decide +kernel, rfl, by decide +kernel, by decide +kernel⟩
theorem ok_BadPage_ini {f : Addr} {fd : FuncData} (F : FunD K "__init__" "BadPage.__init__" (defArgs s_BadPage_ini) (defBody s_BadPage_ini) (defScope s_BadPage_ini) [] [] f fd) (T : ExG K (He.ga K "BadPage") "ValueError" "ValueError.__new__" "ValueError.__init__" tl_ValueError) (hno : PySem.W.findIn K (.ref (He.ga K "BadPage")) "word" = some none) (hno2 : PySem.W.findIn K (.ref (He.ga K "BadPage")) "row" = some none) {f0 : Addr} {fd0 : FuncData} (n_B : mg "ChalkError" = some (.ref (He.ga K "ChalkError"))) (I_B : ClsI K (He.ga K "ChalkError") f0) (o_B : FnOk P w K mg base (L2.CX P w) 1 f0 fd0 ["self"] (spIni (He.ga K "BadPage") [] [("word", .str "chalkerror")])) (b_B : Binds K fd0 ["self"] []) (v : V) :
    FnOk P w K mg base (L2.CX P w) 2 f fd ["self", "row"] (spIni (He.ga K "BadPage") [v] [("row", v), ("word", .str "badpage"), ("word", .str "chalkerror")]) := by
  have S := sc_BadPage_ini
  refine F.ok S (fun vs H Q E h => ?_) (fun cdv A outer s H vs Q E hr h => ⟨tIni3 (spIni (He.ga K "BadPage") [] [("word", .str "chalkerror")]) (WE (fun c d _ H' => E c d H')) K "word" "badpage" "row", ?_, pure_ini3 T hno hno2 (by decide) vs H Q E h⟩)
  · obtain ⟨a, rfl, _⟩ := h
    rfl
  · have tk := tk_of (P := P) (w := w) (K := K) (mg := mg) (base := base) (N := ["self", "row"]) (qual := "BadPage.__init__") (sc := defScope s_BadPage_ini) (f := f) (cd := cdv) (A := A) (outer := outer) (s := s) (H := H) (E := E)
    exact pss_cons (ps_expr (pe_ini (by rfl) n_B I_B o_B (hr.mono (by decide)) b_B (fun σ => passAt tk σ) (pa_cons (pv 0) pa_nil))) (pss_cons (ps_exSt (pv 0) pe_str) (pss_one (ps_exSt (pv 0) (pv 1))))
theorem sc_Unread_ini : FnScope ["self", "at"] ["self", "at"] (defScope s_Unread_ini) := ⟨rfl, rfl, rfl, by decide +kernel, rfl, by decide +kernel, by decide +kernel⟩
theorem ok_Unread_ini {f : Addr} {fd : FuncData} (F : FunD K "__init__" "Unread.__init__" (defArgs s_Unread_ini) (defBody s_Unread_ini) (defScope s_Unread_ini) [] [] f fd) (T : ExG K (He.ga K "Unread") "ValueError" "ValueError.__new__" "ValueError.__init__" tl_ValueError) (hno : PySem.W.findIn K (.ref (He.ga K "Unread")) "word" = some none) (hno2 : PySem.W.findIn K (.ref (He.ga K "Unread")) "at" = some none) {f0 : Addr} {fd0 : FuncData} (n_B : mg "ChalkError" = some (.ref (He.ga K "ChalkError"))) (I_B : ClsI K (He.ga K "ChalkError") f0) (o_B : FnOk P w K mg base (L2.CX P w) 1 f0 fd0 ["self"] (spIni (He.ga K "Unread") [] [("word", .str "chalkerror")])) (b_B : Binds K fd0 ["self"] []) (v : V) :
    FnOk P w K mg base (L2.CX P w) 2 f fd ["self", "at"] (spIni (He.ga K "Unread") [v] [("at", v), ("word", .str "unread"), ("word", .str "chalkerror")]) := by
  have S := sc_Unread_ini
  refine F.ok S (fun vs H Q E h => ?_) (fun cdv A outer s H vs Q E hr h => ⟨tIni3 (spIni (He.ga K "Unread") [] [("word", .str "chalkerror")]) (WE (fun c d _ H' => E c d H')) K "word" "unread" "at", ?_, pure_ini3 T hno hno2 (by decide) vs H Q E h⟩)
  · obtain ⟨a, rfl, _⟩ := h
    rfl
  · have tk := tk_of (P := P) (w := w) (K := K) (mg := mg) (base := base) (N := ["self", "at"]) (qual := "Unread.__init__") (sc := defScope s_Unread_ini) (f := f) (cd := cdv) (A := A) (outer := outer) (s := s) (H := H) (E := E)
    exact pss_cons (ps_expr (pe_ini (by rfl) n_B I_B o_B (hr.mono (by decide)) b_B (fun σ => passAt tk σ) (pa_cons (pv 0) pa_nil))) (pss_cons (ps_exSt (pv 0) pe_str) (pss_one (ps_exSt (pv 0) (pv 1))))
theorem sc_Leant_ini : FnScope ["self", "name"] ["self", "name"] (defScope s_Leant_ini) := ⟨rfl, rfl, rfl, by decide +kernel, rfl, by decide +kernel, by decide +kernel⟩
theorem ok_Leant_ini {f : Addr} {fd : FuncData} (F : FunD K "__init__" "Leant.__init__" (defArgs s_Leant_ini) (defBody s_Leant_ini) (defScope s_Leant_ini) [] [] f fd) (T : ExG K (He.ga K "Leant") "ValueError" "ValueError.__new__" "ValueError.__init__" tl_ValueError) (hno : PySem.W.findIn K (.ref (He.ga K "Leant")) "word" = some none) (hno2 : PySem.W.findIn K (.ref (He.ga K "Leant")) "name" = some none) {f0 : Addr} {fd0 : FuncData} (n_B : mg "ChalkError" = some (.ref (He.ga K "ChalkError"))) (I_B : ClsI K (He.ga K "ChalkError") f0) (o_B : FnOk P w K mg base (L2.CX P w) 1 f0 fd0 ["self"] (spIni (He.ga K "Leant") [] [("word", .str "chalkerror")])) (b_B : Binds K fd0 ["self"] []) (v : V) :
    FnOk P w K mg base (L2.CX P w) 2 f fd ["self", "name"] (spIni (He.ga K "Leant") [v] [("name", v), ("word", .str "leant"), ("word", .str "chalkerror")]) := by
  have S := sc_Leant_ini
  refine F.ok S (fun vs H Q E h => ?_) (fun cdv A outer s H vs Q E hr h => ⟨tIni3 (spIni (He.ga K "Leant") [] [("word", .str "chalkerror")]) (WE (fun c d _ H' => E c d H')) K "word" "leant" "name", ?_, pure_ini3 T hno hno2 (by decide) vs H Q E h⟩)
  · obtain ⟨a, rfl, _⟩ := h
    rfl
  · have tk := tk_of (P := P) (w := w) (K := K) (mg := mg) (base := base) (N := ["self", "name"]) (qual := "Leant.__init__") (sc := defScope s_Leant_ini) (f := f) (cd := cdv) (A := A) (outer := outer) (s := s) (H := H) (E := E)
    exact pss_cons (ps_expr (pe_ini (by rfl) n_B I_B o_B (hr.mono (by decide)) b_B (fun σ => passAt tk σ) (pa_cons (pv 0) pa_nil))) (pss_cons (ps_exSt (pv 0) pe_str) (pss_one (ps_exSt (pv 0) (pv 1))))
theorem sc_NoWorth_ini : FnScope ["self"] ["self"] (defScope s_NoWorth_ini) := ⟨rfl, rfl, rfl, by decide +kernel, rfl, by decide +kernel, by decide +kernel⟩
theorem ok_NoWorth_ini {f : Addr} {fd : FuncData} (F : FunD K "__init__" "NoWorth.__init__" (defArgs s_NoWorth_ini) (defBody s_NoWorth_ini) (defScope s_NoWorth_ini) [] [] f fd) (T : ExG K (He.ga K "NoWorth") "ValueError" "ValueError.__new__" "ValueError.__init__" tl_ValueError) (hno : PySem.W.findIn K (.ref (He.ga K "NoWorth")) "word" = some none) {f0 : Addr} {fd0 : FuncData} (n_B : mg "ChalkError" = some (.ref (He.ga K "ChalkError"))) (I_B : ClsI K (He.ga K "ChalkError") f0) (o_B : FnOk P w K mg base (L2.CX P w) 1 f0 fd0 ["self"] (spIni (He.ga K "NoWorth") [] [("word", .str "chalkerror")])) (b_B : Binds K fd0 ["self"] []) :
    FnOk P w K mg base (L2.CX P w) 2 f fd ["self"] (spIni (He.ga K "NoWorth") [] [("word", .str "noworth"), ("word", .str "chalkerror")]) := by
  have S := sc_NoWorth_ini
  refine F.ok S (fun vs H Q E h => ?_) (fun cdv A outer s H vs Q E hr h => ⟨tIni2 (spIni (He.ga K "NoWorth") [] [("word", .str "chalkerror")]) (WE (fun c d _ H' => E c d H')) K "word" "noworth", ?_, pure_ini2 T hno (by decide) vs H Q E h⟩)
  · obtain ⟨a, rfl, _⟩ := h
    rfl
  · have tk := tk_of (P := P) (w := w) (K := K) (mg := mg) (base := base) (N := ["self"]) (qual := "NoWorth.__init__") (sc := defScope s_NoWorth_ini) (f := f) (cd := cdv) (A := A) (outer := outer) (s := s) (H := H) (E := E)
    exact pss_cons (ps_expr (pe_ini (by rfl) n_B I_B o_B (hr.mono (by decide)) b_B (fun σ => passAt tk σ) (pa_cons (pv 0) pa_nil))) (pss_one (ps_exSt (pv 0) pe_str))
theorem sc_StillOpen_ini : FnScope ["self"] ["self"] (defScope s_StillOpen_ini) := ⟨rfl, rfl, rfl, by decide +kernel, rfl, by decide +kernel, by decide +kernel⟩
theorem ok_StillOpen_ini {f : Addr} {fd : FuncData} (F : FunD K "__init__" "StillOpen.__init__" (defArgs s_StillOpen_ini) (defBody s_StillOpen_ini) (defScope s_StillOpen_ini) [] [] f fd) (T : ExG K (He.ga K "StillOpen") "ValueError" "ValueError.__new__" "ValueError.__init__" tl_ValueError) (hno : PySem.W.findIn K (.ref (He.ga K "StillOpen")) "word" = some none) {f0 : Addr} {fd0 : FuncData} (n_B : mg "ChalkError" = some (.ref (He.ga K "ChalkError"))) (I_B : ClsI K (He.ga K "ChalkError") f0) (o_B : FnOk P w K mg base (L2.CX P w) 1 f0 fd0 ["self"] (spIni (He.ga K "StillOpen") [] [("word", .str "chalkerror")])) (b_B : Binds K fd0 ["self"] []) :
    FnOk P w K mg base (L2.CX P w) 2 f fd ["self"] (spIni (He.ga K "StillOpen") [] [("word", .str "stillopen"), ("word", .str "chalkerror")]) := by
  have S := sc_StillOpen_ini
  refine F.ok S (fun vs H Q E h => ?_) (fun cdv A outer s H vs Q E hr h => ⟨tIni2 (spIni (He.ga K "StillOpen") [] [("word", .str "chalkerror")]) (WE (fun c d _ H' => E c d H')) K "word" "stillopen", ?_, pure_ini2 T hno (by decide) vs H Q E h⟩)
  · obtain ⟨a, rfl, _⟩ := h
    rfl
  · have tk := tk_of (P := P) (w := w) (K := K) (mg := mg) (base := base) (N := ["self"]) (qual := "StillOpen.__init__") (sc := defScope s_StillOpen_ini) (f := f) (cd := cdv) (A := A) (outer := outer) (s := s) (H := H) (E := E)
    exact pss_cons (ps_expr (pe_ini (by rfl) n_B I_B o_B (hr.mono (by decide)) b_B (fun σ => passAt tk σ) (pa_cons (pv 0) pa_nil))) (pss_one (ps_exSt (pv 0) pe_str))
theorem sc_NotWhole_ini : FnScope ["self"] ["self"] (defScope s_NotWhole_ini) := ⟨rfl, rfl, rfl, by decide +kernel, rfl, by decide +kernel, by decide +kernel⟩
theorem ok_NotWhole_ini {f : Addr} {fd : FuncData} (F : FunD K "__init__" "NotWhole.__init__" (defArgs s_NotWhole_ini) (defBody s_NotWhole_ini) (defScope s_NotWhole_ini) [] [] f fd) (T : ExG K (He.ga K "NotWhole") "ValueError" "ValueError.__new__" "ValueError.__init__" tl_ValueError) (hno : PySem.W.findIn K (.ref (He.ga K "NotWhole")) "word" = some none) {f0 : Addr} {fd0 : FuncData} (n_B : mg "ChalkError" = some (.ref (He.ga K "ChalkError"))) (I_B : ClsI K (He.ga K "ChalkError") f0) (o_B : FnOk P w K mg base (L2.CX P w) 1 f0 fd0 ["self"] (spIni (He.ga K "NotWhole") [] [("word", .str "chalkerror")])) (b_B : Binds K fd0 ["self"] []) :
    FnOk P w K mg base (L2.CX P w) 2 f fd ["self"] (spIni (He.ga K "NotWhole") [] [("word", .str "notwhole"), ("word", .str "chalkerror")]) := by
  have S := sc_NotWhole_ini
  refine F.ok S (fun vs H Q E h => ?_) (fun cdv A outer s H vs Q E hr h => ⟨tIni2 (spIni (He.ga K "NotWhole") [] [("word", .str "chalkerror")]) (WE (fun c d _ H' => E c d H')) K "word" "notwhole", ?_, pure_ini2 T hno (by decide) vs H Q E h⟩)
  · obtain ⟨a, rfl, _⟩ := h
    rfl
  · have tk := tk_of (P := P) (w := w) (K := K) (mg := mg) (base := base) (N := ["self"]) (qual := "NotWhole.__init__") (sc := defScope s_NotWhole_ini) (f := f) (cd := cdv) (A := A) (outer := outer) (s := s) (H := H) (E := E)
    exact pss_cons (ps_expr (pe_ini (by rfl) n_B I_B o_B (hr.mono (by decide)) b_B (fun σ => passAt tk σ) (pa_cons (pv 0) pa_nil))) (pss_one (ps_exSt (pv 0) pe_str))
theorem sc_TooDeep_ini : FnScope ["self"] ["self"] (defScope s_TooDeep_ini) := ⟨rfl, rfl, rfl, by decide +kernel, rfl, by decide +kernel, by decide +kernel⟩
theorem ok_TooDeep_ini {f : Addr} {fd : FuncData} (F : FunD K "__init__" "TooDeep.__init__" (defArgs s_TooDeep_ini) (defBody s_TooDeep_ini) (defScope s_TooDeep_ini) [] [] f fd) (T : ExG K (He.ga K "TooDeep") "ValueError" "ValueError.__new__" "ValueError.__init__" tl_ValueError) (hno : PySem.W.findIn K (.ref (He.ga K "TooDeep")) "word" = some none) {f0 : Addr} {fd0 : FuncData} (n_B : mg "ChalkError" = some (.ref (He.ga K "ChalkError"))) (I_B : ClsI K (He.ga K "ChalkError") f0) (o_B : FnOk P w K mg base (L2.CX P w) 1 f0 fd0 ["self"] (spIni (He.ga K "TooDeep") [] [("word", .str "chalkerror")])) (b_B : Binds K fd0 ["self"] []) :
    FnOk P w K mg base (L2.CX P w) 2 f fd ["self"] (spIni (He.ga K "TooDeep") [] [("word", .str "toodeep"), ("word", .str "chalkerror")]) := by
  have S := sc_TooDeep_ini
  refine F.ok S (fun vs H Q E h => ?_) (fun cdv A outer s H vs Q E hr h => ⟨tIni2 (spIni (He.ga K "TooDeep") [] [("word", .str "chalkerror")]) (WE (fun c d _ H' => E c d H')) K "word" "toodeep", ?_, pure_ini2 T hno (by decide) vs H Q E h⟩)
  · obtain ⟨a, rfl, _⟩ := h
    rfl
  · have tk := tk_of (P := P) (w := w) (K := K) (mg := mg) (base := base) (N := ["self"]) (qual := "TooDeep.__init__") (sc := defScope s_TooDeep_ini) (f := f) (cd := cdv) (A := A) (outer := outer) (s := s) (H := H) (E := E)
    exact pss_cons (ps_expr (pe_ini (by rfl) n_B I_B o_B (hr.mono (by decide)) b_B (fun σ => passAt tk σ) (pa_cons (pv 0) pa_nil))) (pss_one (ps_exSt (pv 0) pe_str))
theorem sc_TooGreat_ini : FnScope ["self"] ["self"] (defScope s_TooGreat_ini) := ⟨rfl, rfl, rfl, by decide +kernel, rfl, by decide +kernel, by decide +kernel⟩
theorem ok_TooGreat_ini {f : Addr} {fd : FuncData} (F : FunD K "__init__" "TooGreat.__init__" (defArgs s_TooGreat_ini) (defBody s_TooGreat_ini) (defScope s_TooGreat_ini) [] [] f fd) (T : ExG K (He.ga K "TooGreat") "ValueError" "ValueError.__new__" "ValueError.__init__" tl_ValueError) (hno : PySem.W.findIn K (.ref (He.ga K "TooGreat")) "word" = some none) {f0 : Addr} {fd0 : FuncData} (n_B : mg "ChalkError" = some (.ref (He.ga K "ChalkError"))) (I_B : ClsI K (He.ga K "ChalkError") f0) (o_B : FnOk P w K mg base (L2.CX P w) 1 f0 fd0 ["self"] (spIni (He.ga K "TooGreat") [] [("word", .str "chalkerror")])) (b_B : Binds K fd0 ["self"] []) :
    FnOk P w K mg base (L2.CX P w) 2 f fd ["self"] (spIni (He.ga K "TooGreat") [] [("word", .str "toogreat"), ("word", .str "chalkerror")]) := by
  have S := sc_TooGreat_ini
  refine F.ok S (fun vs H Q E h => ?_) (fun cdv A outer s H vs Q E hr h => ⟨tIni2 (spIni (He.ga K "TooGreat") [] [("word", .str "chalkerror")]) (WE (fun c d _ H' => E c d H')) K "word" "toogreat", ?_, pure_ini2 T hno (by decide) vs H Q E h⟩)
  · obtain ⟨a, rfl, _⟩ := h
    rfl
  · have tk := tk_of (P := P) (w := w) (K := K) (mg := mg) (base := base) (N := ["self"]) (qual := "TooGreat.__init__") (sc := defScope s_TooGreat_ini) (f := f) (cd := cdv) (A := A) (outer := outer) (s := s) (H := H) (E := E)
    exact pss_cons (ps_expr (pe_ini (by rfl) n_B I_B o_B (hr.mono (by decide)) b_B (fun σ => passAt tk σ) (pa_cons (pv 0) pa_nil))) (pss_one (ps_exSt (pv 0) pe_str))
theorem sc_Ring_ini : FnScope ["self"] ["self"] (defScope s_Ring_ini) := ⟨rfl, rfl, rfl, by decide +kernel, rfl, by decide +kernel, by decide +kernel⟩
theorem ok_Ring_ini {f : Addr} {fd : FuncData} (F : FunD K "__init__" "Ring.__init__" (defArgs s_Ring_ini) (defBody s_Ring_ini) (defScope s_Ring_ini) [] [] f fd) (T : ExG K (He.ga K "Ring") "ValueError" "ValueError.__new__" "ValueError.__init__" tl_ValueError) (hno : PySem.W.findIn K (.ref (He.ga K "Ring")) "word" = some none) {f0 : Addr} {fd0 : FuncData} (n_B : mg "ChalkError" = some (.ref (He.ga K "ChalkError"))) (I_B : ClsI K (He.ga K "ChalkError") f0) (o_B : FnOk P w K mg base (L2.CX P w) 1 f0 fd0 ["self"] (spIni (He.ga K "Ring") [] [("word", .str "chalkerror")])) (b_B : Binds K fd0 ["self"] []) :
    FnOk P w K mg base (L2.CX P w) 2 f fd ["self"] (spIni (He.ga K "Ring") [] [("word", .str "ring"), ("word", .str "chalkerror")]) := by
  have S := sc_Ring_ini
  refine F.ok S (fun vs H Q E h => ?_) (fun cdv A outer s H vs Q E hr h => ⟨tIni2 (spIni (He.ga K "Ring") [] [("word", .str "chalkerror")]) (WE (fun c d _ H' => E c d H')) K "word" "ring", ?_, pure_ini2 T hno (by decide) vs H Q E h⟩)
  · obtain ⟨a, rfl, _⟩ := h
    rfl
  · have tk := tk_of (P := P) (w := w) (K := K) (mg := mg) (base := base) (N := ["self"]) (qual := "Ring.__init__") (sc := defScope s_Ring_ini) (f := f) (cd := cdv) (A := A) (outer := outer) (s := s) (H := H) (E := E)
    exact pss_cons (ps_expr (pe_ini (by rfl) n_B I_B o_B (hr.mono (by decide)) b_B (fun σ => passAt tk σ) (pa_cons (pv 0) pa_nil))) (pss_one (ps_exSt (pv 0) pe_str))
theorem sc_Full_ini : FnScope ["self"] ["self"] (defScope s_Full_ini) := ⟨rfl, rfl, rfl, by decide +kernel, rfl, by decide +kernel, by decide +kernel⟩
theorem ok_Full_ini {f : Addr} {fd : FuncData} (F : FunD K "__init__" "Full.__init__" (defArgs s_Full_ini) (defBody s_Full_ini) (defScope s_Full_ini) [] [] f fd) (T : ExG K (He.ga K "Full") "ValueError" "ValueError.__new__" "ValueError.__init__" tl_ValueError) (hno : PySem.W.findIn K (.ref (He.ga K "Full")) "word" = some none) {f0 : Addr} {fd0 : FuncData} (n_B : mg "ChalkError" = some (.ref (He.ga K "ChalkError"))) (I_B : ClsI K (He.ga K "ChalkError") f0) (o_B : FnOk P w K mg base (L2.CX P w) 1 f0 fd0 ["self"] (spIni (He.ga K "Full") [] [("word", .str "chalkerror")])) (b_B : Binds K fd0 ["self"] []) :
    FnOk P w K mg base (L2.CX P w) 2 f fd ["self"] (spIni (He.ga K "Full") [] [("word", .str "full"), ("word", .str "chalkerror")]) := by
  have S := sc_Full_ini
  refine F.ok S (fun vs H Q E h => ?_) (fun cdv A outer s H vs Q E hr h => ⟨tIni2 (spIni (He.ga K "Full") [] [("word", .str "chalkerror")]) (WE (fun c d _ H' => E c d H')) K "word" "full", ?_, pure_ini2 T hno (by decide) vs H Q E h⟩)
  · obtain ⟨a, rfl, _⟩ := h
    rfl
  · have tk := tk_of (P := P) (w := w) (K := K) (mg := mg) (base := base) (N := ["self"]) (qual := "Full.__init__") (sc := defScope s_Full_ini) (f := f) (cd := cdv) (A := A) (outer := outer) (s := s) (H := H) (E := E)
    exact pss_cons (ps_expr (pe_ini (by rfl) n_B I_B o_B (hr.mono (by decide)) b_B (fun σ => passAt tk σ) (pa_cons (pv 0) pa_nil))) (pss_one (ps_exSt (pv 0) pe_str))
theorem sc_Taken_ini : FnScope ["self"] ["self"] (defScope s_Taken_ini) := ⟨rfl, rfl, rfl, by decide +kernel, rfl, by decide +kernel, by decide +kernel⟩
theorem ok_Taken_ini {f : Addr} {fd : FuncData} (F : FunD K "__init__" "Taken.__init__" (defArgs s_Taken_ini) (defBody s_Taken_ini) (defScope s_Taken_ini) [] [] f fd) (T : ExG K (He.ga K "Taken") "ValueError" "ValueError.__new__" "ValueError.__init__" tl_ValueError) (hno : PySem.W.findIn K (.ref (He.ga K "Taken")) "word" = some none) {f0 : Addr} {fd0 : FuncData} (n_B : mg "ChalkError" = some (.ref (He.ga K "ChalkError"))) (I_B : ClsI K (He.ga K "ChalkError") f0) (o_B : FnOk P w K mg base (L2.CX P w) 1 f0 fd0 ["self"] (spIni (He.ga K "Taken") [] [("word", .str "chalkerror")])) (b_B : Binds K fd0 ["self"] []) :
    FnOk P w K mg base (L2.CX P w) 2 f fd ["self"] (spIni (He.ga K "Taken") [] [("word", .str "taken"), ("word", .str "chalkerror")]) := by
  have S := sc_Taken_ini
  refine F.ok S (fun vs H Q E h => ?_) (fun cdv A outer s H vs Q E hr h => ⟨tIni2 (spIni (He.ga K "Taken") [] [("word", .str "chalkerror")]) (WE (fun c d _ H' => E c d H')) K "word" "taken", ?_, pure_ini2 T hno (by decide) vs H Q E h⟩)
  · obtain ⟨a, rfl, _⟩ := h
    rfl
  · have tk := tk_of (P := P) (w := w) (K := K) (mg := mg) (base := base) (N := ["self"]) (qual := "Taken.__init__") (sc := defScope s_Taken_ini) (f := f) (cd := cdv) (A := A) (outer := outer) (s := s) (H := H) (E := E)
    exact pss_cons (ps_expr (pe_ini (by rfl) n_B I_B o_B (hr.mono (by decide)) b_B (fun σ => passAt tk σ) (pa_cons (pv 0) pa_nil))) (pss_one (ps_exSt (pv 0) pe_str))
theorem sc_BadName_ini : FnScope ["self"] ["self"] (defScope s_BadName_ini) := ⟨rfl, rfl, rfl, by decide +kernel, rfl, by decide +kernel, by decide +kernel⟩
theorem ok_BadName_ini {f : Addr} {fd : FuncData} (F : FunD K "__init__" "BadName.__init__" (defArgs s_BadName_ini) (defBody s_BadName_ini) (defScope s_BadName_ini) [] [] f fd) (T : ExG K (He.ga K "BadName") "ValueError" "ValueError.__new__" "ValueError.__init__" tl_ValueError) (hno : PySem.W.findIn K (.ref (He.ga K "BadName")) "word" = some none) {f0 : Addr} {fd0 : FuncData} (n_B : mg "ChalkError" = some (.ref (He.ga K "ChalkError"))) (I_B : ClsI K (He.ga K "ChalkError") f0) (o_B : FnOk P w K mg base (L2.CX P w) 1 f0 fd0 ["self"] (spIni (He.ga K "BadName") [] [("word", .str "chalkerror")])) (b_B : Binds K fd0 ["self"] []) :
    FnOk P w K mg base (L2.CX P w) 2 f fd ["self"] (spIni (He.ga K "BadName") [] [("word", .str "badname"), ("word", .str "chalkerror")]) := by
  have S := sc_BadName_ini
  refine F.ok S (fun vs H Q E h => ?_) (fun cdv A outer s H vs Q E hr h => ⟨tIni2 (spIni (He.ga K "BadName") [] [("word", .str "chalkerror")]) (WE (fun c d _ H' => E c d H')) K "word" "badname", ?_, pure_ini2 T hno (by decide) vs H Q E h⟩)
  · obtain ⟨a, rfl, _⟩ := h
    rfl
  · have tk := tk_of (P := P) (w := w) (K := K) (mg := mg) (base := base) (N := ["self"]) (qual := "BadName.__init__") (sc := defScope s_BadName_ini) (f := f) (cd := cdv) (A := A) (outer := outer) (s := s) (H := H) (E := E)
    exact pss_cons (ps_expr (pe_ini (by rfl) n_B I_B o_B (hr.mono (by decide)) b_B (fun σ => passAt tk σ) (pa_cons (pv 0) pa_nil))) (pss_one (ps_exSt (pv 0) pe_str))
theorem sc_BadKind_ini : FnScope ["self"] ["self"] (defScope s_BadKind_ini) := ⟨rfl, rfl, rfl, by decide +kernel, rfl, by decide +kernel, by decide +kernel⟩
theorem ok_BadKind_ini {f : Addr} {fd : FuncData} (F : FunD K "__init__" "BadKind.__init__" (defArgs s_BadKind_ini) (defBody s_BadKind_ini) (defScope s_BadKind_ini) [] [] f fd) (T : ExG K (He.ga K "BadKind") "ValueError" "ValueError.__new__" "ValueError.__init__" tl_ValueError) (hno : PySem.W.findIn K (.ref (He.ga K "BadKind")) "word" = some none) {f0 : Addr} {fd0 : FuncData} (n_B : mg "ChalkError" = some (.ref (He.ga K "ChalkError"))) (I_B : ClsI K (He.ga K "ChalkError") f0) (o_B : FnOk P w K mg base (L2.CX P w) 1 f0 fd0 ["self"] (spIni (He.ga K "BadKind") [] [("word", .str "chalkerror")])) (b_B : Binds K fd0 ["self"] []) :
    FnOk P w K mg base (L2.CX P w) 2 f fd ["self"] (spIni (He.ga K "BadKind") [] [("word", .str "badkind"), ("word", .str "chalkerror")]) := by
  have S := sc_BadKind_ini
  refine F.ok S (fun vs H Q E h => ?_) (fun cdv A outer s H vs Q E hr h => ⟨tIni2 (spIni (He.ga K "BadKind") [] [("word", .str "chalkerror")]) (WE (fun c d _ H' => E c d H')) K "word" "badkind", ?_, pure_ini2 T hno (by decide) vs H Q E h⟩)
  · obtain ⟨a, rfl, _⟩ := h
    rfl
  · have tk := tk_of (P := P) (w := w) (K := K) (mg := mg) (base := base) (N := ["self"]) (qual := "BadKind.__init__") (sc := defScope s_BadKind_ini) (f := f) (cd := cdv) (A := A) (outer := outer) (s := s) (H := H) (E := E)
    exact pss_cons (ps_expr (pe_ini (by rfl) n_B I_B o_B (hr.mono (by decide)) b_B (fun σ => passAt tk σ) (pa_cons (pv 0) pa_nil))) (pss_one (ps_exSt (pv 0) pe_str))
theorem sc_BadQuestion_ini : FnScope ["self"] ["self"] (defScope s_BadQuestion_ini) := ⟨rfl, rfl, rfl, by decide +kernel, rfl, by decide +kernel, by decide +kernel⟩
theorem ok_BadQuestion_ini {f : Addr} {fd : FuncData} (F : FunD K "__init__" "BadQuestion.__init__" (defArgs s_BadQuestion_ini) (defBody s_BadQuestion_ini) (defScope s_BadQuestion_ini) [] [] f fd) (T : ExG K (He.ga K "BadQuestion") "ValueError" "ValueError.__new__" "ValueError.__init__" tl_ValueError) (hno : PySem.W.findIn K (.ref (He.ga K "BadQuestion")) "word" = some none) {f0 : Addr} {fd0 : FuncData} (n_B : mg "ChalkError" = some (.ref (He.ga K "ChalkError"))) (I_B : ClsI K (He.ga K "ChalkError") f0) (o_B : FnOk P w K mg base (L2.CX P w) 1 f0 fd0 ["self"] (spIni (He.ga K "BadQuestion") [] [("word", .str "chalkerror")])) (b_B : Binds K fd0 ["self"] []) :
    FnOk P w K mg base (L2.CX P w) 2 f fd ["self"] (spIni (He.ga K "BadQuestion") [] [("word", .str "badquestion"), ("word", .str "chalkerror")]) := by
  have S := sc_BadQuestion_ini
  refine F.ok S (fun vs H Q E h => ?_) (fun cdv A outer s H vs Q E hr h => ⟨tIni2 (spIni (He.ga K "BadQuestion") [] [("word", .str "chalkerror")]) (WE (fun c d _ H' => E c d H')) K "word" "badquestion", ?_, pure_ini2 T hno (by decide) vs H Q E h⟩)
  · obtain ⟨a, rfl, _⟩ := h
    rfl
  · have tk := tk_of (P := P) (w := w) (K := K) (mg := mg) (base := base) (N := ["self"]) (qual := "BadQuestion.__init__") (sc := defScope s_BadQuestion_ini) (f := f) (cd := cdv) (A := A) (outer := outer) (s := s) (H := H) (E := E)
    exact pss_cons (ps_expr (pe_ini (by rfl) n_B I_B o_B (hr.mono (by decide)) b_B (fun σ => passAt tk σ) (pa_cons (pv 0) pa_nil))) (pss_one (ps_exSt (pv 0) pe_str))
theorem sc_BadCondition_ini : FnScope ["self"] ["self"] (defScope s_BadCondition_ini) := ⟨rfl, rfl, rfl, by decide +kernel, rfl, by decide +kernel, by decide +kernel⟩
theorem ok_BadCondition_ini {f : Addr} {fd : FuncData} (F : FunD K "__init__" "BadCondition.__init__" (defArgs s_BadCondition_ini) (defBody s_BadCondition_ini) (defScope s_BadCondition_ini) [] [] f fd) (T : ExG K (He.ga K "BadCondition") "ValueError" "ValueError.__new__" "ValueError.__init__" tl_ValueError) (hno : PySem.W.findIn K (.ref (He.ga K "BadCondition")) "word" = some none) {f0 : Addr} {fd0 : FuncData} (n_B : mg "ChalkError" = some (.ref (He.ga K "ChalkError"))) (I_B : ClsI K (He.ga K "ChalkError") f0) (o_B : FnOk P w K mg base (L2.CX P w) 1 f0 fd0 ["self"] (spIni (He.ga K "BadCondition") [] [("word", .str "chalkerror")])) (b_B : Binds K fd0 ["self"] []) :
    FnOk P w K mg base (L2.CX P w) 2 f fd ["self"] (spIni (He.ga K "BadCondition") [] [("word", .str "badcondition"), ("word", .str "chalkerror")]) := by
  have S := sc_BadCondition_ini
  refine F.ok S (fun vs H Q E h => ?_) (fun cdv A outer s H vs Q E hr h => ⟨tIni2 (spIni (He.ga K "BadCondition") [] [("word", .str "chalkerror")]) (WE (fun c d _ H' => E c d H')) K "word" "badcondition", ?_, pure_ini2 T hno (by decide) vs H Q E h⟩)
  · obtain ⟨a, rfl, _⟩ := h
    rfl
  · have tk := tk_of (P := P) (w := w) (K := K) (mg := mg) (base := base) (N := ["self"]) (qual := "BadCondition.__init__") (sc := defScope s_BadCondition_ini) (f := f) (cd := cdv) (A := A) (outer := outer) (s := s) (H := H) (E := E)
    exact pss_cons (ps_expr (pe_ini (by rfl) n_B I_B o_B (hr.mono (by decide)) b_B (fun σ => passAt tk σ) (pa_cons (pv 0) pa_nil))) (pss_one (ps_exSt (pv 0) pe_str))
theorem sc_BadRow_ini : FnScope ["self"] ["self"] (defScope s_BadRow_ini) := ⟨rfl, rfl, rfl, by decide +kernel, rfl, by decide +kernel, by decide +kernel⟩
theorem ok_BadRow_ini {f : Addr} {fd : FuncData} (F : FunD K "__init__" "BadRow.__init__" (defArgs s_BadRow_ini) (defBody s_BadRow_ini) (defScope s_BadRow_ini) [] [] f fd) (T : ExG K (He.ga K "BadRow") "ValueError" "ValueError.__new__" "ValueError.__init__" tl_ValueError) (hno : PySem.W.findIn K (.ref (He.ga K "BadRow")) "word" = some none) {f0 : Addr} {fd0 : FuncData} (n_B : mg "ChalkError" = some (.ref (He.ga K "ChalkError"))) (I_B : ClsI K (He.ga K "ChalkError") f0) (o_B : FnOk P w K mg base (L2.CX P w) 1 f0 fd0 ["self"] (spIni (He.ga K "BadRow") [] [("word", .str "chalkerror")])) (b_B : Binds K fd0 ["self"] []) :
    FnOk P w K mg base (L2.CX P w) 2 f fd ["self"] (spIni (He.ga K "BadRow") [] [("word", .str "badrow"), ("word", .str "chalkerror")]) := by
  have S := sc_BadRow_ini
  refine F.ok S (fun vs H Q E h => ?_) (fun cdv A outer s H vs Q E hr h => ⟨tIni2 (spIni (He.ga K "BadRow") [] [("word", .str "chalkerror")]) (WE (fun c d _ H' => E c d H')) K "word" "badrow", ?_, pure_ini2 T hno (by decide) vs H Q E h⟩)
  · obtain ⟨a, rfl, _⟩ := h
    rfl
  · have tk := tk_of (P := P) (w := w) (K := K) (mg := mg) (base := base) (N := ["self"]) (qual := "BadRow.__init__") (sc := defScope s_BadRow_ini) (f := f) (cd := cdv) (A := A) (outer := outer) (s := s) (H := H) (E := E)
    exact pss_cons (ps_expr (pe_ini (by rfl) n_B I_B o_B (hr.mono (by decide)) b_B (fun σ => passAt tk σ) (pa_cons (pv 0) pa_nil))) (pss_one (ps_exSt (pv 0) pe_str))
theorem sc_BadFine_ini : FnScope ["self"] ["self"] (defScope s_BadFine_ini) := ⟨rfl, rfl, rfl, by decide +kernel, rfl, by decide +kernel, by decide +kernel⟩
theorem ok_BadFine_ini {f : Addr} {fd : FuncData} (F : FunD K "__init__" "BadFine.__init__" (defArgs s_BadFine_ini) (defBody s_BadFine_ini) (defScope s_BadFine_ini) [] [] f fd) (T : ExG K (He.ga K "BadFine") "ValueError" "ValueError.__new__" "ValueError.__init__" tl_ValueError) (hno : PySem.W.findIn K (.ref (He.ga K "BadFine")) "word" = some none) {f0 : Addr} {fd0 : FuncData} (n_B : mg "ChalkError" = some (.ref (He.ga K "ChalkError"))) (I_B : ClsI K (He.ga K "ChalkError") f0) (o_B : FnOk P w K mg base (L2.CX P w) 1 f0 fd0 ["self"] (spIni (He.ga K "BadFine") [] [("word", .str "chalkerror")])) (b_B : Binds K fd0 ["self"] []) :
    FnOk P w K mg base (L2.CX P w) 2 f fd ["self"] (spIni (He.ga K "BadFine") [] [("word", .str "badfine"), ("word", .str "chalkerror")]) := by
  have S := sc_BadFine_ini
  refine F.ok S (fun vs H Q E h => ?_) (fun cdv A outer s H vs Q E hr h => ⟨tIni2 (spIni (He.ga K "BadFine") [] [("word", .str "chalkerror")]) (WE (fun c d _ H' => E c d H')) K "word" "badfine", ?_, pure_ini2 T hno (by decide) vs H Q E h⟩)
  · obtain ⟨a, rfl, _⟩ := h
    rfl
  · have tk := tk_of (P := P) (w := w) (K := K) (mg := mg) (base := base) (N := ["self"]) (qual := "BadFine.__init__") (sc := defScope s_BadFine_ini) (f := f) (cd := cdv) (A := A) (outer := outer) (s := s) (H := H) (E := E)
    exact pss_cons (ps_expr (pe_ini (by rfl) n_B I_B o_B (hr.mono (by decide)) b_B (fun σ => passAt tk σ) (pa_cons (pv 0) pa_nil))) (pss_one (ps_exSt (pv 0) pe_str))
theorem sc_BadWindow_ini : FnScope ["self"] ["self"] (defScope s_BadWindow_ini) := ⟨rfl, rfl, rfl, by decide +kernel, rfl, by decide +kernel, by decide +kernel⟩
theorem ok_BadWindow_ini {f : Addr} {fd : FuncData} (F : FunD K "__init__" "BadWindow.__init__" (defArgs s_BadWindow_ini) (defBody s_BadWindow_ini) (defScope s_BadWindow_ini) [] [] f fd) (T : ExG K (He.ga K "BadWindow") "ValueError" "ValueError.__new__" "ValueError.__init__" tl_ValueError) (hno : PySem.W.findIn K (.ref (He.ga K "BadWindow")) "word" = some none) {f0 : Addr} {fd0 : FuncData} (n_B : mg "ChalkError" = some (.ref (He.ga K "ChalkError"))) (I_B : ClsI K (He.ga K "ChalkError") f0) (o_B : FnOk P w K mg base (L2.CX P w) 1 f0 fd0 ["self"] (spIni (He.ga K "BadWindow") [] [("word", .str "chalkerror")])) (b_B : Binds K fd0 ["self"] []) :
    FnOk P w K mg base (L2.CX P w) 2 f fd ["self"] (spIni (He.ga K "BadWindow") [] [("word", .str "badwindow"), ("word", .str "chalkerror")]) := by
  have S := sc_BadWindow_ini
  refine F.ok S (fun vs H Q E h => ?_) (fun cdv A outer s H vs Q E hr h => ⟨tIni2 (spIni (He.ga K "BadWindow") [] [("word", .str "chalkerror")]) (WE (fun c d _ H' => E c d H')) K "word" "badwindow", ?_, pure_ini2 T hno (by decide) vs H Q E h⟩)
  · obtain ⟨a, rfl, _⟩ := h
    rfl
  · have tk := tk_of (P := P) (w := w) (K := K) (mg := mg) (base := base) (N := ["self"]) (qual := "BadWindow.__init__") (sc := defScope s_BadWindow_ini) (f := f) (cd := cdv) (A := A) (outer := outer) (s := s) (H := H) (E := E)
    exact pss_cons (ps_expr (pe_ini (by rfl) n_B I_B o_B (hr.mono (by decide)) b_B (fun σ => passAt tk σ) (pa_cons (pv 0) pa_nil))) (pss_one (ps_exSt (pv 0) pe_str))
theorem sc_BadStretch_ini : FnScope ["self"] ["self"] (defScope s_BadStretch_ini) := ⟨rfl, rfl, rfl, by decide +kernel, rfl, by decide +kernel, by decide +kernel⟩
theorem ok_BadStretch_ini {f : Addr} {fd : FuncData} (F : FunD K "__init__" "BadStretch.__init__" (defArgs s_BadStretch_ini) (defBody s_BadStretch_ini) (defScope s_BadStretch_ini) [] [] f fd) (T : ExG K (He.ga K "BadStretch") "ValueError" "ValueError.__new__" "ValueError.__init__" tl_ValueError) (hno : PySem.W.findIn K (.ref (He.ga K "BadStretch")) "word" = some none) {f0 : Addr} {fd0 : FuncData} (n_B : mg "ChalkError" = some (.ref (He.ga K "ChalkError"))) (I_B : ClsI K (He.ga K "ChalkError") f0) (o_B : FnOk P w K mg base (L2.CX P w) 1 f0 fd0 ["self"] (spIni (He.ga K "BadStretch") [] [("word", .str "chalkerror")])) (b_B : Binds K fd0 ["self"] []) :
    FnOk P w K mg base (L2.CX P w) 2 f fd ["self"] (spIni (He.ga K "BadStretch") [] [("word", .str "badstretch"), ("word", .str "chalkerror")]) := by
  have S := sc_BadStretch_ini
  refine F.ok S (fun vs H Q E h => ?_) (fun cdv A outer s H vs Q E hr h => ⟨tIni2 (spIni (He.ga K "BadStretch") [] [("word", .str "chalkerror")]) (WE (fun c d _ H' => E c d H')) K "word" "badstretch", ?_, pure_ini2 T hno (by decide) vs H Q E h⟩)
  · obtain ⟨a, rfl, _⟩ := h
    rfl
  · have tk := tk_of (P := P) (w := w) (K := K) (mg := mg) (base := base) (N := ["self"]) (qual := "BadStretch.__init__") (sc := defScope s_BadStretch_ini) (f := f) (cd := cdv) (A := A) (outer := outer) (s := s) (H := H) (E := E)
    exact pss_cons (ps_expr (pe_ini (by rfl) n_B I_B o_B (hr.mono (by decide)) b_B (fun σ => passAt tk σ) (pa_cons (pv 0) pa_nil))) (pss_one (ps_exSt (pv 0) pe_str))
theorem sc_BadPoly_ini : FnScope ["self"] ["self"] (defScope s_BadPoly_ini) := ⟨rfl, rfl, rfl, by decide +kernel, rfl, by decide +kernel, by decide +kernel⟩
theorem ok_BadPoly_ini {f : Addr} {fd : FuncData} (F : FunD K "__init__" "BadPoly.__init__" (defArgs s_BadPoly_ini) (defBody s_BadPoly_ini) (defScope s_BadPoly_ini) [] [] f fd) (T : ExG K (He.ga K "BadPoly") "ValueError" "ValueError.__new__" "ValueError.__init__" tl_ValueError) (hno : PySem.W.findIn K (.ref (He.ga K "BadPoly")) "word" = some none) {f0 : Addr} {fd0 : FuncData} (n_B : mg "ChalkError" = some (.ref (He.ga K "ChalkError"))) (I_B : ClsI K (He.ga K "ChalkError") f0) (o_B : FnOk P w K mg base (L2.CX P w) 1 f0 fd0 ["self"] (spIni (He.ga K "BadPoly") [] [("word", .str "chalkerror")])) (b_B : Binds K fd0 ["self"] []) :
    FnOk P w K mg base (L2.CX P w) 2 f fd ["self"] (spIni (He.ga K "BadPoly") [] [("word", .str "badpoly"), ("word", .str "chalkerror")]) := by
  have S := sc_BadPoly_ini
  refine F.ok S (fun vs H Q E h => ?_) (fun cdv A outer s H vs Q E hr h => ⟨tIni2 (spIni (He.ga K "BadPoly") [] [("word", .str "chalkerror")]) (WE (fun c d _ H' => E c d H')) K "word" "badpoly", ?_, pure_ini2 T hno (by decide) vs H Q E h⟩)
  · obtain ⟨a, rfl, _⟩ := h
    rfl
  · have tk := tk_of (P := P) (w := w) (K := K) (mg := mg) (base := base) (N := ["self"]) (qual := "BadPoly.__init__") (sc := defScope s_BadPoly_ini) (f := f) (cd := cdv) (A := A) (outer := outer) (s := s) (H := H) (E := E)
    exact pss_cons (ps_expr (pe_ini (by rfl) n_B I_B o_B (hr.mono (by decide)) b_B (fun σ => passAt tk σ) (pa_cons (pv 0) pa_nil))) (pss_one (ps_exSt (pv 0) pe_str))
theorem sc_BadText_ini : FnScope ["self"] ["self"] (defScope s_BadText_ini) := ⟨rfl, rfl, rfl, by decide +kernel, rfl, by decide +kernel, by decide +kernel⟩
theorem ok_BadText_ini {f : Addr} {fd : FuncData} (F : FunD K "__init__" "BadText.__init__" (defArgs s_BadText_ini) (defBody s_BadText_ini) (defScope s_BadText_ini) [] [] f fd) (T : ExG K (He.ga K "BadText") "ValueError" "ValueError.__new__" "ValueError.__init__" tl_ValueError) (hno : PySem.W.findIn K (.ref (He.ga K "BadText")) "word" = some none) {f0 : Addr} {fd0 : FuncData} (n_B : mg "ChalkError" = some (.ref (He.ga K "ChalkError"))) (I_B : ClsI K (He.ga K "ChalkError") f0) (o_B : FnOk P w K mg base (L2.CX P w) 1 f0 fd0 ["self"] (spIni (He.ga K "BadText") [] [("word", .str "chalkerror")])) (b_B : Binds K fd0 ["self"] []) :
    FnOk P w K mg base (L2.CX P w) 2 f fd ["self"] (spIni (He.ga K "BadText") [] [("word", .str "badtext"), ("word", .str "chalkerror")]) := by
  have S := sc_BadText_ini
  refine F.ok S (fun vs H Q E h => ?_) (fun cdv A outer s H vs Q E hr h => ⟨tIni2 (spIni (He.ga K "BadText") [] [("word", .str "chalkerror")]) (WE (fun c d _ H' => E c d H')) K "word" "badtext", ?_, pure_ini2 T hno (by decide) vs H Q E h⟩)
  · obtain ⟨a, rfl, _⟩ := h
    rfl
  · have tk := tk_of (P := P) (w := w) (K := K) (mg := mg) (base := base) (N := ["self"]) (qual := "BadText.__init__") (sc := defScope s_BadText_ini) (f := f) (cd := cdv) (A := A) (outer := outer) (s := s) (H := H) (E := E)
    exact pss_cons (ps_expr (pe_ini (by rfl) n_B I_B o_B (hr.mono (by decide)) b_B (fun σ => passAt tk σ) (pa_cons (pv 0) pa_nil))) (pss_one (ps_exSt (pv 0) pe_str))
end
/-! ### the head -/
theorem facts {w : World} {K : PySem.W.Frag} {h : Heap} {mg : Str → Option Value} {fa0 : Addr} (X : K.In h) (G : h.Ns mainGlobals mg) (hfa : mg "law" = some (.ref fa0)) (c : He.SaysX fa fn [] [] ex w h K) :
    LamX.LawAtS PySem.Challenge.rw_surechalk_k92_refusals_and_their_kinds w K CX0 9 63 "script" mg fa0 h := by
  have d := c.t.d
  obtain ⟨fd__law_bag, F__law_bag⟩ : ∃ fd, FunD K "_law_bag" "_law_bag" (defArgs s__law_bag) (defBody s__law_bag) (defScope s__law_bag) [] [] (He.ga K "_law_bag") fd := d.def_ 0 rfl
  obtain ⟨fd__law_pull, F__law_pull⟩ : ∃ fd, FunD K "_law_pull" "_law_pull" (defArgs s__law_pull) (defBody s__law_pull) (defScope s__law_pull) [] [] (He.ga K "_law_pull") fd := d.def_ 1 rfl
  obtain ⟨fd__law_same, F__law_same⟩ : ∃ fd, FunD K "_law_same" "_law_same" (defArgs s__law_same) (defBody s__law_same) (defScope s__law_same) [] [] (He.ga K "_law_same") fd := d.def_ 2 rfl
  obtain ⟨fd__law_kinds, F__law_kinds⟩ : ∃ fd, FunD K "_law_kinds" "_law_kinds" (defArgs s__law_kinds) (defBody s__law_kinds) (defScope s__law_kinds) [] [] (He.ga K "_law_kinds") fd := d.def_ 3 rfl
  obtain ⟨fd_law, F_law⟩ : ∃ fd, FunD K "law" "law" (defArgs s_law) (defBody s_law) (defScope s_law) [] [] (He.ga K "law") fd := d.def_ 4 rfl
  obtain ⟨fd_NothingLeft, F_NothingLeft⟩ : ∃ fd, FunD K "__init__" "NothingLeft.__init__" (defArgs s_NothingLeft_ini) (defBody s_NothingLeft_ini) (defScope s_NothingLeft_ini) [] [] (He.ma K (He.ga K "NothingLeft") "__init__") fd := d.def_ 5 rfl
  obtain ⟨fd_ByNought, F_ByNought⟩ : ∃ fd, FunD K "__init__" "ByNought.__init__" (defArgs s_ByNought_ini) (defBody s_ByNought_ini) (defScope s_ByNought_ini) [] [] (He.ma K (He.ga K "ByNought") "__init__") fd := d.def_ 6 rfl
  obtain ⟨fd_Missing, F_Missing⟩ : ∃ fd, FunD K "__init__" "Missing.__init__" (defArgs s_Missing_ini) (defBody s_Missing_ini) (defScope s_Missing_ini) [] [] (He.ma K (He.ga K "Missing") "__init__") fd := d.def_ 7 rfl
  obtain ⟨fd_ChalkError, F_ChalkError⟩ : ∃ fd, FunD K "__init__" "ChalkError.__init__" (defArgs s_ChalkError_ini) (defBody s_ChalkError_ini) (defScope s_ChalkError_ini) [] [] (He.ma K (He.ga K "ChalkError") "__init__") fd := d.def_ 8 rfl
  obtain ⟨fd_NoRoot, F_NoRoot⟩ : ∃ fd, FunD K "__init__" "NoRoot.__init__" (defArgs s_NoRoot_ini) (defBody s_NoRoot_ini) (defScope s_NoRoot_ini) [] [] (He.ma K (He.ga K "NoRoot") "__init__") fd := d.def_ 9 rfl
  obtain ⟨fd_NoName, F_NoName⟩ : ∃ fd, FunD K "__init__" "NoName.__init__" (defArgs s_NoName_ini) (defBody s_NoName_ini) (defScope s_NoName_ini) [] [] (He.ma K (He.ga K "NoName") "__init__") fd := d.def_ 10 rfl
  obtain ⟨fd_BadPage, F_BadPage⟩ : ∃ fd, FunD K "__init__" "BadPage.__init__" (defArgs s_BadPage_ini) (defBody s_BadPage_ini) (defScope s_BadPage_ini) [] [] (He.ma K (He.ga K "BadPage") "__init__") fd := d.def_ 11 rfl
  obtain ⟨fd_Unread, F_Unread⟩ : ∃ fd, FunD K "__init__" "Unread.__init__" (defArgs s_Unread_ini) (defBody s_Unread_ini) (defScope s_Unread_ini) [] [] (He.ma K (He.ga K "Unread") "__init__") fd := d.def_ 12 rfl
  obtain ⟨fd_Leant, F_Leant⟩ : ∃ fd, FunD K "__init__" "Leant.__init__" (defArgs s_Leant_ini) (defBody s_Leant_ini) (defScope s_Leant_ini) [] [] (He.ma K (He.ga K "Leant") "__init__") fd := d.def_ 13 rfl
  obtain ⟨fd_NoWorth, F_NoWorth⟩ : ∃ fd, FunD K "__init__" "NoWorth.__init__" (defArgs s_NoWorth_ini) (defBody s_NoWorth_ini) (defScope s_NoWorth_ini) [] [] (He.ma K (He.ga K "NoWorth") "__init__") fd := d.def_ 14 rfl
  obtain ⟨fd_StillOpen, F_StillOpen⟩ : ∃ fd, FunD K "__init__" "StillOpen.__init__" (defArgs s_StillOpen_ini) (defBody s_StillOpen_ini) (defScope s_StillOpen_ini) [] [] (He.ma K (He.ga K "StillOpen") "__init__") fd := d.def_ 15 rfl
  obtain ⟨fd_NotWhole, F_NotWhole⟩ : ∃ fd, FunD K "__init__" "NotWhole.__init__" (defArgs s_NotWhole_ini) (defBody s_NotWhole_ini) (defScope s_NotWhole_ini) [] [] (He.ma K (He.ga K "NotWhole") "__init__") fd := d.def_ 16 rfl
  obtain ⟨fd_TooDeep, F_TooDeep⟩ : ∃ fd, FunD K "__init__" "TooDeep.__init__" (defArgs s_TooDeep_ini) (defBody s_TooDeep_ini) (defScope s_TooDeep_ini) [] [] (He.ma K (He.ga K "TooDeep") "__init__") fd := d.def_ 17 rfl
  obtain ⟨fd_TooGreat, F_TooGreat⟩ : ∃ fd, FunD K "__init__" "TooGreat.__init__" (defArgs s_TooGreat_ini) (defBody s_TooGreat_ini) (defScope s_TooGreat_ini) [] [] (He.ma K (He.ga K "TooGreat") "__init__") fd := d.def_ 18 rfl
  obtain ⟨fd_Ring, F_Ring⟩ : ∃ fd, FunD K "__init__" "Ring.__init__" (defArgs s_Ring_ini) (defBody s_Ring_ini) (defScope s_Ring_ini) [] [] (He.ma K (He.ga K "Ring") "__init__") fd := d.def_ 19 rfl
  obtain ⟨fd_Full, F_Full⟩ : ∃ fd, FunD K "__init__" "Full.__init__" (defArgs s_Full_ini) (defBody s_Full_ini) (defScope s_Full_ini) [] [] (He.ma K (He.ga K "Full") "__init__") fd := d.def_ 20 rfl
  obtain ⟨fd_Taken, F_Taken⟩ : ∃ fd, FunD K "__init__" "Taken.__init__" (defArgs s_Taken_ini) (defBody s_Taken_ini) (defScope s_Taken_ini) [] [] (He.ma K (He.ga K "Taken") "__init__") fd := d.def_ 21 rfl
  obtain ⟨fd_BadName, F_BadName⟩ : ∃ fd, FunD K "__init__" "BadName.__init__" (defArgs s_BadName_ini) (defBody s_BadName_ini) (defScope s_BadName_ini) [] [] (He.ma K (He.ga K "BadName") "__init__") fd := d.def_ 22 rfl
  obtain ⟨fd_BadKind, F_BadKind⟩ : ∃ fd, FunD K "__init__" "BadKind.__init__" (defArgs s_BadKind_ini) (defBody s_BadKind_ini) (defScope s_BadKind_ini) [] [] (He.ma K (He.ga K "BadKind") "__init__") fd := d.def_ 23 rfl
  obtain ⟨fd_BadQuestion, F_BadQuestion⟩ : ∃ fd, FunD K "__init__" "BadQuestion.__init__" (defArgs s_BadQuestion_ini) (defBody s_BadQuestion_ini) (defScope s_BadQuestion_ini) [] [] (He.ma K (He.ga K "BadQuestion") "__init__") fd := d.def_ 24 rfl
  obtain ⟨fd_BadCondition, F_BadCondition⟩ : ∃ fd, FunD K "__init__" "BadCondition.__init__" (defArgs s_BadCondition_ini) (defBody s_BadCondition_ini) (defScope s_BadCondition_ini) [] [] (He.ma K (He.ga K "BadCondition") "__init__") fd := d.def_ 25 rfl
  obtain ⟨fd_BadRow, F_BadRow⟩ : ∃ fd, FunD K "__init__" "BadRow.__init__" (defArgs s_BadRow_ini) (defBody s_BadRow_ini) (defScope s_BadRow_ini) [] [] (He.ma K (He.ga K "BadRow") "__init__") fd := d.def_ 26 rfl
  obtain ⟨fd_BadFine, F_BadFine⟩ : ∃ fd, FunD K "__init__" "BadFine.__init__" (defArgs s_BadFine_ini) (defBody s_BadFine_ini) (defScope s_BadFine_ini) [] [] (He.ma K (He.ga K "BadFine") "__init__") fd := d.def_ 27 rfl
  obtain ⟨fd_BadWindow, F_BadWindow⟩ : ∃ fd, FunD K "__init__" "BadWindow.__init__" (defArgs s_BadWindow_ini) (defBody s_BadWindow_ini) (defScope s_BadWindow_ini) [] [] (He.ma K (He.ga K "BadWindow") "__init__") fd := d.def_ 28 rfl
  obtain ⟨fd_BadStretch, F_BadStretch⟩ : ∃ fd, FunD K "__init__" "BadStretch.__init__" (defArgs s_BadStretch_ini) (defBody s_BadStretch_ini) (defScope s_BadStretch_ini) [] [] (He.ma K (He.ga K "BadStretch") "__init__") fd := d.def_ 29 rfl
  obtain ⟨fd_BadPoly, F_BadPoly⟩ : ∃ fd, FunD K "__init__" "BadPoly.__init__" (defArgs s_BadPoly_ini) (defBody s_BadPoly_ini) (defScope s_BadPoly_ini) [] [] (He.ma K (He.ga K "BadPoly") "__init__") fd := d.def_ 30 rfl
  obtain ⟨fd_BadText, F_BadText⟩ : ∃ fd, FunD K "__init__" "BadText.__init__" (defArgs s_BadText_ini) (defBody s_BadText_ini) (defScope s_BadText_ini) [] [] (He.ma K (He.ga K "BadText") "__init__") fd := d.def_ 31 rfl
  have g__law_bag := He.glo_ok X G (d.fact 0 (f := .glo "_law_bag") rfl)
  have g__law_pull := He.glo_ok X G (d.fact 1 (f := .glo "_law_pull") rfl)
  have g__law_same := He.glo_ok X G (d.fact 2 (f := .glo "_law_same") rfl)
  have g__law_kinds := He.glo_ok X G (d.fact 3 (f := .glo "_law_kinds") rfl)
  have g_law := He.glo_ok X G (d.fact 4 (f := .glo "law") rfl)
  have n_NothingLeft := He.glo_ok X G (d.fact 5 (f := .glo "NothingLeft") rfl)
  have n_ByNought := He.glo_ok X G (d.fact 6 (f := .glo "ByNought") rfl)
  have n_Missing := He.glo_ok X G (d.fact 7 (f := .glo "Missing") rfl)
  have n_ChalkError := He.glo_ok X G (d.fact 8 (f := .glo "ChalkError") rfl)
  have n_NoRoot := He.glo_ok X G (d.fact 9 (f := .glo "NoRoot") rfl)
  have n_NoName := He.glo_ok X G (d.fact 10 (f := .glo "NoName") rfl)
  have n_BadPage := He.glo_ok X G (d.fact 11 (f := .glo "BadPage") rfl)
  have n_Unread := He.glo_ok X G (d.fact 12 (f := .glo "Unread") rfl)
  have n_Leant := He.glo_ok X G (d.fact 13 (f := .glo "Leant") rfl)
  have n_NoWorth := He.glo_ok X G (d.fact 14 (f := .glo "NoWorth") rfl)
  have n_StillOpen := He.glo_ok X G (d.fact 15 (f := .glo "StillOpen") rfl)
  have n_NotWhole := He.glo_ok X G (d.fact 16 (f := .glo "NotWhole") rfl)
  have n_TooDeep := He.glo_ok X G (d.fact 17 (f := .glo "TooDeep") rfl)
  have n_TooGreat := He.glo_ok X G (d.fact 18 (f := .glo "TooGreat") rfl)
  have n_Ring := He.glo_ok X G (d.fact 19 (f := .glo "Ring") rfl)
  have n_Full := He.glo_ok X G (d.fact 20 (f := .glo "Full") rfl)
  have n_Taken := He.glo_ok X G (d.fact 21 (f := .glo "Taken") rfl)
  have n_BadName := He.glo_ok X G (d.fact 22 (f := .glo "BadName") rfl)
  have n_BadKind := He.glo_ok X G (d.fact 23 (f := .glo "BadKind") rfl)
  have n_BadQuestion := He.glo_ok X G (d.fact 24 (f := .glo "BadQuestion") rfl)
  have n_BadCondition := He.glo_ok X G (d.fact 25 (f := .glo "BadCondition") rfl)
  have n_BadRow := He.glo_ok X G (d.fact 26 (f := .glo "BadRow") rfl)
  have n_BadFine := He.glo_ok X G (d.fact 27 (f := .glo "BadFine") rfl)
  have n_BadWindow := He.glo_ok X G (d.fact 28 (f := .glo "BadWindow") rfl)
  have n_BadStretch := He.glo_ok X G (d.fact 29 (f := .glo "BadStretch") rfl)
  have n_BadPoly := He.glo_ok X G (d.fact 30 (f := .glo "BadPoly") rfl)
  have n_BadText := He.glo_ok X G (d.fact 31 (f := .glo "BadText") rfl)
  have q_NothingLeft := He.exm_ok (d.fact 32 (f := .exm "NothingLeft" "NothingLeft" true) rfl)
  have q_ByNought := He.exm_ok (d.fact 33 (f := .exm "ByNought" "ByNought" true) rfl)
  have q_Missing := He.exm_ok (d.fact 34 (f := .exm "Missing" "Missing" true) rfl)
  have q_ChalkError := He.exm_ok (d.fact 35 (f := .exm "ChalkError" "ChalkError" true) rfl)
  have q_NoRoot := He.exm_ok (d.fact 36 (f := .exm "NoRoot" "NoRoot" true) rfl)
  have q_NoName := He.exm_ok (d.fact 37 (f := .exm "NoName" "NoName" true) rfl)
  have q_BadPage := He.exm_ok (d.fact 38 (f := .exm "BadPage" "BadPage" true) rfl)
  have q_Unread := He.exm_ok (d.fact 39 (f := .exm "Unread" "Unread" true) rfl)
  have q_Leant := He.exm_ok (d.fact 40 (f := .exm "Leant" "Leant" true) rfl)
  have q_NoWorth := He.exm_ok (d.fact 41 (f := .exm "NoWorth" "NoWorth" true) rfl)
  have q_StillOpen := He.exm_ok (d.fact 42 (f := .exm "StillOpen" "StillOpen" true) rfl)
  have q_NotWhole := He.exm_ok (d.fact 43 (f := .exm "NotWhole" "NotWhole" true) rfl)
  have q_TooDeep := He.exm_ok (d.fact 44 (f := .exm "TooDeep" "TooDeep" true) rfl)
  have q_TooGreat := He.exm_ok (d.fact 45 (f := .exm "TooGreat" "TooGreat" true) rfl)
  have q_Ring := He.exm_ok (d.fact 46 (f := .exm "Ring" "Ring" true) rfl)
  have q_Full := He.exm_ok (d.fact 47 (f := .exm "Full" "Full" true) rfl)
  have q_Taken := He.exm_ok (d.fact 48 (f := .exm "Taken" "Taken" true) rfl)
  have q_BadName := He.exm_ok (d.fact 49 (f := .exm "BadName" "BadName" true) rfl)
  have q_BadKind := He.exm_ok (d.fact 50 (f := .exm "BadKind" "BadKind" true) rfl)
  have q_BadQuestion := He.exm_ok (d.fact 51 (f := .exm "BadQuestion" "BadQuestion" true) rfl)
  have q_BadCondition := He.exm_ok (d.fact 52 (f := .exm "BadCondition" "BadCondition" true) rfl)
  have q_BadRow := He.exm_ok (d.fact 53 (f := .exm "BadRow" "BadRow" true) rfl)
  have q_BadFine := He.exm_ok (d.fact 54 (f := .exm "BadFine" "BadFine" true) rfl)
  have q_BadWindow := He.exm_ok (d.fact 55 (f := .exm "BadWindow" "BadWindow" true) rfl)
  have q_BadStretch := He.exm_ok (d.fact 56 (f := .exm "BadStretch" "BadStretch" true) rfl)
  have q_BadPoly := He.exm_ok (d.fact 57 (f := .exm "BadPoly" "BadPoly" true) rfl)
  have q_BadText := He.exm_ok (d.fact 58 (f := .exm "BadText" "BadText" true) rfl)
  have m_list := He.free_ok X G (d.fact 59 (f := .free "list") rfl)
  have m_len := He.free_ok X G (d.fact 60 (f := .free "len") rfl)
  have m_range := He.free_ok X G (d.fact 61 (f := .free "range") rfl)
  have m_all := He.free_ok X G (d.fact 62 (f := .free "all") rfl)
  have m_isinstance := He.free_ok X G (d.fact 63 (f := .free "isinstance") rfl)
  have m_tuple := He.free_ok X G (d.fact 64 (f := .free "tuple") rfl)
  have m_str := He.free_ok X G (d.fact 65 (f := .free "str") rfl)
  have m_int := He.free_ok X G (d.fact 66 (f := .free "int") rfl)
  have m_bool := He.free_ok X G (d.fact 67 (f := .free "bool") rfl)
  have m_IndexError := He.free_ok X G (d.fact 68 (f := .free "IndexError") rfl)
  have m_ZeroDivisionError := He.free_ok X G (d.fact 69 (f := .free "ZeroDivisionError") rfl)
  have m_LookupError := He.free_ok X G (d.fact 70 (f := .free "LookupError") rfl)
  have m_ValueError := He.free_ok X G (d.fact 71 (f := .free "ValueError") rfl)
  have hex : ex K = true := c.more
  unfold ex at hex
  simp only [Bool.and_eq_true] at hex
  obtain ⟨⟨⟨⟨⟨⟨⟨⟨⟨⟨⟨⟨⟨⟨⟨⟨⟨⟨⟨⟨⟨⟨⟨⟨⟨⟨⟨⟨⟨⟨b_NothingLeft, b_ByNought⟩, b_Missing⟩, b_ChalkError⟩, b_NoRoot⟩, b_NoName⟩, b_BadPage⟩, b_Unread⟩, b_Leant⟩, b_NoWorth⟩, b_StillOpen⟩, b_NotWhole⟩, b_TooDeep⟩, b_TooGreat⟩, b_Ring⟩, b_Full⟩, b_Taken⟩, b_BadName⟩, b_BadKind⟩, b_BadQuestion⟩, b_BadCondition⟩, b_BadRow⟩, b_BadFine⟩, b_BadWindow⟩, b_BadStretch⟩, b_BadPoly⟩, b_BadText⟩, i_Missing⟩, i_ChalkError⟩, isE⟩, xa⟩ := hex
  have t_NothingLeft := exB_ok b_NothingLeft
  have T_NothingLeft : ExG K (He.ga K "NothingLeft") "IndexError" "IndexError.__new__" "IndexError.__init__" tl_IndexError := t_NothingLeft.exg PySem.F.excBase_IndexError st_IndexError
  have t_ByNought := exB_ok b_ByNought
  have T_ByNought : ExG K (He.ga K "ByNought") "ZeroDivisionError" "ZeroDivisionError.__new__" "ZeroDivisionError.__init__" tl_ZeroDivisionError := t_ByNought.exg PySem.F.excBase_ZeroDivisionError st_ZeroDivisionError
  have t_Missing := exB_ok b_Missing
  have T_Missing : ExG K (He.ga K "Missing") "LookupError" "LookupError.__new__" "LookupError.__init__" tl_LookupError := t_Missing.exg PySem.F.excBase_LookupError st_LookupError
  have t_ChalkError := exB_ok b_ChalkError
  have T_ChalkError : ExG K (He.ga K "ChalkError") "ValueError" "ValueError.__new__" "ValueError.__init__" tl_ValueError := t_ChalkError.exg PySem.F.excBase_ValueError st_ValueError
  have t_NoRoot := exB_ok b_NoRoot
  have T_NoRoot : ExG K (He.ga K "NoRoot") "LookupError" "LookupError.__new__" "LookupError.__init__" tl_LookupError := t_NoRoot.exg PySem.F.excBase_LookupError st_LookupError
  have t_NoName := exB_ok b_NoName
  have T_NoName : ExG K (He.ga K "NoName") "LookupError" "LookupError.__new__" "LookupError.__init__" tl_LookupError := t_NoName.exg PySem.F.excBase_LookupError st_LookupError
  have t_BadPage := exB_ok b_BadPage
  have T_BadPage : ExG K (He.ga K "BadPage") "ValueError" "ValueError.__new__" "ValueError.__init__" tl_ValueError := t_BadPage.exg PySem.F.excBase_ValueError st_ValueError
  have t_Unread := exB_ok b_Unread
  have T_Unread : ExG K (He.ga K "Unread") "ValueError" "ValueError.__new__" "ValueError.__init__" tl_ValueError := t_Unread.exg PySem.F.excBase_ValueError st_ValueError
  have t_Leant := exB_ok b_Leant
  have T_Leant : ExG K (He.ga K "Leant") "ValueError" "ValueError.__new__" "ValueError.__init__" tl_ValueError := t_Leant.exg PySem.F.excBase_ValueError st_ValueError
  have t_NoWorth := exB_ok b_NoWorth
  have T_NoWorth : ExG K (He.ga K "NoWorth") "ValueError" "ValueError.__new__" "ValueError.__init__" tl_ValueError := t_NoWorth.exg PySem.F.excBase_ValueError st_ValueError
  have t_StillOpen := exB_ok b_StillOpen
  have T_StillOpen : ExG K (He.ga K "StillOpen") "ValueError" "ValueError.__new__" "ValueError.__init__" tl_ValueError := t_StillOpen.exg PySem.F.excBase_ValueError st_ValueError
  have t_NotWhole := exB_ok b_NotWhole
  have T_NotWhole : ExG K (He.ga K "NotWhole") "ValueError" "ValueError.__new__" "ValueError.__init__" tl_ValueError := t_NotWhole.exg PySem.F.excBase_ValueError st_ValueError
  have t_TooDeep := exB_ok b_TooDeep
  have T_TooDeep : ExG K (He.ga K "TooDeep") "ValueError" "ValueError.__new__" "ValueError.__init__" tl_ValueError := t_TooDeep.exg PySem.F.excBase_ValueError st_ValueError
  have t_TooGreat := exB_ok b_TooGreat
  have T_TooGreat : ExG K (He.ga K "TooGreat") "ValueError" "ValueError.__new__" "ValueError.__init__" tl_ValueError := t_TooGreat.exg PySem.F.excBase_ValueError st_ValueError
  have t_Ring := exB_ok b_Ring
  have T_Ring : ExG K (He.ga K "Ring") "ValueError" "ValueError.__new__" "ValueError.__init__" tl_ValueError := t_Ring.exg PySem.F.excBase_ValueError st_ValueError
  have t_Full := exB_ok b_Full
  have T_Full : ExG K (He.ga K "Full") "ValueError" "ValueError.__new__" "ValueError.__init__" tl_ValueError := t_Full.exg PySem.F.excBase_ValueError st_ValueError
  have t_Taken := exB_ok b_Taken
  have T_Taken : ExG K (He.ga K "Taken") "ValueError" "ValueError.__new__" "ValueError.__init__" tl_ValueError := t_Taken.exg PySem.F.excBase_ValueError st_ValueError
  have t_BadName := exB_ok b_BadName
  have T_BadName : ExG K (He.ga K "BadName") "ValueError" "ValueError.__new__" "ValueError.__init__" tl_ValueError := t_BadName.exg PySem.F.excBase_ValueError st_ValueError
  have t_BadKind := exB_ok b_BadKind
  have T_BadKind : ExG K (He.ga K "BadKind") "ValueError" "ValueError.__new__" "ValueError.__init__" tl_ValueError := t_BadKind.exg PySem.F.excBase_ValueError st_ValueError
  have t_BadQuestion := exB_ok b_BadQuestion
  have T_BadQuestion : ExG K (He.ga K "BadQuestion") "ValueError" "ValueError.__new__" "ValueError.__init__" tl_ValueError := t_BadQuestion.exg PySem.F.excBase_ValueError st_ValueError
  have t_BadCondition := exB_ok b_BadCondition
  have T_BadCondition : ExG K (He.ga K "BadCondition") "ValueError" "ValueError.__new__" "ValueError.__init__" tl_ValueError := t_BadCondition.exg PySem.F.excBase_ValueError st_ValueError
  have t_BadRow := exB_ok b_BadRow
  have T_BadRow : ExG K (He.ga K "BadRow") "ValueError" "ValueError.__new__" "ValueError.__init__" tl_ValueError := t_BadRow.exg PySem.F.excBase_ValueError st_ValueError
  have t_BadFine := exB_ok b_BadFine
  have T_BadFine : ExG K (He.ga K "BadFine") "ValueError" "ValueError.__new__" "ValueError.__init__" tl_ValueError := t_BadFine.exg PySem.F.excBase_ValueError st_ValueError
  have t_BadWindow := exB_ok b_BadWindow
  have T_BadWindow : ExG K (He.ga K "BadWindow") "ValueError" "ValueError.__new__" "ValueError.__init__" tl_ValueError := t_BadWindow.exg PySem.F.excBase_ValueError st_ValueError
  have t_BadStretch := exB_ok b_BadStretch
  have T_BadStretch : ExG K (He.ga K "BadStretch") "ValueError" "ValueError.__new__" "ValueError.__init__" tl_ValueError := t_BadStretch.exg PySem.F.excBase_ValueError st_ValueError
  have t_BadPoly := exB_ok b_BadPoly
  have T_BadPoly : ExG K (He.ga K "BadPoly") "ValueError" "ValueError.__new__" "ValueError.__init__" tl_ValueError := t_BadPoly.exg PySem.F.excBase_ValueError st_ValueError
  have t_BadText := exB_ok b_BadText
  have T_BadText : ExG K (He.ga K "BadText") "ValueError" "ValueError.__new__" "ValueError.__init__" tl_ValueError := t_BadText.exg PySem.F.excBase_ValueError st_ValueError
  have e := hfa.symm.trans g_law
  cases e
  refine ⟨fd_law, [], spLaw K, (fun p hp => by cases hp), (fun p hp => by cases hp), (fun p hp => by cases hp), fun s v => FunD.bindsA (ps := ["script"]) F_law (fun _ _ _ _ _ _ us hl => match us, hl with | [_], _ => rfl) s [v] rfl, fun H a ns hl _ _ hS => ⟨a, ns, rfl, hS, hl, fun _ => rfl⟩, fun base _ _ _ => ?_⟩
  have e_NothingLeft : ExcU PySem.Challenge.rw_surechalk_k92_refusals_and_their_kinds.prog w K mg base 1 "NothingLeft" g_NothingLeft := ⟨_, _, _, _, _, _, _, _, T_NothingLeft, t_NothingLeft.iC, t_NothingLeft.tI, ok_NothingLeft_ini F_NothingLeft T_NothingLeft (t_NothingLeft.at_ "word" (by decide)) m_IndexError, FunD.bindsN (ps := ["self"]) F_NothingLeft (fun _ _ _ _ _ _ us hl => match us, hl with | [_], _ => rfl), n_NothingLeft, fun _ _ => .cons (.str _) .nil⟩
  have v_NothingLeft : ExV PySem.Challenge.rw_surechalk_k92_refusals_and_their_kinds.prog w K mg base 1 "NothingLeft" 0 gf_NothingLeft := ExU.exV e_NothingLeft
  have e_ByNought : ExcU PySem.Challenge.rw_surechalk_k92_refusals_and_their_kinds.prog w K mg base 1 "ByNought" g_ByNought := ⟨_, _, _, _, _, _, _, _, T_ByNought, t_ByNought.iC, t_ByNought.tI, ok_ByNought_ini F_ByNought T_ByNought (t_ByNought.at_ "word" (by decide)) m_ZeroDivisionError, FunD.bindsN (ps := ["self"]) F_ByNought (fun _ _ _ _ _ _ us hl => match us, hl with | [_], _ => rfl), n_ByNought, fun _ _ => .cons (.str _) .nil⟩
  have v_ByNought : ExV PySem.Challenge.rw_surechalk_k92_refusals_and_their_kinds.prog w K mg base 1 "ByNought" 0 gf_ByNought := ExU.exV e_ByNought
  have e_Missing : ExcU PySem.Challenge.rw_surechalk_k92_refusals_and_their_kinds.prog w K mg base 1 "Missing" g_Missing := ⟨_, _, _, _, _, _, _, _, T_Missing, t_Missing.iC, t_Missing.tI, ok_Missing_ini F_Missing T_Missing (t_Missing.at_ "word" (by decide)) m_LookupError, FunD.bindsN (ps := ["self"]) F_Missing (fun _ _ _ _ _ _ us hl => match us, hl with | [_], _ => rfl), n_Missing, fun _ _ => .cons (.str _) .nil⟩
  have v_Missing : ExV PySem.Challenge.rw_surechalk_k92_refusals_and_their_kinds.prog w K mg base 1 "Missing" 0 gf_Missing := ExU.exV e_Missing
  have e_ChalkError : ExcU PySem.Challenge.rw_surechalk_k92_refusals_and_their_kinds.prog w K mg base 1 "ChalkError" g_ChalkError := ⟨_, _, _, _, _, _, _, _, T_ChalkError, t_ChalkError.iC, t_ChalkError.tI, ok_ChalkError_ini F_ChalkError T_ChalkError (t_ChalkError.at_ "word" (by decide)) m_ValueError, FunD.bindsN (ps := ["self"]) F_ChalkError (fun _ _ _ _ _ _ us hl => match us, hl with | [_], _ => rfl), n_ChalkError, fun _ _ => .cons (.str _) .nil⟩
  have v_ChalkError : ExV PySem.Challenge.rw_surechalk_k92_refusals_and_their_kinds.prog w K mg base 1 "ChalkError" 0 gf_ChalkError := ExU.exV e_ChalkError
  have e_NoRoot : ExcU PySem.Challenge.rw_surechalk_k92_refusals_and_their_kinds.prog w K mg base 2 "NoRoot" g_NoRoot := ⟨_, _, _, _, _, _, _, _, T_NoRoot, t_NoRoot.iC, t_NoRoot.tI, ok_NoRoot_ini F_NoRoot T_NoRoot (t_NoRoot.at_ "word" (by decide)) n_Missing (cbB_ok i_Missing) (ok_Missing_ini F_Missing T_NoRoot (t_NoRoot.at_ "word" (by decide)) m_LookupError) (FunD.bindsN (ps := ["self"]) F_Missing (fun _ _ _ _ _ _ us hl => match us, hl with | [_], _ => rfl)), FunD.bindsN (ps := ["self"]) F_NoRoot (fun _ _ _ _ _ _ us hl => match us, hl with | [_], _ => rfl), n_NoRoot, fun _ _ => .cons (.str _) (.cons (.str _) .nil)⟩
  have v_NoRoot : ExV PySem.Challenge.rw_surechalk_k92_refusals_and_their_kinds.prog w K mg base 2 "NoRoot" 0 gf_NoRoot := ExU.exV e_NoRoot
  have v_NoName : ExV PySem.Challenge.rw_surechalk_k92_refusals_and_their_kinds.prog w K mg base 2 "NoName" 1 gf_NoName := ⟨_, _, _, _, _, _, _, gv_NoName, T_NoName, t_NoName.iC, t_NoName.tI, (fun vs hv => match vs, hv with | [v], _ => ok_NoName_ini F_NoName T_NoName (t_NoName.at_ "word" (by decide)) (t_NoName.at_ "name" (by decide)) n_Missing (cbB_ok i_Missing) (ok_Missing_ini F_Missing T_NoName (t_NoName.at_ "word" (by decide)) m_LookupError) (FunD.bindsN (ps := ["self"]) F_Missing (fun _ _ _ _ _ _ us hl => match us, hl with | [_], _ => rfl)) v), FunD.bindsN (ps := ["self", "name"]) F_NoName (fun _ _ _ _ _ _ us hl => match us, hl with | [_, _], _ => rfl), n_NoName, by decide, fun B F vs ds r => rp_NoName r⟩
  have v_BadPage : ExV PySem.Challenge.rw_surechalk_k92_refusals_and_their_kinds.prog w K mg base 2 "BadPage" 1 gf_BadPage := ⟨_, _, _, _, _, _, _, gv_BadPage, T_BadPage, t_BadPage.iC, t_BadPage.tI, (fun vs hv => match vs, hv with | [v], _ => ok_BadPage_ini F_BadPage T_BadPage (t_BadPage.at_ "word" (by decide)) (t_BadPage.at_ "row" (by decide)) n_ChalkError (cbB_ok i_ChalkError) (ok_ChalkError_ini F_ChalkError T_BadPage (t_BadPage.at_ "word" (by decide)) m_ValueError) (FunD.bindsN (ps := ["self"]) F_ChalkError (fun _ _ _ _ _ _ us hl => match us, hl with | [_], _ => rfl)) v), FunD.bindsN (ps := ["self", "row"]) F_BadPage (fun _ _ _ _ _ _ us hl => match us, hl with | [_, _], _ => rfl), n_BadPage, by decide, fun B F vs ds r => rp_BadPage r⟩
  have v_Unread : ExV PySem.Challenge.rw_surechalk_k92_refusals_and_their_kinds.prog w K mg base 2 "Unread" 1 gf_Unread := ⟨_, _, _, _, _, _, _, gv_Unread, T_Unread, t_Unread.iC, t_Unread.tI, (fun vs hv => match vs, hv with | [v], _ => ok_Unread_ini F_Unread T_Unread (t_Unread.at_ "word" (by decide)) (t_Unread.at_ "at" (by decide)) n_ChalkError (cbB_ok i_ChalkError) (ok_ChalkError_ini F_ChalkError T_Unread (t_Unread.at_ "word" (by decide)) m_ValueError) (FunD.bindsN (ps := ["self"]) F_ChalkError (fun _ _ _ _ _ _ us hl => match us, hl with | [_], _ => rfl)) v), FunD.bindsN (ps := ["self", "at"]) F_Unread (fun _ _ _ _ _ _ us hl => match us, hl with | [_, _], _ => rfl), n_Unread, by decide, fun B F vs ds r => rp_Unread r⟩
  have v_Leant : ExV PySem.Challenge.rw_surechalk_k92_refusals_and_their_kinds.prog w K mg base 2 "Leant" 1 gf_Leant := ⟨_, _, _, _, _, _, _, gv_Leant, T_Leant, t_Leant.iC, t_Leant.tI, (fun vs hv => match vs, hv with | [v], _ => ok_Leant_ini F_Leant T_Leant (t_Leant.at_ "word" (by decide)) (t_Leant.at_ "name" (by decide)) n_ChalkError (cbB_ok i_ChalkError) (ok_ChalkError_ini F_ChalkError T_Leant (t_Leant.at_ "word" (by decide)) m_ValueError) (FunD.bindsN (ps := ["self"]) F_ChalkError (fun _ _ _ _ _ _ us hl => match us, hl with | [_], _ => rfl)) v), FunD.bindsN (ps := ["self", "name"]) F_Leant (fun _ _ _ _ _ _ us hl => match us, hl with | [_, _], _ => rfl), n_Leant, by decide, fun B F vs ds r => rp_Leant r⟩
  have e_NoWorth : ExcU PySem.Challenge.rw_surechalk_k92_refusals_and_their_kinds.prog w K mg base 2 "NoWorth" g_NoWorth := ⟨_, _, _, _, _, _, _, _, T_NoWorth, t_NoWorth.iC, t_NoWorth.tI, ok_NoWorth_ini F_NoWorth T_NoWorth (t_NoWorth.at_ "word" (by decide)) n_ChalkError (cbB_ok i_ChalkError) (ok_ChalkError_ini F_ChalkError T_NoWorth (t_NoWorth.at_ "word" (by decide)) m_ValueError) (FunD.bindsN (ps := ["self"]) F_ChalkError (fun _ _ _ _ _ _ us hl => match us, hl with | [_], _ => rfl)), FunD.bindsN (ps := ["self"]) F_NoWorth (fun _ _ _ _ _ _ us hl => match us, hl with | [_], _ => rfl), n_NoWorth, fun _ _ => .cons (.str _) (.cons (.str _) .nil)⟩
  have v_NoWorth : ExV PySem.Challenge.rw_surechalk_k92_refusals_and_their_kinds.prog w K mg base 2 "NoWorth" 0 gf_NoWorth := ExU.exV e_NoWorth
  have e_StillOpen : ExcU PySem.Challenge.rw_surechalk_k92_refusals_and_their_kinds.prog w K mg base 2 "StillOpen" g_StillOpen := ⟨_, _, _, _, _, _, _, _, T_StillOpen, t_StillOpen.iC, t_StillOpen.tI, ok_StillOpen_ini F_StillOpen T_StillOpen (t_StillOpen.at_ "word" (by decide)) n_ChalkError (cbB_ok i_ChalkError) (ok_ChalkError_ini F_ChalkError T_StillOpen (t_StillOpen.at_ "word" (by decide)) m_ValueError) (FunD.bindsN (ps := ["self"]) F_ChalkError (fun _ _ _ _ _ _ us hl => match us, hl with | [_], _ => rfl)), FunD.bindsN (ps := ["self"]) F_StillOpen (fun _ _ _ _ _ _ us hl => match us, hl with | [_], _ => rfl), n_StillOpen, fun _ _ => .cons (.str _) (.cons (.str _) .nil)⟩
  have v_StillOpen : ExV PySem.Challenge.rw_surechalk_k92_refusals_and_their_kinds.prog w K mg base 2 "StillOpen" 0 gf_StillOpen := ExU.exV e_StillOpen
  have e_NotWhole : ExcU PySem.Challenge.rw_surechalk_k92_refusals_and_their_kinds.prog w K mg base 2 "NotWhole" g_NotWhole := ⟨_, _, _, _, _, _, _, _, T_NotWhole, t_NotWhole.iC, t_NotWhole.tI, ok_NotWhole_ini F_NotWhole T_NotWhole (t_NotWhole.at_ "word" (by decide)) n_ChalkError (cbB_ok i_ChalkError) (ok_ChalkError_ini F_ChalkError T_NotWhole (t_NotWhole.at_ "word" (by decide)) m_ValueError) (FunD.bindsN (ps := ["self"]) F_ChalkError (fun _ _ _ _ _ _ us hl => match us, hl with | [_], _ => rfl)), FunD.bindsN (ps := ["self"]) F_NotWhole (fun _ _ _ _ _ _ us hl => match us, hl with | [_], _ => rfl), n_NotWhole, fun _ _ => .cons (.str _) (.cons (.str _) .nil)⟩
  have v_NotWhole : ExV PySem.Challenge.rw_surechalk_k92_refusals_and_their_kinds.prog w K mg base 2 "NotWhole" 0 gf_NotWhole := ExU.exV e_NotWhole
  have e_TooDeep : ExcU PySem.Challenge.rw_surechalk_k92_refusals_and_their_kinds.prog w K mg base 2 "TooDeep" g_TooDeep := ⟨_, _, _, _, _, _, _, _, T_TooDeep, t_TooDeep.iC, t_TooDeep.tI, ok_TooDeep_ini F_TooDeep T_TooDeep (t_TooDeep.at_ "word" (by decide)) n_ChalkError (cbB_ok i_ChalkError) (ok_ChalkError_ini F_ChalkError T_TooDeep (t_TooDeep.at_ "word" (by decide)) m_ValueError) (FunD.bindsN (ps := ["self"]) F_ChalkError (fun _ _ _ _ _ _ us hl => match us, hl with | [_], _ => rfl)), FunD.bindsN (ps := ["self"]) F_TooDeep (fun _ _ _ _ _ _ us hl => match us, hl with | [_], _ => rfl), n_TooDeep, fun _ _ => .cons (.str _) (.cons (.str _) .nil)⟩
  have v_TooDeep : ExV PySem.Challenge.rw_surechalk_k92_refusals_and_their_kinds.prog w K mg base 2 "TooDeep" 0 gf_TooDeep := ExU.exV e_TooDeep
  have e_TooGreat : ExcU PySem.Challenge.rw_surechalk_k92_refusals_and_their_kinds.prog w K mg base 2 "TooGreat" g_TooGreat := ⟨_, _, _, _, _, _, _, _, T_TooGreat, t_TooGreat.iC, t_TooGreat.tI, ok_TooGreat_ini F_TooGreat T_TooGreat (t_TooGreat.at_ "word" (by decide)) n_ChalkError (cbB_ok i_ChalkError) (ok_ChalkError_ini F_ChalkError T_TooGreat (t_TooGreat.at_ "word" (by decide)) m_ValueError) (FunD.bindsN (ps := ["self"]) F_ChalkError (fun _ _ _ _ _ _ us hl => match us, hl with | [_], _ => rfl)), FunD.bindsN (ps := ["self"]) F_TooGreat (fun _ _ _ _ _ _ us hl => match us, hl with | [_], _ => rfl), n_TooGreat, fun _ _ => .cons (.str _) (.cons (.str _) .nil)⟩
  have v_TooGreat : ExV PySem.Challenge.rw_surechalk_k92_refusals_and_their_kinds.prog w K mg base 2 "TooGreat" 0 gf_TooGreat := ExU.exV e_TooGreat
  have e_Ring : ExcU PySem.Challenge.rw_surechalk_k92_refusals_and_their_kinds.prog w K mg base 2 "Ring" g_Ring := ⟨_, _, _, _, _, _, _, _, T_Ring, t_Ring.iC, t_Ring.tI, ok_Ring_ini F_Ring T_Ring (t_Ring.at_ "word" (by decide)) n_ChalkError (cbB_ok i_ChalkError) (ok_ChalkError_ini F_ChalkError T_Ring (t_Ring.at_ "word" (by decide)) m_ValueError) (FunD.bindsN (ps := ["self"]) F_ChalkError (fun _ _ _ _ _ _ us hl => match us, hl with | [_], _ => rfl)), FunD.bindsN (ps := ["self"]) F_Ring (fun _ _ _ _ _ _ us hl => match us, hl with | [_], _ => rfl), n_Ring, fun _ _ => .cons (.str _) (.cons (.str _) .nil)⟩
  have v_Ring : ExV PySem.Challenge.rw_surechalk_k92_refusals_and_their_kinds.prog w K mg base 2 "Ring" 0 gf_Ring := ExU.exV e_Ring
  have e_Full : ExcU PySem.Challenge.rw_surechalk_k92_refusals_and_their_kinds.prog w K mg base 2 "Full" g_Full := ⟨_, _, _, _, _, _, _, _, T_Full, t_Full.iC, t_Full.tI, ok_Full_ini F_Full T_Full (t_Full.at_ "word" (by decide)) n_ChalkError (cbB_ok i_ChalkError) (ok_ChalkError_ini F_ChalkError T_Full (t_Full.at_ "word" (by decide)) m_ValueError) (FunD.bindsN (ps := ["self"]) F_ChalkError (fun _ _ _ _ _ _ us hl => match us, hl with | [_], _ => rfl)), FunD.bindsN (ps := ["self"]) F_Full (fun _ _ _ _ _ _ us hl => match us, hl with | [_], _ => rfl), n_Full, fun _ _ => .cons (.str _) (.cons (.str _) .nil)⟩
  have v_Full : ExV PySem.Challenge.rw_surechalk_k92_refusals_and_their_kinds.prog w K mg base 2 "Full" 0 gf_Full := ExU.exV e_Full
  have e_Taken : ExcU PySem.Challenge.rw_surechalk_k92_refusals_and_their_kinds.prog w K mg base 2 "Taken" g_Taken := ⟨_, _, _, _, _, _, _, _, T_Taken, t_Taken.iC, t_Taken.tI, ok_Taken_ini F_Taken T_Taken (t_Taken.at_ "word" (by decide)) n_ChalkError (cbB_ok i_ChalkError) (ok_ChalkError_ini F_ChalkError T_Taken (t_Taken.at_ "word" (by decide)) m_ValueError) (FunD.bindsN (ps := ["self"]) F_ChalkError (fun _ _ _ _ _ _ us hl => match us, hl with | [_], _ => rfl)), FunD.bindsN (ps := ["self"]) F_Taken (fun _ _ _ _ _ _ us hl => match us, hl with | [_], _ => rfl), n_Taken, fun _ _ => .cons (.str _) (.cons (.str _) .nil)⟩
  have v_Taken : ExV PySem.Challenge.rw_surechalk_k92_refusals_and_their_kinds.prog w K mg base 2 "Taken" 0 gf_Taken := ExU.exV e_Taken
  have e_BadName : ExcU PySem.Challenge.rw_surechalk_k92_refusals_and_their_kinds.prog w K mg base 2 "BadName" g_BadName := ⟨_, _, _, _, _, _, _, _, T_BadName, t_BadName.iC, t_BadName.tI, ok_BadName_ini F_BadName T_BadName (t_BadName.at_ "word" (by decide)) n_ChalkError (cbB_ok i_ChalkError) (ok_ChalkError_ini F_ChalkError T_BadName (t_BadName.at_ "word" (by decide)) m_ValueError) (FunD.bindsN (ps := ["self"]) F_ChalkError (fun _ _ _ _ _ _ us hl => match us, hl with | [_], _ => rfl)), FunD.bindsN (ps := ["self"]) F_BadName (fun _ _ _ _ _ _ us hl => match us, hl with | [_], _ => rfl), n_BadName, fun _ _ => .cons (.str _) (.cons (.str _) .nil)⟩
  have v_BadName : ExV PySem.Challenge.rw_surechalk_k92_refusals_and_their_kinds.prog w K mg base 2 "BadName" 0 gf_BadName := ExU.exV e_BadName
  have e_BadKind : ExcU PySem.Challenge.rw_surechalk_k92_refusals_and_their_kinds.prog w K mg base 2 "BadKind" g_BadKind := ⟨_, _, _, _, _, _, _, _, T_BadKind, t_BadKind.iC, t_BadKind.tI, ok_BadKind_ini F_BadKind T_BadKind (t_BadKind.at_ "word" (by decide)) n_ChalkError (cbB_ok i_ChalkError) (ok_ChalkError_ini F_ChalkError T_BadKind (t_BadKind.at_ "word" (by decide)) m_ValueError) (FunD.bindsN (ps := ["self"]) F_ChalkError (fun _ _ _ _ _ _ us hl => match us, hl with | [_], _ => rfl)), FunD.bindsN (ps := ["self"]) F_BadKind (fun _ _ _ _ _ _ us hl => match us, hl with | [_], _ => rfl), n_BadKind, fun _ _ => .cons (.str _) (.cons (.str _) .nil)⟩
  have v_BadKind : ExV PySem.Challenge.rw_surechalk_k92_refusals_and_their_kinds.prog w K mg base 2 "BadKind" 0 gf_BadKind := ExU.exV e_BadKind
  have e_BadQuestion : ExcU PySem.Challenge.rw_surechalk_k92_refusals_and_their_kinds.prog w K mg base 2 "BadQuestion" g_BadQuestion := ⟨_, _, _, _, _, _, _, _, T_BadQuestion, t_BadQuestion.iC, t_BadQuestion.tI, ok_BadQuestion_ini F_BadQuestion T_BadQuestion (t_BadQuestion.at_ "word" (by decide)) n_ChalkError (cbB_ok i_ChalkError) (ok_ChalkError_ini F_ChalkError T_BadQuestion (t_BadQuestion.at_ "word" (by decide)) m_ValueError) (FunD.bindsN (ps := ["self"]) F_ChalkError (fun _ _ _ _ _ _ us hl => match us, hl with | [_], _ => rfl)), FunD.bindsN (ps := ["self"]) F_BadQuestion (fun _ _ _ _ _ _ us hl => match us, hl with | [_], _ => rfl), n_BadQuestion, fun _ _ => .cons (.str _) (.cons (.str _) .nil)⟩
  have v_BadQuestion : ExV PySem.Challenge.rw_surechalk_k92_refusals_and_their_kinds.prog w K mg base 2 "BadQuestion" 0 gf_BadQuestion := ExU.exV e_BadQuestion
  have e_BadCondition : ExcU PySem.Challenge.rw_surechalk_k92_refusals_and_their_kinds.prog w K mg base 2 "BadCondition" g_BadCondition := ⟨_, _, _, _, _, _, _, _, T_BadCondition, t_BadCondition.iC, t_BadCondition.tI, ok_BadCondition_ini F_BadCondition T_BadCondition (t_BadCondition.at_ "word" (by decide)) n_ChalkError (cbB_ok i_ChalkError) (ok_ChalkError_ini F_ChalkError T_BadCondition (t_BadCondition.at_ "word" (by decide)) m_ValueError) (FunD.bindsN (ps := ["self"]) F_ChalkError (fun _ _ _ _ _ _ us hl => match us, hl with | [_], _ => rfl)), FunD.bindsN (ps := ["self"]) F_BadCondition (fun _ _ _ _ _ _ us hl => match us, hl with | [_], _ => rfl), n_BadCondition, fun _ _ => .cons (.str _) (.cons (.str _) .nil)⟩
  have v_BadCondition : ExV PySem.Challenge.rw_surechalk_k92_refusals_and_their_kinds.prog w K mg base 2 "BadCondition" 0 gf_BadCondition := ExU.exV e_BadCondition
  have e_BadRow : ExcU PySem.Challenge.rw_surechalk_k92_refusals_and_their_kinds.prog w K mg base 2 "BadRow" g_BadRow := ⟨_, _, _, _, _, _, _, _, T_BadRow, t_BadRow.iC, t_BadRow.tI, ok_BadRow_ini F_BadRow T_BadRow (t_BadRow.at_ "word" (by decide)) n_ChalkError (cbB_ok i_ChalkError) (ok_ChalkError_ini F_ChalkError T_BadRow (t_BadRow.at_ "word" (by decide)) m_ValueError) (FunD.bindsN (ps := ["self"]) F_ChalkError (fun _ _ _ _ _ _ us hl => match us, hl with | [_], _ => rfl)), FunD.bindsN (ps := ["self"]) F_BadRow (fun _ _ _ _ _ _ us hl => match us, hl with | [_], _ => rfl), n_BadRow, fun _ _ => .cons (.str _) (.cons (.str _) .nil)⟩
  have v_BadRow : ExV PySem.Challenge.rw_surechalk_k92_refusals_and_their_kinds.prog w K mg base 2 "BadRow" 0 gf_BadRow := ExU.exV e_BadRow
  have e_BadFine : ExcU PySem.Challenge.rw_surechalk_k92_refusals_and_their_kinds.prog w K mg base 2 "BadFine" g_BadFine := ⟨_, _, _, _, _, _, _, _, T_BadFine, t_BadFine.iC, t_BadFine.tI, ok_BadFine_ini F_BadFine T_BadFine (t_BadFine.at_ "word" (by decide)) n_ChalkError (cbB_ok i_ChalkError) (ok_ChalkError_ini F_ChalkError T_BadFine (t_BadFine.at_ "word" (by decide)) m_ValueError) (FunD.bindsN (ps := ["self"]) F_ChalkError (fun _ _ _ _ _ _ us hl => match us, hl with | [_], _ => rfl)), FunD.bindsN (ps := ["self"]) F_BadFine (fun _ _ _ _ _ _ us hl => match us, hl with | [_], _ => rfl), n_BadFine, fun _ _ => .cons (.str _) (.cons (.str _) .nil)⟩
  have v_BadFine : ExV PySem.Challenge.rw_surechalk_k92_refusals_and_their_kinds.prog w K mg base 2 "BadFine" 0 gf_BadFine := ExU.exV e_BadFine
  have e_BadWindow : ExcU PySem.Challenge.rw_surechalk_k92_refusals_and_their_kinds.prog w K mg base 2 "BadWindow" g_BadWindow := ⟨_, _, _, _, _, _, _, _, T_BadWindow, t_BadWindow.iC, t_BadWindow.tI, ok_BadWindow_ini F_BadWindow T_BadWindow (t_BadWindow.at_ "word" (by decide)) n_ChalkError (cbB_ok i_ChalkError) (ok_ChalkError_ini F_ChalkError T_BadWindow (t_BadWindow.at_ "word" (by decide)) m_ValueError) (FunD.bindsN (ps := ["self"]) F_ChalkError (fun _ _ _ _ _ _ us hl => match us, hl with | [_], _ => rfl)), FunD.bindsN (ps := ["self"]) F_BadWindow (fun _ _ _ _ _ _ us hl => match us, hl with | [_], _ => rfl), n_BadWindow, fun _ _ => .cons (.str _) (.cons (.str _) .nil)⟩
  have v_BadWindow : ExV PySem.Challenge.rw_surechalk_k92_refusals_and_their_kinds.prog w K mg base 2 "BadWindow" 0 gf_BadWindow := ExU.exV e_BadWindow
  have e_BadStretch : ExcU PySem.Challenge.rw_surechalk_k92_refusals_and_their_kinds.prog w K mg base 2 "BadStretch" g_BadStretch := ⟨_, _, _, _, _, _, _, _, T_BadStretch, t_BadStretch.iC, t_BadStretch.tI, ok_BadStretch_ini F_BadStretch T_BadStretch (t_BadStretch.at_ "word" (by decide)) n_ChalkError (cbB_ok i_ChalkError) (ok_ChalkError_ini F_ChalkError T_BadStretch (t_BadStretch.at_ "word" (by decide)) m_ValueError) (FunD.bindsN (ps := ["self"]) F_ChalkError (fun _ _ _ _ _ _ us hl => match us, hl with | [_], _ => rfl)), FunD.bindsN (ps := ["self"]) F_BadStretch (fun _ _ _ _ _ _ us hl => match us, hl with | [_], _ => rfl), n_BadStretch, fun _ _ => .cons (.str _) (.cons (.str _) .nil)⟩
  have v_BadStretch : ExV PySem.Challenge.rw_surechalk_k92_refusals_and_their_kinds.prog w K mg base 2 "BadStretch" 0 gf_BadStretch := ExU.exV e_BadStretch
  have e_BadPoly : ExcU PySem.Challenge.rw_surechalk_k92_refusals_and_their_kinds.prog w K mg base 2 "BadPoly" g_BadPoly := ⟨_, _, _, _, _, _, _, _, T_BadPoly, t_BadPoly.iC, t_BadPoly.tI, ok_BadPoly_ini F_BadPoly T_BadPoly (t_BadPoly.at_ "word" (by decide)) n_ChalkError (cbB_ok i_ChalkError) (ok_ChalkError_ini F_ChalkError T_BadPoly (t_BadPoly.at_ "word" (by decide)) m_ValueError) (FunD.bindsN (ps := ["self"]) F_ChalkError (fun _ _ _ _ _ _ us hl => match us, hl with | [_], _ => rfl)), FunD.bindsN (ps := ["self"]) F_BadPoly (fun _ _ _ _ _ _ us hl => match us, hl with | [_], _ => rfl), n_BadPoly, fun _ _ => .cons (.str _) (.cons (.str _) .nil)⟩
  have v_BadPoly : ExV PySem.Challenge.rw_surechalk_k92_refusals_and_their_kinds.prog w K mg base 2 "BadPoly" 0 gf_BadPoly := ExU.exV e_BadPoly
  have e_BadText : ExcU PySem.Challenge.rw_surechalk_k92_refusals_and_their_kinds.prog w K mg base 2 "BadText" g_BadText := ⟨_, _, _, _, _, _, _, _, T_BadText, t_BadText.iC, t_BadText.tI, ok_BadText_ini F_BadText T_BadText (t_BadText.at_ "word" (by decide)) n_ChalkError (cbB_ok i_ChalkError) (ok_ChalkError_ini F_ChalkError T_BadText (t_BadText.at_ "word" (by decide)) m_ValueError) (FunD.bindsN (ps := ["self"]) F_ChalkError (fun _ _ _ _ _ _ us hl => match us, hl with | [_], _ => rfl)), FunD.bindsN (ps := ["self"]) F_BadText (fun _ _ _ _ _ _ us hl => match us, hl with | [_], _ => rfl), n_BadText, fun _ _ => .cons (.str _) (.cons (.str _) .nil)⟩
  have v_BadText : ExV PySem.Challenge.rw_surechalk_k92_refusals_and_their_kinds.prog w K mg base 2 "BadText" 0 gf_BadText := ExU.exV e_BadText
  have o__law_bag := ok__law_bag (P := PySem.Challenge.rw_surechalk_k92_refusals_and_their_kinds.prog) (w := w) (base := base) F__law_bag m_list
  have c__law_pull : CalD PySem.Challenge.rw_surechalk_k92_refusals_and_their_kinds.prog w K mg base 1 "_law_pull" (w__law_pull K) := cal0 F__law_pull g__law_pull (FunD.bindsN (ps := ["bag", "many"]) F__law_pull (fun _ _ _ _ _ _ us hl => match us, hl with | [_, _], _ => rfl)) (ok__law_pull F__law_pull m_len)
  have o__law_same : ∀ n : Nat, CalD PySem.Challenge.rw_surechalk_k92_refusals_and_their_kinds.prog w K mg base (n + 0) "_law_same" (wr__law_same n) := fun n => by
    induction n with
    | zero => exact cal0 F__law_same g__law_same (FunD.bindsN (ps := ["found", "due"]) F__law_same (fun _ _ _ _ _ _ us hl => match us, hl with | [_, _], _ => rfl)) (fn_none fun _ _ _ h => z__law_same h)
    | succ n ih => exact cal0 F__law_same g__law_same (FunD.bindsN (ps := ["found", "due"]) F__law_same (fun _ _ _ _ _ _ us hl => match us, hl with | [_, _], _ => rfl)) ((ok__law_same (P := PySem.Challenge.rw_surechalk_k92_refusals_and_their_kinds.prog) (w := w) (base := base) F__law_same m_len m_range m_all m_list m_isinstance m_tuple m_str m_int m_bool ih).mono (by omega))
  have c__law_same : CalD PySem.Challenge.rw_surechalk_k92_refusals_and_their_kinds.prog w K mg base 8 "_law_same" (w__law_same K) := o__law_same 8
  have c__law_kinds : CalD PySem.Challenge.rw_surechalk_k92_refusals_and_their_kinds.prog w K mg base 1 "_law_kinds" (w__law_kinds K) := cal0 F__law_kinds g__law_kinds (FunD.bindsN (ps := ["one"]) F__law_kinds (fun _ _ _ _ _ _ us hl => match us, hl with | [_], _ => rfl)) (ok__law_kinds F__law_kinds m_len m_isinstance m_IndexError m_ZeroDivisionError m_LookupError m_ValueError n_BadRow n_BadText n_NoName n_BadName n_Missing n_ChalkError (iseB_ok isE))
  exact ok_law F_law g__law_bag F__law_bag.kp (FunD.bindsN (ps := ["script"]) F__law_bag (fun _ _ _ _ _ _ us hl => match us, hl with | [_], _ => rfl)) o__law_bag c__law_same c__law_kinds c__law_pull m_range m_len m_int v_NothingLeft v_ByNought v_Missing v_ChalkError v_NoRoot v_NoName v_BadPage v_Unread v_Leant v_NoWorth v_StillOpen v_NotWhole v_TooDeep v_TooGreat v_Ring v_Full v_Taken v_BadName v_BadKind v_BadQuestion v_BadCondition v_BadRow v_BadFine v_BadWindow v_BadStretch v_BadPoly v_BadText xa
end T92
open PySem PySem.W PySem.Calls PyProof.Rows
theorem PySem.Challenge.cw_surechalk_k92_refusals_and_their_kinds_holds : PySem.Challenge.rw_surechalk_k92_refusals_and_their_kinds.Holds := by
  w_on; o_law
  refine HandSHeadRun.head_any (r := OpenLaw.row PySem.Challenge.rw_surechalk_k92_refusals_and_their_kinds) (q := view (OpenLaw.row PySem.Challenge.rw_surechalk_k92_refusals_and_their_kinds).prog [33]) (H := T92.hk) (ob := T92.ob) (M := 20000) (loose := T92.names) (d := HandSHeadRun.topDef (OpenLaw.row PySem.Challenge.rw_surechalk_k92_refusals_and_their_kinds).prog 33) (kwd := []) T92.ob_eq
    (by kernel_rfl) (fun s => by kernel_rfl) T92.run (by kernel_rfl) (by kernel_rfl) (by kernel_rfl) (by rfl) (by first | assumption | decide +kernel) (by decide +kernel) ⟨rfl, rfl, rfl, rfl, rfl, by decide +kernel⟩ ?hw ?hc
  case hw => w_witness2
  case hc =>
    refine LamX.walk_ofTsE (l := PySem.Challenge.rw_surechalk_k92_refusals_and_their_kinds) (n := 63) (k := 9) (x := "script") (CX := fun _ => L2.CX0) rfl (by decide) (by kernel_rfl) ⟨rfl, by decide, by decide⟩ ?F (fun _ _ _ _ _ z => z)
    intro w mg fa h Y G hmg0
    obtain ⟨K, KX, c⟩ := Y
    have hmg : mg ("law" : PySem.Str) = some (.ref fa) := by
      have e : (HandSHeadRun.topDef (OpenLaw.row PySem.Challenge.rw_surechalk_k92_refusals_and_their_kinds).prog 33).name = ("law" : PySem.Str) := by kernel_rfl
      rw [← e]
      exact hmg0
    exact ⟨K, KX, T92.facts KX G hmg c⟩
