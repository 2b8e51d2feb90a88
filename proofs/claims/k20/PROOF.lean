import PyProof.Rows.All
import Wide.All
import OpenK.AllK
import Wide.FinOn
import HandS.ForMost
import HandS.ForExc
import HandS.Zip
import HandS.IsInst
import HandS.Flow
import HandS.Conv
import HandS.ExcOwn
import HandS.HeadHook1
import HandS.Deep
import HandS.TupAny
import Flt.Ops
import HandS.Strs
import HandS.CallSlots
import KE.DataMinMax
import PyProof.Claim2Refuses
import KE.KStateDown
import HandS.Defaults
import HandS.Head0
import HandS.Head1
import HandS.Head2
import HandS.HeadEnd
import HandS.HeadHook2
import PySem.Challenge.RW_wallwalk_k20_whole_walls_keep_their_orde
import HandS.HeadWalk
set_option Elab.async false
set_option linter.all false
set_option maxRecDepth 100000
set_option maxHeartbeats 4000000
/-! The data layer: values without a heap, slots that own their lists, readings as plain functions. -/
namespace WW
open PySem PySem.Spec L2

/-! ### data, results, slots -/
inductive D where
  | non | bl (b : Bool) | int (i : Int) | str (x : Str) | tup (l : List D) | lst (l : List D) | ins (c : Str) (ns : List Str) (l : List D)
structure Exn where
  cls : Str
  fld : Option (Str × Int)
inductive R (α : Type) where
  | ok (a : α)
  | exc (x : Exn)
  | bad
def R.bind {α β : Type} : R α → (α → R β) → R β
  | .ok a, f => f a
  | .exc x, _ => .exc x
  | .bad, _ => .bad
@[simp] theorem R.bind_ok {α β : Type} (a : α) (f : α → R β) : (R.ok a).bind f = f a := rfl
@[simp] theorem R.bind_exc {α β : Type} (x : Exn) (f : α → R β) : (R.exc x).bind f = .exc x := rfl
@[simp] theorem R.bind_bad {α β : Type} (f : α → R β) : (R.bad : R α).bind f = .bad := rfl
theorem R.bind_bind {α β γ : Type} (r : R α) (f : α → R β) (g : β → R γ) : (r.bind f).bind g = r.bind fun a => (f a).bind g := by cases r <;> rfl
def R.noX {α : Type} : R α → R α
  | .exc _ => .bad
  | r => r
@[simp] theorem R.noX_ok {α : Type} (a : α) : (R.ok a).noX = .ok a := rfl
inductive Sl where
  | v (d : D)
  | l (xs : List D)
  | box (p : Addr) (ns : List Int) (st : Int)
abbrev En := List (Option Sl)
def nth : En → Nat → Option Sl
  | [], _ => none
  | a :: _, 0 => a
  | _ :: r, n + 1 => nth r n
def setE : En → Nat → Option Sl → Option En
  | [], _, _ => none
  | _ :: r, 0, s => some (s :: r)
  | a :: r, n + 1, s => match setE r n s with
    | some q => some (a :: q)
    | none => none
theorem setE_some : ∀ {e e' : En} {i : Nat} {s : Option Sl}, setE e i s = some e' → i < e.length ∧ e'.length = e.length ∧ nth e' i = s ∧ ∀ j, j ≠ i → nth e' j = nth e j
  | [], _, _, _, h => by cases h
  | a :: r, e', 0, s, h => by
    have h2 : some (s :: r) = some e' := h
    injection h2 with h3
    subst h3
    refine ⟨Nat.zero_lt_succ _, rfl, rfl, fun j hj => ?_⟩
    cases j with
    | zero => exact absurd rfl hj
    | succ j => rfl
  | a :: r, e', n + 1, s, h => by
    have h2 : (match setE r n s with
      | some q => some (a :: q)
      | none => none) = some e' := h
    cases q : setE r n s with
    | none => rw [q] at h2; cases h2
    | some q' =>
      rw [q] at h2
      injection h2 with h3
      subst h3
      obtain ⟨h1, h4, h5, h6⟩ := setE_some q
      refine ⟨Nat.succ_lt_succ h1, congrArg (· + 1) h4, h5, fun j hj => ?_⟩
      cases j with
      | zero => rfl
      | succ j => exact h6 j fun z => hj (by rw [z])
theorem nth_some_lt : ∀ {e : En} {i : Nat} {s : Sl}, nth e i = some s → i < e.length
  | [], _, _, h => by cases h
  | _ :: _, 0, _, _ => Nat.zero_lt_succ _
  | _ :: r, n + 1, s, h => Nat.succ_lt_succ (nth_some_lt (show nth r n = some s from h))
theorem nth_app_left : ∀ {e : En} {t : Option Sl} {i : Nat}, i < e.length → nth (e ++ [t]) i = nth e i
  | [], _, _, h => absurd h (Nat.not_lt_zero _)
  | _ :: _, _, 0, _ => rfl
  | _ :: r, t, n + 1, h => nth_app_left (e := r) (t := t) (Nat.lt_of_succ_lt_succ h)
theorem nth_app_last : ∀ {e : En} {t : Option Sl}, nth (e ++ [t]) e.length = t
  | [], _ => rfl
  | _ :: r, t => nth_app_last (e := r) (t := t)

/-! ### how data lies on the heap: F is the part that nobody writes -/
mutual
inductive Rep (K : PySem.W.Frag) (F : Hp) : V → D → Prop
  | non : Rep K F .non .non
  | bl (b : Bool) : Rep K F (.bl b) (.bl b)
  | int (i : Int) : Rep K F (.int i) (.int i)
  | str (x : Str) : Rep K F (.str x) (.str x)
  | tup {a : Addr} {vs : List V} {l : List D} : SqT K F a vs → Reps K F vs l → Rep K F (.ref a) (.tup l)
  | lst {a : Addr} {vs : List V} {l : List D} : F a = some (.lst vs) → Reps K F vs l → Rep K F (.ref a) (.lst l)
  | ins {a dx : Addr} {c : Str} {fs : List (Str × V)} {ns : List Str} {l : List D} : F a = some (.ins (He.ga K c) dx fs) → fs.map (·.1) = ns → Reps K F (fs.map (·.2)) l → Rep K F (.ref a) (.ins c ns l)
inductive Reps (K : PySem.W.Frag) (F : Hp) : List V → List D → Prop
  | nil : Reps K F [] []
  | cons {v : V} {vs : List V} {d : D} {l : List D} : Rep K F v d → Reps K F vs l → Reps K F (v :: vs) (d :: l)
end
theorem same_sqT {K : PySem.W.Frag} {H H' : Hp} {a : Addr} {xs : List V} (e : Same H H') (h : SqT K H a xs) : SqT K H' a xs := by
  rcases h with (h | ⟨o, h⟩) | h
  · exact .inl (.inl (e _ _ h))
  · exact .inl (.inr ⟨o, e _ _ h⟩)
  · exact .inr h
mutual
theorem Rep.mono {K : PySem.W.Frag} {F F' : Hp} (s : Same F F') : ∀ {v : V} {d : D}, Rep K F v d → Rep K F' v d
  | _, _, .non => .non
  | _, _, .bl b => .bl b
  | _, _, .int i => .int i
  | _, _, .str x => .str x
  | _, _, .tup h r => .tup (same_sqT s h) (Reps.mono s r)
  | _, _, .lst h r => .lst (s _ _ h) (Reps.mono s r)
  | _, _, .ins h n r => .ins (s _ _ h) n (Reps.mono s r)
theorem Reps.mono {K : PySem.W.Frag} {F F' : Hp} (s : Same F F') : ∀ {vs : List V} {l : List D}, Reps K F vs l → Reps K F' vs l
  | _, _, .nil => .nil
  | _, _, .cons r t => .cons (Rep.mono s r) (Reps.mono s t)
end
section
variable {K : PySem.W.Frag} {F : Hp}
theorem Reps.length : ∀ {vs : List V} {l : List D}, Reps K F vs l → vs.length = l.length
  | _, _, .nil => rfl
  | _, _, .cons _ t => congrArg (· + 1) (Reps.length t)
theorem Reps.get : ∀ {vs : List V} {l : List D} {i : Nat} {d : D}, Reps K F vs l → l[i]? = some d → ∃ v, vs[i]? = some v ∧ Rep K F v d
  | _, _, _, _, .nil, h => by simp at h
  | _, _, 0, d, .cons r _, h => by simp at h; subst h; exact ⟨_, rfl, r⟩
  | _, _, i + 1, d, .cons _ t, h => by
    obtain ⟨v, h1, h2⟩ := Reps.get (i := i) (d := d) t (by simpa using h)
    exact ⟨v, by simpa using h1, h2⟩
theorem Reps.app : ∀ {vs us : List V} {l m : List D}, Reps K F vs l → Reps K F us m → Reps K F (vs ++ us) (l ++ m)
  | _, _, _, _, .nil, s => s
  | _, _, _, _, .cons r t, s => .cons r (Reps.app t s)
theorem Reps.drop : ∀ {vs : List V} {l : List D} (n : Nat), Reps K F vs l → Reps K F (vs.drop n) (l.drop n)
  | _, _, 0, r => r
  | _, _, _ + 1, .nil => .nil
  | _, _, n + 1, .cons _ t => Reps.drop n t
theorem Reps.take : ∀ {vs : List V} {l : List D} (n : Nat), Reps K F vs l → Reps K F (vs.take n) (l.take n)
  | _, _, 0, _ => .nil
  | _, _, _ + 1, .nil => .nil
  | _, _, n + 1, .cons r t => .cons r (Reps.take n t)
theorem Reps.set : ∀ {vs : List V} {l : List D} {v : V} {d : D} (n : Nat), Rep K F v d → Reps K F vs l → Reps K F (vs.set n v) (l.set n d)
  | _, _, _, _, _, _, .nil => .nil
  | _, _, _, _, 0, q, .cons _ t => .cons q t
  | _, _, _, _, n + 1, q, .cons r t => .cons r (Reps.set n q t)
theorem Reps.erase : ∀ {vs : List V} {l : List D} (n : Nat), Reps K F vs l → Reps K F (vs.eraseIdx n) (l.eraseIdx n)
  | _, _, _, .nil => .nil
  | _, _, 0, .cons _ t => t
  | _, _, n + 1, .cons r t => .cons r (Reps.erase n t)
theorem Reps.rev : ∀ {vs : List V} {l : List D}, Reps K F vs l → Reps K F vs.reverse l.reverse
  | _, _, .nil => .nil
  | _, _, .cons r t => by
    rw [List.reverse_cons, List.reverse_cons]
    exact (Reps.rev t).app (.cons r .nil)
theorem Rep.non_inv {v : V} (r : Rep K F v .non) : v = .non := by cases r; rfl
theorem Rep.bl_inv {v : V} {b : Bool} (r : Rep K F v (.bl b)) : v = .bl b := by cases r; rfl
theorem Rep.int_inv {v : V} {b : Int} (r : Rep K F v (.int b)) : v = .int b := by cases r; rfl
theorem Rep.str_inv {v : V} {b : Str} (r : Rep K F v (.str b)) : v = .str b := by cases r; rfl
theorem Rep.tup_inv {v : V} {l : List D} (r : Rep K F v (.tup l)) : ∃ a vs, v = .ref a ∧ SqT K F a vs ∧ Reps K F vs l := by cases r; exact ⟨_, _, rfl, by assumption, by assumption⟩
theorem Rep.lst_inv {v : V} {l : List D} (r : Rep K F v (.lst l)) : ∃ a vs, v = .ref a ∧ F a = some (.lst vs) ∧ Reps K F vs l := by cases r; exact ⟨_, _, rfl, by assumption, by assumption⟩
theorem Rep.ins_inv {v : V} {c : Str} {ns : List Str} {l : List D} (r : Rep K F v (.ins c ns l)) : ∃ a dx fs, v = .ref a ∧ F a = some (.ins (He.ga K c) dx fs) ∧ fs.map (·.1) = ns ∧ Reps K F (fs.map (·.2)) l := by
  cases r; exact ⟨_, _, _, rfl, by assumption, by assumption, by assumption⟩
theorem Reps.ints : ∀ {vs : List V} {ns : List Int}, Reps K F vs (ns.map D.int) → vs = ns.map V.int
  | _, [], .nil => rfl
  | _, n :: ns, .cons r t => by
    rw [r.int_inv, Reps.ints (ns := ns) t]
    rfl
theorem Reps.bls : ∀ {vs : List V} {ns : List Bool}, Reps K F vs (ns.map D.bl) → vs = ns.map V.bl
  | _, [], .nil => rfl
  | _, n :: ns, .cons r t => by
    rw [r.bl_inv, Reps.bls (ns := ns) t]
    rfl
theorem Reps.strs : ∀ {vs : List V} {ns : List Str}, Reps K F vs (ns.map D.str) → vs = ns.map V.str
  | _, [], .nil => rfl
  | _, n :: ns, .cons r t => by
    rw [r.str_inv, Reps.strs (ns := ns) t]
    rfl
theorem Reps.ofInts : ∀ ns : List Int, Reps K F (ns.map V.int) (ns.map D.int)
  | [] => .nil
  | n :: ns => .cons (.int n) (Reps.ofInts ns)
theorem Reps.ofStrs : ∀ ns : List Str, Reps K F (ns.map V.str) (ns.map D.str)
  | [] => .nil
  | n :: ns => .cons (.str n) (Reps.ofStrs ns)
end

/-! ### the state against the entry -/
def NoA : Addr → Prop := fun _ => False
structure Ext (A : Addr → Prop) (F H F' H' : Hp) : Prop where
  sub : Same F' H'
  fr : Same F F'
  keep : ∀ a o, H a = some o → ¬ A a → H' a = some o
  dom : ∀ a o, H a = some o → ∃ o', H' a = some o'
  fresh : ∀ a o, F' a = some o → F a = some o ∨ H a = none ∨ A a
structure Bs where
  F : Hp
  H : Hp
  A : Addr → Prop
def SlOk (K : PySem.W.Frag) (F H : Hp) (v : V) : Sl → (Addr → Prop) → Prop
  | .v d, A => Rep K F v d ∧ ∀ a, ¬ A a
  | .l xs, A => ∃ p vs, v = .ref p ∧ (∀ a, A a ↔ a = p) ∧ H p = some (.lst vs) ∧ Reps K F vs xs
  | .box p ns st, A => ∃ q, v = .ref p ∧ p ≠ q ∧ (∀ a, A a ↔ (a = p ∨ a = q)) ∧ H p = some (.lst [.ref q, .int st]) ∧ H q = some (.lst (ns.map V.int))
theorem SlOk.there {K : PySem.W.Frag} {F H : Hp} {v : V} {s : Sl} {A : Addr → Prop} (h : SlOk K F H v s A) : ∀ a, A a → ∃ o, H a = some o := by
  cases s with
  | v d => exact fun a z => absurd z (h.2 a)
  | l xs =>
    obtain ⟨p, vs, _, hA, hp, _⟩ := h
    intro a z
    rw [(hA a).mp z]
    exact ⟨_, hp⟩
  | box p ns st =>
    obtain ⟨q, _, _, hA, hp, hq⟩ := h
    intro a z
    rcases (hA a).mp z with z | z
    · rw [z]; exact ⟨_, hp⟩
    · rw [z]; exact ⟨_, hq⟩
theorem SlOk.mono {K : PySem.W.Frag} {F H F' H' : Hp} {v : V} {s : Sl} {A : Addr → Prop} (h : SlOk K F H v s A) (fr : Same F F') (k : ∀ a o, A a → H a = some o → H' a = some o) : SlOk K F' H' v s A := by
  cases s with
  | v d => exact ⟨h.1.mono fr, h.2⟩
  | l xs =>
    obtain ⟨p, vs, e, hA, hp, r⟩ := h
    exact ⟨p, vs, e, hA, k _ _ ((hA p).mpr rfl) hp, r.mono fr⟩
  | box p ns st =>
    obtain ⟨q, e, ne, hA, hp, hq⟩ := h
    exact ⟨q, e, ne, hA, k _ _ ((hA p).mpr (.inl rfl)) hp, k _ _ ((hA q).mpr (.inr rfl)) hq⟩
theorem SlOk.uniq {K : PySem.W.Frag} {F H : Hp} {v : V} {s : Sl} {A A' : Addr → Prop} (h : SlOk K F H v s A) (h' : SlOk K F H v s A') : A = A' := by
  cases s with
  | v d => exact funext fun a => propext ⟨fun z => absurd z (h.2 a), fun z => absurd z (h'.2 a)⟩
  | l xs =>
    obtain ⟨p, vs, e, hA, _⟩ := h
    obtain ⟨p', vs', e', hA', _⟩ := h'
    rw [e] at e'
    injection e' with e'
    subst e'
    exact funext fun a => propext ((hA a).trans (hA' a).symm)
  | box p ns st =>
    obtain ⟨q, _, _, hA, hp, _⟩ := h
    obtain ⟨q', _, _, hA', hp', _⟩ := h'
    rw [hp] at hp'
    injection hp' with hp'
    injection hp' with hp'
    injection hp' with hp' _
    injection hp' with hp'
    subst hp'
    exact funext fun a => propext ((hA a).trans (hA' a).symm)
structure Slots (K : PySem.W.Frag) (B : Bs) (F H : Hp) (σ : St) (e : En) (fp : Nat → Addr → Prop) : Prop where
  ok : ∀ i s, nth e i = some s → ∃ v, σ[i]? = some (some v) ∧ SlOk K F H v s (fp i)
  own : ∀ i a, fp i a → F a = none ∧ (B.A a ∨ B.H a = none) ∧ (∃ o, H a = some o) ∧ nth e i ≠ none
  apart : ∀ i j a, fp i a → fp j a → i = j
structure Rl (K : PySem.W.Frag) (B : Bs) (F H : Hp) (σ : St) (e : En) : Prop where
  len : e.length = σ.length
  ext : Ext B.A B.F B.H F H
  slots : ∃ fp, Slots K B F H σ e fp
section
variable {K : PySem.W.Frag} {B : Bs} {F H F' H' : Hp} {σ : St} {e : En}
theorem Ext.refl {A : Addr → Prop} (s : Same F H) : Ext A F H F H := ⟨s, Same.refl _, fun _ _ h _ => h, fun _ o h => ⟨o, h⟩, fun _ _ h => .inl h⟩
theorem Ext.trans {A A' : Addr → Prop} {F0 H0 : Hp} (x : Ext A F0 H0 F H) (y : Ext A' F H F' H') (hA : ∀ a, A' a → A a ∨ H0 a = none) : Ext A F0 H0 F' H' where
  sub := y.sub
  fr := x.fr.trans y.fr
  keep := fun a o h n => y.keep a o (x.keep a o h n) fun z => by
    rcases hA a z with q | q
    · exact n q
    · rw [h] at q; cases q
  dom := fun a o h => by
    obtain ⟨o1, h1⟩ := x.dom a o h
    exact y.dom a o1 h1
  fresh := fun a o h => by
    rcases y.fresh a o h with q | q | q
    · exact x.fresh a o q
    · refine .inr (.inl ?_)
      cases z : H0 a with
      | none => rfl
      | some u =>
        obtain ⟨o1, h1⟩ := x.dom a u z
        rw [q] at h1; cases h1
    · rcases hA a q with z | z
      · exact .inr (.inr z)
      · exact .inr (.inl z)
/-- nothing that is owned changes -/
theorem Slots.step {fp : Nat → Addr → Prop} (S : Slots K B F H σ e fp) (x : Ext NoA F H F' H') : Slots K B F' H' σ e fp where
  ok := fun i s h => by
    obtain ⟨v, h1, h2⟩ := S.ok i s h
    exact ⟨v, h1, h2.mono x.fr fun a o _ q => x.keep a o q (fun z => z)⟩
  own := fun i a h => by
    obtain ⟨h1, h2, ⟨o, h3⟩, h4⟩ := S.own i a h
    refine ⟨?_, h2, x.dom a o h3, h4⟩
    cases q : F' a with
    | none => rfl
    | some u =>
      rcases x.fresh a u q with z | z | z
      · rw [h1] at z; cases z
      · rw [h3] at z; cases z
      · exact z.elim
  apart := S.apart
theorem Rl.step (R : Rl K B F H σ e) (x : Ext NoA F H F' H') : Rl K B F' H' σ e := by
  obtain ⟨l, ex, fp, S⟩ := R
  exact ⟨l, ex.trans x (fun _ z => z.elim), fp, S.step x⟩
theorem Rl.sub (R : Rl K B F H σ e) : Same F H := R.ext.sub
/-- a fresh frozen object -/
theorem ext_new {p : Addr} {o : HO} (s : Same F H) (hp : H p = none) : Ext NoA F H (upd F p o) (upd H p o) where
  sub := fun b u h => by
    by_cases hb : b = p
    · subst hb; rw [upd_same] at h ⊢; exact h
    · rw [upd_ne hb] at h ⊢; exact s b u h
  fr := fun b u h => by
    have hb : b ≠ p := fun z => by
      subst z
      have := s _ _ h
      rw [hp] at this; cases this
    rw [upd_ne hb]; exact h
  keep := fun b u h _ => by rw [upd_ne (ne_of_none h hp)]; exact h
  dom := fun b u h => ⟨u, by rw [upd_ne (ne_of_none h hp)]; exact h⟩
  fresh := fun b u h => by
    by_cases hb : b = p
    · subst hb; exact .inr (.inl hp)
    · rw [upd_ne hb] at h; exact .inl h
/-- a fresh object that is not frozen -/
theorem ext_raw {p : Addr} {o : HO} (s : Same F H) (hp : H p = none) : Ext NoA F H F (upd H p o) where
  sub := fun b u h => by rw [upd_ne (ne_of_none (s b u h) hp)]; exact s b u h
  fr := Same.refl _
  keep := fun b u h _ => by rw [upd_ne (ne_of_none h hp)]; exact h
  dom := fun b u h => ⟨u, by rw [upd_ne (ne_of_none h hp)]; exact h⟩
  fresh := fun b u h => .inl h
/-- a slot is stored: plain data -/
theorem Rl.setV {i : Nat} {v : V} {d : D} {e' : En} (R : Rl K B F H σ e) (r : Rep K F v d) (h : setE e i (some (.v d)) = some e') : Rl K B F H (σ.set i (some v)) e' := by
  obtain ⟨l, ex, fp, S⟩ := R
  obtain ⟨h1, h2, h3, h4⟩ := setE_some h
  refine ⟨by rw [h2, List.length_set]; exact l, ex, fun j a => j ≠ i ∧ fp j a, fun j s hs => ?_, fun j a ⟨hj, ha⟩ => ?_, fun j k a ⟨_, ha⟩ ⟨_, hb⟩ => S.apart j k a ha hb⟩
  · by_cases hj : j = i
    · subst hj
      rw [h3] at hs
      injection hs with hs
      subst hs
      exact ⟨v, List.getElem?_set_self (by rw [← l]; exact h1), r, fun a z => z.1 rfl⟩
    · rw [h4 j hj] at hs
      obtain ⟨u, q1, q2⟩ := S.ok j s hs
      refine ⟨u, by rw [List.getElem?_set_ne (Ne.symm hj)]; exact q1, ?_⟩
      have ea : (fun a => j ≠ i ∧ fp j a) = fp j := funext fun a => propext ⟨fun z => z.2, fun z => ⟨hj, z⟩⟩
      show SlOk K F H u s (fun a => j ≠ i ∧ fp j a)
      rw [ea]
      exact q2
  · obtain ⟨q1, q2, q3, q4⟩ := S.own j a ha
    exact ⟨q1, q2, q3, by rw [h4 j hj]; exact q4⟩
/-- a slot is forgotten -/
theorem Rl.forget {i : Nat} {e' : En} (R : Rl K B F H σ e) (h : setE e i none = some e') : Rl K B F H σ e' := by
  obtain ⟨l, ex, fp, S⟩ := R
  obtain ⟨h1, h2, h3, h4⟩ := setE_some h
  refine ⟨by rw [h2]; exact l, ex, fun j a => j ≠ i ∧ fp j a, fun j s hs => ?_, fun j a ⟨hj, ha⟩ => ?_, fun j k a ⟨_, ha⟩ ⟨_, hb⟩ => S.apart j k a ha hb⟩
  · by_cases hj : j = i
    · subst hj
      rw [h3] at hs
      cases hs
    · rw [h4 j hj] at hs
      obtain ⟨u, q1, q2⟩ := S.ok j s hs
      refine ⟨u, q1, ?_⟩
      have ea : (fun a => j ≠ i ∧ fp j a) = fp j := funext fun a => propext ⟨fun z => z.2, fun z => ⟨hj, z⟩⟩
      show SlOk K F H u s (fun a => j ≠ i ∧ fp j a)
      rw [ea]
      exact q2
  · obtain ⟨q1, q2, q3, q4⟩ := S.own j a ha
    exact ⟨q1, q2, q3, by rw [h4 j hj]; exact q4⟩
/-- a slot's own things change: what it owns behind is what it owned, or new -/
theorem Rl.change {i : Nat} {s s' : Sl} {v : V} {e' : En} (R : Rl K B F H σ e) (hs : nth e i = some s) (hv : σ[i]? = some (some v)) (h : setE e i (some s') = some e')
    (k : ∀ A : Addr → Prop, SlOk K F H v s A → (∀ a, A a → F a = none) → ∃ A' : Addr → Prop, Ext A F H F' H' ∧ SlOk K F' H' v s' A' ∧ (∀ a, A' a → F' a = none ∧ (A a ∨ H a = none))) : Rl K B F' H' σ e' := by
  obtain ⟨l, ex, fp, S⟩ := R
  obtain ⟨h1, h2, h3, h4⟩ := setE_some h
  obtain ⟨v1, e1, ok1⟩ := S.ok i s hs
  rw [hv] at e1
  injection e1 with e1
  injection e1 with e1
  subst e1
  obtain ⟨A', x, ok2, hA⟩ := k (fp i) ok1 fun a z => (S.own i a z).1
  have hB : ∀ a, H a = none → B.H a = none := fun a z => by
    cases q : B.H a with
    | none => rfl
    | some o =>
      obtain ⟨o1, h5⟩ := ex.dom a o q
      rw [z] at h5; cases h5
  refine ⟨by rw [h2]; exact l, ex.trans x (fun a z => (S.own i a z).2.1), fun j a => if j = i then A' a else fp j a, fun j t ht => ?_, fun j a ha => ?_, fun j k a ha hb => ?_⟩
  · by_cases hj : j = i
    · subst hj
      rw [h3] at ht
      injection ht with ht
      subst ht
      refine ⟨v, hv, ?_⟩
      have ea : (fun a => if j = j then A' a else fp j a) = A' := funext fun a => if_pos rfl
      show SlOk K F' H' v s' (fun a => if j = j then A' a else fp j a)
      rw [ea]
      exact ok2
    · rw [h4 j hj] at ht
      obtain ⟨u, q1, q2⟩ := S.ok j t ht
      refine ⟨u, q1, ?_⟩
      have ea : (fun a => if j = i then A' a else fp j a) = fp j := funext fun a => if_neg hj
      show SlOk K F' H' u t (fun a => if j = i then A' a else fp j a)
      rw [ea]
      exact q2.mono x.fr fun a o ha hq => x.keep a o hq fun z => hj (S.apart j i a ha z)
  · by_cases hj : j = i
    · rw [if_pos hj] at ha
      obtain ⟨q1, q2⟩ := hA a ha
      refine ⟨q1, ?_, ok2.there a ha, by rw [hj, h3]; exact fun z => by cases z⟩
      rcases q2 with q2 | q2
      · exact (S.own i a q2).2.1
      · exact .inr (hB a q2)
    · rw [if_neg hj] at ha
      obtain ⟨q1, q2, ⟨o, q3⟩, q4⟩ := S.own j a ha
      refine ⟨?_, q2, x.dom a o q3, by rw [h4 j hj]; exact q4⟩
      cases q : F' a with
      | none => rfl
      | some u =>
        rcases x.fresh a u q with z | z | z
        · rw [q1] at z; cases z
        · rw [q3] at z; cases z
        · exact absurd (S.apart j i a ha z) hj
  · by_cases hj : j = i
    · by_cases hk : k = i
      · rw [hj, hk]
      · rw [if_pos hj] at ha
        rw [if_neg hk] at hb
        obtain ⟨_, q2⟩ := hA a ha
        rcases q2 with q2 | q2
        · exact absurd (S.apart k i a hb q2) hk
        · obtain ⟨_, _, ⟨o, q3⟩, _⟩ := S.own k a hb
          rw [q2] at q3; cases q3
    · by_cases hk : k = i
      · rw [if_neg hj] at ha
        rw [if_pos hk] at hb
        obtain ⟨_, q2⟩ := hA a hb
        rcases q2 with q2 | q2
        · exact absurd (S.apart j i a ha q2) hj
        · obtain ⟨_, _, ⟨o, q3⟩, _⟩ := S.own j a ha
          rw [q2] at q3; cases q3
      · rw [if_neg hj] at ha
        rw [if_neg hk] at hb
        exact S.apart j k a ha hb
/-- a new own thing, in a place behind the slots -/
theorem Rl.more {v : V} {s : Sl} {A : Addr → Prop} (R : Rl K B F H σ e) (x : Ext NoA F H F' H') (ok : SlOk K F' H' v s A) (hA : ∀ a, A a → F' a = none ∧ H a = none) : Rl K B F' H' (σ ++ [some v]) (e ++ [some s]) := by
  obtain ⟨l, ex, fp, S⟩ := R
  have S' := S.step x
  have hB : ∀ a, H a = none → B.H a = none := fun a z => by
    cases q : B.H a with
    | none => rfl
    | some o =>
      obtain ⟨o1, h5⟩ := ex.dom a o q
      rw [z] at h5; cases h5
  have le : ∀ j a, fp j a → j < e.length := fun j a z => by
    obtain ⟨_, _, _, q⟩ := S.own j a z
    cases h : nth e j with
    | none => exact absurd h q
    | some t => exact nth_some_lt h
  refine ⟨by rw [List.length_append, List.length_append, l]; rfl, ex.trans x (fun _ z => z.elim), fun j a => if j = e.length then A a else fp j a, fun j t ht => ?_, fun j a ha => ?_, fun j k a ha hb => ?_⟩
  · by_cases hj : j = e.length
    · subst hj
      rw [nth_app_last] at ht
      injection ht with ht
      subst ht
      refine ⟨v, by rw [l, List.getElem?_append_right (Nat.le_refl _)]; simp, ?_⟩
      have ea : (fun a => if e.length = e.length then A a else fp e.length a) = A := funext fun a => if_pos rfl
      show SlOk K F' H' v s (fun a => if e.length = e.length then A a else fp e.length a)
      rw [ea]
      exact ok
    · have hlt : j < e.length := by
        have := nth_some_lt ht
        rw [List.length_append] at this
        simp at this
        omega
      rw [nth_app_left hlt] at ht
      obtain ⟨u, q1, q2⟩ := S'.ok j t ht
      refine ⟨u, by rw [List.getElem?_append_left (by rw [← l]; exact hlt)]; exact q1, ?_⟩
      have ea : (fun a => if j = e.length then A a else fp j a) = fp j := funext fun a => if_neg hj
      show SlOk K F' H' u t (fun a => if j = e.length then A a else fp j a)
      rw [ea]
      exact q2
  · by_cases hj : j = e.length
    · rw [if_pos hj] at ha
      obtain ⟨q1, q2⟩ := hA a ha
      exact ⟨q1, .inr (hB a q2), ok.there a ha, by rw [hj, nth_app_last]; exact fun z => by cases z⟩
    · rw [if_neg hj] at ha
      obtain ⟨q1, q2, q3, q4⟩ := S'.own j a ha
      exact ⟨q1, q2, q3, by rw [nth_app_left (le j a ha)]; exact q4⟩
  · by_cases hj : j = e.length
    · by_cases hk : k = e.length
      · rw [hj, hk]
      · rw [if_pos hj] at ha
        rw [if_neg hk] at hb
        obtain ⟨_, _, ⟨o, q3⟩, _⟩ := S.own k a hb
        rw [(hA a ha).2] at q3; cases q3
    · by_cases hk : k = e.length
      · rw [if_neg hj] at ha
        rw [if_pos hk] at hb
        obtain ⟨_, _, ⟨o, q3⟩, _⟩ := S.own j a ha
        rw [(hA a hb).2] at q3; cases q3
      · rw [if_neg hj] at ha
        rw [if_neg hk] at hb
        exact S.apart j k a ha hb
/-- the place behind is left -/
theorem Rl.less {v : Option V} {s : Option Sl} (R : Rl K B F H (σ ++ [v]) (e ++ [s])) : Rl K B F H σ e := by
  obtain ⟨l, ex, fp, S⟩ := R
  have l' : e.length = σ.length := by
    rw [List.length_append, List.length_append] at l
    simpa using l
  refine ⟨l', ex, fun j a => j < e.length ∧ fp j a, fun j t ht => ?_, fun j a ⟨hj, ha⟩ => ?_, fun j k a ⟨_, ha⟩ ⟨_, hb⟩ => S.apart j k a ha hb⟩
  · have hlt := nth_some_lt ht
    obtain ⟨u, q1, q2⟩ := S.ok j t (by rw [nth_app_left hlt]; exact ht)
    refine ⟨u, by rw [List.getElem?_append_left (by rw [← l']; exact hlt)] at q1; exact q1, ?_⟩
    have ea : (fun a => j < e.length ∧ fp j a) = fp j := funext fun a => propext ⟨fun z => z.2, fun z => ⟨hlt, z⟩⟩
    show SlOk K F H u t (fun a => j < e.length ∧ fp j a)
    rw [ea]
    exact q2
  · obtain ⟨q1, q2, q3, q4⟩ := S.own j a ha
    exact ⟨q1, q2, q3, by rw [nth_app_left hj] at q4; exact q4⟩
/-- .. is moved into a slot -/
theorem Rl.move {i : Nat} {v : V} {s : Sl} {e' : En} (R : Rl K B F H (σ ++ [some v]) (e ++ [some s])) (h : setE e i (some s) = some e') : Rl K B F H (σ.set i (some v)) e' := by
  obtain ⟨l, ex, fp, S⟩ := R
  have l' : e.length = σ.length := by
    rw [List.length_append, List.length_append] at l
    simpa using l
  obtain ⟨h1, h2, h3, h4⟩ := setE_some h
  have hlast : (σ ++ [some v])[e.length]? = some (some v) := by rw [l', List.getElem?_append_right (Nat.le_refl _)]; simp
  refine ⟨by rw [h2, List.length_set]; exact l', ex, fun j a => if j = i then fp e.length a else (j < e.length ∧ fp j a), fun j t ht => ?_, fun j a ha => ?_, fun j k a ha hb => ?_⟩
  · by_cases hj : j = i
    · subst hj
      rw [h3] at ht
      injection ht with ht
      subst ht
      obtain ⟨u, q1, q2⟩ := S.ok e.length s nth_app_last
      rw [hlast] at q1
      injection q1 with q1
      injection q1 with q1
      subst q1
      refine ⟨v, List.getElem?_set_self (by rw [← l']; exact h1), ?_⟩
      have ea : (fun a => if j = j then fp e.length a else (j < e.length ∧ fp j a)) = fp e.length := funext fun a => if_pos rfl
      show SlOk K F H v s (fun a => if j = j then fp e.length a else (j < e.length ∧ fp j a))
      rw [ea]
      exact q2
    · rw [h4 j hj] at ht
      have hlt := nth_some_lt ht
      obtain ⟨u, q1, q2⟩ := S.ok j t (by rw [nth_app_left hlt]; exact ht)
      refine ⟨u, by rw [List.getElem?_set_ne (Ne.symm hj)]; rw [List.getElem?_append_left (by rw [← l']; exact hlt)] at q1; exact q1, ?_⟩
      have ea : (fun a => if j = i then fp e.length a else (j < e.length ∧ fp j a)) = fp j := funext fun a => by
        rw [if_neg hj]
        exact propext ⟨fun z => z.2, fun z => ⟨hlt, z⟩⟩
      show SlOk K F H u t (fun a => if j = i then fp e.length a else (j < e.length ∧ fp j a))
      rw [ea]
      exact q2
  · by_cases hj : j = i
    · rw [if_pos hj] at ha
      obtain ⟨q1, q2, q3, q4⟩ := S.own e.length a ha
      exact ⟨q1, q2, q3, by rw [hj, h3]; exact fun z => by cases z⟩
    · rw [if_neg hj] at ha
      obtain ⟨q1, q2, q3, q4⟩ := S.own j a ha.2
      exact ⟨q1, q2, q3, by rw [h4 j hj]; rw [nth_app_left ha.1] at q4; exact q4⟩
  · by_cases hj : j = i
    · by_cases hk : k = i
      · rw [hj, hk]
      · rw [if_pos hj] at ha
        rw [if_neg hk] at hb
        have := S.apart e.length k a ha hb.2
        have := hb.1
        omega
    · by_cases hk : k = i
      · rw [if_neg hj] at ha
        rw [if_pos hk] at hb
        have := S.apart e.length j a hb ha.2
        have := ha.1
        omega
      · rw [if_neg hj] at ha
        rw [if_neg hk] at hb
        exact S.apart j k a ha.2 hb.2
/-- .. its list is frozen -/
theorem Rl.freeze {v : V} {xs : List D} (R : Rl K B F H (σ ++ [some v]) (e ++ [some (.l xs)])) : ∃ F', Same F F' ∧ Rl K B F' H σ e ∧ Rep K F' v (.lst xs) := by
  obtain ⟨l, ex, fp, S⟩ := R
  have l' : e.length = σ.length := by
    rw [List.length_append, List.length_append] at l
    simpa using l
  obtain ⟨u, q1, p, vs, rfl, hA, hp, r⟩ := S.ok e.length (.l xs) nth_app_last
  have hlast : (σ ++ [some v])[e.length]? = some (some v) := by rw [l', List.getElem?_append_right (Nat.le_refl _)]; simp
  rw [hlast] at q1
  injection q1 with q1
  injection q1 with q1
  subst q1
  obtain ⟨fn, fb, _, _⟩ := S.own e.length p ((hA p).mpr rfl)
  have sm : Same F (upd F p (.lst vs)) := fun b o h => by
    have hb : b ≠ p := fun z => by subst z; rw [fn] at h; cases h
    rw [upd_ne hb]; exact h
  refine ⟨upd F p (.lst vs), sm, ⟨l', ⟨fun b o h => ?_, ex.fr.trans sm, ex.keep, ex.dom, fun b o h => ?_⟩, fun j a => j < e.length ∧ fp j a, fun j t ht => ?_, fun j a ⟨hj, ha⟩ => ?_, fun j k a ⟨_, ha⟩ ⟨_, hb⟩ => S.apart j k a ha hb⟩, .lst upd_same (r.mono sm)⟩
  · by_cases hb : b = p
    · subst hb; rw [upd_same] at h; rw [hp]; exact h
    · rw [upd_ne hb] at h; exact ex.sub b o h
  · by_cases hb : b = p
    · subst hb
      rcases fb with z | z
      · exact .inr (.inr z)
      · exact .inr (.inl z)
    · rw [upd_ne hb] at h; exact ex.fresh b o h
  · have hlt := nth_some_lt ht
    obtain ⟨u, q1, q2⟩ := S.ok j t (by rw [nth_app_left hlt]; exact ht)
    refine ⟨u, by rw [List.getElem?_append_left (by rw [← l']; exact hlt)] at q1; exact q1, ?_⟩
    have ea : (fun a => j < e.length ∧ fp j a) = fp j := funext fun a => propext ⟨fun z => z.2, fun z => ⟨hlt, z⟩⟩
    show SlOk K (upd F p (.lst vs)) H u t (fun a => j < e.length ∧ fp j a)
    rw [ea]
    exact q2.mono sm fun a o _ q => q
  · obtain ⟨q1, q2, q3, q4⟩ := S.own j a ha
    refine ⟨?_, q2, q3, by rw [nth_app_left hj] at q4; exact q4⟩
    have ne : a ≠ p := fun z => by
      subst z
      have := S.apart e.length j a ((hA a).mpr rfl) ha
      omega
    rw [upd_ne ne]
    exact q1
/-- fewer slots, the same values there -/
theorem Rl.sel {σ' : St} {e' : En} (R : Rl K B F H σ e) (hl : e'.length = σ'.length) (h : ∀ i s, nth e' i = some s → nth e i = some s ∧ σ'[i]? = σ[i]?) : Rl K B F H σ' e' := by
  obtain ⟨l, ex, fp, S⟩ := R
  refine ⟨hl, ex, fun j a => nth e' j ≠ none ∧ fp j a, fun j t ht => ?_, fun j a ⟨hj, ha⟩ => ?_, fun j k a ⟨_, ha⟩ ⟨_, hb⟩ => S.apart j k a ha hb⟩
  · obtain ⟨h1, h2⟩ := h j t ht
    obtain ⟨u, q1, q2⟩ := S.ok j t h1
    refine ⟨u, by rw [h2]; exact q1, ?_⟩
    have ea : (fun a => nth e' j ≠ none ∧ fp j a) = fp j := funext fun a => propext ⟨fun z => z.2, fun z => ⟨(by rw [ht]; exact fun q => (by cases q)), z⟩⟩
    show SlOk K F H u t (fun a => nth e' j ≠ none ∧ fp j a)
    rw [ea]
    exact q2
  · obtain ⟨q1, q2, q3, q4⟩ := S.own j a ha
    exact ⟨q1, q2, q3, hj⟩
/-- seen from here on -/
theorem Rl.rebase (R : Rl K B F H σ e) : ∃ B1 : Bs, B1.F = F ∧ Rl K B1 F H σ e ∧ ∀ F' H' σ' e', Rl K B1 F' H' σ' e' → Rl K B F' H' σ' e' := by
  obtain ⟨l, ex, fp, S⟩ := R
  have hB : ∀ a, H a = none → B.H a = none := fun a z => by
    cases q : B.H a with
    | none => rfl
    | some o =>
      obtain ⟨o1, h5⟩ := ex.dom a o q
      rw [z] at h5; cases h5
  refine ⟨⟨F, H, fun a => ∃ i, fp i a⟩, rfl, ⟨l, Ext.refl ex.sub, fp, S.ok, fun i a h => ?_, S.apart⟩, fun F' H' σ' e' R' => ?_⟩
  · obtain ⟨q1, q2, q3, q4⟩ := S.own i a h
    exact ⟨q1, .inl ⟨i, h⟩, q3, q4⟩
  · obtain ⟨l', ex', fp', S'⟩ := R'
    refine ⟨l', ex.trans ex' (fun a ⟨i, z⟩ => (S.own i a z).2.1), fp', S'.ok, fun i a h => ?_, S'.apart⟩
    obtain ⟨q1, q2, q3, q4⟩ := S'.own i a h
    refine ⟨q1, ?_, q3, q4⟩
    rcases q2 with ⟨j, z⟩ | z
    · exact (S.own j a z).2.1
    · exact .inr (hB a z)
/-- the last place stays as it is while the rest goes on -/
theorem Rl.frame {v : Option V} {s : Option Sl} (R : Rl K B F H (σ ++ [v]) (e ++ [s])) : ∃ B1 : Bs, B1.F = F ∧ Rl K B1 F H σ e ∧ ∀ F' H' σ' e', Rl K B1 F' H' σ' e' → Rl K B F' H' (σ' ++ [v]) (e' ++ [s]) := by
  have R0 := R.less
  obtain ⟨l, ex, fp, S⟩ := R
  have l' : e.length = σ.length := R0.len
  have hB : ∀ a, H a = none → B.H a = none := fun a z => by
    cases q : B.H a with
    | none => rfl
    | some o =>
      obtain ⟨o1, h5⟩ := ex.dom a o q
      rw [z] at h5; cases h5
  have hlast : (σ ++ [v])[e.length]? = some v := by rw [l', List.getElem?_append_right (Nat.le_refl _)]; simp
  refine ⟨⟨F, H, fun a => ∃ i, i < e.length ∧ fp i a⟩, rfl, ⟨l', Ext.refl ex.sub, fun j a => j < e.length ∧ fp j a, fun j t ht => ?_, fun j a ⟨hj, ha⟩ => ?_, fun j k a ⟨_, ha⟩ ⟨_, hb⟩ => S.apart j k a ha hb⟩, fun F' H' σ' e' R' => ?_⟩
  · have hlt := nth_some_lt ht
    obtain ⟨u, q1, q2⟩ := S.ok j t (by rw [nth_app_left hlt]; exact ht)
    refine ⟨u, by rw [List.getElem?_append_left (by rw [← l']; exact hlt)] at q1; exact q1, ?_⟩
    have ea : (fun a => j < e.length ∧ fp j a) = fp j := funext fun a => propext ⟨fun z => z.2, fun z => ⟨hlt, z⟩⟩
    show SlOk K F H u t (fun a => j < e.length ∧ fp j a)
    rw [ea]
    exact q2
  · obtain ⟨q1, q2, q3, q4⟩ := S.own j a ha
    exact ⟨q1, .inl ⟨j, hj, ha⟩, q3, by rw [nth_app_left hj] at q4; exact q4⟩
  · obtain ⟨m', ex', fp', S'⟩ := R'
    have tH : ∀ a, fp e.length a → (∃ o, H a = some o ∧ H' a = some o) ∧ F' a = none ∧ ∀ j, ¬ fp' j a := fun a z => by
      obtain ⟨q1, q2, ⟨o, q3⟩, q4⟩ := S.own e.length a z
      have nA : ¬ ∃ i, i < e.length ∧ fp i a := fun ⟨i, hi, y⟩ => by
        have := S.apart i e.length a y z
        omega
      refine ⟨⟨o, q3, ex'.keep a o q3 nA⟩, ?_, fun j y => ?_⟩
      · cases q : F' a with
        | none => rfl
        | some u =>
          rcases ex'.fresh a u q with y | y | y
          · have y2 : F a = some u := y
            rw [q1] at y2; cases y2
          · have y2 : H a = none := y
            rw [q3] at y2; cases y2
          · exact absurd y nA
      · rcases (S'.own j a y).2.1 with y | y
        · exact nA y
        · have y2 : H a = none := y
          rw [q3] at y2; cases y2
    refine ⟨by rw [List.length_append, List.length_append, m']; rfl, ex.trans ex' (fun a ⟨i, _, z⟩ => (S.own i a z).2.1), fun j a => if j = e'.length then fp e.length a else fp' j a, fun j t ht => ?_, fun j a ha => ?_, fun j k a ha hb => ?_⟩
    · by_cases hj : j = e'.length
      · subst hj
        rw [nth_app_last] at ht
        obtain ⟨u, q1, q2⟩ := S.ok e.length t (by rw [nth_app_last]; exact ht)
        rw [hlast] at q1
        refine ⟨u, by rw [m', List.getElem?_append_right (Nat.le_refl _)]; simpa using q1, ?_⟩
        have ea : (fun a => if e'.length = e'.length then fp e.length a else fp' e'.length a) = fp e.length := funext fun a => if_pos rfl
        show SlOk K F' H' u t (fun a => if e'.length = e'.length then fp e.length a else fp' e'.length a)
        rw [ea]
        refine q2.mono ex'.fr fun a o z q => ?_
        obtain ⟨⟨o1, h1, h2⟩, _⟩ := tH a z
        rw [q] at h1
        injection h1 with h1
        rw [h1]
        exact h2
      · have hlt : j < e'.length := by
          have := nth_some_lt ht
          rw [List.length_append] at this
          simp at this
          omega
        rw [nth_app_left hlt] at ht
        obtain ⟨u, q1, q2⟩ := S'.ok j t ht
        refine ⟨u, by rw [List.getElem?_append_left (by rw [← m']; exact hlt)]; exact q1, ?_⟩
        have ea : (fun a => if j = e'.length then fp e.length a else fp' j a) = fp' j := funext fun a => if_neg hj
        show SlOk K F' H' u t (fun a => if j = e'.length then fp e.length a else fp' j a)
        rw [ea]
        exact q2
    · by_cases hj : j = e'.length
      · rw [if_pos hj] at ha
        obtain ⟨q1, q2, q3, q4⟩ := S.own e.length a ha
        obtain ⟨⟨o, _, h2⟩, h3, _⟩ := tH a ha
        exact ⟨h3, q2, ⟨o, h2⟩, by rw [hj, nth_app_last]; rw [nth_app_last] at q4; exact q4⟩
      · rw [if_neg hj] at ha
        obtain ⟨q1, q2, q3, q4⟩ := S'.own j a ha
        have hlt : j < e'.length := by
          cases z : nth e' j with
          | none => exact absurd z q4
          | some t => exact nth_some_lt z
        refine ⟨q1, ?_, q3, by rw [nth_app_left hlt]; exact q4⟩
        rcases q2 with ⟨i, _, z⟩ | z
        · exact (S.own i a z).2.1
        · exact .inr (hB a z)
    · by_cases hj : j = e'.length
      · by_cases hk : k = e'.length
        · rw [hj, hk]
        · rw [if_pos hj] at ha
          rw [if_neg hk] at hb
          exact absurd hb ((tH a ha).2.2 k)
      · by_cases hk : k = e'.length
        · rw [if_neg hj] at ha
          rw [if_pos hk] at hb
          exact absurd ha ((tH a hb).2.2 j)
        · rw [if_neg hj] at ha
          rw [if_neg hk] at hb
          exact S'.apart j k a ha hb
end
end WW
set_option Elab.async false
set_option linter.all false
set_option maxRecDepth 100000
set_option maxHeartbeats 4000000
/-! The data layer, part 2: judgements and expressions. -/
namespace WW
open PySem PySem.Spec L2

/-! ### exceptions, outcomes -/
def WF : WX := fun _ _ _ _ => False
def ExOk (K : PySem.W.Frag) (H : Hp) (x : Exn) (c : Value) (dd : Option Addr) : Prop := c = .ref (He.ga K x.cls) ∧ match x.fld with
  | none => dd = none
  | some (f, i) => ∃ a, dd = some a ∧ H a = some (.xd [(f, .int i)])
def ExcOut (K : PySem.W.Frag) (W : WX) (B : Bs) (σ : St) (x : Exn) : Prop := ∀ F' H' c dd e', Rl K B F' H' σ e' → ExOk K H' x c dd → W c dd σ H'
abbrev DE := En → R (D × En)
abbrev DT := En → R (Bool × En)
abbrev DA := En → R (List D × En)
abbrev OE := En → R (Sl × En)
def OutD (K : PySem.W.Frag) (W : WX) (B : Bs) (F : Hp) (σ : St) (Q : VK) : R (D × En) → Prop
  | .ok p => ∀ F' H' v, Rl K B F' H' σ p.2 → Same F F' → Rep K F' v p.1 → Q v H'
  | .exc x => ExcOut K W B σ x
  | .bad => False
def OutT (K : PySem.W.Frag) (W : WX) (B : Bs) (F : Hp) (σ : St) (Q : Bool → Hp → Prop) : R (Bool × En) → Prop
  | .ok p => ∀ F' H', Rl K B F' H' σ p.2 → Same F F' → Q p.1 H'
  | .exc x => ExcOut K W B σ x
  | .bad => False
def OutA (K : PySem.W.Frag) (W : WX) (B : Bs) (F : Hp) (σ : St) (Q : List V → Hp → Prop) : R (List D × En) → Prop
  | .ok p => ∀ F' H' vs, Rl K B F' H' σ p.2 → Same F F' → Reps K F' vs p.1 → Q vs H'
  | .exc x => ExcOut K W B σ x
  | .bad => False
def OutO (K : PySem.W.Frag) (W : WX) (B : Bs) (F : Hp) (σ : St) (Q : VK) : R (Sl × En) → Prop
  | .ok p => ∀ F' H' v, Rl K B F' H' (σ ++ [some v]) (p.2 ++ [some p.1]) → Same F F' → Q v H'
  | .exc x => ExcOut K W B σ x
  | .bad => False
def tD (K : PySem.W.Frag) (W : WX) (den : DE) : TE := fun σ H Q => ∃ B F e, Rl K B F H σ e ∧ OutD K W B F σ Q (den e)
def tT (K : PySem.W.Frag) (W : WX) (den : DT) : TT := fun σ H Q => ∃ B F e, Rl K B F H σ e ∧ OutT K W B F σ Q (den e)
def tA (K : PySem.W.Frag) (W : WX) (den : DA) : TA := fun σ H Q => ∃ B F e, Rl K B F H σ e ∧ OutA K W B F σ Q (den e)
def tO (K : PySem.W.Frag) (W : WX) (den : OE) : TE := fun σ H Q => ∃ B F e, Rl K B F H σ e ∧ OutO K W B F σ Q (den e)
/-- a value alone -/
def OutV (K : PySem.W.Frag) (F H : Hp) (Q : VK) : R D → Prop
  | .ok d => ∀ F' H' v, Ext NoA F H F' H' → Rep K F' v d → Q v H'
  | _ => False

section
variable {X : Cx} {e : Expr} {t t' : TE}
theorem peI (h : PE X e t) (i : ∀ σ H Q, t' σ H Q → t σ H Q) : PE X e t' := ⟨fun pins s σ H Q I q => h.run pins s σ H Q I (i σ H Q q)⟩
theorem ptI {t t' : TT} (h : PT X e t) (i : ∀ σ H Q, t' σ H Q → t σ H Q) : PT X e t' := ⟨fun pins s σ H Q I q => h.run pins s σ H Q I (i σ H Q q)⟩
theorem pwI {t t' : TT} (h : PW X e t) (i : ∀ σ H Q, t' σ H Q → t σ H Q) : PW X e t' := ⟨fun w pins s σ H Q I q => h.run w pins s σ H Q I (i σ H Q q)⟩
theorem paI {es : List Expr} {t t' : TA} (h : PA X es t) (i : ∀ σ H Q, t' σ H Q → t σ H Q) : PA X es t' := ⟨fun p pins s σ H Q I q => h.run p pins s σ H Q I (i σ H Q q)⟩
end
section
variable {K : PySem.W.Frag} {W : WX} {B : Bs} {F H F' H' : Hp} {σ : St} {e : En} {β : Type}
/-- a value first, then the rest -/
theorem OutD.bind {P : R β → Prop} {r : R (D × En)} {g : D × En → R β} {Q : VK} (hb : ¬ P .bad) (hx : ∀ x, P (.exc x) → ExcOut K W B σ x) (h : P (r.bind g))
    (k : ∀ d e1, P (g (d, e1)) → ∀ F' H' v, Rl K B F' H' σ e1 → Same F F' → Rep K F' v d → Q v H') : OutD K W B F σ Q r := by
  cases r with
  | ok p => exact k p.1 p.2 h
  | exc x => exact hx x h
  | bad => exact hb h
theorem OutT.bind {P : R β → Prop} {r : R (Bool × En)} {g : Bool × En → R β} {Q : Bool → Hp → Prop} (hb : ¬ P .bad) (hx : ∀ x, P (.exc x) → ExcOut K W B σ x) (h : P (r.bind g))
    (k : ∀ d e1, P (g (d, e1)) → ∀ F' H', Rl K B F' H' σ e1 → Same F F' → Q d H') : OutT K W B F σ Q r := by
  cases r with
  | ok p => exact k p.1 p.2 h
  | exc x => exact hx x h
  | bad => exact hb h
theorem OutA.bind {P : R β → Prop} {r : R (List D × En)} {g : List D × En → R β} {Q : List V → Hp → Prop} (hb : ¬ P .bad) (hx : ∀ x, P (.exc x) → ExcOut K W B σ x) (h : P (r.bind g))
    (k : ∀ d e1, P (g (d, e1)) → ∀ F' H' vs, Rl K B F' H' σ e1 → Same F F' → Reps K F' vs d → Q vs H') : OutA K W B F σ Q r := by
  cases r with
  | ok p => exact k p.1 p.2 h
  | exc x => exact hx x h
  | bad => exact hb h
theorem OutO.bind {P : R β → Prop} {r : R (Sl × En)} {g : Sl × En → R β} {Q : VK} (hb : ¬ P .bad) (hx : ∀ x, P (.exc x) → ExcOut K W B σ x) (h : P (r.bind g))
    (k : ∀ d e1, P (g (d, e1)) → ∀ F' H' v, Rl K B F' H' (σ ++ [some v]) (e1 ++ [some d]) → Same F F' → Q v H') : OutO K W B F σ Q r := by
  cases r with
  | ok p => exact k p.1 p.2 h
  | exc x => exact hx x h
  | bad => exact hb h
/-- the start may lie deeper -/
theorem OutD.pre {r : R (D × En)} {Q : VK} (s : Same F F') (h : OutD K W B F σ Q r) : OutD K W B F' σ Q r := by
  cases r with
  | ok p => exact fun F2 H2 v R s2 q => h F2 H2 v R (s.trans s2) q
  | exc x => exact h
  | bad => exact h
theorem OutT.pre {r : R (Bool × En)} {Q : Bool → Hp → Prop} (s : Same F F') (h : OutT K W B F σ Q r) : OutT K W B F' σ Q r := by
  cases r with
  | ok p => exact fun F2 H2 R s2 => h F2 H2 R (s.trans s2)
  | exc x => exact h
  | bad => exact h
theorem OutA.pre {r : R (List D × En)} {Q : List V → Hp → Prop} (s : Same F F') (h : OutA K W B F σ Q r) : OutA K W B F' σ Q r := by
  cases r with
  | ok p => exact fun F2 H2 v R s2 q => h F2 H2 v R (s.trans s2) q
  | exc x => exact h
  | bad => exact h
theorem OutO.pre {r : R (Sl × En)} {Q : VK} (s : Same F F') (h : OutO K W B F σ Q r) : OutO K W B F' σ Q r := by
  cases r with
  | ok p => exact fun F2 H2 v R s2 => h F2 H2 v R (s.trans s2)
  | exc x => exact h
  | bad => exact h
/-- an end by a value's rule -/
theorem OutD.val {r : R D} {Q : VK} (R : Rl K B F H σ e) (h : OutD K W B F σ Q (r.bind fun d => .ok (d, e))) (hx : ∀ x, r ≠ .exc x) : OutV K F H Q r := by
  cases r with
  | ok d => exact fun F' H' v x rp => h F' H' v (R.step x) x.fr rp
  | exc x => exact absurd rfl (hx x)
  | bad => exact h
theorem dBad {Q : VK} : ¬ OutD K W B F σ Q .bad := fun h => h
theorem dExc {Q : VK} : ∀ x, OutD K W B F σ Q (.exc x) → ExcOut K W B σ x := fun _ h => h
theorem tBad {Q : Bool → Hp → Prop} : ¬ OutT K W B F σ Q .bad := fun h => h
theorem tExc {Q : Bool → Hp → Prop} : ∀ x, OutT K W B F σ Q (.exc x) → ExcOut K W B σ x := fun _ h => h
theorem aBad {Q : List V → Hp → Prop} : ¬ OutA K W B F σ Q .bad := fun h => h
theorem aExc {Q : List V → Hp → Prop} : ∀ x, OutA K W B F σ Q (.exc x) → ExcOut K W B σ x := fun _ h => h
theorem oBad {Q : VK} : ¬ OutO K W B F σ Q .bad := fun h => h
theorem oExc {Q : VK} : ∀ x, OutO K W B F σ Q (.exc x) → ExcOut K W B σ x := fun _ h => h
end

/-! ### names, constants -/
def dVar (i : Nat) : DE := fun e => match nth e i with
  | some (.v d) => .ok (d, e)
  | some (.l xs) => (match setE e i (some (.v (.lst xs))) with
    | some e' => .ok (.lst xs, e')
    | none => .bad)
  | _ => .bad
def dC (d : D) : DE := fun e => .ok (d, e)
/-- freezing a slot's own list -/
theorem Rl.frz {K : PySem.W.Frag} {B : Bs} {F H : Hp} {σ : St} {e e' : En} {i : Nat} {xs : List D} (R : Rl K B F H σ e) (hs : nth e i = some (.l xs)) (h : setE e i (some (.v (.lst xs))) = some e') :
    ∃ F' v, σ[i]? = some (some v) ∧ Same F F' ∧ Rl K B F' H σ e' ∧ Rep K F' v (.lst xs) := by
  obtain ⟨l, ex, fp, S⟩ := id R
  obtain ⟨v, hv, p, vs, rfl, hA, hp, r⟩ := S.ok i _ hs
  obtain ⟨fn, _⟩ := S.own i p ((hA p).mpr rfl)
  have sm : Same F (upd F p (.lst vs)) := fun b o h => by
    have hb : b ≠ p := fun z => by subst z; rw [fn] at h; cases h
    rw [upd_ne hb]; exact h
  have rp : Rep K (upd F p (.lst vs)) (.ref p) (.lst xs) := .lst upd_same (r.mono sm)
  refine ⟨upd F p (.lst vs), .ref p, hv, sm, R.change hs hv h fun A okA hF => ?_, rp⟩
  obtain ⟨p', vs', e1, hA', hp', _⟩ := okA
  injection e1 with e1
  subst e1
  refine ⟨NoA, ⟨fun b o h => ?_, sm, fun _ _ h _ => h, fun _ o h => ⟨o, h⟩, fun b o h => ?_⟩, ⟨rp, fun _ z => z⟩, fun _ z => z.elim⟩
  · by_cases hb : b = p
    · subst hb; rw [upd_same] at h; rw [hp]; exact h
    · rw [upd_ne hb] at h; exact R.sub b o h
  · by_cases hb : b = p
    · subst hb; exact .inr (.inr ((hA' b).mpr rfl))
    · rw [upd_ne hb] at h; exact .inl h
section
variable {X : Cx} {W : WX} {pos : Pos}
theorem dx_var (i : Nat) {x : Str} (hN : X.N[i]? = some x := by rfl) (hv : Vis X.env.scope x := by first | exact Or.inl rfl | exact Or.inr (Or.inl rfl) | exact Or.inr (Or.inr rfl)) (hd : (x == ("__debug__" : Str)) = false := by decide)
    (hcd : (x == ("__classdict__" : Str)) = false := by decide) : PE X (.Name x pos) (tD X.K W (dVar i)) := by
  refine peI (pe_var (i := i) hN hv hd hcd) ?_
  rintro σ H Q ⟨B, F, e, R, h⟩
  unfold dVar at h
  cases q : nth e i with
  | none => rw [q] at h; exact h.elim
  | some s =>
    rw [q] at h
    cases s with
    | v d =>
      obtain ⟨l, ex, fp, S⟩ := id R
      obtain ⟨v, hv, r, _⟩ := S.ok i _ q
      exact ⟨v, hv, h F H v R (Same.refl _) r⟩
    | l xs =>
      have h2 : OutD X.K W B F σ Q (match setE e i (some (.v (.lst xs))) with
        | some e' => .ok (.lst xs, e')
        | none => .bad) := h
      cases q2 : setE e i (some (.v (.lst xs))) with
      | none => rw [q2] at h2; exact h2.elim
      | some e' =>
        rw [q2] at h2
        obtain ⟨F', v, hv, sm, R', rp⟩ := R.frz q q2
        exact ⟨v, hv, h2 F' H v R' sm rp⟩
    | box p ns st => exact h.elim
theorem dx_c {v : V} {d : D} {ex : Expr} (h : PE X ex (tC v)) (r : ∀ F, Rep X.K F v d) : PE X ex (tD X.K W (dC d)) := by
  refine peI h ?_
  rintro σ H Q ⟨B, F, e, R, h⟩
  exact h F H v R (Same.refl _) (r F)
theorem dx_int {i j} : PE X (.Constant (.int i) j pos) (tD X.K W (dC (.int i))) := dx_c pe_int fun _ => .int i
theorem dx_bl {b j} : PE X (.Constant (.bool b) j pos) (tD X.K W (dC (.bl b))) := dx_c pe_bl fun _ => .bl b
theorem dx_non {j} : PE X (.Constant .none j pos) (tD X.K W (dC .non)) := dx_c pe_non fun _ => .non
theorem dx_str {x j} : PE X (.Constant (.str x) j pos) (tD X.K W (dC (.str x))) := dx_c pe_str fun _ => .str x
/-- a module's constant -/
theorem dx_glob {x : Str} {v : V} {u : Value} {d : D} (hg : Gl X x) (hm : X.mg x = some u) (r : RelV v u) (rp : ∀ F, Rep X.K F v d) (hd : (x == ("__debug__" : Str)) = false := by decide) : PE X (.Name x pos) (tD X.K W (dC d)) := dx_c (pe_glob hg hm r hd) rp
end

/-! ### operators by values -/
def VR2 (K : PySem.W.Frag) (r : R2) (g : D → D → R D) : Prop := ∀ (F H : Hp) (x y : V) (dx dy : D) (Q : VK), Same F H → Rep K F x dx → Rep K F y dy → OutV K F H Q (g dx dy) → r x y H Q
def VR1 (K : PySem.W.Frag) (r : V → Hp → VK → Prop) (g : D → R D) : Prop := ∀ (F H : Hp) (x : V) (dx : D) (Q : VK), Same F H → Rep K F x dx → OutV K F H Q (g dx) → r x H Q
def VRn (K : PySem.W.Frag) (r : List V → Hp → VK → Prop) (g : List D → R D) : Prop := ∀ (F H : Hp) (xs : List V) (ds : List D) (Q : VK), Same F H → Reps K F xs ds → OutV K F H Q (g ds) → r xs H Q
def NoX2 (g : D → D → R D) : Prop := ∀ a b x, g a b ≠ .exc x
def NoX1 (g : D → R D) : Prop := ∀ a x, g a ≠ .exc x
def NoXn (g : List D → R D) : Prop := ∀ a x, g a ≠ .exc x
def dBin (g : D → D → R D) (da db : DE) : DE := fun e => (da e).bind fun p => (db p.2).bind fun q => (g p.1 q.1).bind fun d => .ok (d, q.2)
def dUn (g : D → R D) (da : DE) : DE := fun e => (da e).bind fun p => (g p.1).bind fun d => .ok (d, p.2)
def dNil : DA := fun e => .ok ([], e)
def dCons (da : DE) (dr : DA) : DA := fun e => (da e).bind fun p => (dr p.2).bind fun q => .ok (p.1 :: q.1, q.2)
def dApp (g : List D → R D) (da : DA) : DE := fun e => (da e).bind fun p => (g p.1).bind fun d => .ok (d, p.2)
theorem tD_op {K : PySem.W.Frag} {W : WX} {r : R2} {g : D → D → R D} {da db : DE} (hg : VR2 K r g) (nx : NoX2 g) {σ : St} {H : Hp} {Q : VK} (h : tD K W (dBin g da db) σ H Q) : tOp r (tD K W da) (tD K W db) σ H Q := by
  obtain ⟨B, F, e, R, h⟩ := h
  refine ⟨B, F, e, R, OutD.bind (P := OutD K W B F σ Q) dBad dExc h fun dx e1 h1 F1 H1 x R1 s1 rx => ?_⟩
  refine ⟨B, F1, e1, R1, OutD.bind (P := OutD K W B F1 σ Q) dBad dExc (h1.pre s1) fun dy e2 h2 F2 H2 y R2 s2 ry => ?_⟩
  exact hg F2 H2 x y dx dy Q R2.sub (rx.mono s2) ry (OutD.val R2 (h2.pre s2) (nx _ _))
section
variable {X : Cx} {W : WX} {pos : Pos} {a b c : Expr} {da db dc : DE} {r r' : R2} {g g' : D → D → R D}
theorem dx_op {op : Operator} (ho : OpR X (binaryOp op) r) (hg : VR2 X.K r g) (nx : NoX2 g) (ha : PE X a (tD X.K W da)) (hb : PE X b (tD X.K W db)) : PE X (.BinOp a op b pos) (tD X.K W (dBin g da db)) :=
  peI (pe_op ho ha hb) fun _ _ _ => tD_op hg nx
theorem dx_cmp {op : CmpOp} (ho : OpR X (compareOp op) r) (hg : VR2 X.K r g) (nx : NoX2 g) (ha : PE X a (tD X.K W da)) (hb : PE X b (tD X.K W db)) (hm : behindInMarks op b = false) : PE X (.Compare a [op] [b] pos) (tD X.K W (dBin g da db)) :=
  peI (pe_cmpR ho ha hb hm) fun _ _ _ => tD_op hg nx
/-- a test -/
def asB : D → R Bool
  | .bl b => .ok b
  | _ => .bad
def dTest (da : DE) : DT := fun e => (da e).bind fun p => (asB p.1).bind fun b => .ok (b, p.2)
theorem tD_test {K : PySem.W.Frag} {σ : St} {H : Hp} {Q : Bool → Hp → Prop} (h : tT K W (dTest da) σ H Q) : tD K W da σ H fun x H1 => ∃ k, x = .bl k ∧ Q k H1 := by
  obtain ⟨B, F, e, R, h⟩ := h
  refine ⟨B, F, e, R, OutD.bind (P := OutT K W B F σ Q) tBad tExc h fun dx e1 h1 F1 H1 x R1 s1 rx => ?_⟩
  cases dx with
  | bl k => exact ⟨k, rx.bl_inv, h1 F1 H1 R1 s1⟩
  | _ => exact h1.elim
theorem dt_val (h : PE X a (tD X.K W da)) (he : ∀ whole, isTrue a X.env whole = (do let v ← whole; standAt a.pos; holding [v] (truthy v)) := by intro _; rfl) : PT X a (tT X.K W (dTest da)) :=
  ptI (pt_val h he) fun _ _ _ => tD_test
theorem dt_cmp {op : CmpOp} (ho : OpR X (compareOp op) r) (hg : VR2 X.K r g) (nx : NoX2 g) (ha : PE X a (tD X.K W da)) (hb : PE X b (tD X.K W db)) (hm : behindInMarks op b = false) : PT X (.Compare a [op] [b] pos) (tT X.K W (dTest (dBin g da db))) := by
  refine ptI (pt_cmpR ho ha hb hm) fun σ H Q h => ?_
  have h2 := tD_test h
  exact tD_op hg nx h2
/-- a op b op' c -/
def dChain (g g' : D → D → R D) (da db dc : DE) : DE := fun e => (da e).bind fun p => (db p.2).bind fun q => (g p.1 q.1).bind fun d => (asB d).bind fun k => if k = true then (dc q.2).bind fun z => (g' q.1 z.1).bind fun d => .ok (d, z.2) else .ok (.bl false, q.2)
/-- what a comparison gives: no new object -/
def Pure2 (g : D → D → R D) : Prop := ∀ a b d, g a b = .ok d → ∃ k, d = .bl k
theorem tD_chain {K : PySem.W.Frag} (hg : VR2 K r g) (nx : NoX2 g) (hg' : VR2 K r' g') (nx' : NoX2 g') {σ : St} {H : Hp} {Q : VK} (h : tD K W (dChain g g' da db dc) σ H Q) : tChain r r' (tD K W da) (tD K W db) (tD K W dc) σ H Q := by
  obtain ⟨B, F, e, R, h⟩ := h
  refine ⟨B, F, e, R, OutD.bind (P := OutD K W B F σ Q) dBad dExc h fun dx e1 h1 F1 H1 x R1 s1 rx => ?_⟩
  refine ⟨B, F1, e1, R1, OutD.bind (P := OutD K W B F1 σ Q) dBad dExc (h1.pre s1) fun dy e2 h2 F2 H2 y R2 s2 ry => ?_⟩
  have h3 := h2.pre s2
  refine hg F2 H2 x y dx dy _ R2.sub (rx.mono s2) ry ?_
  cases q : g dx dy with
  | bad => rw [q] at h3; exact h3.elim
  | exc x => exact absurd q (nx _ _ _)
  | ok d =>
    rw [q] at h3
    intro F3 H3 v x3 rv
    cases d with
    | bl k =>
      refine ⟨k, rv.bl_inv, ?_⟩
      cases k with
      | false => exact h3 F3 H3 (.bl false) (R2.step x3) x3.fr (.bl false)
      | true =>
        refine ⟨B, F3, e2, R2.step x3, OutD.bind (P := OutD K W B F3 σ Q) dBad dExc (OutD.pre x3.fr h3) fun dz e4 h4 F4 H4 z R4 s4 rz => ?_⟩
        exact hg' F4 H4 y z dy dz Q R4.sub ((ry.mono x3.fr).mono s4) rz (OutD.val R4 (h4.pre s4) (nx' _ _))
    | _ => exact h3.elim
theorem dx_chain {op op' : CmpOp} (ho : OpR X (compareOp op) r) (ho' : OpR X (compareOp op') r') (hg : VR2 X.K r g) (nx : NoX2 g) (hg' : VR2 X.K r' g') (nx' : NoX2 g') (ha : PE X a (tD X.K W da)) (hb : PE X b (tD X.K W db)) (hc : PE X c (tD X.K W dc))
    (hm : lastMarks [op, op'] [b, c] = false) : PE X (.Compare a [op, op'] [b, c] pos) (tD X.K W (dChain g g' da db dc)) :=
  peI (pe_chain ho ho' ha hb hc hm) fun _ _ _ => tD_chain hg nx hg' nx'
theorem dt_chain {op op' : CmpOp} (ho : OpR X (compareOp op) r) (ho' : OpR X (compareOp op') r') (hg : VR2 X.K r g) (nx : NoX2 g) (hg' : VR2 X.K r' g') (nx' : NoX2 g') (ha : PE X a (tD X.K W da)) (hb : PE X b (tD X.K W db)) (hc : PE X c (tD X.K W dc))
    (hm : lastMarks [op, op'] [b, c] = false) : PT X (.Compare a [op, op'] [b, c] pos) (tT X.K W (dTest (dChain g g' da db dc))) := by
  refine ptI (pt_chain ho ho' ha hb hc hm) fun σ H Q h => ?_
  have h2 := tD_test h
  exact tD_chain hg nx hg' nx' h2
/-! ### not, and, or -/
def dNot (t : DT) : DT := fun e => (t e).bind fun p => .ok (!p.1, p.2)
def dAnd (t u : DT) : DT := fun e => (t e).bind fun p => if p.1 = true then u p.2 else .ok (false, p.2)
def dOr (t u : DT) : DT := fun e => (t e).bind fun p => if p.1 = true then .ok (true, p.2) else u p.2
def dOfT (t : DT) : DE := fun e => (t e).bind fun p => .ok (.bl p.1, p.2)
variable {ta tb : DT} {rest : List Expr}
theorem dt_not (ha : PT X a (tT X.K W ta)) : PT X (.UnaryOp .Not a pos) (tT X.K W (dNot ta)) := by
  refine ptI (pt_not ha) ?_
  rintro σ H Q ⟨B, F, e, R, h⟩
  exact ⟨B, F, e, R, OutT.bind (P := OutT X.K W B F σ Q) tBad tExc h fun k e1 h1 F1 H1 R1 s1 => h1 F1 H1 R1 s1⟩
theorem dw_and1 (ha : PT X a (tT X.K W ta)) : PW X (.BoolOp .And [a] pos) (tT X.K W ta) := pw_and1 ha
theorem dw_or1 (ha : PT X a (tT X.K W ta)) : PW X (.BoolOp .Or [a] pos) (tT X.K W ta) := pw_or1 ha
theorem dw_and (ha : PT X a (tT X.K W ta)) (hb : PW X (.BoolOp .And (b :: rest) pos) (tT X.K W tb)) : PW X (.BoolOp .And (a :: b :: rest) pos) (tT X.K W (dAnd ta tb)) := by
  refine pwI (pw_and ha hb) ?_
  rintro σ H Q ⟨B, F, e, R, h⟩
  refine ⟨B, F, e, R, OutT.bind (P := OutT X.K W B F σ Q) tBad tExc h fun k e1 h1 F1 H1 R1 s1 => ?_⟩
  cases k with
  | true => exact iteT ⟨B, F1, e1, R1, OutT.pre s1 h1⟩
  | false => exact iteF (h1 F1 H1 R1 s1)
theorem dw_or (ha : PT X a (tT X.K W ta)) (hb : PW X (.BoolOp .Or (b :: rest) pos) (tT X.K W tb)) : PW X (.BoolOp .Or (a :: b :: rest) pos) (tT X.K W (dOr ta tb)) := by
  refine pwI (pw_or ha hb) ?_
  rintro σ H Q ⟨B, F, e, R, h⟩
  refine ⟨B, F, e, R, OutT.bind (P := OutT X.K W B F σ Q) tBad tExc h fun k e1 h1 F1 H1 R1 s1 => ?_⟩
  cases k with
  | true => exact iteT (h1 F1 H1 R1 s1)
  | false => exact iteF ⟨B, F1, e1, R1, OutT.pre s1 h1⟩
/-- .. as values -/
def dAndV (da db : DE) : DE := fun e => (da e).bind fun p => (asB p.1).bind fun k => if k = true then db p.2 else .ok (.bl false, p.2)
def dOrV (da db : DE) : DE := fun e => (da e).bind fun p => (asB p.1).bind fun k => if k = true then .ok (.bl true, p.2) else db p.2
def dNotV (da : DE) : DE := fun e => (da e).bind fun p => (asB p.1).bind fun k => .ok (.bl (!k), p.2)
theorem dx_one {op} (h : PE X a (tD X.K W da)) : PE X (.BoolOp op [a] pos) (tD X.K W da) := pe_one h
theorem dx_and (ha : PE X a (tD X.K W da)) (hb : PE X (.BoolOp .And (b :: rest) pos) (tD X.K W db)) : PE X (.BoolOp .And (a :: b :: rest) pos) (tD X.K W (dAndV da db)) := by
  refine peI (pe_and ha hb) ?_
  rintro σ H Q ⟨B, F, e, R, h⟩
  refine ⟨B, F, e, R, OutD.bind (P := OutD X.K W B F σ Q) dBad dExc h fun d e1 h1 F1 H1 x R1 s1 rx => ?_⟩
  cases d with
  | bl k =>
    refine ⟨k, rx.bl_inv, ?_⟩
    cases k with
    | true => exact iteT ⟨B, F1, e1, R1, OutD.pre s1 h1⟩
    | false => exact iteF (h1 F1 H1 _ R1 s1 (.bl false))
  | _ => exact h1.elim
theorem dx_or (ha : PE X a (tD X.K W da)) (hb : PE X (.BoolOp .Or (b :: rest) pos) (tD X.K W db)) : PE X (.BoolOp .Or (a :: b :: rest) pos) (tD X.K W (dOrV da db)) := by
  refine peI (pe_or ha hb) ?_
  rintro σ H Q ⟨B, F, e, R, h⟩
  refine ⟨B, F, e, R, OutD.bind (P := OutD X.K W B F σ Q) dBad dExc h fun d e1 h1 F1 H1 x R1 s1 rx => ?_⟩
  cases d with
  | bl k =>
    refine ⟨k, rx.bl_inv, ?_⟩
    cases k with
    | true => exact iteT (h1 F1 H1 _ R1 s1 (.bl true))
    | false => exact iteF ⟨B, F1, e1, R1, OutD.pre s1 h1⟩
  | _ => exact h1.elim
theorem dx_not (ha : PE X a (tD X.K W da)) : PE X (.UnaryOp .Not a pos) (tD X.K W (dNotV da)) := by
  refine peI (pe_not ha) ?_
  rintro σ H Q ⟨B, F, e, R, h⟩
  refine ⟨B, F, e, R, OutD.bind (P := OutD X.K W B F σ Q) dBad dExc h fun d e1 h1 F1 H1 x R1 s1 rx => ?_⟩
  cases d with
  | bl k => exact ⟨k, rx.bl_inv, h1 F1 H1 _ R1 s1 (.bl _)⟩
  | _ => exact h1.elim
def dIfE (t : DT) (da db : DE) : DE := fun e => (t e).bind fun p => if p.1 = true then da p.2 else db p.2
theorem dx_if (hc : PT X c (tT X.K W ta)) (ha : PE X a (tD X.K W da)) (hb : PE X b (tD X.K W db)) : PE X (.IfExp c a b pos) (tD X.K W (dIfE ta da db)) := by
  refine peI (pe_ifExp hc ha hb) ?_
  rintro σ H Q ⟨B, F, e, R, h⟩
  refine ⟨B, F, e, R, OutT.bind (P := OutD X.K W B F σ Q) dBad dExc h fun k e1 h1 F1 H1 R1 s1 => ?_⟩
  cases k with
  | true => exact iteT ⟨B, F1, e1, R1, OutD.pre s1 h1⟩
  | false => exact iteF ⟨B, F1, e1, R1, OutD.pre s1 h1⟩
/-! ### argument lists, displays -/
variable {es : List Expr} {dr : DA}
theorem da_nil : PA X [] (tA X.K W dNil) := by
  refine paI pa_nil ?_
  rintro σ H Q ⟨B, F, e, R, h⟩
  exact h F H [] R (Same.refl _) .nil
theorem da_cons {ex : Expr} (ha : PE X ex (tD X.K W da)) (hr : PA X es (tA X.K W dr)) (hs : starEach (ex :: es) X.env = (false, eval ex X.env) :: starEach es X.env := by rfl) : PA X (ex :: es) (tA X.K W (dCons da dr)) := by
  refine paI (pa_cons ha hr hs) ?_
  rintro σ H Q ⟨B, F, e, R, h⟩
  refine ⟨B, F, e, R, OutD.bind (P := OutA X.K W B F σ Q) aBad aExc h fun d e1 h1 F1 H1 x R1 s1 rx => ?_⟩
  refine ⟨B, F1, e1, R1, OutA.bind (P := OutA X.K W B F1 σ Q) aBad aExc (h1.pre s1) fun l e2 h2 F2 H2 xs R2 s2 rs => ?_⟩
  exact h2 F2 H2 _ R2 s2 (.cons (rx.mono s2) rs)
def LIM : Nat := 1000000
theorem lim_line {n : Nat} (h : n ≤ LIM) : n ≤ sizeLine := by rw [sizeLine_eq]; unfold LIM at h; omega
theorem lim_line' {n : Nat} (h : n ≤ LIM) : n < sizeLine := by rw [sizeLine_eq]; unfold LIM at h; omega
def mkTup (l : List D) : R D := if l.length ≤ LIM then .ok (.tup l) else .bad
def mkLst (l : List D) : R Sl := if l.length ≤ LIM then .ok (.l l) else .bad
def dTup (da : DA) : DE := dApp mkTup da
def oLst (da : DA) : OE := fun e => (da e).bind fun p => (mkLst p.1).bind fun s => .ok (s, p.2)
theorem dx_tup {x1} (h : PA X es (tA X.K W dr)) : PE X (.Tuple es x1 pos) (tD X.K W (dTup dr)) := by
  refine peI (pe_tup h) ?_
  rintro σ H Q ⟨B, F, e, R, h⟩
  refine ⟨B, F, e, R, OutA.bind (P := OutD X.K W B F σ Q) dBad dExc h fun l e1 h1 F1 H1 xs R1 s1 rs => ?_⟩
  unfold mkTup at h1
  by_cases hl : l.length ≤ LIM
  · rw [if_pos hl] at h1
    refine ⟨by rw [rs.length]; exact lim_line hl, fun p hp => ?_⟩
    have x := ext_new (o := .tup xs) R1.sub hp
    exact h1 _ _ _ (R1.step x) (s1.trans x.fr) (.tup (.inl (.inl upd_same)) (rs.mono x.fr))
  · rw [if_neg hl] at h1
    exact h1.elim
/-- a new own list at p -/
theorem Rl.newL {K : PySem.W.Frag} {B : Bs} {F H : Hp} {σ : St} {e : En} {p : Addr} {vs : List V} {l : List D} (R : Rl K B F H σ e) (hp : H p = none) (rs : Reps K F vs l) : Rl K B F (upd H p (.lst vs)) (σ ++ [some (.ref p)]) (e ++ [some (.l l)]) := by
  refine R.more (A := fun a => a = p) (ext_raw R.sub hp) ⟨p, vs, rfl, fun _ => Iff.rfl, upd_same, rs⟩ fun a z => ?_
  subst z
  refine ⟨?_, hp⟩
  cases q : F a with
  | none => rfl
  | some o => rw [R.sub _ _ q] at hp; cases hp
theorem ox_lst (h : PA X es (tA X.K W dr)) : PE X (.List es pos) (tO X.K W (oLst dr)) := by
  refine peI (pe_lst h) ?_
  rintro σ H Q ⟨B, F, e, R, h⟩
  refine ⟨B, F, e, R, OutA.bind (P := OutO X.K W B F σ Q) oBad oExc h fun l e1 h1 F1 H1 xs R1 s1 rs => ?_⟩
  unfold mkLst at h1
  by_cases hl : l.length ≤ LIM
  · rw [if_pos hl] at h1
    exact ⟨by rw [rs.length]; exact lim_line hl, fun p hp => h1 _ _ _ (R1.newL hp rs) s1⟩
  · rw [if_neg hl] at h1
    exact h1.elim
/-- a new list as a value -/
def slD : Sl → R D
  | .l xs => .ok (.lst xs)
  | _ => .bad
def dFrz (o : OE) : DE := fun e => (o e).bind fun p => (slD p.1).bind fun d => .ok (d, p.2)
theorem dx_frz {o : OE} {ex : Expr} (h : PE X ex (tO X.K W o)) : PE X ex (tD X.K W (dFrz o)) := by
  refine peI h ?_
  rintro σ H Q ⟨B, F, e, R, h⟩
  refine ⟨B, F, e, R, OutO.bind (P := OutD X.K W B F σ Q) dBad dExc h fun s e1 h1 F1 H1 x R1 s1 => ?_⟩
  cases s with
  | l xs =>
    obtain ⟨F2, s2, R2, rp⟩ := R1.freeze
    exact h1 F2 H1 x R2 (s1.trans s2) rp
  | v d => exact h1.elim
  | box p ns st => exact h1.elim
end
end WW
set_option Elab.async false
set_option linter.all false
set_option maxRecDepth 100000
set_option maxHeartbeats 4000000
/-! The data layer, part 3: operators and calls, value by value. -/
namespace WW
open PySem PySem.Spec L2

/-! ### plain data as the library's data -/
mutual
def D.py : D → PyData
  | .non => .none
  | .bl b => .bool b
  | .int i => .int i
  | .str x => .str x
  | .tup l => .tuple (pyAll l)
  | .lst l => .list (pyAll l)
  | .ins _ _ _ => .none
def pyAll : List D → List PyData
  | [] => []
  | d :: l => d.py :: pyAll l
end
mutual
def D.plain : D → Bool
  | .tup l => plainAll l
  | .lst l => plainAll l
  | .ins _ _ _ => false
  | _ => true
def plainAll : List D → Bool
  | [] => true
  | d :: l => d.plain && plainAll l
end
mutual
theorem Rep.dp {K : PySem.W.Frag} {F H : Hp} (s : Same F H) : ∀ (d : D) (v : V), d.plain = true → Rep K F v d → Dp K H v d.py
  | .non, _, _, h => by cases h; exact .non
  | .bl _, _, _, h => by cases h; exact .bl _
  | .int _, _, _, h => by cases h; exact .int _
  | .str _, _, _, h => by cases h; exact .str _
  | .tup l, _, p, h => by
    cases h with
    | tup h1 h2 => exact .tup (same_sqT s h1) (Reps.dp s l _ (by simpa [D.plain] using p) h2)
  | .lst l, _, p, h => by
    cases h with
    | lst h1 h2 => exact .lst (.inl (.inl (s _ _ h1))) (Reps.dp s l _ (by simpa [D.plain] using p) h2)
  | .ins _ _ _, _, p, _ => by simp [D.plain] at p
theorem Reps.dp {K : PySem.W.Frag} {F H : Hp} (s : Same F H) : ∀ (l : List D) (vs : List V), plainAll l = true → Reps K F vs l → DpAll K H vs (pyAll l)
  | [], _, _, h => by cases h; exact .nil
  | d :: l, _, p, h => by
    cases h with
    | cons h1 h2 =>
      have p2 : d.plain = true ∧ plainAll l = true := by simpa [plainAll] using p
      exact .cons (Rep.dp s d _ p2.1 h1) (Reps.dp s l _ p2.2 h2)
end
def D.fit (d : D) : Bool := d.plain && SeqAt.shaped d.py
theorem D.fit_plain {d : D} (h : d.fit = true) : d.plain = true := (Bool.and_eq_true_iff.mp h).1
theorem D.fit_shaped {d : D} (h : d.fit = true) : SeqAt.shaped d.py = true := (Bool.and_eq_true_iff.mp h).2

section
variable {K : PySem.W.Frag} {F H : Hp} {Q : VK}
theorem OutV.flat {v : V} {d : D} (s : Same F H) (h : OutV K F H Q (.ok d)) (r : ∀ F', Rep K F' v d) : Q v H := h F H v (Ext.refl s) (r F)
theorem OutV.same {v : V} {d : D} (s : Same F H) (h : OutV K F H Q (.ok d)) (r : Rep K F v d) : Q v H := h F H v (Ext.refl s) r
theorem OutV.newT {vs : List V} {l : List D} (s : Same F H) (h : OutV K F H Q (.ok (.tup l))) (r : Reps K F vs l) : ∀ p, H p = none → Q (.ref p) (upd H p (.tup vs)) := fun p hp => by
  have x := ext_new (o := .tup vs) s hp
  exact h _ _ _ x (.tup (.inl (.inl upd_same)) (r.mono x.fr))
theorem OutV.newL {vs : List V} {l : List D} (s : Same F H) (h : OutV K F H Q (.ok (.lst l))) (r : Reps K F vs l) : ∀ p, H p = none → Q (.ref p) (upd H p (.lst vs)) := fun p hp => by
  have x := ext_new (o := .lst vs) s hp
  exact h _ _ _ x (.lst upd_same (r.mono x.fr))
end

/-! ### arithmetic -/
def gAdd : D → D → R D
  | .int i, .int j => .ok (.int (i + j))
  | .str x, .str y => if x.length + y.length ≤ LIM then .ok (.str (x ++ y)) else .bad
  | .lst l, .lst m => if l.length + m.length ≤ LIM then .ok (.lst (l ++ m)) else .bad
  | .tup l, .tup m => if l.length + m.length ≤ LIM then .ok (.tup (l ++ m)) else .bad
  | _, _ => .bad
def gSub : D → D → R D
  | .int i, .int j => .ok (.int (i - j))
  | _, _ => .bad
def SMALL : Int := 1000000000
def small (i : Int) : Bool := decide (-SMALL < i) && decide (i < SMALL)
theorem small_of {i : Int} (h : small i = true) : -1000000000 < i ∧ i < 1000000000 := by
  unfold small SMALL at h
  simp only [Bool.and_eq_true, decide_eq_true_eq] at h
  exact h
def gMul : D → D → R D
  | .int i, .int j => if (small i || small j) = true then .ok (.int (i * j)) else .bad
  | .str x, .int k => if x.length * k.toNat ≤ LIM ∧ small k = true then .ok (.str (Txt.mul x k)) else .bad
  | .lst l, .int k => if l.length * k.toNat ≤ LIM ∧ small k = true then .ok (.lst (List.replicate k.toNat l).flatten) else .bad
  | _, _ => .bad
def gDiv : D → D → R D
  | .int i, .int j => if 0 < j ∧ j < SMALL then .ok (.int (i / j)) else .bad
  | _, _ => .bad
def gMod : D → D → R D
  | .int i, .int j => if 0 < j then .ok (.int (i % j)) else .bad
  | _, _ => .bad
def rMulS : R2 := fun x y H Q => ∃ z k, x = .str z ∧ y = .int k ∧ z.length * k.toNat ≤ LIM ∧ small k = true ∧ Q (.str (Txt.mul z k)) H
theorem mulOk {z : Str} {k : Int} (h1 : z.length * k.toNat ≤ LIM) (h2 : small k = true) : MulOk z k := by
  obtain ⟨h3, h4⟩ := small_of h2
  refine ⟨?_, fun h5 _ h6 => ?_, fun h5 _ => ?_⟩
  · have e1 : decide (k < -(2 ^ 63 : Int)) = false := decide_eq_false (by omega)
    have e2 : decide (k ≥ 2 ^ 63) = false := decide_eq_false (by omega)
    rw [e1, e2]; rfl
  · have hz : z.length ≤ LIM := by
      have h7 : 1 ≤ k.toNat := by omega
      exact Nat.le_trans (Nat.le_mul_of_pos_right _ h7) h1
    unfold LIM at hz
    have h8 : (1000000 : Int) ≤ (2 ^ 63 - 1) / k := by
      refine Int.le_ediv_of_mul_le (by omega) ?_
      have : (1000000 : Int) * k ≤ 1000000 * 1000000000 := Int.mul_le_mul_of_nonneg_left (by omega) (by omega)
      omega
    omega
  · unfold Builtin.Str.tooLong
    rw [decide_eq_false]
    have := lim_line h1
    omega
section
variable {X : Cx} {K : PySem.W.Frag}
theorem op_mulS : OpR X (binaryOp .Mult) rMulS := by
  intro pins s σ H x y v u Q I rx ry h
  obtain ⟨z, k, rfl, rfl, h1, h2, q⟩ := h
  obtain ⟨t, rfl⟩ := rx
  obtain ⟨t', rfl⟩ := ry
  exact PySem.SB.mul (mulOk h1 h2) fun t2 tk => ⟨.str _, H, I.tok tk, ⟨_, rfl⟩, q⟩
def rAddA (K : PySem.W.Frag) : R2 := fun x y H Q => (∃ i j, x = .int i ∧ y = .int j ∧ Q (.int (i + j)) H) ∨ (∃ i j, x = .str i ∧ y = .str j ∧ i.length + j.length ≤ sizeLine ∧ Q (.str (i ++ j)) H) ∨ rCat x y H Q ∨ rCatA K x y H Q
theorem op_addA : OpR X (binaryOp .Add) (rAddA X.K) := OpR.or op_add (OpR.or op_add_str (OpR.or op_cat op_catA))
theorem vr_add : VR2 K (rAddA K) gAdd := by
  intro F H x y dx dy Q s rx ry h
  unfold gAdd at h
  cases dx with
  | int i =>
    cases dy with
    | int j => exact .inl ⟨i, j, rx.int_inv, ry.int_inv, h.flat s fun _ => .int _⟩
    | _ => exact h.elim
  | str i =>
    cases dy with
    | str j =>
      by_cases c : i.length + j.length ≤ LIM
      · simp only [if_pos c] at h
        exact .inr (.inl ⟨i, j, rx.str_inv, ry.str_inv, lim_line c, h.flat s fun _ => .str _⟩)
      · simp only [if_neg c] at h
        exact h.elim
    | _ => exact h.elim
  | lst l =>
    cases dy with
    | lst m =>
      by_cases c : l.length + m.length ≤ LIM
      · simp only [if_pos c] at h
        obtain ⟨a, vs, rfl, ha, ra⟩ := rx.lst_inv
        obtain ⟨b, us, rfl, hb, rb⟩ := ry.lst_inv
        exact .inr (.inr (.inl ⟨a, b, vs, us, rfl, rfl, s _ _ ha, s _ _ hb, by rw [ra.length, rb.length]; exact lim_line c, h.newL s (ra.app rb)⟩))
      · simp only [if_neg c] at h
        exact h.elim
    | _ => exact h.elim
  | tup l =>
    cases dy with
    | tup m =>
      by_cases c : l.length + m.length ≤ LIM
      · simp only [if_pos c] at h
        obtain ⟨a, vs, rfl, ha, ra⟩ := rx.tup_inv
        obtain ⟨b, us, rfl, hb, rb⟩ := ry.tup_inv
        refine .inr (.inr (.inr ⟨a, b, vs, us, rfl, rfl, same_sqT s ha, same_sqT s hb, by rw [ra.length, rb.length]; exact lim_line c, fun z => ?_, fun _ z => ?_, fun _ _ => h.newT s (ra.app rb)⟩))
        · subst z
          cases ra
          exact h.same s ry
        · subst z
          cases rb
          rw [List.append_nil] at h
          exact h.same s rx
      · simp only [if_neg c] at h
        exact h.elim
    | _ => exact h.elim
  | _ => exact h.elim
theorem nx_add : NoX2 gAdd := by
  intro a b x h
  unfold gAdd at h
  split at h <;> first | cases h | (split at h <;> cases h)
theorem vr_sub : VR2 K (rI0 fun i j => .int (i - j)) gSub := by
  intro F H x y dx dy Q s rx ry h
  unfold gSub at h
  split at h
  · exact ⟨_, _, rx.int_inv, ry.int_inv, h.flat s fun _ => .int _⟩
  · exact h.elim
theorem nx_sub : NoX2 gSub := by
  intro a b x h
  unfold gSub at h
  split at h <;> cases h
def rMulA : R2 := fun x y H Q => rI CMul (fun i j => .int (i * j)) x y H Q ∨ rMulS x y H Q ∨ rRep x y H Q
theorem op_mulA : OpR X (binaryOp .Mult) rMulA := OpR.or op_mul (OpR.or op_mulS op_rep)
theorem reps_rep {F : Hp} {vs : List V} {l : List D} (r : Reps K F vs l) : ∀ n : Nat, Reps K F (List.replicate n vs).flatten (List.replicate n l).flatten
  | 0 => .nil
  | n + 1 => by
    rw [List.replicate_succ, List.replicate_succ, List.flatten_cons, List.flatten_cons]
    exact r.app (reps_rep r n)
theorem vr_mul : VR2 K rMulA gMul := by
  intro F H x y dx dy Q s rx ry h
  unfold gMul at h
  split at h
  · rename_i i j
    by_cases c : (small i || small j) = true
    · rw [if_pos c] at h
      refine .inl ⟨_, _, rx.int_inv, ry.int_inv, ?_, h.flat s fun _ => .int _⟩
      rcases Bool.or_eq_true_iff.mp c with z | z
      · obtain ⟨h1, h2⟩ := small_of z
        exact .inl ⟨by omega, by omega⟩
      · obtain ⟨h1, h2⟩ := small_of z
        exact .inr ⟨by omega, by omega⟩
    · rw [if_neg c] at h
      exact h.elim
  · rename_i z k
    by_cases c : z.length * k.toNat ≤ LIM ∧ small k = true
    · rw [if_pos c] at h
      exact .inr (.inl ⟨_, _, rx.str_inv, ry.int_inv, c.1, c.2, h.flat s fun _ => .str _⟩)
    · rw [if_neg c] at h
      exact h.elim
  · rename_i l k
    by_cases c : l.length * k.toNat ≤ LIM ∧ small k = true
    · rw [if_pos c] at h
      obtain ⟨a, vs, rfl, ha, ra⟩ := rx.lst_inv
      obtain ⟨h1, h2⟩ := small_of c.2
      exact .inr (.inr ⟨a, k, vs, rfl, ry.int_inv, s _ _ ha, by omega, by omega, by rw [ra.length]; exact lim_line c.1, h.newL s (reps_rep ra _)⟩)
    · rw [if_neg c] at h
      exact h.elim
  · exact h.elim
theorem nx_mul : NoX2 gMul := by
  intro a b x h
  unfold gMul at h
  split at h <;> first | cases h | (split at h <;> cases h)
theorem vr_div : VR2 K (rI CDiv fun i j => .int (i / j)) gDiv := by
  intro F H x y dx dy Q s rx ry h
  unfold gDiv at h
  split at h
  · rename_i i j
    by_cases c : 0 < j ∧ j < SMALL
    · rw [if_pos c] at h
      exact ⟨_, _, rx.int_inv, ry.int_inv, ⟨c.1, by have := c.2; unfold SMALL at this; omega⟩, h.flat s fun _ => .int _⟩
    · rw [if_neg c] at h
      exact h.elim
  · exact h.elim
theorem nx_div : NoX2 gDiv := by
  intro a b x h
  unfold gDiv at h
  split at h <;> first | cases h | (split at h <;> cases h)
theorem vr_mod : VR2 K (rI (fun _ j => 0 < j) fun i j => .int (i % j)) gMod := by
  intro F H x y dx dy Q s rx ry h
  unfold gMod at h
  split at h
  · rename_i i j
    by_cases c : 0 < j
    · rw [if_pos c] at h
      exact ⟨_, _, rx.int_inv, ry.int_inv, c, h.flat s fun _ => .int _⟩
    · rw [if_neg c] at h
      exact h.elim
  · exact h.elim
theorem nx_mod : NoX2 gMod := by
  intro a b x h
  unfold gMod at h
  split at h <;> first | cases h | (split at h <;> cases h)

/-! ### comparisons -/
def gEq : D → D → R D
  | .int i, .int j => .ok (.bl (decide (i = j)))
  | .str i, .str j => .ok (.bl (decide (i = j)))
  | .bl i, .bl j => .ok (.bl (decide (i = j)))
  | .lst l, .lst m => if (D.lst l).fit = true ∧ (D.lst m).fit = true then .ok (.bl (PyData.eqv (D.lst l).py (D.lst m).py)) else .bad
  | .tup l, .tup m => if (D.tup l).fit = true ∧ (D.tup m).fit = true then .ok (.bl (PyData.eqv (D.tup l).py (D.tup m).py)) else .bad
  | .non, .str _ => .ok (.bl false)
  | .str _, .non => .ok (.bl false)
  | .non, .int _ => .ok (.bl false)
  | .int _, .non => .ok (.bl false)
  | .non, .non => .ok (.bl true)
  | _, _ => .bad
def gNot : R D → R D
  | .ok (.bl b) => .ok (.bl (!b))
  | .exc x => .exc x
  | _ => .bad
def gNe (a b : D) : R D := gNot (gEq a b)
def rEqA (K : PySem.W.Frag) : R2 := fun x y H Q => rEq x y H Q ∨ rEqD K x y H Q
def rNeA (K : PySem.W.Frag) : R2 := fun x y H Q => rNe x y H Q ∨ rNeD K x y H Q
theorem op_eqA (hu : X.A.units + 64 < cLine) : OpR X (compareOp .Eq) (rEqA X.K) := OpR.or op_eq (op_eqD hu)
theorem op_neA (hu : X.A.units + 64 < cLine) : OpR X (compareOp .NotEq) (rNeA X.K) := OpR.or op_ne (op_neD hu)
theorem eq_cases {F H : Hp} {x y : V} {a b : D} {k : Bool} (s : Same F H) (rx : Rep K F x a) (ry : Rep K F y b) (h : gEq a b = .ok (.bl k)) :
    (scal x y = true ∧ decide (x = y) = k) ∨ ∃ d e, Dp K H x d ∧ Dp K H y e ∧ SeqAt.shaped d = true ∧ SeqAt.shaped e = true ∧ PyData.eqv d e = k := by
  unfold gEq at h
  split at h
  · rename_i i j
    rw [rx.int_inv, ry.int_inv]
    have h2 : decide (i = j) = k := by injection h with h; injection h
    refine .inl ⟨rfl, ?_⟩
    rw [← h2, dec_int]
    by_cases c : i = j <;> simp [c]
  · rename_i i j
    rw [rx.str_inv, ry.str_inv]
    have h2 : decide (i = j) = k := by injection h with h; injection h
    refine .inl ⟨rfl, ?_⟩
    rw [← h2, dec_str]
    by_cases c : i = j <;> simp [c]
  · rename_i i j
    rw [rx.bl_inv, ry.bl_inv]
    have h2 : decide (i = j) = k := by injection h with h; injection h
    refine .inl ⟨rfl, ?_⟩
    rw [← h2, dec_bl]
    by_cases c : i = j <;> simp [c]
  · rename_i l m
    by_cases c : (D.lst l).fit = true ∧ (D.lst m).fit = true
    · rw [if_pos c] at h
      refine .inr ⟨_, _, Rep.dp s _ _ (D.fit_plain c.1) rx, Rep.dp s _ _ (D.fit_plain c.2) ry, D.fit_shaped c.1, D.fit_shaped c.2, ?_⟩
      injection h with h; injection h
    · rw [if_neg c] at h
      cases h
  · rename_i l m
    by_cases c : (D.tup l).fit = true ∧ (D.tup m).fit = true
    · rw [if_pos c] at h
      refine .inr ⟨_, _, Rep.dp s _ _ (D.fit_plain c.1) rx, Rep.dp s _ _ (D.fit_plain c.2) ry, D.fit_shaped c.1, D.fit_shaped c.2, ?_⟩
      injection h with h; injection h
    · rw [if_neg c] at h
      cases h
  · rename_i j
    rw [rx.non_inv, ry.str_inv]
    have h2 : false = k := by injection h with h; injection h
    subst h2
    exact .inl ⟨rfl, by simp⟩
  · rename_i j
    rw [rx.str_inv, ry.non_inv]
    have h2 : false = k := by injection h with h; injection h
    subst h2
    exact .inl ⟨rfl, by simp⟩
  · rename_i j
    rw [rx.non_inv, ry.int_inv]
    have h2 : false = k := by injection h with h; injection h
    subst h2
    exact .inl ⟨rfl, by simp⟩
  · rename_i j
    rw [rx.int_inv, ry.non_inv]
    have h2 : false = k := by injection h with h; injection h
    subst h2
    exact .inl ⟨rfl, by simp⟩
  · rw [rx.non_inv, ry.non_inv]
    have h2 : true = k := by injection h with h; injection h
    subst h2
    exact .inl ⟨rfl, by simp⟩
  · cases h
theorem eq_bl {a b : D} : (∃ k, gEq a b = .ok (.bl k)) ∨ gEq a b = .bad := by
  unfold gEq
  split <;> first | exact .inl ⟨_, rfl⟩ | exact .inr rfl | (split <;> first | exact .inl ⟨_, rfl⟩ | exact .inr rfl)
theorem nx_eq : NoX2 gEq := fun a b x h => by
  rcases eq_bl (a := a) (b := b) with ⟨k, e⟩ | e <;> (rw [e] at h; cases h)
theorem nx_ne : NoX2 gNe := fun a b x h => by
  unfold gNe at h
  rcases eq_bl (a := a) (b := b) with ⟨k, e⟩ | e <;> (rw [e] at h; cases h)
theorem vr_eq : VR2 K (rEqA K) gEq := by
  intro F H x y dx dy Q s rx ry h
  rcases eq_bl (a := dx) (b := dy) with ⟨k, e⟩ | e
  · rw [e] at h
    rcases eq_cases s rx ry e with ⟨h1, h2⟩ | ⟨d, f, h1, h2, h3, h4, h5⟩
    · exact .inl ⟨h1, by rw [h2]; exact h.flat s fun _ => .bl _⟩
    · exact .inr ⟨d, f, h1, h2, h3, h4, by rw [h5]; exact h.flat s fun _ => .bl _⟩
  · rw [e] at h
    exact h.elim
theorem vr_ne : VR2 K (rNeA K) gNe := by
  intro F H x y dx dy Q s rx ry h
  unfold gNe at h
  rcases eq_bl (a := dx) (b := dy) with ⟨k, e⟩ | e
  · rw [e] at h
    rcases eq_cases s rx ry e with ⟨h1, h2⟩ | ⟨d, f, h1, h2, h3, h4, h5⟩
    · exact .inl ⟨h1, by rw [h2]; exact h.flat s fun _ => .bl _⟩
    · exact .inr ⟨d, f, h1, h2, h3, h4, by rw [h5]; exact h.flat s fun _ => .bl _⟩
  · rw [e] at h
    exact h.elim
def gCmp (p : Int → Int → Bool) : D → D → R D
  | .int i, .int j => .ok (.bl (p i j))
  | _, _ => .bad
theorem vr_cmp {p : Int → Int → Bool} : VR2 K (rI0 fun i j => .bl (p i j)) (gCmp p) := by
  intro F H x y dx dy Q s rx ry h
  unfold gCmp at h
  split at h
  · exact ⟨_, _, rx.int_inv, ry.int_inv, h.flat s fun _ => .bl _⟩
  · exact h.elim
theorem nx_cmp {p : Int → Int → Bool} : NoX2 (gCmp p) := by
  intro a b x h
  unfold gCmp at h
  split at h <;> cases h
abbrev gLt := gCmp fun i j => decide (i < j)
abbrev gLe := gCmp fun i j => decide (i ≤ j)
abbrev gGt := gCmp fun i j => decide (j < i)
abbrev gGe := gCmp fun i j => decide (j ≤ i)
def gIsN : D → D → R D
  | .non, .non => .ok (.bl true)
  | _, .non => .ok (.bl false)
  | _, _ => .bad
def gNotN : D → D → R D
  | .non, .non => .ok (.bl false)
  | _, .non => .ok (.bl true)
  | _, _ => .bad
theorem isN_dec {F : Hp} {x : V} {d : D} (r : Rep K F x d) : decide (x = .non) = match d with
    | .non => true
    | _ => false := by
  cases r <;> first | rfl | simp
theorem vr_isN : VR2 K (fun x y H Q => y = .non ∧ Q (.bl (decide (x = .non))) H) gIsN := by
  intro F H x y dx dy Q s rx ry h
  have e := isN_dec rx
  cases dy with
  | non =>
    refine ⟨ry.non_inv, ?_⟩
    rw [e]
    cases dx <;> exact h.flat s fun _ => .bl _
  | _ => cases dx <;> exact h.elim
theorem vr_notN : VR2 K (fun x y H Q => y = .non ∧ Q (.bl (!decide (x = .non))) H) gNotN := by
  intro F H x y dx dy Q s rx ry h
  have e := isN_dec rx
  cases dy with
  | non =>
    refine ⟨ry.non_inv, ?_⟩
    rw [e]
    cases dx <;> exact h.flat s fun _ => .bl _
  | _ => cases dx <;> exact h.elim
theorem nx_isN : NoX2 gIsN := by
  intro a b x h
  unfold gIsN at h
  split at h <;> cases h
theorem nx_notN : NoX2 gNotN := by
  intro a b x h
  unfold gNotN at h
  split at h <;> cases h
/-! ### in -/
def D.flat : D → Bool
  | .non => true
  | .bl _ => true
  | .int _ => true
  | .str _ => true
  | _ => false
def eqFlat : D → D → Bool
  | .non, .non => true
  | .bl a, .bl b => a == b
  | .bl a, .int b => (if a then 1 else 0) == b
  | .int a, .bl b => a == (if b then 1 else 0)
  | .int a, .int b => a == b
  | .str a, .str b => a == b
  | _, _ => false
def inFlat (x : D) (l : List D) : Bool := l.any fun y => eqFlat y x
def gIn : D → D → R D
  | .str x, .str y => if x.cps.size = 1 then .ok (.bl (decide (x.cps.getD 0 0 ∈ y.cps.toList))) else .bad
  | x, .tup l => if (x.flat && l.all D.flat) = true then .ok (.bl (inFlat x l)) else .bad
  | x, .lst l => if (x.flat && l.all D.flat) = true then .ok (.bl (inFlat x l)) else if (x.fit && (D.lst l).fit) = true then .ok (.bl ((pyAll l).any fun z => PyData.eqv z x.py)) else .bad
  | _, _ => .bad
def gNotIn (a b : D) : R D := gNot (gIn a b)
theorem flat_V {F : Hp} {x : V} {d : D} (r : Rep K F x d) : flatV x = d.flat := by cases r <;> rfl
theorem flats_V {F : Hp} : ∀ {vs : List V} {l : List D}, Reps K F vs l → vs.all flatV = l.all D.flat
  | _, _, .nil => rfl
  | _, _, .cons r t => by rw [List.all_cons, List.all_cons, flat_V r, flats_V t]
theorem eqFlat_V {F : Hp} {x y : V} {a b : D} (r : Rep K F x a) (q : Rep K F y b) (fa : a.flat = true) (fb : b.flat = true) : eqV x y = eqFlat a b := by
  cases r <;> cases q <;> first | rfl | exact absurd fa (by simp [D.flat]) | exact absurd fb (by simp [D.flat])
theorem inFlat_V {F : Hp} {x : V} {d : D} (r : Rep K F x d) (fd : d.flat = true) : ∀ {vs : List V} {l : List D}, Reps K F vs l → l.all D.flat = true → inV x vs = inFlat d l
  | _, _, .nil, _ => rfl
  | _, _, .cons q t, h => by
    rw [List.all_cons, Bool.and_eq_true] at h
    have ih := inFlat_V r fd t h.2
    unfold inV inFlat at ih ⊢
    rw [List.any_cons, List.any_cons, ih, eqFlat_V q r h.1 fd]
def rInA (K : PySem.W.Frag) : R2 := fun x y H Q => (∃ (c : Nat) (z : Str), x = .str ⟨#[c]⟩ ∧ y = .str z ∧ Q (.bl (decide (c ∈ z.cps.toList))) H) ∨ rIn K false x y H Q ∨ rInD K x y H Q
def rNotInA (K : PySem.W.Frag) : R2 := fun x y H Q => (∃ (c : Nat) (z : Str), x = .str ⟨#[c]⟩ ∧ y = .str z ∧ Q (.bl (!decide (c ∈ z.cps.toList))) H) ∨ rIn K true x y H Q ∨ rNotInD K x y H Q
theorem op_inA (hu : X.A.units + 65 < cLine) : OpR X (compareOp .In) (rInA X.K) := OpR.or op_in_sign (OpR.or op_in_seq (op_inD hu))
theorem op_notInA (hu : X.A.units + 65 < cLine) : OpR X (compareOp .NotIn) (rNotInA X.K) := OpR.or op_notIn_sign (OpR.or op_notIn_seq (op_notInD hu))
theorem one_sign {x : Str} (h : x.cps.size = 1) : x = ⟨#[x.cps.getD 0 0]⟩ := by
  obtain ⟨⟨l⟩⟩ := x
  have h2 : l.length = 1 := by simpa using h
  match l, h2 with
  | [c], _ => rfl
theorem in_cases {F H : Hp} {x y : V} {a b : D} {k : Bool} (s : Same F H) (rx : Rep K F x a) (ry : Rep K F y b) (h : gIn a b = .ok (.bl k)) :
    (∃ (c : Nat) (z : Str), x = .str ⟨#[c]⟩ ∧ y = .str z ∧ decide (c ∈ z.cps.toList) = k) ∨
    (∃ p xs, y = .ref p ∧ (SqL K H p xs ∨ SqT K H p xs) ∧ flatV x = true ∧ xs.all flatV = true ∧ inV x xs = k) ∨
    (∃ d ds, Dp K H x d ∧ Dp K H y (.list ds) ∧ SeqAt.shaped d = true ∧ SeqAt.shaped (.list ds) = true ∧ (ds.any fun z => PyData.eqv z d) = k) := by
  unfold gIn at h
  split at h
  · rename_i x0 y0
    by_cases c : x0.cps.size = 1
    · rw [if_pos c] at h
      refine .inl ⟨x0.cps.getD 0 0, y0, ?_, ry.str_inv, by injection h with h; injection h⟩
      rw [rx.str_inv, ← one_sign c]
    · rw [if_neg c] at h
      cases h
  · rename_i l
    by_cases c : (a.flat && l.all D.flat) = true
    · rw [if_pos c] at h
      obtain ⟨c1, c2⟩ := Bool.and_eq_true_iff.mp c
      obtain ⟨p, vs, rfl, hp, rs⟩ := ry.tup_inv
      refine .inr (.inl ⟨p, vs, rfl, .inr (same_sqT s hp), by rw [flat_V rx]; exact c1, by rw [flats_V rs]; exact c2, ?_⟩)
      rw [inFlat_V rx c1 rs c2]
      injection h with h; injection h
    · rw [if_neg c] at h
      cases h
  · rename_i l
    by_cases c : (a.flat && l.all D.flat) = true
    · rw [if_pos c] at h
      obtain ⟨c1, c2⟩ := Bool.and_eq_true_iff.mp c
      obtain ⟨p, vs, rfl, hp, rs⟩ := ry.lst_inv
      refine .inr (.inl ⟨p, vs, rfl, .inl (.inl (.inl (s _ _ hp))), by rw [flat_V rx]; exact c1, by rw [flats_V rs]; exact c2, ?_⟩)
      rw [inFlat_V rx c1 rs c2]
      injection h with h; injection h
    · rw [if_neg c] at h
      by_cases c : (a.fit && (D.lst l).fit) = true
      · rw [if_pos c] at h
        obtain ⟨c1, c2⟩ := Bool.and_eq_true_iff.mp c
        refine .inr (.inr ⟨a.py, pyAll l, Rep.dp s _ _ (D.fit_plain c1) rx, Rep.dp s _ _ (D.fit_plain c2) ry, D.fit_shaped c1, D.fit_shaped c2, ?_⟩)
        injection h with h; injection h
      · rw [if_neg c] at h
        cases h
  · cases h
theorem in_bl {a b : D} : (∃ k, gIn a b = .ok (.bl k)) ∨ gIn a b = .bad := by
  unfold gIn
  split
  · split <;> first | exact .inl ⟨_, rfl⟩ | exact .inr rfl
  · split <;> first | exact .inl ⟨_, rfl⟩ | exact .inr rfl
  · split
    · exact .inl ⟨_, rfl⟩
    · split <;> first | exact .inl ⟨_, rfl⟩ | exact .inr rfl
  · exact .inr rfl
theorem nx_in : NoX2 gIn := fun a b x h => by
  rcases in_bl (a := a) (b := b) with ⟨k, e⟩ | e <;> (rw [e] at h; cases h)
theorem nx_notIn : NoX2 gNotIn := fun a b x h => by
  unfold gNotIn at h
  rcases in_bl (a := a) (b := b) with ⟨k, e⟩ | e <;> (rw [e] at h; cases h)
theorem vr_in : VR2 K (rInA K) gIn := by
  intro F H x y dx dy Q s rx ry h
  rcases in_bl (a := dx) (b := dy) with ⟨k, e⟩ | e
  · rw [e] at h
    rcases in_cases s rx ry e with ⟨c, z, h1, h2, h3⟩ | ⟨p, xs, h1, h2, h3, h4, h5⟩ | ⟨d, ds, h1, h2, h3, h4, h5⟩
    · exact .inl ⟨c, z, h1, h2, by rw [h3]; exact h.flat s fun _ => .bl _⟩
    · refine .inr (.inl ⟨p, xs, h1, h2, h3, h4, ?_⟩)
      show Q (.bl (if false = true then !inV x xs else inV x xs)) H
      rw [if_neg Bool.false_ne_true, h5]; exact h.flat s fun _ => .bl _
    · exact .inr (.inr ⟨d, ds, h1, h2, h3, h4, by rw [h5]; exact h.flat s fun _ => .bl _⟩)
  · rw [e] at h
    exact h.elim
theorem vr_notIn : VR2 K (rNotInA K) gNotIn := by
  intro F H x y dx dy Q s rx ry h
  unfold gNotIn at h
  rcases in_bl (a := dx) (b := dy) with ⟨k, e⟩ | e
  · rw [e] at h
    rcases in_cases s rx ry e with ⟨c, z, h1, h2, h3⟩ | ⟨p, xs, h1, h2, h3, h4, h5⟩ | ⟨d, ds, h1, h2, h3, h4, h5⟩
    · exact .inl ⟨c, z, h1, h2, by rw [h3]; exact h.flat s fun _ => .bl _⟩
    · refine .inr (.inl ⟨p, xs, h1, h2, h3, h4, ?_⟩)
      show Q (.bl (if true = true then !inV x xs else inV x xs)) H
      rw [if_pos rfl, h5]; exact h.flat s fun _ => .bl _
    · exact .inr (.inr ⟨d, ds, h1, h2, h3, h4, by rw [h5]; exact h.flat s fun _ => .bl _⟩)
  · rw [e] at h
    exact h.elim
end
end WW
set_option Elab.async false
set_option linter.all false
set_option maxRecDepth 100000
set_option maxHeartbeats 4000000
/-! The data layer, part 4: subscripts, slices, calls. -/
namespace WW
open PySem PySem.Spec L2

/-! ### subscripts -/
theorem Reps.len {K : PySem.W.Frag} {F : Hp} {vs : List V} {l : List D} (r : Reps K F vs l) : vs.length = l.length := r.length
theorem atI_reps {K : PySem.W.Frag} {F : Hp} {vs : List V} {l : List D} {i : Int} {d : D} (r : Reps K F vs l) (h : atI l i = some d) : ∃ v, atI vs i = some v ∧ Rep K F v d := by
  unfold atI at h ⊢
  rw [r.len]
  cases q : ixN l.length i with
  | none => rw [q] at h; cases h
  | some j =>
    rw [q] at h
    exact r.get h
def gIx : D → D → R D
  | .lst l, .int i => (match atI l i with
    | some d => .ok d
    | none => .bad)
  | .tup l, .int i => (match atI l i with
    | some d => .ok d
    | none => .bad)
  | .str z, .int i => if z.length ≤ LIM then (match atI z.cps.toList i with
    | some c => .ok (.str ⟨#[c]⟩)
    | none => .bad) else .bad
  | _, _ => .bad
theorem nx_ix : NoX2 gIx := by
  intro a b x h
  unfold gIx at h
  split at h
  · split at h <;> cases h
  · split at h <;> cases h
  · split at h
    · split at h <;> cases h
    · cases h
  · cases h
section
variable {X : Cx} {W : WX} {pos p p2 : Pos} {a b c ex : Expr} {da db dc : DE} {K : PySem.W.Frag}
theorem vr_ix : VR2 K (rIx K) gIx := by
  intro F H x y dx dy Q s rx ry h
  unfold gIx at h
  split at h
  · rename_i l i
    obtain ⟨q, vs, rfl, hq, rs⟩ := rx.lst_inv
    cases e : atI l i with
    | none => rw [e] at h; exact h.elim
    | some d =>
      rw [e] at h
      obtain ⟨v, h1, h2⟩ := atI_reps rs e
      exact .inl ⟨q, vs, i, v, rfl, ry.int_inv, .inl (.inl (s _ _ hq)), h1, h.same s h2⟩
  · rename_i l i
    obtain ⟨q, vs, rfl, hq, rs⟩ := rx.tup_inv
    cases e : atI l i with
    | none => rw [e] at h; exact h.elim
    | some d =>
      rw [e] at h
      obtain ⟨v, h1, h2⟩ := atI_reps rs e
      exact .inr (.inl ⟨q, vs, i, v, rfl, ry.int_inv, same_sqT s hq, h1, h.same s h2⟩)
  · rename_i z i
    by_cases hz : z.length ≤ LIM
    · rw [if_pos hz] at h
      cases e : atI z.cps.toList i with
      | none => rw [e] at h; exact h.elim
      | some c =>
        rw [e] at h
        exact .inr (.inr ⟨z, i, c, rx.str_inv, ry.int_inv, lim_line hz, e, h.flat s fun _ => .str _⟩)
    · rw [if_neg hz] at h
      exact h.elim
  · exact h.elim
theorem dx_ix (ha : PE X a (tD X.K W da)) (hb : PE X b (tD X.K W db)) (hs : PlainIx b) : PE X (.Subscript a b pos) (tD X.K W (dBin gIx da db)) := peI (pe_ix ix_seq ha hb hs) fun _ _ _ => tD_op vr_ix nx_ix

/-! ### slices -/
abbrev DOp := En → R (Option Int × En)
def OutP (K : PySem.W.Frag) (W : WX) (B : Bs) (F : Hp) (σ : St) (Q : Option Int → Hp → Prop) : R (Option Int × En) → Prop
  | .ok p => ∀ F' H', Rl K B F' H' σ p.2 → Same F F' → Q p.1 H'
  | .exc x => ExcOut K W B σ x
  | .bad => False
def tP (K : PySem.W.Frag) (W : WX) (den : DOp) : TO := fun σ H Q => ∃ B F e, Rl K B F H σ e ∧ OutP K W B F σ Q (den e)
def pNo : DOp := fun e => .ok (none, e)
def asI : D → R Int
  | .int i => .ok i
  | _ => .bad
def pSome (da : DE) : DOp := fun e => (da e).bind fun p => (asI p.1).bind fun i => .ok (some i, p.2)
theorem poI {o : Option Expr} {t t' : TO} (h : PO X o t) (i : ∀ σ H Q, t' σ H Q → t σ H Q) : PO X o t' := ⟨fun pins s σ H Q I q => h.run pins s σ H Q I (i σ H Q q)⟩
theorem OutP.bind {K : PySem.W.Frag} {B : Bs} {F : Hp} {σ : St} {β : Type} {P : R β → Prop} {r : R (Option Int × En)} {g : Option Int × En → R β} {Q : Option Int → Hp → Prop} (hb : ¬ P .bad) (hx : ∀ x, P (.exc x) → ExcOut K W B σ x) (h : P (r.bind g))
    (k : ∀ d e1, P (g (d, e1)) → ∀ F' H', Rl K B F' H' σ e1 → Same F F' → Q d H') : OutP K W B F σ Q r := by
  cases r with
  | ok p => exact k p.1 p.2 h
  | exc x => exact hx x h
  | bad => exact hb h
theorem pBad {K : PySem.W.Frag} {B : Bs} {F : Hp} {σ : St} {Q : Option Int → Hp → Prop} : ¬ OutP K W B F σ Q .bad := fun h => h
theorem pExc {K : PySem.W.Frag} {B : Bs} {F : Hp} {σ : St} {Q : Option Int → Hp → Prop} : ∀ x, OutP K W B F σ Q (.exc x) → ExcOut K W B σ x := fun _ h => h
theorem dp_none : PO X none (tP X.K W pNo) := by
  refine poI po_none ?_
  rintro σ H Q ⟨B, F, e, R, h⟩
  exact h F H R (Same.refl _)
theorem dp_some (h : PE X ex (tD X.K W da)) : PO X (some ex) (tP X.K W (pSome da)) := by
  refine poI (po_some h) ?_
  rintro σ H Q ⟨B, F, e, R, h⟩
  refine ⟨B, F, e, R, OutD.bind (P := OutP X.K W B F σ Q) pBad pExc h fun d e1 h1 F1 H1 x R1 s1 rx => ?_⟩
  cases d with
  | int i => exact ⟨i, rx.int_inv, h1 F1 H1 R1 s1⟩
  | _ => exact h1.elim
def cutD (xs : List D) (lo hi : Option Int) : List D := (xs.drop (HT.sIx xs.length 0 lo)).take (HT.sIx xs.length xs.length hi - HT.sIx xs.length 0 lo)
theorem cut_reps {K : PySem.W.Frag} {F : Hp} {vs : List V} {l : List D} (r : Reps K F vs l) (lo hi : Option Int) : Reps K F (cutV vs lo hi) (cutD l lo hi) := by
  unfold cutV cutD
  rw [r.len]
  exact (r.drop _).take _
def gSl : D → Option Int → Option Int → R D
  | .lst l, lo, hi => .ok (.lst (cutD l lo hi))
  | .tup l, lo, hi => .ok (.tup (cutD l lo hi))
  | .str z, lo, hi => if z.length ≤ LIM then .ok (.str (cutS z lo hi)) else .bad
  | _, _, _ => .bad
def dSl (da : DE) (lo hi : DOp) : DE := fun e => (da e).bind fun p => (lo p.2).bind fun q => (hi q.2).bind fun r => (gSl p.1 q.1 r.1).bind fun d => .ok (d, r.2)
def rSl3 (K : PySem.W.Frag) : V → Option Int → Option Int → Hp → VK → Prop := fun x lo hi H Q => rSlL K x lo hi H Q ∨ rSlA K x lo hi H Q ∨ rSlS x lo hi H Q
theorem cut_whole {xs : List D} {lo hi : Option Int} (h : HT.sIx xs.length 0 lo = 0 ∧ HT.sIx xs.length xs.length hi = xs.length) : cutD xs lo hi = xs := by
  unfold cutD
  rw [h.1, h.2, List.drop_zero, Nat.sub_zero, List.take_length]
theorem dx_slice {lo hi : Option Expr} {dl dh : DOp} (ha : PE X a (tD X.K W da)) (hl : PO X lo (tP X.K W dl)) (hh : PO X hi (tP X.K W dh)) : PE X (.Subscript a (.Slice lo hi none p2) pos) (tD X.K W (dSl da dl dh)) := by
  refine peI (pe_slice (SlR.or sl_list (SlR.or sl_tupA sl_str)) ha hl hh) ?_
  rintro σ H Q ⟨B, F, e, R, h⟩
  refine ⟨B, F, e, R, OutD.bind (P := OutD X.K W B F σ Q) dBad dExc h fun d e1 h1 F1 H1 x R1 s1 rx => ?_⟩
  refine ⟨B, F1, e1, R1, OutP.bind (P := OutD X.K W B F1 σ Q) dBad dExc (OutD.pre s1 h1) fun i e2 h2 F2 H2 R2 s2 => ?_⟩
  refine ⟨B, F2, e2, R2, OutP.bind (P := OutD X.K W B F2 σ Q) dBad dExc (OutD.pre s2 h2) fun j e3 h3 F3 H3 R3 s3 => ?_⟩
  have h4 := OutD.pre s3 h3
  have rx3 := (rx.mono s2).mono s3
  cases d with
  | lst l =>
    obtain ⟨q, vs, rfl, hq, rs⟩ := rx3.lst_inv
    exact .inl ⟨q, vs, rfl, .inl (.inl (R3.sub _ _ hq)), (OutD.val (r := .ok (.lst (cutD l i j))) R3 h4 (fun _ z => by cases z)).newL R3.sub (cut_reps rs i j)⟩
  | tup l =>
    obtain ⟨q, vs, rfl, hq, rs⟩ := rx3.tup_inv
    have h5 := OutD.val (r := .ok (.tup (cutD l i j))) R3 h4 (fun _ z => by cases z)
    refine .inr (.inl ⟨q, vs, rfl, same_sqT R3.sub hq, fun z => ?_, fun _ => h5.newT R3.sub (cut_reps rs i j)⟩)
    rw [rs.len] at z
    rw [cut_whole z] at h5
    exact h5.same R3.sub rx3
  | str z =>
    have h6 : OutD X.K W B F3 σ Q ((if z.length ≤ LIM then WW.R.ok (D.str (cutS z i j)) else WW.R.bad).bind fun d => .ok (d, e3)) := h4
    by_cases hz : z.length ≤ LIM
    · rw [if_pos hz] at h6
      exact .inr (.inr ⟨z, rx3.str_inv, lim_line hz, (OutD.val (r := .ok (.str (cutS z i j))) R3 h6 (fun _ z => by cases z)).flat R3.sub fun _ => .str _⟩)
    · rw [if_neg hz] at h6
      exact h6.elim
  | _ => exact h4.elim

/-! ### calls of what is built in -/
variable {es : List Expr} {dr : DA} {id T : String} {x : Str} {r : List V → Hp → VK → Prop} {g : List D → R D}
theorem tA_app {σ : St} {H : Hp} {Q : VK} (hv : VRn K r g) (nx : NoXn g) (h : tD K W (dApp g dr) σ H Q) : tA K W dr σ H fun vs H1 => r vs H1 Q := by
  obtain ⟨B, F, e, R, h⟩ := h
  refine ⟨B, F, e, R, OutA.bind (P := OutD K W B F σ Q) dBad dExc h fun l e1 h1 F1 H1 xs R1 s1 rs => ?_⟩
  exact hv F1 H1 xs l Q R1.sub rs (OutD.val R1 (OutD.pre s1 h1) (nx _))
theorem dx_callB (hc : CallR X (.builtin id) r) (hv : VRn X.K r g) (nx : NoXn g) (hg : Gl X x) (hm : X.mg x = none) (hb : bootBuiltins x = some (.builtin id)) (ha : PA X (ex :: es) (tA X.K W dr)) (hn : x ≠ "__name__" := by decide) (hdb : (x == ("__debug__" : Str)) = false := by decide)
    (he : starEach (ex :: es) X.env = (false, eval ex X.env) :: starEach es X.env := by rfl) (hpl : (backTo pos (starEach es X.env)).any (·.1) = false := by rfl) : PE X (.Call (.Name x p) (ex :: es) [] pos) (tD X.K W (dApp g dr)) :=
  peI (pe_callB hc hg hm hb ha hn hdb he hpl) fun _ _ _ h => tA_app hv nx h
theorem dx_callTy (hc : CallR X (.type T) r) (hv : VRn X.K r g) (nx : NoXn g) (hg : Gl X x) (hm : X.mg x = none) (hb : bootBuiltins x = some (.type T)) (ha : PA X (ex :: es) (tA X.K W dr)) (hn : x ≠ "__name__" := by decide) (hdb : (x == ("__debug__" : Str)) = false := by decide)
    (he : starEach (ex :: es) X.env = (false, eval ex X.env) :: starEach es X.env := by rfl) (hpl : (backTo pos (starEach es X.env)).any (·.1) = false := by rfl) : PE X (.Call (.Name x p) (ex :: es) [] pos) (tD X.K W (dApp g dr)) :=
  peI (pe_callTy hc hg hm hb ha hn hdb he hpl) fun _ _ _ h => tA_app hv nx h
def gLen : List D → R D
  | [.str z] => if z.length ≤ LIM then .ok (.int z.length) else .bad
  | [.lst l] => .ok (.int l.length)
  | [.tup l] => .ok (.int l.length)
  | _ => .bad
theorem nx_len : NoXn gLen := by
  intro a x h
  unfold gLen at h
  split at h
  · split at h <;> cases h
  · cases h
  · cases h
  · cases h
theorem reps1 {F : Hp} {xs : List V} {d : D} (r : Reps K F xs [d]) : ∃ v, xs = [v] ∧ Rep K F v d := by
  cases r with
  | cons a b => cases b; exact ⟨_, rfl, a⟩
theorem reps2 {F : Hp} {xs : List V} {d d' : D} (r : Reps K F xs [d, d']) : ∃ v v', xs = [v, v'] ∧ Rep K F v d ∧ Rep K F v' d' := by
  cases r with
  | cons a b => 
    cases b with
    | cons b c => cases c; exact ⟨_, _, rfl, a, b⟩
theorem vr_len : VRn K (fun xs H Q => ∃ x n, xs = [x] ∧ LenV K x H n ∧ Q (.int n) H) gLen := by
  intro F H xs ds Q s rs h
  unfold gLen at h
  split at h
  · rename_i z
    obtain ⟨v, rfl, rv⟩ := reps1 rs
    by_cases hz : z.length ≤ LIM
    · rw [if_pos hz] at h
      refine ⟨v, z.length, rfl, ?_, h.flat s fun _ => .int _⟩
      rw [rv.str_inv]
      exact ⟨lim_line hz, rfl⟩
    · rw [if_neg hz] at h
      exact h.elim
  · rename_i l
    obtain ⟨v, rfl, rv⟩ := reps1 rs
    obtain ⟨q, vs, rfl, hq, rs⟩ := rv.lst_inv
    exact ⟨_, l.length, rfl, .inl ⟨vs, .inl (.inl (s _ _ hq)), rs.len.symm⟩, h.flat s fun _ => .int _⟩
  · rename_i l
    obtain ⟨v, rfl, rv⟩ := reps1 rs
    obtain ⟨q, vs, rfl, hq, rs⟩ := rv.tup_inv
    exact ⟨_, l.length, rfl, .inr ⟨vs, same_sqT s hq, rs.len.symm⟩, h.flat s fun _ => .int _⟩
  · exact h.elim
/-- isinstance with a built-in class -/
def D.tyOf : D → String
  | .non => "NoneType"
  | .bl _ => "bool"
  | .int _ => "int"
  | .str _ => "str"
  | .tup _ => "tuple"
  | .lst _ => "list"
  | .ins _ _ _ => "?"
theorem sqT_ty {H : Hp} {a : Addr} {vs : List V} (h : SqT K H a vs) : TyX K H (.ref a) (.type "tuple") := by
  rcases h with (h | ⟨o, h⟩) | ⟨o, its, n, h, c, _⟩
  · exact .base (.tup h)
  · exact .fTuple h
  · exact .kTuple h c
theorem tyX_of {F H : Hp} {v : V} {d : D} (s : Same F H) (r : Rep K F v d) (hn : d.tyOf ≠ "?") : TyX K H v (.type d.tyOf) := by
  cases r with
  | non => exact .base .non
  | bl b => exact .base (.bl b)
  | int i => exact .base (.int i)
  | str z => exact .base (.str z)
  | tup h _ => exact sqT_ty (same_sqT s h)
  | lst h _ => exact .base (.lst (s _ _ h))
  | ins _ _ _ => exact absurd rfl hn
def gIsi (T : String) (d : D) : R D := match kitB d.tyOf T with
  | some b => if d.tyOf = "?" then .bad else .ok (.bl b)
  | none => .bad
def dIsi (T : String) (da : DE) : DE := dUn (gIsi T) da
theorem nx_isi (T : String) (a : D) : ∀ x, gIsi T a ≠ .exc x := by
  intro x h
  unfold gIsi at h
  split at h
  · split at h <;> cases h
  · cases h
theorem dx_isi {y : Str} {py : Pos} (T : String) (hg : Gl X "isinstance") (hm : X.mg "isinstance" = none) (hgT : Gl X y) (hmT : X.mg y = none) (hbT : bootBuiltins y = some (.type T)) (ha : PE X ex (tD X.K W da)) (hbI : bootBuiltins "isinstance" = some (.builtin "isinstance") := by decide +kernel) (hn : y ≠ "__name__" := by decide) (hdb : (y == ("__debug__" : Str)) = false := by decide)
    (he : starEach [ex, .Name y py] X.env = (false, eval ex X.env) :: starEach [.Name y py] X.env := by rfl) (hpl : (backTo pos (starEach [.Name y py] X.env)).any (·.1) = false := by rfl) (he2 : starEach [.Name y py] X.env = (false, eval (.Name y py) X.env) :: starEach [] X.env := by rfl) :
    PE X (.Call (.Name "isinstance" p) [ex, .Name y py] [] pos) (tD X.K W (dIsi T da)) := by
  refine peI (pe_callB call_isi hg hm hbI (pa_cons ha (pa_cons (pe_bltn (v := .ty T) hgT hmT hbT rfl hn hdb) pa_nil he2) he) (by decide) (by decide) he hpl) ?_
  rintro σ H Q ⟨B, F, e, R, h⟩
  refine ⟨B, F, e, R, OutD.bind (P := OutD X.K W B F σ Q) dBad dExc h fun d e1 h1 F1 H1 v R1 s1 rv => ?_⟩
  have h2 := OutD.val R1 (OutD.pre s1 h1) (nx_isi T d)
  unfold gIsi at h2
  cases q : kitB d.tyOf T with
  | none => rw [q] at h2; exact h2.elim
  | some b =>
    rw [q] at h2
    by_cases hq : d.tyOf = "?"
    · simp only [if_pos hq] at h2
      exact h2.elim
    · simp only [if_neg hq] at h2
      exact ⟨v, .ty T, .type d.tyOf, .type T, b, rfl, .ty T, tyX_of R1.sub rv hq, kit_ty q, h2.flat R1.sub fun _ => .bl _⟩
def gInt : List D → R D
  | [.int i] => .ok (.int i)
  | [.bl k] => .ok (.int (if k then 1 else 0))
  | _ => .bad
theorem nx_int : NoXn gInt := by
  intro a x h
  unfold gInt at h
  split at h <;> cases h
theorem vr_int : VRn K (fun xs H Q => (∃ i, xs = [.int i] ∧ Q (.int i) H) ∨ ∃ k, xs = [.bl k] ∧ Q (.int (if k then 1 else 0)) H) gInt := by
  intro F H xs ds Q s rs h
  unfold gInt at h
  split at h
  · obtain ⟨v, rfl, rv⟩ := reps1 rs
    exact .inl ⟨_, by rw [rv.int_inv], h.flat s fun _ => .int _⟩
  · obtain ⟨v, rfl, rv⟩ := reps1 rs
    exact .inr ⟨_, by rw [rv.bl_inv], h.flat s fun _ => .int _⟩
  · exact h.elim
def gAbs : List D → R D
  | [.int i] => .ok (.int (if i < 0 then -i else i))
  | _ => .bad
theorem nx_abs : NoXn gAbs := by
  intro a x h
  unfold gAbs at h
  split at h <;> cases h
theorem vr_abs : VRn K (fun xs H Q => ∃ i, xs = [.int i] ∧ Q (.int (if i < 0 then -i else i)) H) gAbs := by
  intro F H xs ds Q s rs h
  unfold gAbs at h
  split at h
  · obtain ⟨v, rfl, rv⟩ := reps1 rs
    exact ⟨_, by rw [rv.int_inv], h.flat s fun _ => .int _⟩
  · exact h.elim
/-- all, any of a list of truths -/
def asBs : List D → Option (List Bool)
  | [] => some []
  | .bl b :: l => (match asBs l with
    | some bs => some (b :: bs)
    | none => none)
  | _ => none
theorem asBs_eq : ∀ {l : List D} {bs : List Bool}, asBs l = some bs → l = bs.map D.bl
  | [], bs, h => by
    have h2 : some [] = some bs := h
    injection h2 with h2
    subst h2
    rfl
  | .bl b :: l, bs, h => by
    have h2 : (match asBs l with
      | some bs => some (b :: bs)
      | none => none) = some bs := h
    cases q : asBs l with
    | none => rw [q] at h2; cases h2
    | some cs =>
      rw [q] at h2
      injection h2 with h2
      subst h2
      rw [asBs_eq q]
      rfl
  | .non :: _, _, h => by cases h
  | .int _ :: _, _, h => by cases h
  | .str _ :: _, _, h => by cases h
  | .tup _ :: _, _, h => by cases h
  | .lst _ :: _, _, h => by cases h
  | .ins _ _ _ :: _, _, h => by cases h
theorem asBs_map : ∀ bs : List Bool, asBs (bs.map D.bl) = some bs
  | [] => rfl
  | b :: bs => by
    show (match asBs (bs.map D.bl) with
      | some bs => some (b :: bs)
      | none => none) = some (b :: bs)
    rw [asBs_map bs]
def gAll : List D → R D
  | [.lst l] => (match asBs l with
    | some bs => .ok (.bl (bs.all fun b => b))
    | none => .bad)
  | _ => .bad
def gAny : List D → R D
  | [.lst l] => (match asBs l with
    | some bs => .ok (.bl (bs.any fun b => b))
    | none => .bad)
  | _ => .bad
theorem nx_all : NoXn gAll := by
  intro a x h
  unfold gAll at h
  split at h
  · split at h <;> cases h
  · cases h
theorem nx_any : NoXn gAny := by
  intro a x h
  unfold gAny at h
  split at h
  · split at h <;> cases h
  · cases h
theorem vr_all : VRn K (rAll K) gAll := by
  intro F H xs ds Q s rs h
  unfold gAll at h
  split at h
  · rename_i l
    obtain ⟨v, rfl, rv⟩ := reps1 rs
    obtain ⟨q, vs, rfl, hq, rs⟩ := rv.lst_inv
    cases e : asBs l with
    | none => rw [e] at h; exact h.elim
    | some bs =>
      rw [e] at h
      have el := asBs_eq e
      subst el
      exact ⟨q, bs, rfl, .inl (.inl (by rw [← rs.bls]; exact s _ _ hq)), h.flat s fun _ => .bl _⟩
  · exact h.elim
theorem vr_any : VRn K (rAny K) gAny := by
  intro F H xs ds Q s rs h
  unfold gAny at h
  split at h
  · rename_i l
    obtain ⟨v, rfl, rv⟩ := reps1 rs
    obtain ⟨q, vs, rfl, hq, rs⟩ := rv.lst_inv
    cases e : asBs l with
    | none => rw [e] at h; exact h.elim
    | some bs =>
      rw [e] at h
      have el := asBs_eq e
      subst el
      exact ⟨q, bs, rfl, .inl (.inl (by rw [← rs.bls]; exact s _ _ hq)), h.flat s fun _ => .bl _⟩
  · exact h.elim
/-- tuple(a list), tuple(a tuple) -/
def gTuple : List D → R D
  | [.lst l] => .ok (.tup l)
  | [.tup l] => .ok (.tup l)
  | _ => .bad
theorem nx_tuple : NoXn gTuple := by
  intro a x h
  unfold gTuple at h
  split at h <;> cases h
theorem vr_tuple : VRn K (fun xs H Q => ∃ p ys, xs = [.ref p] ∧ ((SqL K H p ys ∧ ∀ l, H l = none → Q (.ref l) (upd H l (.tup ys))) ∨ (SqT K H p ys ∧ Q (.ref p) H))) gTuple := by
  intro F H xs ds Q s rs h
  unfold gTuple at h
  split at h
  · obtain ⟨v, rfl, rv⟩ := reps1 rs
    obtain ⟨q, vs, rfl, hq, rs⟩ := rv.lst_inv
    exact ⟨q, vs, rfl, .inl ⟨.inl (.inl (s _ _ hq)), h.newT s rs⟩⟩
  · obtain ⟨v, rfl, rv⟩ := reps1 rs
    obtain ⟨q, vs, rfl, hq, _⟩ := id rv.tup_inv
    exact ⟨q, vs, rfl, .inr ⟨same_sqT s hq, h.same s rv⟩⟩
  · exact h.elim
/-! ### max, min of two texts -/
theorem lt_rich {prog : Program} {w : World} {A : Around} {E : Value → Shared → Prop} {s : Shared} {x y : Str} {t u : Tok} {Q : Value → Shared → Prop} (h : Q (.bool (decide (x.cps.toList < y.cps.toList))) s) : wpAny (model prog w) A (richCompare .Lt (.str x t) (.str y u)) Q E s :=
  richCompare_gives (op := .Lt) (typeIs_str s x t) (typeIs_str s y u) PySem.F.slot_str_lt PySem.F.entry_str_lt (PySem.F.args_str_lt_2 _ _) (gives_str_lt x y t u) (fun e => nomatch e) h
theorem gt_rich {prog : Program} {w : World} {A : Around} {E : Value → Shared → Prop} {s : Shared} {x y : Str} {t u : Tok} {Q : Value → Shared → Prop} (h : Q (.bool (decide (y.cps.toList < x.cps.toList))) s) : wpAny (model prog w) A (richCompare .Gt (.str x t) (.str y u)) Q E s :=
  richCompare_gives (op := .Gt) (typeIs_str s x t) (typeIs_str s y u) PySem.F.slot_str_gt PySem.F.entry_str_gt (PySem.F.args_str_gt_2 _ _) (gives_str_gt x y t u) (fun e => nomatch e) h

theorem cmpS_lt {prog : Program} {w : World} {A : Around} (f : Nat → Str) (vs : Array Value) (hn : ∀ i v, vs[i]? = some v → ∃ t : Tok, v = Value.str (f i) t) : CmpOf prog w A .Lt (fun i v => vs[i]? = some v) (fun i j => decide ((f i).cps.toList < (f j).cps.toList)) := fun i j vi vj s Q E hi hj h => by
  obtain ⟨t, rfl⟩ := hn i vi hi
  obtain ⟨u, rfl⟩ := hn j vj hj
  exact lt_rich h
theorem cmpS_gt {prog : Program} {w : World} {A : Around} (f : Nat → Str) (vs : Array Value) (hn : ∀ i v, vs[i]? = some v → ∃ t : Tok, v = Value.str (f i) t) : CmpOf prog w A .Gt (fun i v => vs[i]? = some v) (fun i j => decide ((f j).cps.toList < (f i).cps.toList)) := fun i j vi vj s Q E hi hj h => by
  obtain ⟨t, rfl⟩ := hn i vi hi
  obtain ⟨u, rfl⟩ := hn j vj hj
  exact gt_rich h
def two (a b : Str) : Nat → Str
  | 0 => a
  | _ => b
theorem two_at {a b : Str} {t u : Tok} : ∀ i v, (#[Value.str a t, Value.str b u] : Array Value)[i]? = some v → ∃ t : Tok, v = Value.str (two a b i) t
  | 0, v, h => by simp at h; subst h; exact ⟨_, rfl⟩
  | 1, v, h => by simp at h; subst h; exact ⟨_, rfl⟩
  | n + 2, v, h => by simp at h
theorem max_two_strs {prog : Program} {w : World} {A : Around} {E : Value → Shared → Prop} {s : Shared} {Q : Value → Shared → Prop} {a b : Str} {t u : Tok} (hh : A.handled = none)
    (h : ∀ h' tk, (∀ c o, s.heap.get? c = some o → h'.get? c = some o) → Q (if a.cps.toList < b.cps.toList then .str b u else .str a t) { s with heap := h', toks := tk }) :
    wpAny (model prog w) A (call (.builtin "max") [.str a t, .str b u]) Q E s := by
  have hT : (s.heap.push { cls := .type "tuple", data := .seq #[.str a t, .str b u] }).IsTuple s.heap.objs.size #[.str a t, .str b u] := ⟨_, Heap.get?_push_size _ rfl, rfl, 0, rfl⟩
  refine call_max_two (wpAny_pyIter_tuple hT ?_)
  have hsz : (s.heap.push { cls := .type "tuple", data := .seq #[.str a t, .str b u] }).objs.size = s.heap.objs.size + 1 := Heap.size_push ..
  refine ⟨_, [_, s.heap.objs.size], [_], _, _, _, _, rfl, Walks.tuple (A := A.in1) hh _ s.heap.objs.size (by rw [hsz]; exact Nat.ne_of_lt (Nat.lt_succ_self _)) #[.str a t, .str b u],
    ⟨⟨_, Heap.get?_push_size _ rfl, rfl, rfl⟩, hT.push _⟩, fun c hc => ?_, by simp, cmpS_gt (two a b) #[.str a t, .str b u] two_at, fun v h' tk hP hk => ?_⟩
  · show c < ((s.heap.push _).push _).objs.size
    rw [Heap.size_push, hsz]
    rcases List.mem_cons.mp hc with rfl | hc
    · rw [hsz]; exact Nat.lt_succ_self _
    · rcases List.mem_cons.mp hc with rfl | hc
      · exact Nat.lt_succ_of_lt (Nat.lt_succ_self _)
      · cases hc
  · have hold : ∀ c o, s.heap.get? c = some o → h'.get? c = some o := fun c o e => by
      refine hk c o (fun hm => ?_) (Heap.get?_push_of_some _ (Heap.get?_push_of_some _ e))
      rcases List.mem_cons.mp hm with e1 | hm
      · have := Heap.lt_size e; rw [e1, hsz] at this; exact Nat.lt_irrefl _ (Nat.lt_of_succ_lt this)
      · cases hm
    have := h h' tk hold
    have hv : v = if a.cps.toList < b.cps.toList then .str b u else .str a t := by
      by_cases c : a.cps.toList < b.cps.toList
      · rw [if_pos c]
        have hb : decide (a.cps.toList < b.cps.toList) = true := decide_eq_true c
        simp only [List.size_toArray, List.length_cons, List.length_nil, Nat.zero_add, Nat.add_sub_cancel, argBest, two, hb, if_true, reduceIte] at hP
        simpa using hP.symm
      · rw [if_neg c]
        have hb : decide (a.cps.toList < b.cps.toList) = false := decide_eq_false c
        simp only [List.size_toArray, List.length_cons, List.length_nil, Nat.zero_add, Nat.add_sub_cancel, argBest, two, hb, if_false, reduceIte, Bool.false_eq_true] at hP
        simpa using hP.symm
    rw [hv]; exact this
theorem min_two_strs {prog : Program} {w : World} {A : Around} {E : Value → Shared → Prop} {s : Shared} {Q : Value → Shared → Prop} {a b : Str} {t u : Tok} (hh : A.handled = none)
    (h : ∀ h' tk, (∀ c o, s.heap.get? c = some o → h'.get? c = some o) → Q (if b.cps.toList < a.cps.toList then .str b u else .str a t) { s with heap := h', toks := tk }) :
    wpAny (model prog w) A (call (.builtin "min") [.str a t, .str b u]) Q E s := by
  have hT : (s.heap.push { cls := .type "tuple", data := .seq #[.str a t, .str b u] }).IsTuple s.heap.objs.size #[.str a t, .str b u] := ⟨_, Heap.get?_push_size _ rfl, rfl, 0, rfl⟩
  refine call_min_two (wpAny_pyIter_tuple hT ?_)
  have hsz : (s.heap.push { cls := .type "tuple", data := .seq #[.str a t, .str b u] }).objs.size = s.heap.objs.size + 1 := Heap.size_push ..
  refine ⟨_, [_, s.heap.objs.size], [_], _, _, _, _, rfl, Walks.tuple (A := A.in1) hh _ s.heap.objs.size (by rw [hsz]; exact Nat.ne_of_lt (Nat.lt_succ_self _)) #[.str a t, .str b u],
    ⟨⟨_, Heap.get?_push_size _ rfl, rfl, rfl⟩, hT.push _⟩, fun c hc => ?_, by simp, cmpS_lt (two a b) #[.str a t, .str b u] two_at, fun v h' tk hP hk => ?_⟩
  · show c < ((s.heap.push _).push _).objs.size
    rw [Heap.size_push, hsz]
    rcases List.mem_cons.mp hc with rfl | hc
    · rw [hsz]; exact Nat.lt_succ_self _
    · rcases List.mem_cons.mp hc with rfl | hc
      · exact Nat.lt_succ_of_lt (Nat.lt_succ_self _)
      · cases hc
  · have hold : ∀ c o, s.heap.get? c = some o → h'.get? c = some o := fun c o e => by
      refine hk c o (fun hm => ?_) (Heap.get?_push_of_some _ (Heap.get?_push_of_some _ e))
      rcases List.mem_cons.mp hm with e1 | hm
      · have := Heap.lt_size e; rw [e1, hsz] at this; exact Nat.lt_irrefl _ (Nat.lt_of_succ_lt this)
      · cases hm
    have := h h' tk hold
    have hv : v = if b.cps.toList < a.cps.toList then .str b u else .str a t := by
      by_cases c : b.cps.toList < a.cps.toList
      · rw [if_pos c]
        have hb : decide (b.cps.toList < a.cps.toList) = true := decide_eq_true c
        simp only [List.size_toArray, List.length_cons, List.length_nil, Nat.zero_add, Nat.add_sub_cancel, argBest, two, hb, if_true, reduceIte] at hP
        simpa using hP.symm
      · rw [if_neg c]
        have hb : decide (b.cps.toList < a.cps.toList) = false := decide_eq_false c
        simp only [List.size_toArray, List.length_cons, List.length_nil, Nat.zero_add, Nat.add_sub_cancel, argBest, two, hb, if_false, reduceIte, Bool.false_eq_true] at hP
        simpa using hP.symm
    rw [hv]; exact this
def rMax2 : List V → Hp → VK → Prop := fun xs H Q => (∃ i j, xs = [.int i, .int j] ∧ Q (.int (if j > i then j else i)) H) ∨ ∃ i j, xs = [.str i, .str j] ∧ Q (.str (if i.cps.toList < j.cps.toList then j else i)) H
def rMin2 : List V → Hp → VK → Prop := fun xs H Q => (∃ i j, xs = [.int i, .int j] ∧ Q (.int (if j < i then j else i)) H) ∨ ∃ i j, xs = [.str i, .str j] ∧ Q (.str (if j.cps.toList < i.cps.toList then j else i)) H
theorem cr_max2 (hc : X.calm = true) : CallR X (.builtin "max") rMax2 := by
  intro pins s σ H xs us Q I r h
  rcases h with h | ⟨i, j, rfl, q⟩
  · exact call_max2 hc pins s σ H xs us Q I r h
  · obtain ⟨u, w', rfl, ⟨t, rfl⟩, ⟨t', rfl⟩⟩ := vals2 r
    refine max_two_strs (I.ok.hd hc) fun h' tk k => ⟨_, H, I.kept k, ?_, q⟩
    by_cases hj : i.cps.toList < j.cps.toList
    · rw [if_pos hj, if_pos hj]; exact ⟨_, rfl⟩
    · rw [if_neg hj, if_neg hj]; exact ⟨_, rfl⟩
theorem cr_min2 (hc : X.calm = true) : CallR X (.builtin "min") rMin2 := by
  intro pins s σ H xs us Q I r h
  rcases h with h | ⟨i, j, rfl, q⟩
  · exact call_min2 hc pins s σ H xs us Q I r h
  · obtain ⟨u, w', rfl, ⟨t, rfl⟩, ⟨t', rfl⟩⟩ := vals2 r
    refine min_two_strs (I.ok.hd hc) fun h' tk k => ⟨_, H, I.kept k, ?_, q⟩
    by_cases hj : j.cps.toList < i.cps.toList
    · rw [if_pos hj, if_pos hj]; exact ⟨_, rfl⟩
    · rw [if_neg hj, if_neg hj]; exact ⟨_, rfl⟩
def gMax2 : List D → R D
  | [.int i, .int j] => .ok (.int (if j > i then j else i))
  | [.str i, .str j] => .ok (.str (if i.cps.toList < j.cps.toList then j else i))
  | _ => .bad
def gMin2 : List D → R D
  | [.int i, .int j] => .ok (.int (if j < i then j else i))
  | [.str i, .str j] => .ok (.str (if j.cps.toList < i.cps.toList then j else i))
  | _ => .bad
theorem nx_max2 : NoXn gMax2 := by
  intro a x h
  unfold gMax2 at h
  split at h <;> cases h
theorem nx_min2 : NoXn gMin2 := by
  intro a x h
  unfold gMin2 at h
  split at h <;> cases h
theorem vr_max2 : VRn K rMax2 gMax2 := by
  intro F H xs ds Q s rs h
  unfold gMax2 at h
  split at h
  · obtain ⟨v, v', rfl, r1, r2⟩ := reps2 rs
    exact .inl ⟨_, _, by rw [r1.int_inv, r2.int_inv], h.flat s fun _ => .int _⟩
  · obtain ⟨v, v', rfl, r1, r2⟩ := reps2 rs
    exact .inr ⟨_, _, by rw [r1.str_inv, r2.str_inv], h.flat s fun _ => .str _⟩
  · exact h.elim
theorem vr_min2 : VRn K rMin2 gMin2 := by
  intro F H xs ds Q s rs h
  unfold gMin2 at h
  split at h
  · obtain ⟨v, v', rfl, r1, r2⟩ := reps2 rs
    exact .inl ⟨_, _, by rw [r1.int_inv, r2.int_inv], h.flat s fun _ => .int _⟩
  · obtain ⟨v, v', rfl, r1, r2⟩ := reps2 rs
    exact .inr ⟨_, _, by rw [r1.str_inv, r2.str_inv], h.flat s fun _ => .str _⟩
  · exact h.elim

/-! ### methods of what is built in: o.m(..) -/
def VRm (K : PySem.W.Frag) (T : String) (r : V → List V → Hp → VK → Prop) (g : D → List D → R D) : Prop := ∀ (F H : Hp) (x : V) (dx : D) (xs : List V) (ds : List D) (Q : VK), Same F H → Rep K F x dx → Reps K F xs ds → OutV K F H Q (g dx ds) → r x xs H Q
/-- the receiver's type, told by the data -/
def TyD (K : PySem.W.Frag) (T : String) (ok : D → Bool) : Prop := ∀ (F H : Hp) (x : V) (d : D), Same F H → Rep K F x d → ok d = true → tyV K T x H
def dMth (ok : D → Bool) (g : D → List D → R D) (da : DE) (dr : DA) : DE := fun e => (da e).bind fun p => if ok p.1 = true then (dr p.2).bind fun q => (g p.1 q.1).bind fun d => .ok (d, q.2) else .bad
def isS : D → Bool
  | .str _ => true
  | _ => false
def isL : D → Bool
  | .lst _ => true
  | _ => false
theorem ty_str : TyD K "str" isS := by
  intro F H x d s r h
  cases r <;> first | rfl | exact absurd h (by simp [isS])
theorem ty_lst : TyD K "list" isL := by
  intro F H x d s r h
  cases r with
  | lst h1 _ => exact .inl ⟨rfl, _, .inl (.inl (s _ _ h1))⟩
  | _ => exact absurd h (by simp [isL])
theorem dx_bm {name : Str} {apos cpos : Pos} {o : Expr} {ok : D → Bool} {rm : V → List V → Hp → VK → Prop} {gm : D → List D → R D} (pa : PlainAttrs T) (slot : Slot T name id) (hty : typeOf (.builtin id) = pure (.type "method_descriptor")) (hm : MtR X id rm) (ty : TyD X.K T ok) (hv : VRm X.K T rm gm) (nx : ∀ a b x, gm a b ≠ .exc x) (ho : PE X o (tD X.K W da)) (ha : PA X (ex :: es) (tA X.K W dr))
    (hbase : attributeBase o name X.env (eval o X.env) = eval o X.env := by rfl)
    (hfew : ((backTo cpos (starEach (ex :: es) X.env)).all (fun x => !x.1) && (backToKw cpos (keywordEach [] X.env)).all (fun x => x.1.isSome)
      && decide ((ex :: es).length + ([] : List Keyword).length + (if ([] : List Keyword).isEmpty then 0 else 1) < 30)) = true := by rfl)
    (hline : (apos.endLine == cpos.line) = true := by rfl) (hs : starEach (ex :: es) X.env = (false, eval ex X.env) :: starEach es X.env := by rfl) (hplain : (backTo cpos (starEach es X.env)).any (·.1) = false := by rfl) :
    PE X (.Call (.Attribute o name apos) (ex :: es) [] cpos) (tD X.K W (dMth ok gm da dr)) := by
  refine peI (pe_bm pa slot hty hm ho ha hbase hfew hline hs hplain) ?_
  rintro σ H Q ⟨B, F, e, R, h⟩
  refine ⟨B, F, e, R, OutD.bind (P := OutD X.K W B F σ Q) dBad dExc h fun d e1 h1 F1 H1 x R1 s1 rx => ?_⟩
  by_cases c : ok d = true
  · simp only [if_pos c] at h1
    refine ⟨ty F1 H1 x d R1.sub rx c, B, F1, e1, R1, OutA.bind (P := OutD X.K W B F1 σ Q) dBad dExc (OutD.pre s1 h1) fun l e2 h2 F2 H2 xs R2 s2 rs => ?_⟩
    exact hv F2 H2 x d xs l Q R2.sub (rx.mono s2) rs (OutD.val R2 (OutD.pre s2 h2) (nx _ _))
  · simp only [if_neg c] at h1
    exact h1.elim
def asStrs : List D → Option (List Str)
  | [] => some []
  | .str b :: l => (match asStrs l with
    | some bs => some (b :: bs)
    | none => none)
  | _ => none
theorem asStrs_eq : ∀ {l : List D} {bs : List Str}, asStrs l = some bs → l = bs.map D.str
  | [], bs, h => by
    have h2 : some [] = some bs := h
    injection h2 with h2
    subst h2
    rfl
  | .str b :: l, bs, h => by
    have h2 : (match asStrs l with
      | some bs => some (b :: bs)
      | none => none) = some bs := h
    cases q : asStrs l with
    | none => rw [q] at h2; cases h2
    | some cs =>
      rw [q] at h2
      injection h2 with h2
      subst h2
      rw [asStrs_eq q]
      rfl
  | .non :: _, _, h => by cases h
  | .int _ :: _, _, h => by cases h
  | .bl _ :: _, _, h => by cases h
  | .tup _ :: _, _, h => by cases h
  | .lst _ :: _, _, h => by cases h
  | .ins _ _ _ :: _, _, h => by cases h
theorem asStrs_map : ∀ bs : List Str, asStrs (bs.map D.str) = some bs
  | [] => rfl
  | b :: bs => by
    show (match asStrs (bs.map D.str) with
      | some bs => some (b :: bs)
      | none => none) = some (b :: bs)
    rw [asStrs_map bs]
def gJoin : D → List D → R D
  | .str a, [.lst l] => (match asStrs l with
    | some ys => if (ys.map (·.length)).sum + ys.length * a.length ≤ LIM then .ok (.str (Txt.join a ys)) else .bad
    | none => .bad)
  | _, _ => .bad
theorem nx_join : ∀ a b x, gJoin a b ≠ .exc x := by
  intro a b x h
  unfold gJoin at h
  split at h
  · split at h
    · split at h <;> cases h
    · cases h
  · cases h
theorem vr_join : VRm K "str" (fun x xs H Q => ∃ a p, ∃ ys : List Str, x = .str a ∧ xs = [.ref p] ∧ (SqL K H p (ys.map V.str) ∨ SqT K H p (ys.map V.str)) ∧ (ys.map (·.length)).sum + ys.length * a.length ≤ 16777216 ∧ Q (.str (Txt.join a ys)) H) gJoin := by
  intro F H x dx xs ds Q s rx rs h
  unfold gJoin at h
  split at h
  · rename_i a l
    obtain ⟨v, rfl, rv⟩ := reps1 rs
    obtain ⟨q, vs, rfl, hq, rs⟩ := rv.lst_inv
    cases e : asStrs l with
    | none => rw [e] at h; exact h.elim
    | some ys =>
      rw [e] at h
      have el := asStrs_eq e
      subst el
      by_cases c : (ys.map (·.length)).sum + ys.length * a.length ≤ LIM
      · simp only [if_pos c] at h
        refine ⟨a, q, ys, rx.str_inv, rfl, .inl (.inl (.inl (by rw [← rs.strs]; exact s _ _ hq))), ?_, h.flat s fun _ => .str _⟩
        unfold LIM at c
        omega
      · simp only [if_neg c] at h
        exact h.elim
  · exact h.elim
/-- list.index, flat items -/
def idxFlat (x : D) : List D → Nat → R D
  | [], _ => .bad
  | d :: l, n => if eqFlat d x = true then .ok (.int n) else idxFlat x l (n + 1)
def gIndex : D → List D → R D
  | .lst l, [x] => if (x.flat && l.all D.flat) = true then idxFlat x l 0 else .bad
  | _, _ => .bad
theorem nx_idx (x : D) (y : Exn) : ∀ (l : List D) (n : Nat), idxFlat x l n ≠ .exc y
  | [], _, h => by cases h
  | d :: l, n, h => by
    unfold idxFlat at h
    split at h
    · cases h
    · exact nx_idx x y l (n + 1) h
theorem nx_index : ∀ a b x, gIndex a b ≠ .exc x := by
  intro a b x h
  unfold gIndex at h
  split at h
  · split at h
    · exact nx_idx _ _ _ _ h
    · cases h
  · cases h
theorem idx_spec (x : D) : ∀ (l : List D) (n : Nat) (r : D), idxFlat x l n = .ok r → ∃ j z, r = .int ((n + j : Nat) : Int) ∧ l[j]? = some z ∧ eqFlat z x = true ∧ ∀ m z', m < j → l[m]? = some z' → eqFlat z' x = false
  | [], _, _, h => by cases h
  | d :: l, n, r, h => by
    unfold idxFlat at h
    by_cases c : eqFlat d x = true
    · rw [if_pos c] at h
      injection h with h
      exact ⟨0, d, h.symm, rfl, c, fun m z' hm => absurd hm (Nat.not_lt_zero _)⟩
    · rw [if_neg c] at h
      obtain ⟨j, z, h1, h2, h3, h4⟩ := idx_spec x l (n + 1) r h
      refine ⟨j + 1, z, by rw [h1]; congr 2; omega, by simpa using h2, h3, fun m z' hm hz => ?_⟩
      cases m with
      | zero =>
        have e : d = z' := by simpa using hz
        rw [← e]
        exact Bool.eq_false_iff.mpr c
      | succ m => exact h4 m z' (by omega) (by simpa using hz)
theorem vr_index : VRm K "list" (rIndex K) gIndex := by
  intro F H x dx xs ds Q s rx rs h
  unfold gIndex at h
  split at h
  · rename_i l y
    obtain ⟨v, rfl, rv⟩ := reps1 rs
    obtain ⟨q, vs, rfl, hq, rl⟩ := rx.lst_inv
    by_cases c : (y.flat && l.all D.flat) = true
    · rw [if_pos c] at h
      obtain ⟨c1, c2⟩ := Bool.and_eq_true_iff.mp c
      cases e : idxFlat y l 0 with
      | bad => rw [e] at h; exact h.elim
      | exc z => exact absurd e (nx_idx _ _ _ _)
      | ok r =>
        rw [e] at h
        obtain ⟨j, z, h1, h2, h3, h4⟩ := idx_spec y l 0 r e
        rw [h1] at h
        obtain ⟨zv, hz1, hz2⟩ := rl.get h2
        have fz : z.flat = true := List.all_eq_true.mp c2 z (List.mem_of_getElem? h2)
        refine ⟨q, vs, v, j, zv, rfl, rfl, .inl (.inl (s _ _ hq)), by rw [flat_V rv]; exact c1, by rw [flats_V rl]; exact c2, hz1, by rw [eqFlat_V hz2 rv fz c1]; exact h3, fun m z' hm hz' => ?_, ?_⟩
        · have hml : m < l.length := by
            have := (List.getElem?_eq_some_iff.mp hz').1
            rw [rl.len] at this
            exact this
          obtain ⟨z2, k1, k2⟩ := rl.get (List.getElem?_eq_getElem hml)
          rw [hz'] at k1
          injection k1 with k1
          subst k1
          have fm : (l[m]).flat = true := List.all_eq_true.mp c2 _ (List.getElem_mem hml)
          rw [eqFlat_V k2 rv fm c1]
          exact h4 m _ hm (List.getElem?_eq_getElem hml)
        · have := h.flat s fun _ => .int _
          simpa using this
    · rw [if_neg c] at h
      exact h.elim
  · exact h.elim
/-- index of a text in a module's tuple of texts -/
def idxStr (x : Str) : List Str → Nat → R D
  | [], _ => .bad
  | d :: l, n => if d = x then .ok (.int n) else idxStr x l (n + 1)
def gTupIx (ys : List Str) : D → R D
  | .str z => idxStr z ys 0
  | _ => .bad
theorem nx_idxS (x : Str) (y : Exn) : ∀ (l : List Str) (n : Nat), idxStr x l n ≠ .exc y
  | [], _, h => by cases h
  | d :: l, n, h => by
    unfold idxStr at h
    split at h
    · cases h
    · exact nx_idxS x y l (n + 1) h
theorem idxS_spec (x : Str) : ∀ (l : List Str) (n : Nat) (r : D), idxStr x l n = .ok r → ∃ j, r = .int ((n + j : Nat) : Int) ∧ l[j]? = some x ∧ ∀ m, m < j → l[m]? ≠ some x
  | [], _, _, h => by cases h
  | d :: l, n, r, h => by
    unfold idxStr at h
    by_cases c : d = x
    · rw [if_pos c] at h
      injection h with h
      exact ⟨0, h.symm, by rw [c]; rfl, fun m hm => absurd hm (Nat.not_lt_zero _)⟩
    · rw [if_neg c] at h
      obtain ⟨j, h1, h2, h4⟩ := idxS_spec x l (n + 1) r h
      refine ⟨j + 1, by rw [h1]; congr 2; omega, by simpa using h2, fun m hm hz => ?_⟩
      cases m with
      | zero =>
        have e : d = x := by simpa using hz
        exact c e
      | succ m => exact h4 m (by omega) (by simpa using hz)
def dTupIx (ys : List Str) (da : DE) : DE := dUn (gTupIx ys) da
/-- NAME.index(e), NAME a tuple of texts of the module's, e one argument -/
theorem dx_tupIx {y : Str} {py apos cpos : Pos} {a0 : Addr} {ys : List Str} (hg : Gl X y) (hm : X.mg y = some (.ref a0)) (hK : ∃ o, X.K.lookup a0 = some o ∧ o.cls = .type "tuple" ∧ o.dict = none) (hS : ∀ H, SqT X.K H a0 (ys.map V.str)) (ha : PE X ex (tD X.K W da)) (hd : (y == ("__debug__" : Str)) = false := by decide)
    (hbase : attributeBase (.Name y py) "index" X.env (eval (.Name y py) X.env) = eval (.Name y py) X.env := by rfl)
    (hfew : ((backTo cpos (starEach [ex] X.env)).all (fun x => !x.1) && (backToKw cpos (keywordEach [] X.env)).all (fun x => x.1.isSome)
      && decide ([ex].length + ([] : List Keyword).length + (if ([] : List Keyword).isEmpty then 0 else 1) < 30)) = true := by rfl)
    (hline : (apos.endLine == cpos.line) = true := by rfl) (hs : starEach [ex] X.env = (false, eval ex X.env) :: starEach [] X.env := by rfl) (hplain : (backTo cpos (starEach [] X.env)).any (·.1) = false := by rfl) :
    PE X (.Call (.Attribute (.Name y py) "index" apos) [ex] [] cpos) (tD X.K W (dTupIx ys da)) := by
  refine peI (pe_bm PySem.F.plainAttrs_tuple PySem.F.slot_tuple_index PySem.F.type_tuple_index mt_tup_index (pe_glob (v := .ref a0) hg hm rfl hd) (pa_cons ha pa_nil hs) hbase hfew hline hs hplain) ?_
  rintro σ H Q ⟨B, F, e, R, h⟩
  refine ⟨.inr (.inl ⟨rfl, hK⟩), B, F, e, R, OutD.bind (P := OutD X.K W B F σ Q) dBad dExc h fun d e1 h1 F1 H1 v R1 s1 rv => ?_⟩
  cases d with
  | str z =>
    have h2 : OutD X.K W B F σ Q ((idxStr z ys 0).bind fun d => .ok (d, e1)) := h1
    cases q : idxStr z ys 0 with
    | bad => rw [q] at h2; exact h2.elim
    | exc x => exact absurd q (nx_idxS _ _ _ _)
    | ok r =>
      rw [q] at h2
      obtain ⟨j, k1, k2, k3⟩ := idxS_spec z ys 0 r q
      have h3 := OutD.val (r := .ok r) R1 (OutD.pre s1 h2) (fun _ z => by cases z)
      rw [k1] at h3
      have h4 := h3.flat R1.sub fun _ => .int _
      exact ⟨a0, ys, z, j, rfl, by rw [rv.str_inv], hS H1, k2, k3, by simpa using h4⟩
  | _ => exact h1.elim
end
end WW
set_option Elab.async false
set_option linter.all false
set_option maxRecDepth 100000
set_option maxHeartbeats 4000000
/-! The data layer, part 5: defs that are called, statements, loops, comprehensions, a def's body. -/
namespace WW
open PySem PySem.Spec L2

/-! ### promises -/
/-- data in, data out -/
def OutF (K : PySem.W.Frag) (F H : Hp) (Q : VK) (E : XK) : R D → Prop
  | .ok d => ∀ F' H' v, Ext NoA F H F' H' → Rep K F' v d → Q v H'
  | .exc x => ∀ F' H' c dd, Ext NoA F H F' H' → ExOk K H' x c dd → E c dd H'
  | .bad => False
def spD (K : PySem.W.Frag) (n : Nat) (f : List D → R D) : Sp := fun vs H Q E => ∃ F ds, Same F H ∧ Reps K F vs ds ∧ ds.length = n ∧ OutF K F H Q E (f ds)
/-- the first argument is the box: it is changed -/
abbrev Bx := Addr × List Int × Int
def spB (K : PySem.W.Frag) (n : Nat) (f : Bx → List D → R (D × Bx)) : Sp := fun vs H Q _ => ∃ F v0 vs' b ds A, vs = v0 :: vs' ∧ Same F H ∧ Reps K F vs' ds ∧ ds.length = n ∧ SlOk K F H v0 (.box b.1 b.2.1 b.2.2) A ∧ (∀ a, A a → F a = none) ∧
  ∃ d b', f b ds = .ok (d, b') ∧ ∀ F' H' v A', Ext A F H F' H' → SlOk K F' H' v0 (.box b'.1 b'.2.1 b'.2.2) A' → (∀ a, A' a → F' a = none ∧ (A a ∨ H a = none)) → Rep K F' v d → Q v H'
def dCall (f : List D → R D) (da : DA) : DE := dApp f da
def dCallB (f : Bx → List D → R (D × Bx)) (i : Nat) (da : DA) : DE := fun e => match nth e i with
  | some (.box _ _ _) => (da e).bind fun p => (match nth p.2 i with
    | some (.box a ns st) => (f (a, ns, st) p.1).noX.bind fun q => (match setE p.2 i (some (.box q.2.1 q.2.2.1 q.2.2.2)) with
      | some e' => .ok (q.1, e')
      | none => .bad)
    | _ => .bad)
  | _ => .bad
section
variable {X : Cx} {W : WX} {pos p : Pos} {k : Nat} {f : Addr} {fd : FuncData} {ps : List Str} {x : Str} {ex : Expr} {es : List Expr} {dr : DA} {n : Nat}
theorem dx_call {g : List D → R D} (Fn : FnOk X.prog X.w X.K X.mg X.base (L2.CX X.prog X.w) k f fd ps (spD X.K n g)) (hr : Room k X.A) (tk : Takes X W) (hg : Gl X x) (hm : X.mg x = some (.ref f)) (hk : PySem.W.keepIn X.K (.ref f) = true) (hb : Binds X.K fd ps [])
    (ha : PA X (ex :: es) (tA X.K W dr)) (hn : (ex :: es).length = n := by rfl) (hl : ∀ e p, dr e = .ok p → p.1.length = n) (hdb : (x == ("__debug__" : Str)) = false := by decide) (he : starEach (ex :: es) X.env = (false, eval ex X.env) :: starEach es X.env := by rfl) (hpl : (backTo pos (starEach es X.env)).any (·.1) = false := by rfl) :
    PE X (.Call (.Name x p) (ex :: es) [] pos) (tD X.K W (dCall g dr)) := by
  refine peI (pe_callSD (E := WE W) Fn hr hg hm hk hb .nil (fun σ => passAt tk σ) ha hdb he hpl) ?_
  rintro σ H Q ⟨B, F, e, R, h⟩
  refine ⟨B, F, e, R, ?_⟩
  have h0 : OutD X.K W B F σ Q ((dr e).bind fun p => (g p.1).bind fun d => .ok (d, p.2)) := h
  cases q : dr e with
  | bad => rw [q] at h0; exact h0.elim
  | exc z => rw [q] at h0; exact h0
  | ok pr =>
    rw [q] at h0
    obtain ⟨l, e1⟩ := pr
    intro F1 H1 xs R1 s1 rs
    rw [List.append_nil]
    refine ⟨F1, l, R1.sub, rs, hl e _ q, ?_⟩
    have h1 : OutD X.K W B F σ Q ((g l).bind fun d => .ok (d, e1)) := h0
    cases q2 : g l with
    | bad => rw [q2] at h1; exact h1.elim
    | ok d =>
      rw [q2] at h1
      exact fun F2 H2 v x2 rv => h1 F2 H2 v (R1.step x2) (s1.trans x2.fr) rv
    | exc z =>
      rw [q2] at h1
      exact fun F2 H2 c dd x2 ok => h1 F2 H2 c dd e1 (R1.step x2) ok
end

/-! ### the lengths of argument lists -/
theorem len_nil {e : En} {p : List D × En} (h : dNil e = .ok p) : p.1.length = 0 := by
  injection h with h
  subst h
  rfl
theorem len_cons {da : DE} {dr : DA} {n : Nat} (h : ∀ e p, dr e = .ok p → p.1.length = n) : ∀ e p, dCons da dr e = .ok p → p.1.length = n + 1 := by
  intro e p hp
  have h0 : ((da e).bind fun p => (dr p.2).bind fun q => R.ok (p.1 :: q.1, q.2)) = .ok p := hp
  cases q : da e with
  | bad => rw [q] at h0; cases h0
  | exc z => rw [q] at h0; cases h0
  | ok a =>
    rw [q] at h0
    have h1 : ((dr a.2).bind fun q => R.ok (a.1 :: q.1, q.2)) = .ok p := h0
    cases q2 : dr a.2 with
    | bad => rw [q2] at h1; cases h1
    | exc z => rw [q2] at h1; cases h1
    | ok b =>
      rw [q2] at h1
      injection h1 with h1
      subst h1
      exact congrArg (· + 1) (h _ _ q2)
theorem len0 : ∀ e p, dNil e = .ok p → p.1.length = 0 := fun _ _ h => len_nil h

/-! ### statements -/
inductive SR where
  | next (e : En)
  | ret (d : D) (e : En)
  | brk (e : En)
  | cnt (e : En)
  | exc (x : Exn)
  | bad
abbrev DS := En → SR
def OutS (K : PySem.W.Frag) (W : WX) (B : Bs) (D' : Ends) : SR → Prop
  | .next e => ∀ F H σ, Rl K B F H σ e → D'.nx σ H
  | .ret d e => ∀ F H σ v, Rl K B F H σ e → Rep K F v d → D'.rt v H
  | .brk e => ∀ F H σ, Rl K B F H σ e → D'.bk σ H
  | .cnt e => ∀ F H σ, Rl K B F H σ e → D'.ct σ H
  | .exc x => ∀ σ, ExcOut K W B σ x
  | .bad => False
def tS (K : PySem.W.Frag) (W : WX) (den : DS) : TS := fun D' σ H => ∃ B F e, Rl K B F H σ e ∧ OutS K W B D' (den e)
section
variable {X : Cx} {st : Stmt} {t t' : TS}
theorem psI (h : PS X st t) (i : ∀ D σ H, t' D σ H → t D σ H) : PS X st t' := ⟨fun pins s σ H D I q => h.run pins s σ H D I (i D σ H q)⟩
theorem pssI {sts : List Stmt} (h : PSs X sts t) (i : ∀ D σ H, t' D σ H → t D σ H) : PSs X sts t' := ⟨fun pins s σ H D I q => h.run pins s σ H D I (i D σ H q)⟩
end
def sNext : DS := fun e => .next e
def sSeq (a b : DS) : DS := fun e => match a e with
  | .next e' => b e'
  | r => r
def R.toS {α : Type} : R α → (α → SR) → SR
  | .ok a, f => f a
  | .exc x, _ => .exc x
  | .bad, _ => .bad
@[simp] theorem R.toS_ok {α : Type} (a : α) (f : α → SR) : (R.ok a).toS f = f a := rfl
@[simp] theorem R.toS_exc {α : Type} (x : Exn) (f : α → SR) : (R.exc x).toS f = .exc x := rfl
@[simp] theorem R.toS_bad {α : Type} (f : α → SR) : (R.bad : R α).toS f = .bad := rfl
def sIf (c : DT) (a b : DS) : DS := fun e => (c e).toS fun p => if p.1 = true then a p.2 else b p.2
def sRet (d : DE) : DS := fun e => (d e).toS fun p => .ret p.1 p.2
def sRetN : DS := fun e => .ret .non e
def sDrop (d : DE) : DS := fun e => (d e).toS fun p => .next p.2
def sBrk : DS := fun e => .brk e
def sCnt : DS := fun e => .cnt e
def sBad : DS := fun _ => .bad
def setS (e : En) (i : Nat) (s : Sl) : SR := match setE e i (some s) with
  | some e' => .next e'
  | none => .bad
def sAsg (i : Nat) (d : DE) : DS := fun e => (d e).toS fun p => setS p.2 i (.v p.1)
def sAsgO (i : Nat) (o : OE) : DS := fun e => (o e).toS fun p => setS p.2 i p.1
/-- a target's stores -/
abbrev DG := D → En → Option En
def gdName (i : Nat) : DG := fun d e => setE e i (some (.v d))
def gdAll : List Nat → List D → En → Option En
  | [], [], e => some e
  | i :: is, d :: ds, e => (match setE e i (some (.v d)) with
    | some e' => gdAll is ds e'
    | none => none)
  | _, _, _ => none
def gdTup (is : List Nat) : DG := fun d e => match d with
  | .tup l => gdAll is l e
  | _ => none
def Off (is : List Nat) (σ σ' : St) : Prop := σ'.length = σ.length ∧ ∀ j, j ∉ is → σ'[j]? = σ[j]?
def tG (K : PySem.W.Frag) (is : List Nat) (g : DG) : TG := fun v σ H Q => ∃ B F e d e', Rl K B F H σ e ∧ Rep K F v d ∧ g d e = some e' ∧ ∀ σ', Rl K B F H σ' e' → Off is σ σ' → Q σ' H
theorem Off.refl {is : List Nat} {σ : St} : Off is σ σ := ⟨rfl, fun _ _ => rfl⟩
theorem Off.set {is : List Nat} {i : Nat} {σ σ' : St} {v : Option V} (h : Off is (σ.set i v) σ') : Off (i :: is) σ σ' := ⟨by rw [h.1, List.length_set], fun j hj => by
  rw [h.2 j fun z => hj (List.mem_cons_of_mem _ z)]
  exact List.getElem?_set_ne fun z => hj (by rw [z]; exact List.mem_cons_self)⟩
def sTo (g : DG) (d : DE) : DS := fun e => (d e).toS fun p => match g p.1 p.2 with
  | some e' => .next e'
  | none => .bad
section
variable {K : PySem.W.Frag} {W : WX} {B : Bs} {F : Hp} {σ : St} {D' : Ends}
theorem OutD.toS {r : R (D × En)} {g : D × En → SR} {Q : VK} (h : OutS K W B D' (r.toS g)) (k : ∀ d e1, OutS K W B D' (g (d, e1)) → ∀ F' H' v, Rl K B F' H' σ e1 → Same F F' → Rep K F' v d → Q v H') : OutD K W B F σ Q r := by
  cases r with
  | ok p => exact k p.1 p.2 h
  | exc x => exact h σ
  | bad => exact h.elim
theorem OutT.toS {r : R (Bool × En)} {g : Bool × En → SR} {Q : Bool → Hp → Prop} (h : OutS K W B D' (r.toS g)) (k : ∀ d e1, OutS K W B D' (g (d, e1)) → ∀ F' H', Rl K B F' H' σ e1 → Same F F' → Q d H') : OutT K W B F σ Q r := by
  cases r with
  | ok p => exact k p.1 p.2 h
  | exc x => exact h σ
  | bad => exact h.elim
theorem OutA.toS {r : R (List D × En)} {g : List D × En → SR} {Q : List V → Hp → Prop} (h : OutS K W B D' (r.toS g)) (k : ∀ d e1, OutS K W B D' (g (d, e1)) → ∀ F' H' v, Rl K B F' H' σ e1 → Same F F' → Reps K F' v d → Q v H') : OutA K W B F σ Q r := by
  cases r with
  | ok p => exact k p.1 p.2 h
  | exc x => exact h σ
  | bad => exact h.elim
theorem OutO.toS {r : R (Sl × En)} {g : Sl × En → SR} {Q : VK} (h : OutS K W B D' (r.toS g)) (k : ∀ d e1, OutS K W B D' (g (d, e1)) → ∀ F' H' v, Rl K B F' H' (σ ++ [some v]) (e1 ++ [some d]) → Same F F' → Q v H') : OutO K W B F σ Q r := by
  cases r with
  | ok p => exact k p.1 p.2 h
  | exc x => exact h σ
  | bad => exact h.elim
end
section
variable {X : Cx} {W : WX} {st : Stmt} {rest : List Stmt} {a b : DS} {pos : Pos} {ex c : Expr} {da : DE} {tc : DT} {oa : OE}
theorem ds_nil : PSs X [] (tS X.K W sNext) := by
  refine pssI pss_nil ?_
  rintro D' σ H ⟨B, F, e, R, h⟩
  exact h F H σ R
theorem ds_cons (h1 : PS X st (tS X.K W a)) (h2 : PSs X rest (tS X.K W b)) : PSs X (st :: rest) (tS X.K W (sSeq a b)) := by
  refine pssI (pss_cons h1 h2) ?_
  rintro D' σ H ⟨B, F, e, R, h⟩
  refine ⟨B, F, e, R, ?_⟩
  unfold sSeq at h
  cases q : a e with
  | next e' =>
    rw [q] at h
    exact fun F1 H1 σ1 R1 => ⟨B, F1, e', R1, h⟩
  | ret d e' => rw [q] at h; exact h
  | brk e' => rw [q] at h; exact h
  | cnt e' => rw [q] at h; exact h
  | exc z => rw [q] at h; exact h
  | bad => rw [q] at h; exact h
theorem ds_one (h1 : PS X st (tS X.K W a)) : PSs X [st] (tS X.K W a) := pss_one h1
theorem ds_pass : PS X (.Pass pos) (tS X.K W sNext) := by
  refine psI ps_pass ?_
  rintro D' σ H ⟨B, F, e, R, h⟩
  exact h F H σ R
theorem ds_brk : PS X (.Break pos) (tS X.K W sBrk) := by
  refine psI ps_break ?_
  rintro D' σ H ⟨B, F, e, R, h⟩
  exact h F H σ R
theorem ds_cnt : PS X (.Continue pos) (tS X.K W sCnt) := by
  refine psI ps_continue ?_
  rintro D' σ H ⟨B, F, e, R, h⟩
  exact h F H σ R
theorem ds_never : PS X st (tS X.K W sBad) := ⟨fun _ _ _ _ _ _ ⟨_, _, _, _, h⟩ => h.elim⟩
theorem ds_if {p q : List Stmt} (hc : PT X c (tT X.K W tc)) (ha : PSs X p (tS X.K W a)) (hb : PSs X q (tS X.K W b)) : PS X (.If c p q pos) (tS X.K W (sIf tc a b)) := by
  refine psI (ps_if hc ha hb) ?_
  rintro D' σ H ⟨B, F, e, R, h⟩
  refine ⟨B, F, e, R, OutT.toS h fun k e1 h1 F1 H1 R1 s1 => ?_⟩
  cases k with
  | true => exact iteT ⟨B, F1, e1, R1, h1⟩
  | false => exact iteF ⟨B, F1, e1, R1, h1⟩
theorem ds_ret (h : PE X ex (tD X.K W da)) : PS X (.Return (some ex) pos) (tS X.K W (sRet da)) := by
  refine psI (ps_ret h) ?_
  rintro D' σ H ⟨B, F, e, R, h⟩
  exact ⟨B, F, e, R, OutD.toS h fun d e1 h1 F1 H1 v R1 s1 rv => h1 F1 H1 σ v R1 rv⟩
theorem ds_retN : PS X (.Return none pos) (tS X.K W sRetN) := by
  refine psI ps_retN ?_
  rintro D' σ H ⟨B, F, e, R, h⟩
  exact h F H σ _ R .non
theorem ds_expr (h : PE X ex (tD X.K W da)) (hs : swapsWith ex none pos.line X.env = pure false := by rfl) : PS X (.Expr ex pos) (tS X.K W (sDrop da)) := by
  refine psI (ps_expr h hs) ?_
  rintro D' σ H ⟨B, F, e, R, h⟩
  exact ⟨B, F, e, R, OutD.toS h fun d e1 h1 F1 H1 v R1 s1 rv => h1 F1 H1 σ R1⟩
theorem setS_ok {K : PySem.W.Frag} {B : Bs} {D' : Ends} {e : En} {i : Nat} {s : Sl} (h : OutS K W B D' (setS e i s)) : ∃ e', setE e i (some s) = some e' ∧ OutS K W B D' (.next e') := by
  unfold setS at h
  cases q : setE e i (some s) with
  | none => rw [q] at h; exact h.elim
  | some e' => rw [q] at h; exact ⟨e', rfl, h⟩
theorem ds_set {i : Nat} {x : Str} {pos' : Pos} (hN : X.N.Nodup) (hi : X.N[i]? = some x) (hx : Loc X.env.scope x) (h : PE X ex (tD X.K W da)) (hs : swapsWith ex (some (.Name x pos')) pos.line X.env = pure false := by rfl) (hf : X.fn x = true ∨ X.env.scope.names.lookup x = some .local := by first | exact .inl rfl | exact .inr rfl | assumption) :
    PS X (.Assign [.Name x pos'] ex pos) (tS X.K W (sAsg i da)) := by
  refine psI (ps_set hN hi hx h hs hf) ?_
  rintro D' σ H ⟨B, F, e, R, h⟩
  refine ⟨B, F, e, R, OutD.toS h fun d e1 h1 F1 H1 v R1 s1 rv => ?_⟩
  obtain ⟨e', q, h2⟩ := setS_ok h1
  exact h2 F1 H1 _ (R1.setV rv q)
theorem ds_setO {i : Nat} {x : Str} {pos' : Pos} (hN : X.N.Nodup) (hi : X.N[i]? = some x) (hx : Loc X.env.scope x) (h : PE X ex (tO X.K W oa)) (hs : swapsWith ex (some (.Name x pos')) pos.line X.env = pure false := by rfl) (hf : X.fn x = true ∨ X.env.scope.names.lookup x = some .local := by first | exact .inl rfl | exact .inr rfl | assumption) :
    PS X (.Assign [.Name x pos'] ex pos) (tS X.K W (sAsgO i oa)) := by
  refine psI (ps_set hN hi hx h hs hf) ?_
  rintro D' σ H ⟨B, F, e, R, h⟩
  refine ⟨B, F, e, R, OutO.toS h fun d e1 h1 F1 H1 v R1 s1 => ?_⟩
  obtain ⟨e', q, h2⟩ := setS_ok h1
  exact h2 F1 H1 _ (R1.move q)
/-! ### targets -/
theorem dg_name {i : Nat} {x : Str} (hN : X.N.Nodup) (hi : X.N[i]? = some x) (hx : Loc X.env.scope x) (hf : X.fn x = true ∨ X.env.scope.names.lookup x = some .local := by first | exact .inl rfl | exact .inr rfl | assumption) : PG X (.Name x pos) (tG X.K [i] (gdName i)) := by
  refine ⟨fun pins s σ H v u Q I rv h => ?_⟩
  obtain ⟨B, F, e, d, e', R, rd, g, k⟩ := h
  exact (pg_name hN hi hx hf).run pins s σ H v u Q I rv (k _ (R.setV rd g) (Off.set Off.refl))
/-- names one after another -/
def tGs (K : PySem.W.Frag) (is : List Nat) : TGs := fun vs σ H Q => ∃ B F e ds e', Rl K B F H σ e ∧ Reps K F vs ds ∧ gdAll is ds e = some e' ∧ ∀ σ', Rl K B F H σ' e' → Off is σ σ' → Q σ' H
theorem pgsI {ts : List Expr} {t t' : TGs} (h : PGs X ts t) (i : ∀ vs σ H Q, t' vs σ H Q → t vs σ H Q) : PGs X ts t' := ⟨fun pins s σ H vs us Q I r q => h.run pins s σ H vs us Q I r (i vs σ H Q q)⟩
theorem dgs_nil : PGs X [] (tGs X.K []) := by
  refine pgsI pgs_nil ?_
  rintro vs σ H Q ⟨B, F, e, ds, e', R, rs, g, k⟩
  cases rs with
  | nil =>
    have g2 : some e = some e' := g
    injection g2 with g2
    subst g2
    exact ⟨rfl, k σ R Off.refl⟩
  | cons _ _ => cases g
theorem dgs_cons {i : Nat} {x : Str} {es : List Expr} {is : List Nat} (hN : X.N.Nodup) (hi : X.N[i]? = some x) (hx : Loc X.env.scope x) (h2 : PGs X es (tGs X.K is)) (hf : X.fn x = true ∨ X.env.scope.names.lookup x = some .local := by first | exact .inl rfl | exact .inr rfl | assumption)
    (hs : (assignEach (.Name x pos :: es) X.env).map (·.2) = assign (.Name x pos) X.env :: (assignEach es X.env).map (·.2) := by rfl) : PGs X (.Name x pos :: es) (tGs X.K (i :: is)) := by
  refine pgsI (pgs_cons (pg_name (i := i) hN hi hx hf) h2 hs) ?_
  rintro vs σ H Q ⟨B, F, e, ds, e', R, rs, g, k⟩
  cases rs with
  | nil => cases g
  | @cons v vs' d l rv rt =>
    refine ⟨v, vs', rfl, ?_⟩
    have g2 : (match setE e i (some (.v d)) with
      | some e' => gdAll is l e'
      | none => none) = some e' := g
    cases q : setE e i (some (.v d)) with
    | none => rw [q] at g2; cases g2
    | some e1 =>
      rw [q] at g2
      exact ⟨B, F, e1, l, e', R.setV rv q, rt, g2, fun σ' R' o => k σ' R' o.set⟩
theorem gdAll_len : ∀ {is : List Nat} {ds : List D} {e e' : En}, gdAll is ds e = some e' → ds.length = is.length
  | [], [], _, _, _ => rfl
  | i :: is, d :: ds, e, e', h => by
    have g2 : (match setE e i (some (.v d)) with
      | some e' => gdAll is ds e'
      | none => none) = some e' := h
    cases q : setE e i (some (.v d)) with
    | none => rw [q] at g2; cases g2
    | some e1 =>
      rw [q] at g2
      exact congrArg (· + 1) (gdAll_len g2)
  | [], _ :: _, _, _, h => by cases h
  | _ :: _, [], _, _, h => by cases h
theorem dg_tup {es : List Expr} {kk : Nat} {is : List Nat} (hc : X.calm = true) (h : PGs X es (tGs X.K is)) (hn : (assignEach es X.env).length = is.length := by rfl) (hst : (assignEach es X.env).findIdx? (·.1) = none := by rfl) : PG X (.Tuple es kk pos) (tG X.K is (gdTup is)) := by
  refine ⟨fun pins s σ H v u Q I rv q => ?_⟩
  obtain ⟨B, F, e, d, e', R, rd, g, k⟩ := q
  cases rd with
  | @tup a vs l hq rs =>
    have g2 : gdAll is l e = some e' := g
    refine (pg_tup hc h hn hst).run pins s σ H (.ref a) u Q I rv ⟨a, vs, rfl, same_sqT R.sub hq, by rw [rs.len, gdAll_len g2], B, F, e, l, e', R, rs, g2, k⟩
  | _ => cases g
/-- target = e, a tuple of names -/
theorem ds_to {tg : Expr} {g : DG} {is : List Nat} (hg : PG X tg (tG X.K is g)) (h : PE X ex (tD X.K W da)) (hs : swapsWithSole [tg] ex pos.line X.env = pure false := by rfl) (hw : swappedStores [tg] ex X.env = pure none := by rfl)
    (h1 : (assignEach [tg] X.env).map (·.2) = [assign tg X.env] := by rfl) : PS X (.Assign [tg] ex pos) (tS X.K W (sTo g da)) := by
  refine psI (ps_asg h hg hs hw h1) ?_
  rintro D' σ H ⟨B, F, e, R, h⟩
  refine ⟨B, F, e, R, OutD.toS h fun d e1 h1 F1 H1 v R1 s1 rv => ?_⟩
  cases q : g d e1 with
  | none =>
    have h2 : OutS X.K W B D' (match g d e1 with
      | some e' => .next e'
      | none => .bad) := h1
    rw [q] at h2
    exact h2.elim
  | some e' =>
    have h2 : OutS X.K W B D' (match g d e1 with
      | some e' => .next e'
      | none => .bad) := h1
    rw [q] at h2
    exact ⟨B, F1, e1, d, e', R1, rv, q, fun σ' R' _ => h2 F1 H1 σ' R'⟩
end

/-! ### what is walked -/
def Walks (K : PySem.W.Frag) (J : It) (F : Hp) (ds : List D) : Prop := ∀ F' H', Same F F' → Same F' H' → (∀ i, ds.length ≤ i → J.stop i H') ∧ ∀ i d, ds[i]? = some d → J.go i H' ∧ ∀ x H'', J.yld i H' x H'' → ∃ F'', Ext NoA F' H' F'' H'' ∧ Rep K F'' x d
def OutI (K : PySem.W.Frag) (W : WX) (B : Bs) (F : Hp) (σ : St) (Q : It → Hp → Prop) : R (List D × En) → Prop
  | .ok p => ∀ F' H' J, Rl K B F' H' σ p.2 → Same F F' → Walks K J F' p.1 → Q J H'
  | .exc x => ExcOut K W B σ x
  | .bad => False
def tI (K : PySem.W.Frag) (W : WX) (den : DA) : TI := fun σ H Q => ∃ B F e, Rl K B F H σ e ∧ OutI K W B F σ Q (den e)
def signs (z : Str) : List D := z.cps.toList.map fun c => .str ⟨#[c]⟩
def itemsOf : D → R (List D)
  | .lst l => .ok l
  | .tup l => .ok l
  | .str z => .ok (signs z)
  | _ => .bad
def iVal (da : DE) : DA := fun e => (da e).bind fun p => (itemsOf p.1).bind fun l => .ok (l, p.2)
def intsD (a : Int) (n : Nat) : List D := (List.range n).map fun k => .int (a + (k : Nat))
def wide (i : Int) : Bool := decide (-SMALL ≤ i) && decide (i ≤ SMALL)
def asRange : List D → R (List D)
  | [.int j] => if wide j = true then .ok (intsD 0 j.toNat) else .bad
  | [.int i, .int j] => if (wide i && wide j) = true then .ok (intsD i (j - i).toNat) else .bad
  | _ => .bad
def iRange (da : DA) : DA := fun e => (da e).bind fun p => (asRange p.1).bind fun l => .ok (l, p.2)
def zipD : List D → List D → List D
  | a :: l, b :: m => .tup [a, b] :: zipD l m
  | _, _ => []
def asZip : List D → R (List D)
  | [.lst l, .lst m] => .ok (zipD l m)
  | [.tup l, .tup m] => .ok (zipD l m)
  | _ => .bad
def iZipd (da : DA) : DA := fun e => (da e).bind fun p => (asZip p.1).bind fun l => .ok (l, p.2)
section
variable {X : Cx} {W : WX} {tg iter : Expr} {da : DE} {dr : DA} {pos p tpos : Pos}
theorem piI {wi wi' : TI} (h : PI X tg iter wi) (i : ∀ σ H Q, wi' σ H Q → wi σ H Q) : PI X tg iter wi' := ⟨fun pins s σ H R I q => h.run pins s σ H R I (i σ H R q)⟩
theorem piOr {w1 w2 : TI} (h1 : PI X tg iter w1) (h2 : PI X tg iter w2) : PI X tg iter (fun σ H R => w1 σ H R ∨ w2 σ H R) := ⟨fun pins s σ H R I q => q.elim (h1.run pins s σ H R I) (h2.run pins s σ H R I)⟩
theorem walks_list {K : PySem.W.Frag} {F : Hp} {a : Addr} {vs : List V} {l : List D} (h : F a = some (.lst vs)) (r : Reps K F vs l) : Walks K (Itl K a) F l := by
  intro F' H' s s'
  have hq : SqL K H' a vs := .inl (.inl (s' _ _ (s _ _ h)))
  have uniq : ∀ xs, SqL K H' a xs → True := fun _ _ => trivial
  refine ⟨fun i hi => ⟨vs, hq, by rw [r.len]; exact hi⟩, fun i d hd => ?_⟩
  obtain ⟨v, h1, h2⟩ := r.get hd
  refine ⟨⟨vs, v, hq, h1⟩, fun x H'' hy => ?_⟩
  obtain ⟨rfl, h3⟩ := hy
  have := h3 vs hq
  rw [h1] at this
  injection this with this
  subst this
  exact ⟨F', Ext.refl s', h2.mono s⟩
theorem walks_tup {K : PySem.W.Frag} {F : Hp} {a : Addr} {vs : List V} {l : List D} (h : SqT K F a vs) (r : Reps K F vs l) : Walks K (Itt K a) F l := by
  intro F' H' s s'
  have hq : SqT K H' a vs := same_sqT s' (same_sqT s h)
  refine ⟨fun i hi => ⟨vs, hq, by rw [r.len]; exact hi⟩, fun i d hd => ?_⟩
  obtain ⟨v, h1, h2⟩ := r.get hd
  refine ⟨⟨vs, v, hq, h1⟩, fun x H'' hy => ?_⟩
  obtain ⟨rfl, h3⟩ := hy
  have := h3 vs hq
  rw [h1] at this
  injection this with this
  subst this
  exact ⟨F', Ext.refl s', h2.mono s⟩
theorem walks_str {K : PySem.W.Frag} {F : Hp} {z : Str} : Walks K (Its z) F (signs z) := by
  intro F' H' s s'
  refine ⟨fun i hi => ?_, fun i d hd => ?_⟩
  · show z.cps.size ≤ i
    unfold signs at hi
    rw [List.length_map, Array.length_toList] at hi
    exact hi
  · unfold signs at hd
    rw [List.getElem?_map] at hd
    cases q : z.cps.toList[i]? with
    | none => rw [q] at hd; cases hd
    | some c =>
      rw [q] at hd
      have hd2 : some (D.str ⟨#[c]⟩) = some d := hd
      injection hd2 with hd2
      subst hd2
      have hlt : i < z.cps.size := by
        have := (List.getElem?_eq_some_iff.mp q).1
        rw [Array.length_toList] at this
        exact this
      refine ⟨hlt, fun x H'' hy => ?_⟩
      obtain ⟨rfl, c', h1, rfl⟩ := hy
      have e : c' = c := by
        rw [Array.getElem?_toList] at q
        rw [h1] at q
        injection q
      subst e
      exact ⟨F', Ext.refl s', .str _⟩
theorem di_val (h : PE X iter (tD X.K W da)) : PI X tg iter (tI X.K W (iVal da)) := by
  refine piI (piOr (pi_list h) (piOr (pi_tup h) (pi_str h))) ?_
  rintro σ H Q ⟨B, F, e, R, h⟩
  have h0 : OutI X.K W B F σ Q ((da e).bind fun p => (itemsOf p.1).bind fun l => .ok (l, p.2)) := h
  cases q : da e with
  | bad => rw [q] at h0; exact h0.elim
  | exc z =>
    rw [q] at h0
    exact .inl ⟨B, F, e, R, by rw [q]; exact h0⟩
  | ok pr =>
    rw [q] at h0
    obtain ⟨d, e1⟩ := pr
    cases d with
    | lst l =>
      refine .inl ⟨B, F, e, R, ?_⟩
      rw [q]
      intro F1 H1 v R1 s1 rv
      obtain ⟨a, vs, rfl, ha, rs⟩ := rv.lst_inv
      exact ⟨a, rfl, ⟨vs, .inl (.inl (R1.sub _ _ ha))⟩, h0 F1 H1 _ R1 s1 (walks_list ha rs)⟩
    | tup l =>
      refine .inr (.inl ⟨B, F, e, R, ?_⟩)
      rw [q]
      intro F1 H1 v R1 s1 rv
      obtain ⟨a, vs, rfl, ha, rs⟩ := rv.tup_inv
      exact ⟨a, rfl, ⟨vs, same_sqT R1.sub ha⟩, h0 F1 H1 _ R1 s1 (walks_tup ha rs)⟩
    | str z =>
      refine .inr (.inr ⟨B, F, e, R, ?_⟩)
      rw [q]
      intro F1 H1 v R1 s1 rv
      exact ⟨z, rv.str_inv, h0 F1 H1 _ R1 s1 walks_str⟩
    | _ => exact h0.elim
theorem walks_range {K : PySem.W.Frag} {F : Hp} {a : Int} {n : Nat} : Walks K (Itr a n) F (intsD a n) := by
  intro F' H' s s'
  refine ⟨fun i hi => ?_, fun i d hd => ?_⟩
  · unfold intsD at hi
    rw [List.length_map, List.length_range] at hi
    exact hi
  · unfold intsD at hd
    rw [List.getElem?_map] at hd
    by_cases hlt : i < n
    · rw [List.getElem?_range hlt] at hd
      have hd2 : some (D.int (a + (i : Nat))) = some d := hd
      injection hd2 with hd2
      subst hd2
      refine ⟨hlt, fun x H'' hy => ?_⟩
      obtain ⟨rfl, rfl⟩ := hy
      exact ⟨F', Ext.refl s', .int _⟩
    · rw [List.getElem?_eq_none (by rw [List.length_range]; omega)] at hd
      cases hd
theorem wide_of {i : Int} (h : wide i = true) : -1000000000 ≤ i ∧ i ≤ 1000000000 := by
  unfold wide SMALL at h
  simp only [Bool.and_eq_true, decide_eq_true_eq] at h
  exact h
theorem OutA.toI {K : PySem.W.Frag} {B : Bs} {F : Hp} {σ : St} {Q : It → Hp → Prop} {r : R (List D × En)} {g : List D × En → R (List D × En)} {Q' : List V → Hp → Prop} (h : OutI K W B F σ Q (r.bind g))
    (k : ∀ d e1, OutI K W B F σ Q (g (d, e1)) → ∀ F' H' vs, Rl K B F' H' σ e1 → Same F F' → Reps K F' vs d → Q' vs H') : OutA K W B F σ Q' r := by
  cases r with
  | ok p => exact k p.1 p.2 h
  | exc x => exact h
  | bad => exact h.elim
theorem di_range1 {a : Expr} (hg : Gl X "range") (hm : X.mg "range" = none) (ha : PA X [a] (tA X.K W dr)) (hl : ∀ e p, dr e = .ok p → p.1.length = 1) (hs : starEach [a] X.env = [(false, eval a X.env)] := by rfl) : PI X tg (.Call (.Name "range" p) [a] [] pos) (tI X.K W (iRange dr)) := by
  refine piI (pi_range1 hg hm ha hs) ?_
  rintro σ H Q ⟨B, F, e, R, h⟩
  have h0 : OutI X.K W B F σ Q ((dr e).bind fun p => (asRange p.1).bind fun l => .ok (l, p.2)) := h
  refine ⟨B, F, e, R, ?_⟩
  cases q : dr e with
  | bad => rw [q] at h0; exact h0.elim
  | exc z => rw [q] at h0; exact h0
  | ok pr =>
    have hlen := hl e _ q
    rw [q] at h0
    obtain ⟨l, e1⟩ := pr
    match l, hlen with
    | [d], _ =>
      intro F1 H1 vs R1 s1 rs
      obtain ⟨v, rfl, rv⟩ := reps1 rs
      have h1 : OutI X.K W B F σ Q ((asRange [d]).bind fun l => .ok (l, e1)) := h0
      cases d with
      | int j =>
        have h2 : OutI X.K W B F σ Q ((if wide j = true then WW.R.ok (intsD 0 j.toNat) else WW.R.bad).bind fun l => .ok (l, e1)) := h1
        by_cases c : wide j = true
        · rw [if_pos c] at h2
          obtain ⟨c1, c2⟩ := wide_of c
          exact ⟨j, by rw [rv.int_inv], by omega, by omega, h2 F1 H1 _ R1 s1 walks_range⟩
        · rw [if_neg c] at h2
          exact h2.elim
      | _ => exact h1.elim
theorem di_range2 {a b : Expr} (hg : Gl X "range") (hm : X.mg "range" = none) (ha : PA X [a, b] (tA X.K W dr)) (hl : ∀ e p, dr e = .ok p → p.1.length = 2) (hs : starEach [a, b] X.env = [(false, eval a X.env), (false, eval b X.env)] := by rfl) (hs2 : starEach [b] X.env = [(false, eval b X.env)] := by rfl) :
    PI X tg (.Call (.Name "range" p) [a, b] [] pos) (tI X.K W (iRange dr)) := by
  refine piI (pi_range2 hg hm ha hs hs2) ?_
  rintro σ H Q ⟨B, F, e, R, h⟩
  have h0 : OutI X.K W B F σ Q ((dr e).bind fun p => (asRange p.1).bind fun l => .ok (l, p.2)) := h
  refine ⟨B, F, e, R, ?_⟩
  cases q : dr e with
  | bad => rw [q] at h0; exact h0.elim
  | exc z => rw [q] at h0; exact h0
  | ok pr =>
    have hlen := hl e _ q
    rw [q] at h0
    obtain ⟨l, e1⟩ := pr
    match l, hlen with
    | [d, d'], _ =>
      intro F1 H1 vs R1 s1 rs
      obtain ⟨v, v', rfl, rv, rv'⟩ := reps2 rs
      have h1 : OutI X.K W B F σ Q ((asRange [d, d']).bind fun l => .ok (l, e1)) := h0
      cases d with
      | int i =>
        cases d' with
        | int j =>
          have h2 : OutI X.K W B F σ Q ((if (wide i && wide j) = true then WW.R.ok (intsD i (j - i).toNat) else WW.R.bad).bind fun l => .ok (l, e1)) := h1
          by_cases c : (wide i && wide j) = true
          · rw [if_pos c] at h2
            obtain ⟨c1, c2⟩ := Bool.and_eq_true_iff.mp c
            obtain ⟨c3, c4⟩ := wide_of c1
            obtain ⟨c5, c6⟩ := wide_of c2
            exact ⟨i, j, by rw [rv.int_inv, rv'.int_inv], ⟨by omega, by omega, by omega, by omega⟩, h2 F1 H1 _ R1 s1 walks_range⟩
          · rw [if_neg c] at h2
            exact h2.elim
        | _ => exact h1.elim
      | _ => exact h1.elim
theorem zip_len : ∀ {l m : List D} {i : Nat}, (zipD l m).length ≤ i → l.length ≤ i ∨ m.length ≤ i
  | [], _, _, _ => .inl (Nat.zero_le _)
  | _ :: _, [], _, _ => .inr (Nat.zero_le _)
  | a :: l, b :: m, 0, h => absurd h (by show ¬ (zipD l m).length + 1 ≤ 0; omega)
  | a :: l, b :: m, i + 1, h => by
    have h2 : (zipD l m).length + 1 ≤ i + 1 := h
    rcases zip_len (l := l) (m := m) (i := i) (by omega) with z | z
    · exact .inl (Nat.succ_le_succ z)
    · exact .inr (Nat.succ_le_succ z)
theorem zip_at : ∀ {l m : List D} {i : Nat} {d : D}, (zipD l m)[i]? = some d → ∃ a b, l[i]? = some a ∧ m[i]? = some b ∧ d = .tup [a, b]
  | [], _, _, _, h => by simp [zipD] at h
  | _ :: _, [], _, _, h => by simp [zipD] at h
  | a :: l, b :: m, 0, d, h => by
    have h2 : some (D.tup [a, b]) = some d := h
    injection h2 with h2
    exact ⟨a, b, rfl, rfl, h2.symm⟩
  | a :: l, b :: m, i + 1, d, h => by
    obtain ⟨x, y, h1, h2, h3⟩ := zip_at (l := l) (m := m) (i := i) (show (zipD l m)[i]? = some d by simpa [zipD] using h)
    exact ⟨x, y, by simpa using h1, by simpa using h2, h3⟩
theorem walks_zip {K : PySem.W.Frag} {F : Hp} {a b : Addr} {vs us : List V} {l m : List D} (ha : F a = some (.lst vs)) (hb : F b = some (.lst us)) (ra : Reps K F vs l) (rb : Reps K F us m) : Walks K (Itz K a b) F (zipD l m) := by
  intro F' H' s s'
  have qa : SqL K H' a vs := .inl (.inl (s' _ _ (s _ _ ha)))
  have qb : SqL K H' b us := .inl (.inl (s' _ _ (s _ _ hb)))
  refine ⟨fun i hi => ⟨vs, us, qa, qb, by rw [ra.len, rb.len]; exact zip_len hi⟩, fun i d hd => ?_⟩
  obtain ⟨x, y, h1, h2, rfl⟩ := zip_at hd
  obtain ⟨v, k1, k2⟩ := ra.get h1
  obtain ⟨u, k3, k4⟩ := rb.get h2
  refine ⟨⟨vs, us, v, u, qa, qb, k1, k3⟩, fun w' H'' hy => ?_⟩
  obtain ⟨T, x1, y1, rfl, nT, rfl, f1, f2⟩ := hy
  have e1 := f1 vs qa
  rw [k1] at e1
  injection e1 with e1
  subst e1
  have e2 := f2 us qb
  rw [k3] at e2
  injection e2 with e2
  subst e2
  have x := ext_new (o := .tup [v, u]) s' nT
  exact ⟨_, x, .tup (.inl (.inl upd_same)) (.cons ((k2.mono s).mono x.fr) (.cons ((k4.mono s).mono x.fr) .nil))⟩
theorem walks_zipT {K : PySem.W.Frag} {F : Hp} {a b : Addr} {vs us : List V} {l m : List D} (ha : SqT K F a vs) (hb : SqT K F b us) (ra : Reps K F vs l) (rb : Reps K F us m) : Walks K (RZ.ItzT K a b) F (zipD l m) := by
  intro F' H' s s'
  have qa : SqT K H' a vs := same_sqT s' (same_sqT s ha)
  have qb : SqT K H' b us := same_sqT s' (same_sqT s hb)
  refine ⟨fun i hi => ⟨vs, us, qa, qb, by rw [ra.len, rb.len]; exact zip_len hi⟩, fun i d hd => ?_⟩
  obtain ⟨x, y, h1, h2, rfl⟩ := zip_at hd
  obtain ⟨v, k1, k2⟩ := ra.get h1
  obtain ⟨u, k3, k4⟩ := rb.get h2
  refine ⟨⟨vs, us, v, u, qa, qb, k1, k3⟩, fun w' H'' hy => ?_⟩
  obtain ⟨T, x1, y1, rfl, nT, rfl, f1, f2⟩ := hy
  have e1 := f1 vs qa
  rw [k1] at e1
  injection e1 with e1
  subst e1
  have e2 := f2 us qb
  rw [k3] at e2
  injection e2 with e2
  subst e2
  have x := ext_new (o := .tup [v, u]) s' nT
  exact ⟨_, x, .tup (.inl (.inl upd_same)) (.cons ((k2.mono s).mono x.fr) (.cons ((k4.mono s).mono x.fr) .nil))⟩
theorem di_zip {a b : Expr} {elts : List Expr} {kk : Nat} (hg : Gl X "zip") (hm : X.mg "zip" = none) (ha : PA X [a, b] (tA X.K W dr)) (hl : ∀ e p, dr e = .ok p → p.1.length = 2)
    (hs : starEach [a, b] X.env = (false, eval a X.env) :: starEach [b] X.env := by rfl) (hpl : (backTo pos (starEach [b] X.env)).any (·.1) = false := by rfl) : PI X (.Tuple elts kk tpos) (.Call (.Name "zip" p) [a, b] [] pos) (tI X.K W (iZipd dr)) := by
  refine piI (RZ.pi_zipA hg hm ha hs hpl) ?_
  rintro σ H Q ⟨B, F, e, R, h⟩
  have h0 : OutI X.K W B F σ Q ((dr e).bind fun p => (asZip p.1).bind fun l => .ok (l, p.2)) := h
  refine ⟨B, F, e, R, ?_⟩
  cases q : dr e with
  | bad => rw [q] at h0; exact h0.elim
  | exc z => rw [q] at h0; exact h0
  | ok pr =>
    have hlen := hl e _ q
    rw [q] at h0
    obtain ⟨l, e1⟩ := pr
    match l, hlen with
    | [d, d'], _ =>
      intro F1 H1 vs R1 s1 rs
      obtain ⟨v, v', rfl, rv, rv'⟩ := reps2 rs
      have h1 : OutI X.K W B F σ Q ((asZip [d, d']).bind fun l => .ok (l, e1)) := h0
      cases d with
      | lst l1 =>
        cases d' with
        | lst l2 =>
          obtain ⟨a1, us, rfl, ha1, ra⟩ := rv.lst_inv
          obtain ⟨b1, ws, rfl, hb1, rb⟩ := rv'.lst_inv
          exact ⟨a1, b1, us, ws, rfl, .inl ⟨.inl (.inl (R1.sub _ _ ha1)), .inl (.inl (R1.sub _ _ hb1)), h1 F1 H1 _ R1 s1 (walks_zip ha1 hb1 ra rb)⟩⟩
        | _ => exact h1.elim
      | tup l1 =>
        cases d' with
        | tup l2 =>
          obtain ⟨a1, us, rfl, ha1, ra⟩ := rv.tup_inv
          obtain ⟨b1, ws, rfl, hb1, rb⟩ := rv'.tup_inv
          exact ⟨a1, b1, us, ws, rfl, .inr ⟨same_sqT R1.sub ha1, same_sqT R1.sub hb1, h1 F1 H1 _ R1 s1 (walks_zipT ha1 hb1 ra rb)⟩⟩
        | _ => exact h1.elim
      | _ => exact h1.elim
end
end WW
set_option Elab.async false
set_option linter.all false
set_option maxRecDepth 100000
set_option maxHeartbeats 4000000
/-! The data layer, part 6: loops, comprehensions, the box, a def's body. -/
namespace WW
open PySem PySem.Spec L2

theorem OutS.imp {K : PySem.W.Frag} {W : WX} {B B1 : Bs} {D' : Ends} {r : SR} (h : ∀ F H σ e, Rl K B1 F H σ e → Rl K B F H σ e) (o : OutS K W B D' r) : OutS K W B1 D' r := by
  cases r with
  | next e => exact fun F H σ R => o F H σ (h _ _ _ _ R)
  | ret d e => exact fun F H σ v R q => o F H σ v (h _ _ _ _ R) q
  | brk e => exact fun F H σ R => o F H σ (h _ _ _ _ R)
  | cnt e => exact fun F H σ R => o F H σ (h _ _ _ _ R)
  | exc x => exact fun σ F H c dd e R => o σ F H c dd e (h _ _ _ _ R)
  | bad => exact o
/-! ### for -/
def forL (g : DG) (b : DS) : List D → En → SR
  | [], e => .next e
  | d :: l, e => match g d e with
    | none => .bad
    | some e1 => match b e1 with
      | .next e2 => forL g b l e2
      | .cnt e2 => forL g b l e2
      | .brk e2 => .next e2
      | r => r
def sFor (src : DA) (g : DG) (b : DS) : DS := fun e => (src e).toS fun p => forL g b p.1 p.2
theorem OutI.toS {K : PySem.W.Frag} {W : WX} {B : Bs} {F : Hp} {σ : St} {D' : Ends} {r : R (List D × En)} {g : List D × En → SR} {Q : It → Hp → Prop} (h : OutS K W B D' (r.toS g)) (k : ∀ d e1, OutS K W B D' (g (d, e1)) → ∀ F' H' J, Rl K B F' H' σ e1 → Same F F' → Walks K J F' d → Q J H') : OutI K W B F σ Q r := by
  cases r with
  | ok p => exact k p.1 p.2 h
  | exc x => exact h σ
  | bad => exact h.elim
section
variable {X : Cx} {W : WX} {tg iter : Expr} {src : DA} {g : DG} {is : List Nat} {b : DS} {body : List Stmt} {pos : Pos}
theorem ds_for (hp : PassesOwn (model X.prog X.w) X.A X.env X.xe) (hc : X.calm = true) (hi : PI X tg iter (tI X.K W src)) (hg : PG X tg (tG X.K is g)) (hb : PSs X body (tS X.K W b))
    (hs : ∀ x, foldedSetIterable iter X.env x = pure x := by intro _; rfl) : PS X (.For tg iter body [] pos) (tS X.K W (sFor src g b)) := by
  refine psI (ps_for hp hc hi hg hb hs) ?_
  rintro D' σ H ⟨B, F, e, R, h⟩
  refine ⟨B, F, e, R, OutI.toS h fun ds e1 h1 F1 H1 J R1 s1 wk => ?_⟩
  obtain ⟨B1, hF1, R2, back⟩ := R1.rebase
  have h2 : OutS X.K W B1 D' (forL g b ds e1) := OutS.imp back h1
  refine ⟨fun i m σ H => m = ds.length - i ∧ i ≤ ds.length ∧ ∃ F2 e2, Rl X.K B1 F2 H σ e2 ∧ OutS X.K W B1 D' (forL g b (ds.drop i) e2), ⟨ds.length, by simp, Nat.zero_le _, F1, e1, R2, h2⟩, ?_⟩
  rintro i m σ2 H2 ⟨rfl, hi, F2, e2, R3, h3⟩
  have s2 : Same F1 F2 := by
    have := R3.ext.fr
    rw [hF1] at this
    exact this
  obtain ⟨stop, go⟩ := wk F2 H2 s2 R3.sub
  by_cases hlt : i < ds.length
  · obtain ⟨d, hd⟩ : ∃ d, ds[i]? = some d := ⟨_, List.getElem?_eq_getElem hlt⟩
    have ed : ds.drop i = d :: ds.drop (i + 1) := by
      rw [List.drop_eq_getElem_cons hlt]
      rw [List.getElem?_eq_getElem hlt] at hd
      injection hd with hd
      rw [hd]
    obtain ⟨g1, g2⟩ := go i d hd
    refine .inr ⟨g1, fun σ' H' => ∃ F' e', Rl X.K B1 F' H' σ' e' ∧ OutS X.K W B1 D' (forL g b (ds.drop (i + 1)) e'), fun σ' H' ⟨F', e', R', h'⟩ => ⟨ds.length - (i + 1), by omega, rfl, hlt, F', e', R', h'⟩, fun x H'' hy => ?_⟩
    obtain ⟨F3, x3, rx⟩ := g2 x H'' hy
    rw [ed] at h3
    unfold forL at h3
    cases q : g d e2 with
    | none => rw [q] at h3; exact h3.elim
    | some e3 =>
      rw [q] at h3
      refine ⟨B1, F3, e2, d, e3, R3.step x3, rx, q, fun σ' R' _ => ⟨B1, F3, e3, R', ?_⟩⟩
      have h4 : OutS X.K W B1 D' (match b e3 with
        | .next e2 => forL g b (ds.drop (i + 1)) e2
        | .cnt e2 => forL g b (ds.drop (i + 1)) e2
        | .brk e2 => .next e2
        | r => r) := h3
      cases z : b e3 with
      | next e4 => rw [z] at h4; exact fun F' H' σ'' R'' => ⟨F', e4, R'', h4⟩
      | cnt e4 => rw [z] at h4; exact fun F' H' σ'' R'' => ⟨F', e4, R'', h4⟩
      | brk e4 => rw [z] at h4; exact fun F' H' σ'' R'' => h4 F' H' σ'' R''
      | ret d4 e4 => rw [z] at h4; exact h4
      | exc x4 => rw [z] at h4; exact h4
      | bad => rw [z] at h4; exact h4.elim
  · have e : i = ds.length := by omega
    subst e
    rw [List.drop_length] at h3
    exact .inl ⟨stop _ (Nat.le_refl _), h3 F2 H2 σ2 R3⟩
/-! ### while -/
def whileL (c : DT) (b : DS) : Nat → En → SR
  | 0, _ => .bad
  | n + 1, e => (c e).toS fun p => if p.1 = true then (match b p.2 with
    | .next e2 => whileL c b n e2
    | .cnt e2 => whileL c b n e2
    | .brk e2 => .next e2
    | r => r) else .next p.2
def FUEL : Nat := 2 ^ 60
def sWhile (c : DT) (b : DS) : DS := fun e => whileL c b FUEL e
theorem whileL_mono (c : DT) (b : DS) : ∀ (n m : Nat) (e : En) (r : SR), n ≤ m → r ≠ .bad → whileL c b n e = r → whileL c b m e = r
  | 0, m, e, r, _, hr, h => absurd h.symm hr
  | n + 1, 0, e, r, hnm, _, _ => absurd hnm (Nat.not_succ_le_zero n)
  | n + 1, m + 1, e, r, hnm, hr, h => by
    unfold whileL at h ⊢
    cases q : c e with
    | bad => rw [q] at h; exact h
    | exc x => rw [q] at h; exact h
    | ok p =>
      rw [q] at h
      simp only [R.toS_ok] at h ⊢
      by_cases k : p.1 = true
      · rw [if_pos k] at h ⊢
        cases z : b p.2 with
        | next e2 => rw [z] at h; exact whileL_mono c b n m e2 r (Nat.le_of_succ_le_succ hnm) hr h
        | cnt e2 => rw [z] at h; exact whileL_mono c b n m e2 r (Nat.le_of_succ_le_succ hnm) hr h
        | brk e2 => rw [z] at h; exact h
        | ret d e2 => rw [z] at h; exact h
        | exc x => rw [z] at h; exact h
        | bad => rw [z] at h; exact h
      · rw [if_neg k] at h ⊢
        exact h
theorem sWhile_of {c : DT} {b : DS} {e : En} {r : SR} (n : Nat) (hn : n ≤ 2 ^ 60) (hr : r ≠ .bad) (h : whileL c b n e = r) : sWhile c b e = r := whileL_mono c b n FUEL e r hn hr h
variable {c : Expr} {tc : DT}
theorem ds_while (hp : PassesOwn (model X.prog X.w) X.A X.env X.xe) (hc : PT X c (tT X.K W tc)) (hb : PSs X body (tS X.K W b)) : PS X (.While c body [] pos) (tS X.K W (sWhile tc b)) := by
  refine psI (ps_while hp hc hb) ?_
  rintro D' σ H ⟨B, F, e, R, h⟩
  refine ⟨fun m σ H => ∃ F e, Rl X.K B F H σ e ∧ OutS X.K W B D' (whileL tc b m e), ⟨FUEL, F, e, R, h⟩, ?_⟩
  rintro m σ1 H1 ⟨F1, e1, R1, h1⟩
  cases m with
  | zero => exact h1.elim
  | succ n =>
    unfold whileL at h1
    refine ⟨B, F1, e1, R1, OutT.toS h1 fun k e2 h2 F2 H2 R2 s2 => ?_⟩
    cases k with
    | true =>
      refine iteT ⟨fun σ' H' => ∃ F' e', Rl X.K B F' H' σ' e' ∧ OutS X.K W B D' (whileL tc b n e'), fun σ' H' w' => ⟨n, Nat.lt_succ_self n, w'⟩, B, F2, e2, R2, ?_⟩
      have h4 : OutS X.K W B D' (match b e2 with
        | .next e2 => whileL tc b n e2
        | .cnt e2 => whileL tc b n e2
        | .brk e2 => .next e2
        | r => r) := h2
      cases z : b e2 with
      | next e4 => rw [z] at h4; exact fun F' H' σ'' R'' => ⟨F', e4, R'', h4⟩
      | cnt e4 => rw [z] at h4; exact fun F' H' σ'' R'' => ⟨F', e4, R'', h4⟩
      | brk e4 => rw [z] at h4; exact fun F' H' σ'' R'' => h4 F' H' σ'' R''
      | ret d4 e4 => rw [z] at h4; exact h4
      | exc x4 => rw [z] at h4; exact h4
      | bad => rw [z] at h4; exact h4.elim
    | false => exact iteF (h2 F2 H2 σ1 R2)
end

/-! ### comprehensions -/
def wipeE (e : En) : List Nat → Option En
  | [] => some e
  | v :: vs => match wipeE e vs with
    | some e1 => setE e1 v none
    | none => none
theorem wipeE_len : ∀ {vs : List Nat} {e e1 : En}, wipeE e vs = some e1 → e1.length = e.length
  | [], e, e1, h => by
    have h2 : some e = some e1 := h
    injection h2 with h2
    rw [h2]
  | v :: vs, e, e1, h => by
    have h2 : (match wipeE e vs with
      | some e1 => setE e1 v none
      | none => none) = some e1 := h
    cases q : wipeE e vs with
    | none => rw [q] at h2; cases h2
    | some e2 =>
      rw [q] at h2
      obtain ⟨_, h3, _⟩ := setE_some h2
      rw [h3, wipeE_len q]
theorem wipeE_at : ∀ {vs : List Nat} {e e1 : En}, wipeE e vs = some e1 → ∀ i s, nth e1 i = some s → nth e i = some s ∧ i ∉ vs
  | [], e, e1, h, i, s, hs => by
    have h2 : some e = some e1 := h
    injection h2 with h2
    rw [h2]
    exact ⟨hs, by simp⟩
  | v :: vs, e, e1, h, i, s, hs => by
    have h2 : (match wipeE e vs with
      | some e1 => setE e1 v none
      | none => none) = some e1 := h
    cases q : wipeE e vs with
    | none => rw [q] at h2; cases h2
    | some e2 =>
      rw [q] at h2
      obtain ⟨_, _, h4, h5⟩ := setE_some h2
      have hiv : i ≠ v := fun z => by
        rw [z, h4] at hs
        cases hs
      rw [h5 i hiv] at hs
      obtain ⟨h6, h7⟩ := wipeE_at q i s hs
      exact ⟨h6, fun z => by
        rcases List.mem_cons.mp z with z | z
        · exact hiv z
        · exact h7 z⟩
def compL (vs : List Nat) (g : DG) (t : DT) (el : DE) : List D → En → R (List D × En)
  | [], e => .ok ([], e)
  | d :: l, e => match g d e with
    | none => .bad
    | some e1 => (t e1).bind fun p => if p.1 = true then (el p.2).bind fun q => (match wipeE q.2 vs with
        | some e4 => (compL vs g t el l e4).bind fun r => .ok (q.1 :: r.1, r.2)
        | none => .bad)
      else (match wipeE p.2 vs with
        | some e4 => compL vs g t el l e4
        | none => .bad)
def noTest : DT := fun e => .ok (true, e)
def oComp (src : DA) (vs : List Nat) (g : DG) (t : DT) (el : DE) : OE := fun e => (src e).bind fun p => if p.1.length ≤ LIM then (match wipeE p.2 vs with
    | some e1 => (compL vs g t el p.1 e1).noX.bind fun q => .ok (.l q.1, q.2)
    | none => .bad) else .bad
theorem wipe_off {vs is : List Nat} {σ σ2 : St} (h : Off is (wipe σ vs) σ2) (hs : ∀ i ∈ is, i ∈ vs) : wipe σ2 vs = wipe σ vs := by
  refine List.ext_getElem? fun j => ?_
  by_cases hj : j ∈ vs
  · have wm : ∀ (τ : St) (ws : List Nat), j ∈ ws → (wipe τ ws)[j]? = (if j < τ.length then some none else none) := by
      intro τ ws
      induction ws with
      | nil => intro z; cases z
      | cons w ws ih =>
        intro z
        show ((wipe τ ws).set w none)[j]? = _
        by_cases hw : w = j
        · subst hw
          by_cases hl : w < (wipe τ ws).length
          · rw [List.getElem?_set_self hl]
            rw [wipe_length] at hl
            rw [if_pos hl]
          · rw [List.getElem?_eq_none (by rw [List.length_set]; omega)]
            rw [wipe_length] at hl
            rw [if_neg hl]
        · rw [List.getElem?_set_ne hw]
          rcases List.mem_cons.mp z with z | z
          · exact absurd z.symm hw
          · exact ih z
    rw [wm σ2 vs hj, wm σ vs hj, h.1, wipe_length]
  · have wo : ∀ (τ : St) (ws : List Nat), j ∉ ws → (wipe τ ws)[j]? = τ[j]? := by
      intro τ ws
      induction ws with
      | nil => intro _; rfl
      | cons w ws ih =>
        intro z
        show ((wipe τ ws).set w none)[j]? = _
        rw [List.getElem?_set_ne (fun q => z (by rw [q]; exact List.mem_cons_self)), ih fun q => z (List.mem_cons_of_mem _ q)]
    rw [wo σ2 vs hj]
    exact h.2 j fun z => hj (hs j z)
theorem wipe_out {σ : St} {vs : List Nat} {j : Nat} (hj : j ∉ vs) : (wipe σ vs)[j]? = σ[j]? := by
  induction vs with
  | nil => rfl
  | cons w ws ih =>
    show ((wipe σ ws).set w none)[j]? = _
    rw [List.getElem?_set_ne (fun q => hj (by rw [q]; exact List.mem_cons_self)), ih fun q => hj (List.mem_cons_of_mem _ q)]
/-- the block's state from the state ahead, and back -/
theorem Rl.wiped {K : PySem.W.Frag} {B : Bs} {F H : Hp} {σ : St} {e e1 : En} {vs : List Nat} {x : Option V} {s : Option Sl} (R : Rl K B F H (σ ++ [x]) (e ++ [s])) (h : wipeE e vs = some e1) : Rl K B F H (wipe σ vs ++ [x]) (e1 ++ [s]) := by
  have l := R.less.len
  refine R.sel (by rw [List.length_append, List.length_append, wipe_length, wipeE_len h, l]; rfl) fun i t ht => ?_
  have hl1 := wipeE_len h
  by_cases hi : i < e1.length
  · rw [nth_app_left hi] at ht
    obtain ⟨h1, h2⟩ := wipeE_at h i t ht
    rw [hl1] at hi
    refine ⟨by rw [nth_app_left hi]; exact h1, ?_⟩
    rw [List.getElem?_append_left (by rw [wipe_length, ← l]; exact hi), List.getElem?_append_left (by rw [← l]; exact hi), wipe_out h2]
  · have hi2 : i = e1.length := by
      have := nth_some_lt ht
      rw [List.length_append] at this
      simp at this
      omega
    subst hi2
    rw [nth_app_last] at ht
    refine ⟨by rw [hl1, nth_app_last]; exact ht, ?_⟩
    rw [hl1, l, List.getElem?_append_right (by rw [wipe_length]; exact Nat.le_refl _), List.getElem?_append_right (Nat.le_refl _), wipe_length]
theorem Rl.unwiped {K : PySem.W.Frag} {B : Bs} {F H : Hp} {σ : St} {e : En} {vs : List Nat} {x : Option V} {s : Option Sl} (R : Rl K B F H (wipe σ vs ++ [x]) (e ++ [s])) (h : ∀ i ∈ vs, nth e i = none) : Rl K B F H (σ ++ [x]) (e ++ [s]) := by
  have l := R.less.len
  rw [wipe_length] at l
  refine R.sel (by rw [List.length_append, List.length_append, l]; rfl) fun i t ht => ⟨ht, ?_⟩
  by_cases hi : i < e.length
  · rw [nth_app_left hi] at ht
    have h2 : i ∉ vs := fun z => by
      rw [h i z] at ht
      cases ht
    rw [List.getElem?_append_left (by rw [← l]; exact hi), List.getElem?_append_left (by rw [wipe_length, ← l]; exact hi), wipe_out h2]
  · have hi2 : i = e.length := by
      have := nth_some_lt ht
      rw [List.length_append] at this
      simp at this
      omega
    subst hi2
    rw [l, List.getElem?_append_right (Nat.le_refl _), List.getElem?_append_right (by rw [wipe_length]; exact Nat.le_refl _), wipe_length]
/-- an item more for the own list in the last place -/
theorem Rl.snoc {K : PySem.W.Frag} {B : Bs} {F H : Hp} {σ : St} {e : En} {p : Addr} {acc : List D} {y : V} {d : D} (R : Rl K B F H (σ ++ [some (.ref p)]) (e ++ [some (.l acc)])) (r : Rep K F y d) :
    ∃ vs, H p = some (.lst vs) ∧ vs.length = acc.length ∧ Rl K B F (upd H p (.lst (vs ++ [y]))) (σ ++ [some (.ref p)]) (e ++ [some (.l (acc ++ [d]))]) := by
  have l := R.less.len
  obtain ⟨_, _, fp, S⟩ := id R
  obtain ⟨u, q1, p', vs, rfl, hA, hp, rs⟩ := S.ok e.length (.l acc) nth_app_last
  have hlast : (σ ++ [some (V.ref p)])[e.length]? = some (some (.ref p)) := by rw [l, List.getElem?_append_right (Nat.le_refl _)]; simp
  rw [hlast] at q1
  injection q1 with q1
  injection q1 with q1
  injection q1 with q1
  subst q1
  have fn := (S.own e.length p ((hA p).mpr rfl)).1
  have hset : setE (e ++ [some (.l acc)]) e.length (some (.l (acc ++ [d]))) = some (e ++ [some (.l (acc ++ [d]))]) := by
    clear R S l hlast fn hA hp rs
    generalize e = e
    induction e with
    | nil => rfl
    | cons a r ih =>
      show (match setE (r ++ [some (.l acc)]) r.length (some (.l (acc ++ [d]))) with
        | some q => some (a :: q)
        | none => none) = _
      rw [ih]
      rfl
  refine ⟨vs, hp, rs.len, R.change (v := .ref p) nth_app_last hlast hset fun A okA hF => ?_⟩
  obtain ⟨p2, vs2, e1, hA2, hp2, _⟩ := okA
  injection e1 with e1
  subst e1
  refine ⟨A, ⟨fun b o h => ?_, Same.refl _, fun b o h n => ?_, fun b o h => ?_, fun b o h => .inl h⟩, ⟨p, _, rfl, hA2, upd_same, rs.app (.cons r .nil)⟩, fun a z => ⟨hF a z, .inl z⟩⟩
  · have hb : b ≠ p := fun z => by subst z; rw [fn] at h; cases h
    rw [upd_ne hb]
    exact R.sub b o h
  · have hb : b ≠ p := fun z => n ((hA2 b).mpr z)
    rw [upd_ne hb]
    exact h
  · by_cases hb : b = p
    · subst hb; exact ⟨_, upd_same⟩
    · exact ⟨o, by rw [upd_ne hb]; exact h⟩
theorem compL_none {vs : List Nat} {g : DG} {t : DT} {el : DE} : ∀ {l : List D} {e : En} {r : List D × En}, (∀ i ∈ vs, nth e i = none) → compL vs g t el l e = .ok r → ∀ i ∈ vs, nth r.2 i = none
  | [], e, r, h, hr => by
    injection hr with hr
    subst hr
    exact h
  | d :: l, e, r, h, hr => by
    unfold compL at hr
    have fin : ∀ e0 e4, wipeE e0 vs = some e4 → ∀ i ∈ vs, nth e4 i = none := fun e0 e4 hw i hi => by
      cases z : nth e4 i with
      | none => rfl
      | some s => exact absurd hi (wipeE_at hw i s z).2
    cases q : g d e with
    | none => rw [q] at hr; cases hr
    | some e1 =>
      rw [q] at hr
      simp only at hr
      cases q2 : t e1 with
      | bad => rw [q2] at hr; cases hr
      | exc x => rw [q2] at hr; cases hr
      | ok p =>
        rw [q2] at hr
        simp only [WW.R.bind_ok, WW.R.noX_ok] at hr
        by_cases k : p.1 = true
        · rw [if_pos k] at hr
          cases q3 : el p.2 with
          | bad => rw [q3] at hr; cases hr
          | exc x => rw [q3] at hr; cases hr
          | ok z =>
            rw [q3] at hr
            simp only [WW.R.bind_ok, WW.R.noX_ok] at hr
            cases q4 : wipeE z.2 vs with
            | none => rw [q4] at hr; cases hr
            | some e4 =>
              rw [q4] at hr
              simp only at hr
              cases q5 : compL vs g t el l e4 with
              | bad => rw [q5] at hr; cases hr
              | exc x => rw [q5] at hr; cases hr
              | ok r' =>
                rw [q5] at hr
                injection hr with hr
                subst hr
                exact (compL_none (l := l) (r := r') (fin _ _ q4) q5 : ∀ i ∈ vs, nth r'.2 i = none)
        · rw [if_neg k] at hr
          cases q4 : wipeE p.2 vs with
          | none => rw [q4] at hr; cases hr
          | some e4 =>
            rw [q4] at hr
            exact compL_none (fin _ _ q4) hr
section
variable {X : Cx} {W : WX} {pos : Pos} {elt tg iter : Expr} {ifs : List Expr} {scope : Scope} {own : List (Str × Nat)} {src : DA} {g : DG} {is : List Nat} {t : DT} {el : DE}
/-- what the loop's rest must give -/
def OutC (K : PySem.W.Frag) (B : Bs) (σ : St) (x : V) (acc : List D) (Q : Hp → Prop) : R (List D × En) → Prop
  | .ok p => ∀ F' H', Rl K B F' H' (σ ++ [some x]) (p.2 ++ [some (.l (acc ++ p.1))]) → Q H'
  | _ => False
theorem lc_of {K : PySem.W.Frag} (hsub : ∀ i ∈ is, i ∈ own.map (·.2)) {σ : St} {H : Hp} {Q : VK} (h : tO K W (oComp src (own.map (·.2)) g t el) σ H Q) : tLc (tI K W src) (tG K is g) (tT K WF t) (tD K WF el) (own.map (·.2)) σ H Q := by
  obtain ⟨B, F, e, R, h⟩ := h
  refine ⟨B, F, e, R, ?_⟩
  cases q : src e with
  | bad =>
    unfold oComp at h
    rw [q] at h
    exact h.elim
  | exc x =>
    unfold oComp at h
    rw [q] at h
    exact h
  | ok pr =>
    obtain ⟨ds, e1⟩ := pr
    have h0 : (∃ e2 r, ds.length ≤ LIM ∧ wipeE e1 (own.map (·.2)) = some e2 ∧ compL (own.map (·.2)) g t el ds e2 = .ok r ∧ OutO K W B F σ Q (.ok (.l r.1, r.2))) := by
      unfold oComp at h
      rw [q] at h
      simp only [WW.R.bind_ok, WW.R.noX_ok] at h
      by_cases c : ds.length ≤ LIM
      · rw [if_pos c] at h
        cases q2 : wipeE e1 (own.map (·.2)) with
        | none => rw [q2] at h; exact h.elim
        | some e2 =>
          rw [q2] at h
          simp only at h
          cases q3 : compL (own.map (·.2)) g t el ds e2 with
          | bad => rw [q3] at h; exact h.elim
          | exc x => rw [q3] at h; exact h.elim
          | ok r => rw [q3] at h; exact ⟨e2, r, c, rfl, q3, h⟩
      · rw [if_neg c] at h
        exact h.elim
    obtain ⟨e2, r, hlim, hw, hcl, hout⟩ := h0
    intro F1 H1 J R1 s1 wk Dl hD
    have R2 := R1.newL (vs := []) (l := []) hD .nil
    have R3 := R2.wiped hw
    obtain ⟨B1, hF1, R4, back⟩ := R3.rebase
    have noE : ∀ i ∈ own.map (·.2), nth e2 i = none := fun i hi => by
      cases z : nth e2 i with
      | none => rfl
      | some s => exact absurd hi (wipeE_at hw i s z).2
    have hfin : OutC K B1 (wipe σ (own.map (·.2))) (.ref Dl) [] (fun H' => Q (.ref Dl) H') (compL (own.map (·.2)) g t el ds e2) := by
      rw [hcl]
      intro F' H' R'
      have R5 := (back _ _ _ _ R').unwiped (compL_none noE hcl)
      refine hout F' H' (.ref Dl) R5 ?_
      have := R'.ext.fr
      rw [hF1] at this
      exact s1.trans this
    refine ⟨fun i m H => m = ds.length - i ∧ i ≤ ds.length ∧ ∃ F2 e3 acc, acc.length ≤ i ∧ Rl K B1 F2 H (wipe σ (own.map (·.2)) ++ [some (.ref Dl)]) (e3 ++ [some (.l acc)]) ∧ OutC K B1 (wipe σ (own.map (·.2))) (.ref Dl) acc (fun H' => Q (.ref Dl) H') (compL (own.map (·.2)) g t el (ds.drop i) e3),
      ⟨ds.length, by simp, Nat.zero_le _, F1, e2, [], Nat.le_refl _, R4, hfin⟩, ?_⟩
    rintro i m H2 ⟨rfl, hi, F2, e3, acc, hacc, R5, h5⟩
    have s2 : Same F1 F2 := by
      have := R5.ext.fr
      rw [hF1] at this
      exact this
    obtain ⟨stop, go⟩ := wk F2 H2 s2 R5.sub
    by_cases hlt : i < ds.length
    · obtain ⟨d, hd⟩ : ∃ d, ds[i]? = some d := ⟨_, List.getElem?_eq_getElem hlt⟩
      have ed : ds.drop i = d :: ds.drop (i + 1) := by
        rw [List.drop_eq_getElem_cons hlt]
        rw [List.getElem?_eq_getElem hlt] at hd
        injection hd with hd
        rw [hd]
      obtain ⟨g1, g2⟩ := go i d hd
      refine .inr ⟨g1, fun H' => ∃ F2 e3 acc, acc.length ≤ i + 1 ∧ Rl K B1 F2 H' (wipe σ (own.map (·.2)) ++ [some (.ref Dl)]) (e3 ++ [some (.l acc)]) ∧ OutC K B1 (wipe σ (own.map (·.2))) (.ref Dl) acc (fun H' => Q (.ref Dl) H') (compL (own.map (·.2)) g t el (ds.drop (i + 1)) e3),
        fun H' ⟨F', e', acc', h1, h2, h3⟩ => ⟨ds.length - (i + 1), by omega, rfl, hlt, F', e', acc', h1, h2, h3⟩, fun x H'' hy => ?_⟩
      obtain ⟨F3, x3, rx⟩ := g2 x H'' hy
      rw [ed] at h5
      unfold compL at h5
      cases q : g d e3 with
      | none => rw [q] at h5; exact h5.elim
      | some e4 =>
        rw [q] at h5
        simp only at h5
        obtain ⟨B2, hF2, R6, back2⟩ := (R5.step x3).frame
        refine ⟨B2, F3, e3, d, e4, R6, rx, q, fun σ2 R7 off => ⟨wipe_off off hsub, ?_⟩⟩
        -- the test
        refine ⟨B2, F3, e4, R7, ?_⟩
        cases q2 : t e4 with
        | bad => rw [q2] at h5; exact h5.elim
        | exc y => rw [q2] at h5; exact h5.elim
        | ok pr2 =>
          rw [q2] at h5
          obtain ⟨k, e5⟩ := pr2
          simp only [WW.R.bind_ok, WW.R.noX_ok] at h5
          intro F4 H4 R8 s4
          cases k with
          | true =>
            simp only [if_true] at h5
            refine iteT ⟨B2, F4, e5, R8, ?_⟩
            cases q3 : el e5 with
            | bad => rw [q3] at h5; exact h5.elim
            | exc y => rw [q3] at h5; exact h5.elim
            | ok pr3 =>
              rw [q3] at h5
              obtain ⟨dy, e6⟩ := pr3
              simp only [WW.R.bind_ok, WW.R.noX_ok] at h5
              intro F5 H5 y R9 s5 ry
              cases q4 : wipeE e6 (own.map (·.2)) with
              | none => rw [q4] at h5; exact h5.elim
              | some e7 =>
                rw [q4] at h5
                simp only at h5
                obtain ⟨us, hu, hul, R10⟩ := (back2 _ _ _ _ R9).snoc ry
                have R11 := R10.wiped q4
                rw [wipe_off off hsub] at R11
                refine ⟨us, hu, lim_line' (by rw [hul]; exact Nat.le_trans hacc (Nat.le_trans hi hlim)), F5, e7, acc ++ [dy], ?_, R11, ?_⟩
                · rw [List.length_append, List.length_singleton]
                  omega
                · cases q5 : compL (own.map (·.2)) g t el (ds.drop (i + 1)) e7 with
                  | bad => rw [q5] at h5; exact h5.elim
                  | exc y => rw [q5] at h5; exact h5.elim
                  | ok r2 =>
                    rw [q5] at h5
                    intro F' H' R'
                    refine h5 F' H' ?_
                    rw [List.append_assoc] at R'
                    exact R'
          | false =>
            simp only [Bool.false_eq_true, if_false] at h5
            refine iteF ?_
            cases q4 : wipeE e5 (own.map (·.2)) with
            | none => rw [q4] at h5; exact h5.elim
            | some e7 =>
              rw [q4] at h5
              have R11 := (back2 _ _ _ _ R8).wiped q4
              rw [wipe_off off hsub] at R11
              exact ⟨F4, e7, acc, by omega, R11, h5⟩
    · have e : i = ds.length := by omega
      subst e
      rw [List.drop_length] at h5
      refine .inl ⟨stop _ (Nat.le_refl _), h5 F2 H2 ?_⟩
      rw [List.append_nil]
      exact R5

theorem ox_comp (hc : X.calm = true) (hN : X.N.Nodup) (hi : PI X tg iter (tI X.K W src)) (ok : BlkOk X.N X.env.scope scope own)
    (hg : ∀ (s : Shared) (H : Hp) (C : Addr) (cl : List (Str × Addr)) (fp : List Addr), PG (X.blk s H scope (compEnvC scope cl C X.env) fp) tg (tG X.K is g)) (ht : ∀ (s : Shared) (H : Hp) (C : Addr) (cl : List (Str × Addr)) (fp : List Addr), PTs (X.blk s H scope (compEnvC scope cl C X.env) fp) ifs (tT X.K WF t))
    (he : ∀ (s : Shared) (H : Hp) (C : Addr) (cl : List (Str × Addr)) (fp : List Addr), PE (X.blk s H scope (compEnvC scope cl C X.env) fp) elt (tD X.K WF el)) (hsub : ∀ i ∈ is, i ∈ own.map (·.2) := by decide) (hs : ∀ x, foldedSetIterable iter X.env x = pure x := by intro _; rfl) :
    PE X (.ListComp elt [⟨tg, iter, ifs, 0⟩] scope pos) (tO X.K W (oComp src (own.map (·.2)) g t el)) :=
  peI (pe_lc hc hN hi ok hg ht he hs) fun _ _ _ h => lc_of hsub h
theorem ds_setC {i : Nat} {y : Str} {py spos : Pos} (hc : X.calm = true) (hN : X.N.Nodup) (hy : X.N[i]? = some y) (hyl : X.env.scope.names.lookup y = some .local)
    (hsw : swapsWith (.ListComp elt [⟨tg, iter, ifs, 0⟩] scope pos) (some (.Name y py)) spos.line X.env = pure true) (hi : PI X tg iter (tI X.K W src)) (ok : BlkOk X.N X.env.scope scope own)
    (hg : ∀ (s : Shared) (H : Hp) (C : Addr) (cl : List (Str × Addr)) (fp : List Addr), PG (X.blk s H scope (compEnvC scope cl C X.env) fp) tg (tG X.K is g)) (ht : ∀ (s : Shared) (H : Hp) (C : Addr) (cl : List (Str × Addr)) (fp : List Addr), PTs (X.blk s H scope (compEnvC scope cl C X.env) fp) ifs (tT X.K WF t))
    (he : ∀ (s : Shared) (H : Hp) (C : Addr) (cl : List (Str × Addr)) (fp : List Addr), PE (X.blk s H scope (compEnvC scope cl C X.env) fp) elt (tD X.K WF el)) (hsub : ∀ i ∈ is, i ∈ own.map (·.2) := by decide) (hs : ∀ x, foldedSetIterable iter X.env x = pure x := by intro _; rfl) :
    PS X (.Assign [.Name y py] (.ListComp elt [⟨tg, iter, ifs, 0⟩] scope pos) spos) (tS X.K W (sAsgO i (oComp src (own.map (·.2)) g t el))) := by
  refine psI (ps_setLc hc hN hy hyl hsw hi ok hg ht he hs) ?_
  rintro D' σ H ⟨B, F, e, R, h⟩
  refine lc_of (K := X.K) (W := W) hsub ⟨B, F, e, R, OutO.toS h fun d e1 h1 F1 H1 v R1 s1 => ?_⟩
  obtain ⟨e', q, h2⟩ := setS_ok h1
  exact h2 F1 H1 _ (R1.move q)
theorem dt_nil : PTs X [] (tT X.K W noTest) := by
  refine ⟨fun pins s σ H Q I h => pts_nil.run pins s σ H Q I ?_⟩
  obtain ⟨B, F, e, R, h⟩ := h
  exact h F H R (Same.refl _)
theorem dt_one {c : Expr} {tc : DT} (h : PT X c (tT X.K W tc)) : PTs X [c] (tT X.K W tc) := pts_one h
end
end WW
set_option Elab.async false
set_option linter.all false
set_option maxRecDepth 100000
set_option maxHeartbeats 4000000
/-! The data layer, part 7: the box, a def's body. -/
namespace WW
open PySem PySem.Spec L2

section
variable {X : Cx} {W : WX} {pos p : Pos} {k : Nat} {f : Addr} {fd : FuncData} {ps : List Str} {x y : Str} {ex : Expr} {es : List Expr} {dr : DA} {n : Nat}
/-- f(box, e, ..), the box in slot i -/
theorem dx_callB1 {g : Bx → List D → R (D × Bx)} {py : Pos} (i : Nat) (Fn : FnOk X.prog X.w X.K X.mg X.base (L2.CX X.prog X.w) k f fd ps (spB X.K n g)) (hr : Room k X.A) (tk : Takes X W) (hg : Gl X x) (hm : X.mg x = some (.ref f)) (hk : PySem.W.keepIn X.K (.ref f) = true) (hb : Binds X.K fd ps [])
    (ha : PA X es (tA X.K W dr)) (hl : ∀ e p, dr e = .ok p → p.1.length = n) (hN : X.N[i]? = some y := by rfl) (hv : Vis X.env.scope y := by first | exact Or.inl rfl | exact Or.inr (Or.inl rfl) | exact Or.inr (Or.inr rfl)) (hd : (y == ("__debug__" : Str)) = false := by decide) (hcd : (y == ("__classdict__" : Str)) = false := by decide)
    (hdb : (x == ("__debug__" : Str)) = false := by decide) (he : starEach (.Name y py :: es) X.env = (false, eval (.Name y py) X.env) :: starEach es X.env := by rfl) (hpl : (backTo pos (starEach es X.env)).any (·.1) = false := by rfl) :
    PE X (.Call (.Name x p) (.Name y py :: es) [] pos) (tD X.K W (dCallB g i dr)) := by
  refine peI (pe_callSD (E := WE W) Fn hr hg hm hk hb .nil (fun σ => passAt tk σ) (pa_cons (pe_var (i := i) hN hv hd hcd) ha he) hdb he hpl) ?_
  rintro σ H Q ⟨B, F, e, R, h⟩
  unfold dCallB at h
  cases q : nth e i with
  | none => rw [q] at h; exact h.elim
  | some s =>
    rw [q] at h
    cases s with
    | v d => exact h.elim
    | l xs => exact h.elim
    | box a0 ns0 st0 =>
      obtain ⟨_, _, fp0, S0⟩ := id R
      obtain ⟨v0, hv0, ok0⟩ := S0.ok i _ q
      refine ⟨v0, hv0, B, F, e, R, ?_⟩
      simp only at h
      cases qd : dr e with
      | bad => rw [qd] at h; exact h.elim
      | exc z => rw [qd] at h; exact h
      | ok w0 =>
        obtain ⟨l, e1⟩ := w0
        have hlen := hl e _ qd
        rw [qd] at h
        intro F1 H1 xs R1 s1 rs
        have h1 := h
        simp only [WW.R.bind_ok] at h1
        cases q1 : nth e1 i with
        | none => rw [q1] at h1; exact h1.elim
        | some s =>
          rw [q1] at h1
          cases s with
          | v d => exact h1.elim
          | l xs => exact h1.elim
          | box a ns st =>
            simp only at h1
            obtain ⟨_, _, fp, S⟩ := id R1
            obtain ⟨v1, hv1, ok1⟩ := S.ok i _ q1
            rw [hv0] at hv1
            injection hv1 with hv1
            injection hv1 with hv1
            subst hv1
            cases q2 : g (a, ns, st) l with
            | bad => rw [q2] at h1; exact h1.elim
            | exc z => rw [q2] at h1; exact h1.elim
            | ok pr =>
              rw [q2] at h1
              obtain ⟨d, b'⟩ := pr
              simp only [WW.R.noX_ok, WW.R.bind_ok] at h1
              cases q3 : setE e1 i (some (.box b'.1 b'.2.1 b'.2.2)) with
              | none => rw [q3] at h1; exact h1.elim
              | some e2 =>
                rw [q3] at h1
                show spB X.K n g (v0 :: xs ++ []) H1 Q (WE W σ)
                rw [List.append_nil]
                refine ⟨F1, v0, xs, (a, ns, st), l, fp i, rfl, R1.sub, rs, hlen, ok1, fun b z => (S.own i b z).1, d, b', q2, fun F' H' v A' x2 ok2 hA' rv => ?_⟩
                refine h1 F' H' v ?_ (s1.trans x2.fr) rv
                refine R1.change q1 hv0 q3 fun A okA hF => ⟨A', ?_, ok2, fun a z => ?_⟩
                · rw [okA.uniq ok1]
                  exact x2
                · rw [okA.uniq ok1]
                  exact hA' a z
end

/-! ### a def's body -/
def initE (n : Nat) (ds : List D) : En := ds.map (fun d => some (.v d)) ++ List.replicate (n - ds.length) none
def endR : SR → R D
  | .next _ => .ok .non
  | .ret d _ => .ok d
  | .exc x => .exc x
  | _ => .bad
def fnD (n : Nat) (den : DS) : List D → R D := fun ds => endR (den (initE n ds))
def initB (n : Nat) (b : Bx) (ds : List D) : En := some (.box b.1 b.2.1 b.2.2) :: (ds.map (fun d => some (.v d)) ++ List.replicate (n - (ds.length + 1)) none)
def endB (a0 : Addr) : SR → R (D × Bx)
  | .ret d e => (match nth e 0 with
    | some (.box a ns st) => if a = a0 then .ok (d, (a, ns, st)) else .bad
    | _ => .bad)
  | _ => .bad
def fnB (n : Nat) (den : DS) : Bx → List D → R (D × Bx) := fun b ds => endB b.1 (den (initB n b ds))
theorem nth_repl : ∀ (n i : Nat), nth (List.replicate n (none : Option Sl)) i = none
  | 0, _ => rfl
  | n + 1, 0 => rfl
  | n + 1, i + 1 => nth_repl n i
theorem nth_init : ∀ (ds : List D) (n i : Nat) (s : Sl), nth (ds.map (fun d => some (Sl.v d)) ++ List.replicate n none) i = some s → ∃ d, s = .v d ∧ ds[i]? = some d
  | [], n, i, s, h => by
    have h2 : nth (List.replicate n (none : Option Sl)) i = some s := h
    rw [nth_repl] at h2
    cases h2
  | d :: ds, n, 0, s, h => by
    have h2 : some (Sl.v d) = some s := h
    injection h2 with h2
    exact ⟨d, h2.symm, rfl⟩
  | d :: ds, n, i + 1, s, h => by
    obtain ⟨d', h1, h2⟩ := nth_init ds n i s h
    exact ⟨d', h1, by simpa using h2⟩
theorem start_at {N : List Str} {vs : List V} {i : Nat} {v : V} (h : vs[i]? = some v) : (L2.start N vs)[i]? = some (some v) := by
  unfold L2.start
  have hl : i < vs.length := (List.getElem?_eq_some_iff.mp h).1
  rw [List.getElem?_append_left (by rw [List.length_map]; exact hl), List.getElem?_map, h]
  rfl
theorem rl_start {K : PySem.W.Frag} {F H : Hp} {N : List Str} {vs : List V} {ds : List D} (s : Same F H) (rs : Reps K F vs ds) : Rl K ⟨F, H, NoA⟩ F H (L2.start N vs) (initE N.length ds) := by
  refine ⟨?_, Ext.refl s, fun _ _ => False, fun i t ht => ?_, fun _ _ z => z.elim, fun _ _ _ z => z.elim⟩
  · unfold initE L2.start
    rw [List.length_append, List.length_append, List.length_map, List.length_map, List.length_replicate, List.length_replicate, rs.len]
  · obtain ⟨d, rfl, hd⟩ := nth_init ds _ i t ht
    obtain ⟨v, h1, h2⟩ := rs.get hd
    exact ⟨v, start_at h1, h2, fun _ z => z⟩
theorem rl_startB {K : PySem.W.Frag} {F H : Hp} {N : List Str} {v0 : V} {vs : List V} {b : Bx} {ds : List D} {A : Addr → Prop} (s : Same F H) (rs : Reps K F vs ds) (ok : SlOk K F H v0 (.box b.1 b.2.1 b.2.2) A) (hA : ∀ a, A a → F a = none) : Rl K ⟨F, H, A⟩ F H (L2.start N (v0 :: vs)) (initB N.length b ds) := by
  refine ⟨?_, Ext.refl s, fun i a => i = 0 ∧ A a, fun i t ht => ?_, fun i a ⟨hi, ha⟩ => ⟨hA a ha, .inl ha, ok.there a ha, by rw [hi]; exact fun z => by cases z⟩, fun i j a ⟨h1, _⟩ ⟨h2, _⟩ => by rw [h1, h2]⟩
  · unfold initB L2.start
    simp only [List.length_cons, List.length_append, List.length_map, List.length_replicate, rs.len, List.map_cons]
    omega
  · cases i with
    | zero =>
      have h2 : some (Sl.box b.1 b.2.1 b.2.2) = some t := ht
      injection h2 with h2
      subst h2
      refine ⟨v0, start_at rfl, ?_⟩
      have ea : (fun a => (0 : Nat) = 0 ∧ A a) = A := funext fun a => propext ⟨fun z => z.2, fun z => ⟨rfl, z⟩⟩
      show SlOk K F H v0 (.box b.1 b.2.1 b.2.2) (fun a => (0 : Nat) = 0 ∧ A a)
      rw [ea]
      exact ok
    | succ i =>
      obtain ⟨d, rfl, hd⟩ := nth_init ds _ i t ht
      obtain ⟨v, h1, h2⟩ := rs.get hd
      exact ⟨v, start_at (by simpa using h1), h2, fun a z => by cases z.1⟩
section
variable {P : Program} {w : World} {K : PySem.W.Frag} {mg : Str → Option Value} {base : Heap} {x qual : Str} {st : Stmt} {f : Addr} {fd : FuncData} {N ps : List Str} {k : Nat} {den : DS}
/-- a def of data: its body's den -/
theorem okD (Fn : Fun K x qual st f fd) (S : FnScope N ps (defScope st)) (n : Nat) (hn : ps.length = n) (m : Nat) (hm : N.length = m)
    (body : ∀ (cdv : Value) (A : Around) (outer : List Env) (s : Shared) (H : Hp) (E : XK), Room k (A.deeper (PyProof.Rows.envOfC qual (defScope st) s.heap.objs.size f cdv)) →
      PSs (cxOf (L2.CX P w) P w K mg base N qual (defScope st) f cdv A outer s H E) (defBody st) (tS K (fun c d _ H => E c d H) den)) : FnOk P w K mg base (L2.CX P w) (k + 1) f fd ps (spD K n (fnD m den)) := by
  refine Fn.okX S (fun vs H Q E h => ?_) (fun cdv A outer s H vs Q E hr h => ⟨_, body cdv A outer s H E hr, ?_⟩)
  · obtain ⟨F, ds, _, rs, hl, _⟩ := h
    rw [rs.len, hl, hn]
  · obtain ⟨F, ds, sm, rs, hl, o⟩ := h
    refine ⟨⟨F, H, NoA⟩, F, initE N.length ds, rl_start sm rs, ?_⟩
    have o2 : OutF K F H Q E (endR (den (initE m ds))) := o
    rw [hm]
    cases q : den (initE m ds) with
    | next e => rw [q] at o2; exact fun F' H' σ R => o2 F' H' .non R.ext .non
    | ret d e => rw [q] at o2; exact fun F' H' σ v R rv => o2 F' H' v R.ext rv
    | exc z => rw [q] at o2; exact fun σ F' H' c dd e R ok => o2 F' H' c dd R.ext ok
    | brk e => rw [q] at o2; exact o2.elim
    | cnt e => rw [q] at o2; exact o2.elim
    | bad => rw [q] at o2; exact o2.elim
/-- a def whose first argument is the box -/
theorem okB (Fn : Fun K x qual st f fd) (S : FnScope N ps (defScope st)) (n : Nat) (hn : ps.length = n + 1) (m : Nat) (hm : N.length = m)
    (body : ∀ (cdv : Value) (A : Around) (outer : List Env) (s : Shared) (H : Hp) (E : XK), Room k (A.deeper (PyProof.Rows.envOfC qual (defScope st) s.heap.objs.size f cdv)) →
      PSs (cxOf (L2.CX P w) P w K mg base N qual (defScope st) f cdv A outer s H E) (defBody st) (tS K (fun c d _ H => E c d H) den)) : FnOk P w K mg base (L2.CX P w) (k + 1) f fd ps (spB K n (fnB m den)) := by
  refine Fn.okX S (fun vs H Q E h => ?_) (fun cdv A outer s H vs Q E hr h => ⟨_, body cdv A outer s H E hr, ?_⟩)
  · obtain ⟨F, v0, vs', b, ds, A, rfl, _, rs, hl, _⟩ := h
    rw [List.length_cons, rs.len, hl, hn]
  · obtain ⟨F, v0, vs', b, ds, A0, rfl, sm, rs, hl, ok, hA, d, b', o, fin⟩ := h
    refine ⟨⟨F, H, A0⟩, F, initB N.length b ds, rl_startB sm rs ok hA, ?_⟩
    have o2 : endB b.1 (den (initB m b ds)) = .ok (d, b') := o
    rw [hm]
    cases q : den (initB m b ds) with
    | ret d1 e =>
      rw [q] at o2
      unfold endB at o2
      simp only at o2
      cases z : nth e 0 with
      | none => rw [z] at o2; cases o2
      | some t =>
        rw [z] at o2
        cases t with
        | v d => cases o2
        | l xs => cases o2
        | box a ns st =>
          simp only at o2
          by_cases c : a = b.1
          · rw [if_pos c] at o2
            injection o2 with o2
            injection o2 with o2 o3
            subst o2 o3
            intro F' H' σ v R rv
            obtain ⟨_, ex, fp, Sl⟩ := id R
            obtain ⟨u, hu, oku⟩ := Sl.ok 0 _ z
            have e0 : v0 = .ref b.1 := by
              obtain ⟨_, e, _⟩ := ok
              exact e
            have e1 : u = .ref a := by
              obtain ⟨_, e, _⟩ := oku
              exact e
            rw [e1] at oku
            rw [e0] at fin
            subst c
            refine fin F' H' v (fp 0) ex oku (fun y hy => ?_) rv
            obtain ⟨h1, h2, _⟩ := Sl.own 0 y hy
            exact ⟨h1, h2⟩
          · rw [if_neg c] at o2
            cases o2
    | next e => rw [q] at o2; cases o2
    | exc z => rw [q] at o2; cases o2
    | brk e => rw [q] at o2; cases o2
    | cnt e => rw [q] at o2; cases o2
    | bad => rw [q] at o2; cases o2
end
end WW
set_option Elab.async false
set_option linter.all false
set_option maxRecDepth 100000
set_option maxHeartbeats 4000000
/-! The data layer, part 8: own lists in slots, two targets at once, sorted. -/
namespace WW
open PySem PySem.Spec L2

/-! ### own lists -/
theorem Rl.ownL {K : PySem.W.Frag} {B : Bs} {F H : Hp} {σ : St} {e : En} {i : Nat} {xs : List D} (R : Rl K B F H σ e) (hs : nth e i = some (.l xs)) :
    ∃ p vs, σ[i]? = some (some (.ref p)) ∧ H p = some (.lst vs) ∧ Reps K F vs xs ∧ ∀ vs' xs' e', Reps K F vs' xs' → setE e i (some (.l xs')) = some e' → Rl K B F (upd H p (.lst vs')) σ e' := by
  obtain ⟨l, ex, fp, S⟩ := id R
  obtain ⟨v, hv, p, vs, rfl, hA, hp, r⟩ := S.ok i _ hs
  obtain ⟨fn, _⟩ := S.own i p ((hA p).mpr rfl)
  refine ⟨p, vs, hv, hp, r, fun vs' xs' e' r' he => R.change hs hv he fun A okA hF => ?_⟩
  obtain ⟨p2, vs2, e1, hA2, hp2, _⟩ := okA
  injection e1 with e1
  subst e1
  refine ⟨A, ⟨fun b o h => ?_, Same.refl _, fun b o h n => ?_, fun b o h => ?_, fun b o h => .inl h⟩, ⟨p, _, rfl, hA2, upd_same, r'⟩, fun a z => ⟨hF a z, .inl z⟩⟩
  · have hb : b ≠ p := fun z => by subst z; rw [fn] at h; cases h
    rw [upd_ne hb]
    exact R.sub b o h
  · have hb : b ≠ p := fun z => n ((hA2 b).mpr z)
    rw [upd_ne hb]
    exact h
  · by_cases hb : b = p
    · subst hb; exact ⟨_, upd_same⟩
    · exact ⟨o, by rw [upd_ne hb]; exact h⟩
/-- the list in slot i, own or frozen -/
def lstAt (e : En) (i : Nat) : R (List D) := match nth e i with
  | some (.l xs) => .ok xs
  | some (.v (.lst xs)) => .ok xs
  | _ => .bad
def sAppend (i : Nat) (da : DE) : DS := fun e => match nth e i with
  | some (.l _) => (da e).toS fun p => (match nth p.2 i with
    | some (.l xs) => if xs.length < LIM then setS p.2 i (.l (xs ++ [p.1])) else .bad
    | _ => .bad)
  | _ => .bad
def sExtend (i : Nat) (da : DE) : DS := fun e => match nth e i with
  | some (.l _) => (da e).toS fun p => (match nth p.2 i, p.1 with
    | some (.l xs), .lst ys => if xs.length + ys.length ≤ LIM then setS p.2 i (.l (xs ++ ys)) else .bad
    | _, _ => .bad)
  | _ => .bad
def dPop (i : Nat) : DE := fun e => match nth e i with
  | some (.l xs) => (match xs[xs.length - 1]?, setE e i (some (.l xs.dropLast)) with
    | some d, some e' => .ok (d, e')
    | _, _ => .bad)
  | _ => .bad
def dLenO (i : Nat) : DE := fun e => (lstAt e i).bind fun xs => .ok (.int xs.length, e)
def dIxO (i : Nat) (db : DE) : DE := fun e => (lstAt e i).bind fun _ => (db e).bind fun p => (lstAt p.2 i).bind fun xs => (gIx (.lst xs) p.1).bind fun d => .ok (d, p.2)
def dNilO (ne : Bool) (i : Nat) : DE := fun e => (lstAt e i).bind fun xs => if (D.lst xs).fit = true then .ok (.bl (if ne = true then !xs.isEmpty else xs.isEmpty), e) else .bad
def sSetIx (i : Nat) (dk da : DE) : DS := fun e => (da e).toS fun p => (match nth p.2 i with
    | some (.l _) => (dk p.2).toS fun q => (match nth q.2 i, q.1 with
      | some (.l xs), .int k => (match ixN xs.length k with
        | some j => setS q.2 i (.l (xs.set j p.1))
        | none => .bad)
      | _, _ => .bad)
    | _ => .bad)
section
variable {X : Cx} {W : WX} {pos p py apos cpos : Pos} {x y : Str} {ex b : Expr} {da db dk : DE}
theorem lstAt_ok {K : PySem.W.Frag} {B : Bs} {F H : Hp} {σ : St} {e : En} {i : Nat} {xs : List D} (R : Rl K B F H σ e) (h : lstAt e i = .ok xs) : ∃ q vs, σ[i]? = some (some (.ref q)) ∧ H q = some (.lst vs) ∧ Reps K F vs xs := by
  unfold lstAt at h
  split at h
  · rename_i ys hs
    injection h with h
    subst h
    obtain ⟨q, vs, h1, h2, h3, _⟩ := R.ownL hs
    exact ⟨q, vs, h1, h2, h3⟩
  · rename_i ys hs
    injection h with h
    subst h
    obtain ⟨l, ex, fp, S⟩ := id R
    obtain ⟨v, hv, r, _⟩ := S.ok i _ hs
    obtain ⟨q, vs, rfl, hq, rs⟩ := r.lst_inv
    exact ⟨q, vs, hv, R.sub _ _ hq, rs⟩
  · cases h
theorem ds_append (i : Nat) (ha : PE X ex (tD X.K W da)) (hN : X.N[i]? = some y := by rfl) (hv : Vis X.env.scope y := by first | exact Or.inl rfl | exact Or.inr (Or.inl rfl) | exact Or.inr (Or.inr rfl)) (hd : (y == ("__debug__" : Str)) = false := by decide) (hcd : (y == ("__classdict__" : Str)) = false := by decide)
    (hbase : attributeBase (.Name y py) "append" X.env (eval (.Name y py) X.env) = eval (.Name y py) X.env := by rfl)
    (hfew : ((backTo cpos (starEach [ex] X.env)).all (fun x => !x.1) && (backToKw cpos (keywordEach [] X.env)).all (fun x => x.1.isSome)
      && decide ([ex].length + ([] : List Keyword).length + (if ([] : List Keyword).isEmpty then 0 else 1) < 30)) = true := by rfl)
    (hline : (apos.endLine == cpos.line) = true := by rfl) (hs : starEach [ex] X.env = (false, eval ex X.env) :: starEach [] X.env := by rfl) (hplain : (backTo cpos (starEach [] X.env)).any (·.1) = false := by rfl)
    (hsw : swapsWith (.Call (.Attribute (.Name y py) "append" apos) [ex] [] cpos) none pos.line X.env = pure false := by rfl) :
    PS X (.Expr (.Call (.Attribute (.Name y py) "append" apos) [ex] [] cpos) pos) (tS X.K W (sAppend i da)) := by
  refine psI (ps_expr (pe_bm PySem.F.plainAttrs_list PySem.F.slot_list_append PySem.F.type_list_append mt_append (pe_var (i := i) hN hv hd hcd) (pa_cons ha pa_nil hs) hbase hfew hline hs hplain) hsw) ?_
  rintro D' σ H ⟨B, F, e, R, h⟩
  unfold sAppend at h
  cases q : nth e i with
  | none => rw [q] at h; exact h.elim
  | some s =>
    rw [q] at h
    cases s with
    | v d => exact h.elim
    | box a ns st => exact h.elim
    | l xs0 =>
      obtain ⟨q0, vs0, hq0, hH0, _⟩ := R.ownL q
      refine ⟨.ref q0, hq0, .inl ⟨rfl, _, .inl (.inl hH0)⟩, B, F, e, R, OutD.toS h fun d e1 h1 F1 H1 v R1 s1 rv => ?_⟩
      simp only at h1
      cases q1 : nth e1 i with
      | none => rw [q1] at h1; exact h1.elim
      | some s =>
        rw [q1] at h1
        cases s with
        | v d => exact h1.elim
        | box a ns st => exact h1.elim
        | l xs =>
          simp only at h1
          obtain ⟨q2, vs, hq2, hH2, rs, up⟩ := R1.ownL q1
          rw [hq0] at hq2
          injection hq2 with hq2
          injection hq2 with hq2
          injection hq2 with hq2
          subst hq2
          by_cases c : xs.length < LIM
          · rw [if_pos c] at h1
            obtain ⟨e', q3, h2⟩ := setS_ok h1
            exact ⟨q0, vs, v, rfl, rfl, hH2, by rw [rs.len]; exact lim_line' (Nat.le_of_lt c), h2 _ _ _ (up _ _ _ (rs.app (.cons rv .nil)) q3)⟩
          · rw [if_neg c] at h1
            exact h1.elim
theorem ds_extend (i : Nat) (ha : PE X ex (tD X.K W da)) (hN : X.N[i]? = some y := by rfl) (hv : Vis X.env.scope y := by first | exact Or.inl rfl | exact Or.inr (Or.inl rfl) | exact Or.inr (Or.inr rfl)) (hd : (y == ("__debug__" : Str)) = false := by decide) (hcd : (y == ("__classdict__" : Str)) = false := by decide)
    (hbase : attributeBase (.Name y py) "extend" X.env (eval (.Name y py) X.env) = eval (.Name y py) X.env := by rfl)
    (hfew : ((backTo cpos (starEach [ex] X.env)).all (fun x => !x.1) && (backToKw cpos (keywordEach [] X.env)).all (fun x => x.1.isSome)
      && decide ([ex].length + ([] : List Keyword).length + (if ([] : List Keyword).isEmpty then 0 else 1) < 30)) = true := by rfl)
    (hline : (apos.endLine == cpos.line) = true := by rfl) (hs : starEach [ex] X.env = (false, eval ex X.env) :: starEach [] X.env := by rfl) (hplain : (backTo cpos (starEach [] X.env)).any (·.1) = false := by rfl)
    (hsw : swapsWith (.Call (.Attribute (.Name y py) "extend" apos) [ex] [] cpos) none pos.line X.env = pure false := by rfl) :
    PS X (.Expr (.Call (.Attribute (.Name y py) "extend" apos) [ex] [] cpos) pos) (tS X.K W (sExtend i da)) := by
  refine psI (ps_expr (pe_bm PySem.F.plainAttrs_list PySem.F.slot_list_extend PySem.F.type_list_extend mt_extend (pe_var (i := i) hN hv hd hcd) (pa_cons ha pa_nil hs) hbase hfew hline hs hplain) hsw) ?_
  rintro D' σ H ⟨B, F, e, R, h⟩
  unfold sExtend at h
  cases q : nth e i with
  | none => rw [q] at h; exact h.elim
  | some s =>
    rw [q] at h
    cases s with
    | v d => exact h.elim
    | box a ns st => exact h.elim
    | l xs0 =>
      obtain ⟨q0, vs0, hq0, hH0, _⟩ := R.ownL q
      refine ⟨.ref q0, hq0, .inl ⟨rfl, _, .inl (.inl hH0)⟩, B, F, e, R, OutD.toS h fun d e1 h1 F1 H1 v R1 s1 rv => ?_⟩
      simp only at h1
      cases q1 : nth e1 i with
      | none => rw [q1] at h1; exact h1.elim
      | some s =>
        rw [q1] at h1
        cases s with
        | v d => cases d <;> exact h1.elim
        | box a ns st => cases d <;> exact h1.elim
        | l xs =>
          cases d with
          | lst ys =>
            simp only at h1
            obtain ⟨q2, vs, hq2, hH2, rs, up⟩ := R1.ownL q1
            rw [hq0] at hq2
            injection hq2 with hq2
            injection hq2 with hq2
            injection hq2 with hq2
            subst hq2
            obtain ⟨qb, us, rfl, hqb, ru⟩ := rv.lst_inv
            by_cases c : xs.length + ys.length ≤ LIM
            · rw [if_pos c] at h1
              obtain ⟨e', q3, h2⟩ := setS_ok h1
              exact ⟨q0, qb, vs, us, rfl, rfl, hH2, R1.sub _ _ hqb, by rw [rs.len, ru.len]; exact lim_line c, h2 _ _ _ (up _ _ _ (rs.app ru) q3)⟩
            · rw [if_neg c] at h1
              exact h1.elim
          | _ => exact h1.elim
theorem Reps.last {K : PySem.W.Frag} {F : Hp} {vs : List V} {l : List D} (r : Reps K F vs l) : Reps K F vs.dropLast l.dropLast := by
  rw [List.dropLast_eq_take, List.dropLast_eq_take, r.len]
  exact r.take _
theorem dx_pop (i : Nat) (hN : X.N[i]? = some y := by rfl) (hv : Vis X.env.scope y := by first | exact Or.inl rfl | exact Or.inr (Or.inl rfl) | exact Or.inr (Or.inr rfl)) (hd : (y == ("__debug__" : Str)) = false := by decide) (hcd : (y == ("__classdict__" : Str)) = false := by decide)
    (hbase : attributeBase (.Name y py) "pop" X.env (eval (.Name y py) X.env) = eval (.Name y py) X.env := by rfl) (hline : (apos.endLine == cpos.line) = true := by rfl) :
    PE X (.Call (.Attribute (.Name y py) "pop" apos) [] [] cpos) (tD X.K W (dPop i)) := by
  refine peI (pe_bm0 PySem.F.plainAttrs_list PySem.F.slot_list_pop PySem.F.type_list_pop mt_pop (pe_var (i := i) hN hv hd hcd) hbase hline) ?_
  rintro σ H Q ⟨B, F, e, R, h⟩
  unfold dPop at h
  cases q : nth e i with
  | none => rw [q] at h; exact h.elim
  | some s =>
    rw [q] at h
    cases s with
    | v d => exact h.elim
    | box a ns st => exact h.elim
    | l xs =>
      obtain ⟨q0, vs, hq0, hH0, rs, up⟩ := R.ownL q
      simp only at h
      cases q1 : xs[xs.length - 1]? with
      | none => rw [q1] at h; exact h.elim
      | some d =>
        cases q2 : setE e i (some (.l xs.dropLast)) with
        | none => rw [q1, q2] at h; exact h.elim
        | some e' =>
          rw [q1, q2] at h
          obtain ⟨v, k1, k2⟩ := rs.get q1
          exact ⟨.ref q0, hq0, .inl ⟨rfl, _, .inl (.inl hH0)⟩, q0, vs, v, rfl, rfl, hH0, by rw [rs.len]; exact k1, h F _ v (up _ _ _ rs.last q2) (Same.refl _) k2⟩
theorem dx_lenO (i : Nat) (hg : Gl X "len") (hm : X.mg "len" = none) (hN : X.N[i]? = some y := by rfl) (hv : Vis X.env.scope y := by first | exact Or.inl rfl | exact Or.inr (Or.inl rfl) | exact Or.inr (Or.inr rfl)) (hd : (y == ("__debug__" : Str)) = false := by decide) (hcd : (y == ("__classdict__" : Str)) = false := by decide)
    (he : starEach [.Name y py] X.env = (false, eval (.Name y py) X.env) :: starEach [] X.env := by rfl) (hpl : (backTo pos (starEach [] X.env)).any (·.1) = false := by rfl) : PE X (.Call (.Name "len" p) [.Name y py] [] pos) (tD X.K W (dLenO i)) := by
  refine peI (pe_callB call_len_seq hg hm PySem.boot_len (pa_cons (pe_var (i := i) hN hv hd hcd) pa_nil he) (by decide) (by decide) he hpl) ?_
  rintro σ H Q ⟨B, F, e, R, h⟩
  unfold dLenO at h
  cases q : lstAt e i with
  | bad => rw [q] at h; exact h.elim
  | exc x => unfold lstAt at q; split at q <;> cases q
  | ok xs =>
    rw [q] at h
    obtain ⟨q0, vs, hq0, hH0, rs⟩ := lstAt_ok R q
    exact ⟨.ref q0, hq0, q0, vs, rfl, .inl (.inl (.inl hH0)), by rw [rs.len]; exact h F H _ R (Same.refl _) (.int _)⟩
theorem dx_ixO (i : Nat) (hb : PE X b (tD X.K W db)) (hs : PlainIx b) (hN : X.N[i]? = some y := by rfl) (hv : Vis X.env.scope y := by first | exact Or.inl rfl | exact Or.inr (Or.inl rfl) | exact Or.inr (Or.inr rfl)) (hd : (y == ("__debug__" : Str)) = false := by decide) (hcd : (y == ("__classdict__" : Str)) = false := by decide) :
    PE X (.Subscript (.Name y py) b pos) (tD X.K W (dIxO i db)) := by
  refine peI (pe_ix ix_list (pe_var (i := i) hN hv hd hcd) hb hs) ?_
  rintro σ H Q ⟨B, F, e, R, h⟩
  unfold dIxO at h
  cases q : lstAt e i with
  | bad => rw [q] at h; exact h.elim
  | exc x => unfold lstAt at q; split at q <;> cases q
  | ok xs0 =>
    rw [q] at h
    obtain ⟨q0, vs0, hq0, hH0, rs0⟩ := lstAt_ok R q
    refine ⟨.ref q0, hq0, B, F, e, R, OutD.bind (P := OutD X.K W B F σ Q) dBad dExc h fun d e1 h1 F1 H1 v R1 s1 rv => ?_⟩
    simp only at h1
    cases q1 : lstAt e1 i with
    | bad => rw [q1] at h1; exact h1.elim
    | exc x => unfold lstAt at q1; split at q1 <;> cases q1
    | ok xs =>
      rw [q1] at h1
      obtain ⟨q2, vs, hq2, hH2, rs⟩ := lstAt_ok R1 q1
      rw [hq0] at hq2
      injection hq2 with hq2
      injection hq2 with hq2
      injection hq2 with hq2
      subst hq2
      simp only [WW.R.bind_ok] at h1
      have h2 := OutD.val R1 (OutD.pre s1 h1) (nx_ix _ _)
      cases d with
      | int k =>
        unfold gIx at h2
        simp only at h2
        cases z : atI xs k with
        | none => rw [z] at h2; exact h2.elim
        | some dd =>
          rw [z] at h2
          obtain ⟨w', k1, k2⟩ := atI_reps rs z
          exact ⟨q0, vs, k, w', rfl, rv.int_inv, .inl (.inl hH2), k1, h2.same R1.sub k2⟩
      | _ => exact h2.elim
theorem eqv_nil (l : List D) : PyData.eqv (.list (pyAll l)) (.list []) = l.isEmpty := by
  cases l with
  | nil => rfl
  | cons a r => rfl
theorem dx_nilO {es : List Expr} {ppos : Pos} (i : Nat) (ne : Bool) (hu : X.A.units + 64 < cLine) (hN : X.N[i]? = some y := by rfl) (hv : Vis X.env.scope y := by first | exact Or.inl rfl | exact Or.inr (Or.inl rfl) | exact Or.inr (Or.inr rfl)) (hd : (y == ("__debug__" : Str)) = false := by decide) (hcd : (y == ("__classdict__" : Str)) = false := by decide) :
    PE X (.Compare (.Name y py) [if ne = true then .NotEq else .Eq] [.List [] ppos] pos) (tD X.K W (dNilO ne i)) ∧ PT X (.Compare (.Name y py) [if ne = true then .NotEq else .Eq] [.List [] ppos] pos) (tT X.K W (dTest (dNilO ne i))) := by
  have core : ∀ (σ : St) (H : Hp) (Q : VK), tD X.K W (dNilO ne i) σ H Q → tOp (if ne = true then rNeD X.K else rEqD X.K) (tVar i) (tLst tNil) σ H Q := by
    rintro σ H Q ⟨B, F, e, R, h⟩
    unfold dNilO at h
    cases q : lstAt e i with
    | bad => rw [q] at h; exact h.elim
    | exc x => unfold lstAt at q; split at q <;> cases q
    | ok xs =>
      rw [q] at h
      obtain ⟨q0, vs, hq0, hH0, rs⟩ := lstAt_ok R q
      simp only [WW.R.bind_ok] at h
      by_cases c : (D.lst xs).fit = true
      · rw [if_pos c] at h
        refine ⟨.ref q0, hq0, Nat.zero_le _, fun p2 hp2 => ?_⟩
        have x1 := ext_raw (o := .lst []) R.sub hp2
        have hpl : plainAll xs = true := by
          have := D.fit_plain c
          simpa [D.plain] using this
        have hD : Dp X.K (upd H p2 (.lst [])) (.ref q0) (.list (pyAll xs)) := .lst (.inl (.inl (by rw [upd_ne (ne_of_none hH0 hp2)]; exact hH0))) (Reps.dp x1.sub xs vs hpl rs)
        have hE : Dp X.K (upd H p2 (.lst [])) (.ref p2) (.list []) := .lst (.inl (.inl upd_same)) .nil
        have fin := h F (upd H p2 (.lst [])) (.bl (if ne = true then !xs.isEmpty else xs.isEmpty)) (R.step x1) (Same.refl _) (.bl _)
        have sh : SeqAt.shaped (PyData.list (pyAll xs)) = true := D.fit_shaped c
        cases ne with
        | true => exact ⟨_, _, hD, hE, sh, by decide, by rw [eqv_nil]; exact fin⟩
        | false => exact ⟨_, _, hD, hE, sh, by decide, by rw [eqv_nil]; exact fin⟩
      · rw [if_neg c] at h
        exact h.elim
  cases ne with
  | true => exact ⟨peI (pe_cmpR (op_neD hu) (pe_var (i := i) hN hv hd hcd) (pe_lst pa_nil) (nomark _)) core, ptI (pt_cmpR (op_neD hu) (pe_var (i := i) hN hv hd hcd) (pe_lst pa_nil) (nomark _)) fun σ H Q h => core _ _ _ (tD_test h)⟩
  | false => exact ⟨peI (pe_cmpR (op_eqD hu) (pe_var (i := i) hN hv hd hcd) (pe_lst pa_nil) (nomark _)) core, ptI (pt_cmpR (op_eqD hu) (pe_var (i := i) hN hv hd hcd) (pe_lst pa_nil) (nomark _)) fun σ H Q h => core _ _ _ (tD_test h)⟩
theorem dt_nilN {ppos : Pos} (i : Nat) (hu : X.A.units + 64 < cLine) (hN : X.N[i]? = some y := by rfl) (hv : Vis X.env.scope y := by first | exact Or.inl rfl | exact Or.inr (Or.inl rfl) | exact Or.inr (Or.inr rfl)) (hd : (y == ("__debug__" : Str)) = false := by decide) (hcd : (y == ("__classdict__" : Str)) = false := by decide) :
    PT X (.Compare (.Name y py) [.NotEq] [.List [] ppos] pos) (tT X.K W (dTest (dNilO true i))) := (dx_nilO (es := []) i true hu hN hv hd hcd).2
theorem dt_nilE {ppos : Pos} (i : Nat) (hu : X.A.units + 64 < cLine) (hN : X.N[i]? = some y := by rfl) (hv : Vis X.env.scope y := by first | exact Or.inl rfl | exact Or.inr (Or.inl rfl) | exact Or.inr (Or.inr rfl)) (hd : (y == ("__debug__" : Str)) = false := by decide) (hcd : (y == ("__classdict__" : Str)) = false := by decide) :
    PT X (.Compare (.Name y py) [.Eq] [.List [] ppos] pos) (tT X.K W (dTest (dNilO false i))) := (dx_nilO (es := []) i false hu hN hv hd hcd).2
theorem dx_nilN {ppos : Pos} (i : Nat) (hu : X.A.units + 64 < cLine) (hN : X.N[i]? = some y := by rfl) (hv : Vis X.env.scope y := by first | exact Or.inl rfl | exact Or.inr (Or.inl rfl) | exact Or.inr (Or.inr rfl)) (hd : (y == ("__debug__" : Str)) = false := by decide) (hcd : (y == ("__classdict__" : Str)) = false := by decide) :
    PE X (.Compare (.Name y py) [.NotEq] [.List [] ppos] pos) (tD X.K W (dNilO true i)) := (dx_nilO (es := []) i true hu hN hv hd hcd).1
theorem dx_nilE {ppos : Pos} (i : Nat) (hu : X.A.units + 64 < cLine) (hN : X.N[i]? = some y := by rfl) (hv : Vis X.env.scope y := by first | exact Or.inl rfl | exact Or.inr (Or.inl rfl) | exact Or.inr (Or.inr rfl)) (hd : (y == ("__debug__" : Str)) = false := by decide) (hcd : (y == ("__classdict__" : Str)) = false := by decide) :
    PE X (.Compare (.Name y py) [.Eq] [.List [] ppos] pos) (tD X.K W (dNilO false i)) := (dx_nilO (es := []) i false hu hN hv hd hcd).1
/-- x[k] = e -/
theorem ds_setIx {k : Expr} (i : Nat) (hk : PE X k (tD X.K W dk)) (ha : PE X ex (tD X.K W da)) (hN : X.N[i]? = some y := by rfl) (hv : Vis X.env.scope y := by first | exact Or.inl rfl | exact Or.inr (Or.inl rfl) | exact Or.inr (Or.inr rfl)) (hd : (y == ("__debug__" : Str)) = false := by decide) (hcd : (y == ("__classdict__" : Str)) = false := by decide)
    (has : ∀ v, assign (.Subscript (.Name y py) k apos) X.env v = (do
      let ov ← holding [v] (eval (.Name y py) X.env)
      let iv ← holding [v, ov] (eval k X.env)
      standAt apos
      holding [v, ov, iv] (setItem ov iv v)
      release [v, ov, iv] []) := by intro _; rfl) (hs : swapsWithSole [.Subscript (.Name y py) k apos] ex pos.line X.env = pure false := by rfl) (hw : swappedStores [.Subscript (.Name y py) k apos] ex X.env = pure none := by rfl)
    (h1 : (assignEach [.Subscript (.Name y py) k apos] X.env).map (·.2) = [assign (.Subscript (.Name y py) k apos) X.env] := by rfl) : PS X (.Assign [.Subscript (.Name y py) k apos] ex pos) (tS X.K W (sSetIx i dk da)) := by
  refine psI (ps_asg ha (pg_sub (pe_var (i := i) hN hv hd hcd) hk set_list has) hs hw h1) ?_
  rintro D' σ H ⟨B, F, e, R, h⟩
  refine ⟨B, F, e, R, OutD.toS h fun d e1 h1 F1 H1 v R1 s1 rv => ?_⟩
  simp only at h1
  cases q : nth e1 i with
  | none => rw [q] at h1; exact h1.elim
  | some s =>
    rw [q] at h1
    cases s with
    | v d => exact h1.elim
    | box a ns st => exact h1.elim
    | l xs0 =>
      obtain ⟨q0, vs0, hq0, hH0, _⟩ := R1.ownL q
      refine ⟨.ref q0, hq0, B, F1, e1, R1, OutD.toS h1 fun dk2 e2 h2 F2 H2 kv R2 s2 rk => ?_⟩
      simp only at h2
      cases q1 : nth e2 i with
      | none => rw [q1] at h2; exact h2.elim
      | some s =>
        rw [q1] at h2
        cases s with
        | v d => cases dk2 <;> exact h2.elim
        | box a ns st => cases dk2 <;> exact h2.elim
        | l xs =>
          cases dk2 with
          | int kk =>
            simp only at h2
            obtain ⟨q2, vs, hq2, hH2, rs, up⟩ := R2.ownL q1
            rw [hq0] at hq2
            injection hq2 with hq2
            injection hq2 with hq2
            injection hq2 with hq2
            subst hq2
            cases z : ixN xs.length kk with
            | none => rw [z] at h2; exact h2.elim
            | some j =>
              rw [z] at h2
              obtain ⟨e', q3, h3⟩ := setS_ok h2
              exact ⟨q0, vs, kk, j, rfl, rk.int_inv, hH2, by rw [rs.len]; exact z, h3 _ _ _ (up _ _ _ (rs.set j (rv.mono s2)) q3)⟩
          | _ => exact h2.elim
end

/-! ### a, b = x, y -/
def sPar (i j : Nat) (da db : DE) : DS := fun e => (da e).toS fun p => (db p.2).toS fun q => (match setE q.2 i (some (.v p.1)) with
  | some e1 => setS e1 j (.v q.1)
  | none => .bad)
def sParO (i j : Nat) (oa : OE) (db : DE) : DS := fun e => (oa e).toS fun p => (db p.2).toS fun q => (match setE q.2 i (some p.1) with
  | some e1 => setS e1 j (.v q.1)
  | none => .bad)
section
variable {X : Cx} {W : WX} {pos px py pt pt2 : Pos} {x y : Str} {a b : Expr} {da db : DE} {oa : OE} {kt k2 : _}
theorem ds_par (i j : Nat) (hc : X.calm = true) (hN : X.N.Nodup) (hi : X.N[i]? = some x) (hj : X.N[j]? = some y) (hij : i ≠ j) (hx : X.env.scope.names.lookup x = some .local) (hy : X.env.scope.names.lookup y = some .local) (ha : PE X a (tD X.K W da)) (hb : PE X b (tD X.K W db))
    (hw : swappedStores [.Tuple [.Name x px, .Name y py] kt pt] (.Tuple [a, b] k2 pt2) X.env = pure (some [x, y]))
    (hs : swapsWithSole [.Tuple [.Name x px, .Name y py] kt pt] (.Tuple [a, b] k2 pt2) pos.line X.env = pure false := by rfl) (he : starEach [a, b] X.env = (false, eval a X.env) :: starEach [b] X.env := by rfl) (he2 : starEach [b] X.env = (false, eval b X.env) :: starEach [] X.env := by rfl) :
    PS X (.Assign [.Tuple [.Name x px, .Name y py] kt pt] (.Tuple [a, b] k2 pt2) pos) (tS X.K W (sPar i j da db)) := by
  refine psI (ps_par hc hN hi hj hij hx hy (pa_cons ha (pa_cons hb pa_nil he2) he) hw hs) ?_
  rintro D' σ H ⟨B, F, e, R, h⟩
  refine ⟨B, F, e, R, OutD.toS h fun d e1 h1 F1 H1 v R1 s1 rv => ?_⟩
  refine ⟨B, F1, e1, R1, OutD.toS h1 fun d2 e2 h2 F2 H2 w' R2 s2 rw' => ?_⟩
  simp only at h2
  cases q : setE e2 i (some (.v d)) with
  | none => rw [q] at h2; exact h2.elim
  | some e3 =>
    rw [q] at h2
    obtain ⟨e', q3, h3⟩ := setS_ok h2
    exact ⟨v, w', rfl, h3 _ _ _ ((R2.setV (rv.mono s2) q).setV rw' q3)⟩
theorem ds_parO (i j : Nat) (hc : X.calm = true) (hN : X.N.Nodup) (hi : X.N[i]? = some x) (hj : X.N[j]? = some y) (hij : i ≠ j) (hx : X.env.scope.names.lookup x = some .local) (hy : X.env.scope.names.lookup y = some .local) (ha : PE X a (tO X.K W oa)) (hb : PE X b (tD X.K W db))
    (hw : swappedStores [.Tuple [.Name x px, .Name y py] kt pt] (.Tuple [a, b] k2 pt2) X.env = pure (some [x, y]))
    (hs : swapsWithSole [.Tuple [.Name x px, .Name y py] kt pt] (.Tuple [a, b] k2 pt2) pos.line X.env = pure false := by rfl) (he : starEach [a, b] X.env = (false, eval a X.env) :: starEach [b] X.env := by rfl) (he2 : starEach [b] X.env = (false, eval b X.env) :: starEach [] X.env := by rfl) :
    PS X (.Assign [.Tuple [.Name x px, .Name y py] kt pt] (.Tuple [a, b] k2 pt2) pos) (tS X.K W (sParO i j oa db)) := by
  refine psI (ps_par hc hN hi hj hij hx hy (pa_cons ha (pa_cons hb pa_nil he2) he) hw hs) ?_
  rintro D' σ H ⟨B, F, e, R, h⟩
  refine ⟨B, F, e, R, OutO.toS h fun d e1 h1 F1 H1 v R1 s1 => ?_⟩
  obtain ⟨B1, hF1, R2, back⟩ := R1.frame
  have h1' : OutS X.K W B D' ((db e1).toS fun q => (match setE q.2 i (some d) with
    | some e1 => setS e1 j (.v q.1)
    | none => .bad)) := h1
  refine ⟨B1, F1, e1, R2, ?_⟩
  cases qd : db e1 with
  | bad => rw [qd] at h1'; exact h1'.elim
  | exc z =>
    rw [qd] at h1'
    exact fun F' H' c dd e' R' ok => h1' σ F' H' c dd e' (back _ _ _ _ R').less ok
  | ok pr =>
    rw [qd] at h1'
    obtain ⟨d2, e2⟩ := pr
    intro F2 H2 w' R3 s2 rw'
    have h2 := h1'
    simp only [WW.R.toS_ok] at h2
    cases q : setE e2 i (some d) with
    | none => rw [q] at h2; exact h2.elim
    | some e3 =>
      rw [q] at h2
      obtain ⟨e', q3, h3⟩ := setS_ok h2
      exact ⟨v, w', rfl, h3 _ _ _ (((back _ _ _ _ R3).move q).setV rw' q3)⟩
end

/-! ### sorted of a list of texts (fewer than 64) -/
def leS (a b : Str) : Bool := decide (¬ b.cps.toList < a.cps.toList)
def insS (a : Str) : List Str → List Str
  | [] => [a]
  | b :: l => if leS a b = true then a :: b :: l else b :: insS a l
def sortS : List Str → List Str
  | [] => []
  | a :: l => insS a (sortS l)
theorem leS_total (a b : Str) : leS a b = true ∨ leS b a = true := by
  unfold leS
  rcases List.le_total a.cps.toList b.cps.toList with h | h
  · exact .inl (decide_eq_true h)
  · exact .inr (decide_eq_true h)
theorem leS_trans {a b c : Str} (h1 : leS a b = true) (h2 : leS b c = true) : leS a c = true := by
  unfold leS at *
  exact decide_eq_true (List.le_trans (of_decide_eq_true h1) (of_decide_eq_true h2))
theorem leS_anti {a b : Str} (h1 : leS a b = true) (h2 : leS b a = true) : a = b := by
  unfold leS at *
  have h := List.le_antisymm (of_decide_eq_true h1) (of_decide_eq_true h2)
  obtain ⟨⟨x⟩⟩ := a
  obtain ⟨⟨y⟩⟩ := b
  have h' : x = y := h
  rw [h']
theorem insS_perm (a : Str) : ∀ l, (insS a l).Perm (a :: l)
  | [] => List.Perm.refl _
  | b :: l => by
    unfold insS
    by_cases c : leS a b = true
    · rw [if_pos c]
    · rw [if_neg c]
      exact ((insS_perm a l).cons b).trans (List.Perm.swap a b l)
theorem sortS_perm : ∀ l, (sortS l).Perm l
  | [] => List.Perm.refl _
  | a :: l => (insS_perm a (sortS l)).trans ((sortS_perm l).cons a)
def SrtS (l : List Str) : Prop := l.Pairwise fun a b => leS a b = true
theorem insS_srt (a : Str) : ∀ l, SrtS l → SrtS (insS a l)
  | [], _ => List.pairwise_singleton _ _
  | b :: l, h => by
    unfold insS
    have h2 := List.pairwise_cons.mp h
    by_cases c : leS a b = true
    · rw [if_pos c]
      exact List.pairwise_cons.mpr ⟨fun x hx => (List.mem_cons.mp hx).elim (fun z => by rw [z]; exact c) fun z => leS_trans c (h2.1 x z), h⟩
    · rw [if_neg c]
      refine List.pairwise_cons.mpr ⟨fun x hx => ?_, insS_srt a l h2.2⟩
      rcases List.mem_cons.mp ((insS_perm a l).mem_iff.mp hx) with z | z
      · rw [z]
        exact (leS_total a b).resolve_left c
      · exact h2.1 x z
theorem sortS_srt : ∀ l, SrtS (sortS l)
  | [] => .nil
  | a :: l => insS_srt a _ (sortS_srt l)
theorem srt_same : ∀ {l m : List Str}, l.Perm m → SrtS l → SrtS m → l = m
  | [], m, p, _, _ => p.nil_eq
  | a :: l, m, p, h, h' => by
    cases m with
    | nil => exact absurd p.symm.nil_eq (by simp)
    | cons b m =>
      have h2 := List.pairwise_cons.mp h
      have h3 := List.pairwise_cons.mp h'
      have ab : leS a b = true := by
        rcases List.mem_cons.mp (p.symm.mem_iff.mp (List.mem_cons_self : b ∈ b :: m)) with z | z
        · rw [z]; exact (leS_total a a).elim id id
        · exact h2.1 b z
      have ba : leS b a = true := by
        rcases List.mem_cons.mp (p.mem_iff.mp (List.mem_cons_self : a ∈ a :: l)) with z | z
        · rw [z]; exact (leS_total b b).elim id id
        · exact h3.1 a z
      have e := leS_anti ab ba
      subst e
      rw [srt_same (List.Perm.cons_inv p) h2.2 h3.2]
theorem rising_srt : ∀ (p : Str) (l : List Str), PyProof.Rows.risingS p l = true → SrtS l → True := fun _ _ _ _ => trivial
theorem srt_of_sortedS : ∀ (l : List Str), PyProof.Rows.sortedS l = true → SrtS l
  | [], _ => .nil
  | a :: l, h => by
    have key : ∀ (l : List Str) (a : Str), PyProof.Rows.risingS a l = true → SrtS (a :: l) := by
      intro l
      induction l with
      | nil => intro a _; exact List.pairwise_singleton _ _
      | cons b l ih =>
        intro a h
        have h2 : (!PySem.Spec.ltCps b.cps.toList a.cps.toList && PyProof.Rows.risingS b l) = true := h
        obtain ⟨h3, h4⟩ := Bool.and_eq_true_iff.mp h2
        have ab : leS a b = true := by
          unfold leS
          rw [PyProof.Rows.ltCps_eq] at h3
          simpa using h3
        have ih2 := ih b h4
        have q := List.pairwise_cons.mp ih2
        exact List.pairwise_cons.mpr ⟨fun x hx => (List.mem_cons.mp hx).elim (fun z => by rw [z]; exact ab) fun z => leS_trans ab (q.1 x z), ih2⟩
    exact key l a h
def gSorted : List D → R D
  | [.lst l] => (match asStrs l with
    | some xs => if xs.length < 64 then .ok (.lst ((sortS xs).map D.str)) else .bad
    | none => .bad)
  | _ => .bad
theorem nx_sorted : NoXn gSorted := by
  intro a x h
  unfold gSorted at h
  split at h
  · split at h
    · split at h <;> cases h
    · cases h
  · cases h
theorem vr_sorted {K : PySem.W.Frag} : VRn K (rSortedS K) gSorted := by
  intro F H xs ds Q s rs h
  unfold gSorted at h
  split at h
  · rename_i l
    obtain ⟨v, rfl, rv⟩ := reps1 rs
    obtain ⟨q, vs, rfl, hq, rs⟩ := rv.lst_inv
    cases e : asStrs l with
    | none => rw [e] at h; exact h.elim
    | some ys =>
      rw [e] at h
      have el := asStrs_eq e
      subst el
      simp only at h
      by_cases c : ys.length < 64
      · rw [if_pos c] at h
        refine ⟨q, ys, rfl, .inl (.inl (by rw [← rs.strs]; exact s _ _ hq)), c, fun zs p hp hs hn => ?_⟩
        have ez : zs = sortS ys := srt_same (hp.trans (sortS_perm ys).symm) (srt_of_sortedS zs hs) (sortS_srt ys)
        rw [ez]
        exact h.newL s (Reps.ofStrs _) p hn
      · rw [if_neg c] at h
        exact h.elim
  · exact h.elim
end WW
set_option Elab.async false
set_option linter.all false
set_option maxRecDepth 100000
set_option maxHeartbeats 4000000
/-! The data layer, part 9: defs by name, short words for the printed derivations. -/
namespace WW
open PySem PySem.Spec L2

def gNeg : D → R D
  | .int i => .ok (.int (-i))
  | _ => .bad
section
variable {X : Cx} {W : WX} {pos p : Pos} {a : Expr} {da : DE}
theorem dx_neg (ha : PE X a (tD X.K W da)) : PE X (.UnaryOp .USub a pos) (tD X.K W (dUn gNeg da)) := by
  refine peI (pe_un un_neg ha) ?_
  rintro σ H Q ⟨B, F, e, R, h⟩
  refine ⟨B, F, e, R, OutD.bind (P := OutD X.K W B F σ Q) dBad dExc h fun d e1 h1 F1 H1 v R1 s1 rv => ?_⟩
  cases d with
  | int i => exact ⟨i, rv.int_inv, h1 F1 H1 _ R1 s1 (.int _)⟩
  | _ => exact h1.elim
theorem takesF : Takes X WF := fun _ _ ⟨_, _, _, _, _, _, _, _, _, _, _, _, _, _, _, _, w⟩ => w.elim
end
/-- a def by the name that the module has for it -/
structure GFn (P : Program) (w : World) (K : PySem.W.Frag) (mg : Str → Option Value) (base : Heap) (x : Str) (k : Nat) (ps : List Str) (sp : Sp) : Prop where
  ex : ∃ f fd, FnOk P w K mg base (L2.CX P w) k f fd ps sp ∧ mg x = some (.ref f) ∧ PySem.W.keepIn K (.ref f) = true ∧ Binds K fd ps []
section
variable {X : Cx} {W : WX} {pos p : Pos} {k j : Nat} {ps : List Str} {x y : Str} {ex : Expr} {es : List Expr} {dr : DA} {n : Nat}
theorem dx_callG {g : List D → R D} (G : GFn X.prog X.w X.K X.mg X.base x k ps (spD X.K n g)) (hr : Room j X.A) (hj : k ≤ j) (tk : Takes X W) (hg : Gl X x)
    (ha : PA X (ex :: es) (tA X.K W dr)) (hl : ∀ e p, dr e = .ok p → p.1.length = n) (hdb : (x == ("__debug__" : Str)) = false := by decide) (he : starEach (ex :: es) X.env = (false, eval ex X.env) :: starEach es X.env := by rfl) (hpl : (backTo pos (starEach es X.env)).any (·.1) = false := by rfl) :
    PE X (.Call (.Name x p) (ex :: es) [] pos) (tD X.K W (dCall g dr)) := by
  obtain ⟨f, fd, Fn, hm, hk, hb⟩ := G.ex
  refine peI (pe_callSD (E := WE W) Fn (hr.mono hj) hg hm hk hb .nil (fun σ => passAt tk σ) ha hdb he hpl) ?_
  rintro σ H Q ⟨B, F, e, R, h⟩
  refine ⟨B, F, e, R, ?_⟩
  have h0 : OutD X.K W B F σ Q ((dr e).bind fun p => (g p.1).bind fun d => .ok (d, p.2)) := h
  cases q : dr e with
  | bad => rw [q] at h0; exact h0.elim
  | exc z => rw [q] at h0; exact h0
  | ok pr =>
    rw [q] at h0
    obtain ⟨l, e1⟩ := pr
    intro F1 H1 xs R1 s1 rs
    rw [List.append_nil]
    refine ⟨F1, l, R1.sub, rs, hl e _ q, ?_⟩
    have h1 : OutD X.K W B F σ Q ((g l).bind fun d => .ok (d, e1)) := h0
    cases q2 : g l with
    | bad => rw [q2] at h1; exact h1.elim
    | ok d =>
      rw [q2] at h1
      exact fun F2 H2 v x2 rv => h1 F2 H2 v (R1.step x2) (s1.trans x2.fr) rv
    | exc z =>
      rw [q2] at h1
      exact fun F2 H2 c dd x2 ok => h1 F2 H2 c dd e1 (R1.step x2) ok
theorem dx_callBG {g : Bx → List D → R (D × Bx)} {py : Pos} (i : Nat) (G : GFn X.prog X.w X.K X.mg X.base x k ps (spB X.K n g)) (hr : Room j X.A) (hj : k ≤ j) (tk : Takes X W) (hg : Gl X x)
    (ha : PA X es (tA X.K W dr)) (hl : ∀ e p, dr e = .ok p → p.1.length = n) (hN : X.N[i]? = some y := by rfl) (hv : Vis X.env.scope y := by first | exact Or.inl rfl | exact Or.inr (Or.inl rfl) | exact Or.inr (Or.inr rfl)) (hd : (y == ("__debug__" : Str)) = false := by decide) (hcd : (y == ("__classdict__" : Str)) = false := by decide)
    (hdb : (x == ("__debug__" : Str)) = false := by decide) (he : starEach (.Name y py :: es) X.env = (false, eval (.Name y py) X.env) :: starEach es X.env := by rfl) (hpl : (backTo pos (starEach es X.env)).any (·.1) = false := by rfl) :
    PE X (.Call (.Name x p) (.Name y py :: es) [] pos) (tD X.K W (dCallB g i dr)) := by
  obtain ⟨f, fd, Fn, hm, hk, hb⟩ := G.ex
  exact dx_callB1 i Fn (hr.mono hj) tk hg hm hk hb ha hl hN hv hd hcd hdb he hpl
end
/-! ### the module's constants -/
section
variable {X : Cx} {W : WX} {pos : Pos} {x : Str}
theorem dx_gstr {z : Str} (hg : Gl X x) (h : ∃ t, X.mg x = some (.str z t)) (hd : (x == ("__debug__" : Str)) = false := by decide) : PE X (.Name x pos) (tD X.K W (dC (.str z))) := by
  obtain ⟨t, h⟩ := h
  exact dx_glob (v := .str z) hg h ⟨t, rfl⟩ (fun _ => .str z) hd
theorem dx_gint {z : Int} (hg : Gl X x) (h : ∃ t, X.mg x = some (.int z t)) (hd : (x == ("__debug__" : Str)) = false := by decide) : PE X (.Name x pos) (tD X.K W (dC (.int z))) := by
  obtain ⟨t, h⟩ := h
  exact dx_glob (v := .int z) hg h ⟨t, rfl⟩ (fun _ => .int z) hd
/-- a module's tuple of texts -/
structure GTup (K : PySem.W.Frag) (mg : Str → Option Value) (x : Str) (ys : List Str) : Prop where
  ex : ∃ a, mg x = some (.ref a) ∧ (∃ o, K.lookup a = some o ∧ o.cls = .type "tuple" ∧ o.dict = none) ∧ ∀ H, SqT K H a (ys.map V.str)
theorem dx_gtup {ys : List Str} (hg : Gl X x) (h : GTup X.K X.mg x ys) (hd : (x == ("__debug__" : Str)) = false := by decide) : PE X (.Name x pos) (tD X.K W (dC (.tup (ys.map D.str)))) := by
  obtain ⟨a, h1, _, h3⟩ := h.ex
  exact dx_glob (v := .ref a) hg h1 rfl (fun F => .tup (h3 F) (Reps.ofStrs ys)) hd
theorem dx_gtupIx {ys : List Str} {ex : Expr} {da : DE} {py apos cpos : Pos} (hg : Gl X x) (h : GTup X.K X.mg x ys) (ha : PE X ex (tD X.K W da)) (hd : (x == ("__debug__" : Str)) = false := by decide)
    (hbase : attributeBase (.Name x py) "index" X.env (eval (.Name x py) X.env) = eval (.Name x py) X.env := by rfl)
    (hfew : ((backTo cpos (starEach [ex] X.env)).all (fun x => !x.1) && (backToKw cpos (keywordEach [] X.env)).all (fun x => x.1.isSome)
      && decide ([ex].length + ([] : List Keyword).length + (if ([] : List Keyword).isEmpty then 0 else 1) < 30)) = true := by rfl)
    (hline : (apos.endLine == cpos.line) = true := by rfl) (hs : starEach [ex] X.env = (false, eval ex X.env) :: starEach [] X.env := by rfl) (hplain : (backTo cpos (starEach [] X.env)).any (·.1) = false := by rfl) :
    PE X (.Call (.Attribute (.Name x py) "index" apos) [ex] [] cpos) (tD X.K W (dTupIx ys da)) := by
  obtain ⟨a, h1, h2, h3⟩ := h.ex
  exact dx_tupIx hg h1 h2 h3 ha hd hbase hfew hline hs hplain
end
/-! ### where the built-in ones stand -/
theorem bt_len : bootBuiltins "len" = some (.builtin "len") := by decide +kernel
theorem bt_all : bootBuiltins "all" = some (.builtin "all") := by decide +kernel
theorem bt_any : bootBuiltins "any" = some (.builtin "any") := by decide +kernel
theorem bt_abs : bootBuiltins "abs" = some (.builtin "abs") := by decide +kernel
theorem bt_max : bootBuiltins "max" = some (.builtin "max") := by decide +kernel
theorem bt_min : bootBuiltins "min" = some (.builtin "min") := by decide +kernel
theorem bt_sum : bootBuiltins "sum" = some (.builtin "sum") := by decide +kernel
theorem bt_sorted : bootBuiltins "sorted" = some (.builtin "sorted") := by decide +kernel
theorem bt_isinstance : bootBuiltins "isinstance" = some (.builtin "isinstance") := by decide +kernel
theorem bt_int : bootBuiltins "int" = some (.type "int") := by decide +kernel
theorem bt_bool : bootBuiltins "bool" = some (.type "bool") := by decide +kernel
theorem bt_str : bootBuiltins "str" = some (.type "str") := by decide +kernel
theorem bt_tuple : bootBuiltins "tuple" = some (.type "tuple") := by decide +kernel
theorem bt_list : bootBuiltins "list" = some (.type "list") := by decide +kernel
/-! ### short words: X's calm is rfl, hu is told -/
section
variable {X : Cx} {W : WX} {pos p apos cpos : Pos} {a b c ex o : Expr} {es : List Expr} {da db dc : DE} {dr : DA}
theorem x_add (ha : PE X a (tD X.K W da)) (hb : PE X b (tD X.K W db)) : PE X (.BinOp a .Add b pos) (tD X.K W (dBin gAdd da db)) := dx_op op_addA vr_add nx_add ha hb
theorem x_sub (ha : PE X a (tD X.K W da)) (hb : PE X b (tD X.K W db)) : PE X (.BinOp a .Sub b pos) (tD X.K W (dBin gSub da db)) := dx_op op_sub vr_sub nx_sub ha hb
theorem x_mul (ha : PE X a (tD X.K W da)) (hb : PE X b (tD X.K W db)) : PE X (.BinOp a .Mult b pos) (tD X.K W (dBin gMul da db)) := dx_op op_mulA vr_mul nx_mul ha hb
theorem x_div (ha : PE X a (tD X.K W da)) (hb : PE X b (tD X.K W db)) : PE X (.BinOp a .FloorDiv b pos) (tD X.K W (dBin gDiv da db)) := dx_op op_fdiv vr_div nx_div ha hb
theorem x_mod (ha : PE X a (tD X.K W da)) (hb : PE X b (tD X.K W db)) : PE X (.BinOp a .Mod b pos) (tD X.K W (dBin gMod da db)) := dx_op op_mod vr_mod nx_mod ha hb
theorem x_eq (hu : X.A.units + 64 < cLine) (ha : PE X a (tD X.K W da)) (hb : PE X b (tD X.K W db)) : PE X (.Compare a [.Eq] [b] pos) (tD X.K W (dBin gEq da db)) := dx_cmp (op_eqA hu) vr_eq nx_eq ha hb (nomark _)
theorem x_ne (hu : X.A.units + 64 < cLine) (ha : PE X a (tD X.K W da)) (hb : PE X b (tD X.K W db)) : PE X (.Compare a [.NotEq] [b] pos) (tD X.K W (dBin gNe da db)) := dx_cmp (op_neA hu) vr_ne nx_ne ha hb (nomark _)
theorem x_lt (ha : PE X a (tD X.K W da)) (hb : PE X b (tD X.K W db)) : PE X (.Compare a [.Lt] [b] pos) (tD X.K W (dBin gLt da db)) := dx_cmp op_lt vr_cmp nx_cmp ha hb (nomark _)
theorem x_le (ha : PE X a (tD X.K W da)) (hb : PE X b (tD X.K W db)) : PE X (.Compare a [.LtE] [b] pos) (tD X.K W (dBin gLe da db)) := dx_cmp op_le vr_cmp nx_cmp ha hb (nomark _)
theorem x_gt (ha : PE X a (tD X.K W da)) (hb : PE X b (tD X.K W db)) : PE X (.Compare a [.Gt] [b] pos) (tD X.K W (dBin gGt da db)) := dx_cmp op_gt vr_cmp nx_cmp ha hb (nomark _)
theorem x_ge (ha : PE X a (tD X.K W da)) (hb : PE X b (tD X.K W db)) : PE X (.Compare a [.GtE] [b] pos) (tD X.K W (dBin gGe da db)) := dx_cmp op_ge vr_cmp nx_cmp ha hb (nomark _)
theorem x_isN (ha : PE X a (tD X.K W da)) (hb : PE X b (tD X.K W db)) : PE X (.Compare a [.Is] [b] pos) (tD X.K W (dBin gIsN da db)) := dx_cmp op_isN vr_isN nx_isN ha hb (nomark _)
theorem x_notN (ha : PE X a (tD X.K W da)) (hb : PE X b (tD X.K W db)) : PE X (.Compare a [.IsNot] [b] pos) (tD X.K W (dBin gNotN da db)) := dx_cmp op_notN vr_notN nx_notN ha hb (nomark _)
theorem x_in (hu : X.A.units + 65 < cLine) (ha : PE X a (tD X.K W da)) (hb : PE X b (tD X.K W db)) (hm : behindInMarks .In b = false := by rfl) : PE X (.Compare a [.In] [b] pos) (tD X.K W (dBin gIn da db)) := dx_cmp (op_inA hu) vr_in nx_in ha hb hm
theorem x_notIn (hu : X.A.units + 65 < cLine) (ha : PE X a (tD X.K W da)) (hb : PE X b (tD X.K W db)) (hm : behindInMarks .NotIn b = false := by rfl) : PE X (.Compare a [.NotIn] [b] pos) (tD X.K W (dBin gNotIn da db)) := dx_cmp (op_notInA hu) vr_notIn nx_notIn ha hb hm
theorem t_eq (hu : X.A.units + 64 < cLine) (ha : PE X a (tD X.K W da)) (hb : PE X b (tD X.K W db)) : PT X (.Compare a [.Eq] [b] pos) (tT X.K W (dTest (dBin gEq da db))) := dt_cmp (op_eqA hu) vr_eq nx_eq ha hb (nomark _)
theorem t_ne (hu : X.A.units + 64 < cLine) (ha : PE X a (tD X.K W da)) (hb : PE X b (tD X.K W db)) : PT X (.Compare a [.NotEq] [b] pos) (tT X.K W (dTest (dBin gNe da db))) := dt_cmp (op_neA hu) vr_ne nx_ne ha hb (nomark _)
theorem t_lt (ha : PE X a (tD X.K W da)) (hb : PE X b (tD X.K W db)) : PT X (.Compare a [.Lt] [b] pos) (tT X.K W (dTest (dBin gLt da db))) := dt_cmp op_lt vr_cmp nx_cmp ha hb (nomark _)
theorem t_le (ha : PE X a (tD X.K W da)) (hb : PE X b (tD X.K W db)) : PT X (.Compare a [.LtE] [b] pos) (tT X.K W (dTest (dBin gLe da db))) := dt_cmp op_le vr_cmp nx_cmp ha hb (nomark _)
theorem t_gt (ha : PE X a (tD X.K W da)) (hb : PE X b (tD X.K W db)) : PT X (.Compare a [.Gt] [b] pos) (tT X.K W (dTest (dBin gGt da db))) := dt_cmp op_gt vr_cmp nx_cmp ha hb (nomark _)
theorem t_ge (ha : PE X a (tD X.K W da)) (hb : PE X b (tD X.K W db)) : PT X (.Compare a [.GtE] [b] pos) (tT X.K W (dTest (dBin gGe da db))) := dt_cmp op_ge vr_cmp nx_cmp ha hb (nomark _)
theorem t_isN (ha : PE X a (tD X.K W da)) (hb : PE X b (tD X.K W db)) : PT X (.Compare a [.Is] [b] pos) (tT X.K W (dTest (dBin gIsN da db))) := dt_cmp op_isN vr_isN nx_isN ha hb (nomark _)
theorem t_notN (ha : PE X a (tD X.K W da)) (hb : PE X b (tD X.K W db)) : PT X (.Compare a [.IsNot] [b] pos) (tT X.K W (dTest (dBin gNotN da db))) := dt_cmp op_notN vr_notN nx_notN ha hb (nomark _)
theorem t_in (hu : X.A.units + 65 < cLine) (ha : PE X a (tD X.K W da)) (hb : PE X b (tD X.K W db)) (hm : behindInMarks .In b = false := by rfl) : PT X (.Compare a [.In] [b] pos) (tT X.K W (dTest (dBin gIn da db))) := dt_cmp (op_inA hu) vr_in nx_in ha hb hm
theorem t_notIn (hu : X.A.units + 65 < cLine) (ha : PE X a (tD X.K W da)) (hb : PE X b (tD X.K W db)) (hm : behindInMarks .NotIn b = false := by rfl) : PT X (.Compare a [.NotIn] [b] pos) (tT X.K W (dTest (dBin gNotIn da db))) := dt_cmp (op_notInA hu) vr_notIn nx_notIn ha hb hm
theorem x_lele (ha : PE X a (tD X.K W da)) (hb : PE X b (tD X.K W db)) (hc : PE X c (tD X.K W dc)) (hm : lastMarks [.LtE, .LtE] [b, c] = false := by with_unfolding_all rfl) : PE X (.Compare a [.LtE, .LtE] [b, c] pos) (tD X.K W (dChain gLe gLe da db dc)) := dx_chain op_le op_le vr_cmp nx_cmp vr_cmp nx_cmp ha hb hc hm
theorem t_lele (ha : PE X a (tD X.K W da)) (hb : PE X b (tD X.K W db)) (hc : PE X c (tD X.K W dc)) (hm : lastMarks [.LtE, .LtE] [b, c] = false := by with_unfolding_all rfl) : PT X (.Compare a [.LtE, .LtE] [b, c] pos) (tT X.K W (dTest (dChain gLe gLe da db dc))) := dt_chain op_le op_le vr_cmp nx_cmp vr_cmp nx_cmp ha hb hc hm
theorem x_ltlt (ha : PE X a (tD X.K W da)) (hb : PE X b (tD X.K W db)) (hc : PE X c (tD X.K W dc)) (hm : lastMarks [.Lt, .Lt] [b, c] = false := by with_unfolding_all rfl) : PE X (.Compare a [.Lt, .Lt] [b, c] pos) (tD X.K W (dChain gLt gLt da db dc)) := dx_chain op_lt op_lt vr_cmp nx_cmp vr_cmp nx_cmp ha hb hc hm
theorem t_ltlt (ha : PE X a (tD X.K W da)) (hb : PE X b (tD X.K W db)) (hc : PE X c (tD X.K W dc)) (hm : lastMarks [.Lt, .Lt] [b, c] = false := by with_unfolding_all rfl) : PT X (.Compare a [.Lt, .Lt] [b, c] pos) (tT X.K W (dTest (dChain gLt gLt da db dc))) := dt_chain op_lt op_lt vr_cmp nx_cmp vr_cmp nx_cmp ha hb hc hm
end
theorem u65 {A : Around} {k : Nat} (hk : Room k A) : A.units + 65 < cLine := by
  have := hk.un
  omega
end WW
set_option Elab.async false
set_option linter.all false
set_option maxRecDepth 100000
set_option maxHeartbeats 4000000
/-! The data layer, part 11: the least of a list of alike data. -/
namespace WW
open PySem PySem.Spec L2
def notNo : D → Bool
  | .non => false
  | .ins _ _ _ => false
  | _ => true
def minOk (l : List D) : Bool := plainAll l && (((pyAll l).all fun x => (pyAll l).all fun y => PySem.W.alike x y) && (decide (PyData.depthAll (pyAll l) ≤ 60) && l.all notNo))
def minDD (d : D) (l : List D) : D := l.foldl (fun a y => if PySem.W.dataLt y.py a.py then y else a) d
def gMinL : List D → R D
  | [.lst (d :: l)] => if minOk (d :: l) = true then .ok (minDD d l) else .bad
  | _ => .bad
theorem pyAll_map : ∀ l : List D, pyAll l = l.map D.py
  | [] => rfl
  | d :: l => by
    show d.py :: pyAll l = _
    rw [pyAll_map l]
    rfl
theorem minDD_py : ∀ (l : List D) (d : D), (minDD d l).py = PySem.W.minD d.py (pyAll l)
  | [], d => rfl
  | y :: l, d => by
    unfold minDD PySem.W.minD
    rw [List.foldl_cons]
    show (minDD (if PySem.W.dataLt y.py d.py then y else d) l).py = (pyAll l).foldl _ (if PySem.W.dataLt y.py d.py then y.py else d.py)
    rw [minDD_py l]
    unfold PySem.W.minD
    congr 1
    split <;> rfl
theorem minDD_mem : ∀ (l : List D) (d : D), minDD d l ∈ d :: l
  | [], d => List.mem_cons_self
  | y :: l, d => by
    have h := minDD_mem l (if PySem.W.dataLt y.py d.py then y else d)
    show minDD (if PySem.W.dataLt y.py d.py then y else d) l ∈ _
    rcases List.mem_cons.mp h with h | h
    · rw [h]
      by_cases c : PySem.W.dataLt y.py d.py = true
      · rw [if_pos c]; exact List.mem_cons_of_mem _ List.mem_cons_self
      · rw [if_neg c]; exact List.mem_cons_self
    · exact List.mem_cons_of_mem _ (List.mem_cons_of_mem _ h)
mutual
theorem py_inj : ∀ (a b : D), a.plain = true → b.plain = true → a.py = b.py → a = b
  | .non, b, _, hb, h => by
    cases b <;> first | rfl | (cases hb; done) | (cases h; done)
  | .bl x, b, _, hb, h => by
    cases b <;> first | (injection h with h; rw [h]; done) | (cases hb; done) | (cases h; done)
  | .int x, b, _, hb, h => by
    cases b <;> first | (injection h with h; rw [h]; done) | (cases hb; done) | (cases h; done)
  | .str x, b, _, hb, h => by
    cases b <;> first | (injection h with h; rw [h]; done) | (cases hb; done) | (cases h; done)
  | .tup l, b, ha, hb, h => by
    cases b with
    | tup m =>
      injection h with h
      rw [pyAll_inj l m ha hb h]
    | ins _ _ _ => cases hb
    | _ => cases h
  | .lst l, b, ha, hb, h => by
    cases b with
    | lst m =>
      injection h with h
      rw [pyAll_inj l m ha hb h]
    | ins _ _ _ => cases hb
    | _ => cases h
  | .ins _ _ _, _, ha, _, _ => by cases ha
theorem pyAll_inj : ∀ (l m : List D), plainAll l = true → plainAll m = true → pyAll l = pyAll m → l = m
  | [], [], _, _, _ => rfl
  | [], _ :: _, _, _, h => by cases h
  | _ :: _, [], _, _, h => by cases h
  | a :: l, b :: m, ha, hb, h => by
    obtain ⟨a1, a2⟩ := Bool.and_eq_true_iff.mp (show (a.plain && plainAll l) = true from ha)
    obtain ⟨b1, b2⟩ := Bool.and_eq_true_iff.mp (show (b.plain && plainAll m) = true from hb)
    have h2 : a.py :: pyAll l = b.py :: pyAll m := h
    injection h2 with h3 h4
    rw [py_inj a b a1 b1 h3, pyAll_inj l m a2 b2 h4]
end
theorem plain_mem : ∀ {l : List D} {d : D}, plainAll l = true → d ∈ l → d.plain = true
  | a :: l, d, h, hd => by
    obtain ⟨a1, a2⟩ := Bool.and_eq_true_iff.mp (show (a.plain && plainAll l) = true from h)
    rcases List.mem_cons.mp hd with rfl | hd
    · exact a1
    · exact plain_mem a2 hd
section
variable {X : Cx} {K : PySem.W.Frag}
def rMinDa (K : PySem.W.Frag) : List V → Hp → VK → Prop := fun vs H Q => ∃ p xs x ds, vs = [.ref p] ∧ SqL K H p xs ∧ DpAll K H xs (x :: ds) ∧ PySem.W.AlikeAll (x :: ds) ∧ PyData.depthAll (x :: ds) ≤ 60 ∧ ∀ (i : Nat) (v : V) d, xs[i]? = some v → (x :: ds)[i]? = some d → d = PySem.W.minD x ds → Q v H
theorem cr_minDa (hu : X.A.units + 64 < cLine) (hc : X.calm = true) : CallR X (.builtin "min") (rMinDa X.K) := by
  intro pins s σ H vs us Q I r h
  obtain ⟨p, xs, x, ds, rfl, hs, hd, ha, hdp, q⟩ := h
  obtain ⟨its, rv, hl, _⟩ := I.list hs
  rw [Vals.ref1 r]
  obtain ⟨as, hr⟩ := Dp.readsAll I (x :: ds) xs its hd rv
  refine PySem.W.min_list_data (I.ok.hd hc) hl.isList (by simpa using hr) ha (by show X.A.units + 1 + _ < _; omega) fun i v h' tk bs hv hr2 hk => ?_
  have hr' : ReadsAll s.heap (its.toArray).toList (x :: ds) as := by simpa using hr
  obtain ⟨bs2, hr3, hlt, _, _⟩ := PySem.W.readsAll_atA hr' i v hv
  have e := (Reads.unique (PySem.W.reads_keeps hk hr3) _ _ hr2).1
  obtain ⟨y, hy⟩ : ∃ y, xs[i]? = some y := by
    have hl1 : xs.length = its.length := rv.length
    have hl2 : i < its.length := by
      have := (Array.getElem?_eq_some_iff.mp hv).1
      simpa using this
    exact ⟨_, List.getElem?_eq_getElem (by omega)⟩
  obtain ⟨u, hu1, ru⟩ := Vals.get rv hy
  have e2 : u = v := by
    have : its[i]? = some v := by simpa using hv
    rw [this] at hu1
    exact (Option.some.inj hu1).symm
  subst e2
  refine ⟨y, H, I.kept hk, ru, q i y _ hy (?_ : (x :: ds)[i]? = some ((x :: ds).getD i .none)) e⟩
  rw [List.getElem?_eq_getElem hlt, List.getD_eq_getElem?_getD, List.getElem?_eq_getElem hlt]
  rfl
theorem nx_minL : NoXn gMinL := by
  intro a x h
  unfold gMinL at h
  split at h
  · split at h <;> cases h
  · cases h
theorem vr_minL : VRn K (rMinDa K) gMinL := by
  intro F H xs ds Q s rs h
  unfold gMinL at h
  split at h
  · rename_i d l
    by_cases c : minOk (d :: l) = true
    · rw [if_pos c] at h
      unfold minOk at c
      obtain ⟨c1, c2⟩ := Bool.and_eq_true_iff.mp c
      obtain ⟨c3, c4⟩ := Bool.and_eq_true_iff.mp c2
      obtain ⟨c5, c6⟩ := Bool.and_eq_true_iff.mp c4
      obtain ⟨v, rfl, rv⟩ := reps1 rs
      cases rv with
      | lst hF hrs =>
        rename_i p vs
        refine ⟨p, vs, d.py, pyAll l, rfl, .inl (.inl (s _ _ hF)), Reps.dp s _ _ c1 hrs, ⟨fun x hx y hy => ?_, fun x hx => ?_⟩, of_decide_eq_true c5, fun i y z hy hz e => ?_⟩
        · exact List.all_eq_true.mp (List.all_eq_true.mp c3 x hx) y hy
        · intro e
          have hx2 : x ∈ (d :: l).map D.py := by rw [← pyAll_map]; exact hx
          obtain ⟨w', hw, rfl⟩ := List.mem_map.mp hx2
          have n1 := List.all_eq_true.mp c6 w' hw
          have n2 := plain_mem c1 hw
          cases w' <;> first | (cases n1; done) | (cases e; done)
        · obtain ⟨y2, hy2, ry⟩ : ∃ k, (d :: l)[i]? = some k ∧ Rep K F y k := by
            have hl : i < (d :: l).length := by
              rw [← hrs.len]
              exact (List.getElem?_eq_some_iff.mp hy).1
            obtain ⟨v2, h1, h2⟩ := hrs.get (List.getElem?_eq_getElem hl)
            rw [hy] at h1
            rw [Option.some.inj h1]
            exact ⟨_, List.getElem?_eq_getElem hl, h2⟩
          have e3 : y2.py = z := by
            have : (pyAll (d :: l))[i]? = some y2.py := by rw [pyAll_map, List.getElem?_map, hy2]; rfl
            rw [show pyAll (d :: l) = d.py :: pyAll l from rfl, hz] at this
            exact (Option.some.inj this).symm
          have e4 : y2 = minDD d l := py_inj _ _ (plain_mem c1 (List.mem_of_getElem? hy2)) (plain_mem c1 (minDD_mem l d)) (by rw [e3, e, minDD_py])
          rw [e4] at ry
          exact h.same s ry
    · rw [if_neg c] at h
      exact h.elim
  · exact h.elim
end
end WW
set_option Elab.async false
set_option linter.all false
set_option maxRecDepth 100000
set_option maxHeartbeats 4000000
/-! The head by facts: a Hook of checks and defs. -/
namespace WW
open PySem PySem.Spec L2
abbrev Chk := PySem.W.Frag → Bool
def obsW (cs : List Chk) (fn : List He.DefD) (K : PySem.W.Frag) : He.AlD := ((cs.all fun c => c K) && fn.all fun d => d.ok K, fn.map fun d => He.fnW K d.at_)
def SaysW (cs : List Chk) (fn : List He.DefD) (K : PySem.W.Frag) : Prop := obsW cs fn K = He.valD fn
def obsWG (n : Nat) (cs : List Chk) (fn : List He.DefD) (g : Addr → Option Obj) : He.AlD := obsW cs fn (He.frG g (He.asD g n))
def hookW (n : Nat) (cs : List Chk) (fn : List He.DefD) : PySem.W.Hook where
  α := He.AlD
  obs := fun s => obsWG n cs fn s.heap.get?
  val := fun _ => He.valD fn
  says := fun _ h => ∃ K : PySem.W.Frag, K.In h ∧ SaysW cs fn K
  of := fun _ _ e => ⟨_, He.frG_in, e⟩
  keeps := fun _ _ _ ⟨K, hK, c⟩ k => ⟨K, PySem.W.Frag.In.keeps hK k, c⟩
theorem obsWG_eq {n : Nat} {cs : List Chk} {fn : List He.DefD} {g : Addr → Option Obj} {s : Shared} (h : ∀ a, g a = s.heap.get? a) : obsWG n cs fn g = (hookW n cs fn).obs s := by
  have e : g = s.heap.get? := funext h
  rw [e] <;> rfl
section
variable {cs : List Chk} {fn : List He.DefD} {K : PySem.W.Frag}
theorem SaysW.fact (c : SaysW cs fn K) (i : Nat) {f : Chk} (h : cs[i]? = some f := by rfl) : f K = true := by
  have c1 := (He.ba (show ((cs.all fun f => f K) && fn.all fun d => d.ok K) = true from congrArg (fun z : He.AlD => z.1) c)).1
  exact List.all_eq_true.mp c1 f (List.mem_of_getElem? h)
theorem SaysW.def_ (c : SaysW cs fn K) (i : Nat) {d : He.DefD} (h : fn[i]? = some d := by rfl) : ∃ fd, FunD K d.name d.qual d.params d.body d.scope (d.dvs K) (d.kws K) (He.fAd K d.at_) fd := by
  have c2 := (He.ba (show ((cs.all fun f => f K) && fn.all fun d => d.ok K) = true from congrArg (fun z : He.AlD => z.1) c)).2
  have e : fn.map (fun d => He.fnW K d.at_) = fn.map He.DefD.val := congrArg (fun z : He.AlD => z.2) c
  have e2 : (fn.map fun d => He.fnW K d.at_)[i]? = (fn.map He.DefD.val)[i]? := by rw [e]
  rw [List.getElem?_map, List.getElem?_map, h] at e2
  exact He.DefD.funD (Option.some.inj e2) (List.all_eq_true.mp c2 d (List.mem_of_getElem? h))
end
theorem toFun {K : PySem.W.Frag} {x qual : Str} {st : Stmt} {f : Addr} {fd : FuncData} (F : FunD K x qual (defArgs st) (defBody st) (defScope st) [] [] f fd) : Fun K x qual st f fd := by
  obtain ⟨oc, od, dV, kV, doc, pm, an, cdv, ct, osl, e, lk, hcd, hd, _⟩ := F.ex
  rcases hd with ⟨_, rfl⟩ | ⟨z, _⟩
  · exact ⟨⟨oc, od, kV, doc, pm, an, cdv, ct, osl, e, lk, hcd⟩, F.kp⟩
  · exact absurd rfl z
/-- a module's tuple of texts -/
def cTup (x : Str) (ys : List Str) : Chk := fun K => (He.Fa.glo x).ok K && (match K.lookup (He.ga K x) with
  | some ⟨.type c, none, .seq its _, _⟩ => decide (c = "tuple") && (decide (its.size ≤ sizeLine) && He.relAll (ys.map V.str) its.toList)
  | _ => false)
theorem cTup_ok {K : PySem.W.Frag} {h : Heap} {mg : Str → Option Value} {x : Str} {ys : List Str} (X : K.In h) (G : h.Ns mainGlobals mg) (c : cTup x ys K = true) : GTup K mg x ys := by
  obtain ⟨c1, c2⟩ := He.ba c
  have hg := He.glo_ok X G c1
  cases q : K.lookup (He.ga K x) with
  | none => rw [q] at c2; cases c2
  | some o =>
    obtain ⟨oc, od, dt, osl⟩ := o
    rw [q] at c2
    cases oc with
    | type c =>
      cases od with
      | none =>
        cases dt with
        | seq its n =>
          obtain ⟨h1, h2⟩ := He.ba (show (decide (c = "tuple") && (decide (its.size ≤ sizeLine) && He.relAll (ys.map V.str) its.toList)) = true from c2)
          obtain ⟨h3, h4⟩ := He.ba h2
          have ec : c = "tuple" := of_decide_eq_true h1
          subst ec
          exact ⟨_, hg, ⟨_, q, rfl, rfl⟩, fun H => .inr ⟨_, its, n, q, rfl, rfl, of_decide_eq_true h3, He.relAll_ok h4⟩⟩
        | _ => cases c2
      | some a => cases dt <;> cases c2
    | _ => cases od <;> cases dt <;> cases c2
def cFree (x : Str) : Chk := fun K => (He.Fa.free x).ok K
def cStr (x z : Str) : Chk := fun K => (He.Fa.str x z).ok K
def cInt (x : Str) (i : Int) : Chk := fun K => (He.Fa.int x i).ok K
def cGlo (x : Str) : Chk := fun K => (He.Fa.glo x).ok K
end WW
set_option Elab.async false
set_option linter.all false
set_option maxRecDepth 100000
set_option maxHeartbeats 4000000
namespace WW
open PySem PySem.Spec L2
/-- law_take: the box's next draw -/
def takeI (b : Bx) (n : Int) : Int × Bx := match b with
  | (a, [], st) => (st * 48271 % 2147483647 / 7 % n, (a, [], st * 48271 % 2147483647))
  | (a, k :: r, st) => (k % n, (a, if k / n = 0 ∨ k / n = -1 then r else (k / n) :: r, st))
def f_law_take (b : Bx) : List D → R (D × Bx)
  | [.int n] => if 0 < n ∧ n < SMALL then .ok (.int (takeI b n).1, (takeI b n).2) else .bad
  | _ => .bad
theorem shaped_ints (ns : List Int) : SeqAt.shaped (.list (ns.map PyData.int)) = true := by
  have h1 : ∀ l : List Int, PyData.canLayAll0 (l.map PyData.int) = true := by
    intro l
    induction l with
    | nil => rfl
    | cons a l ih =>
      show (PyData.canLay0 (.int a) && PyData.canLayAll0 (l.map PyData.int)) = true
      rw [ih]
      rfl
  have h2 : ∀ l : List Int, PyData.depthAll (l.map PyData.int) = 0 := by
    intro l
    induction l with
    | nil => rfl
    | cons a l ih =>
      show max (PyData.depth (.int a)) (PyData.depthAll (l.map PyData.int)) = 0
      rw [ih]
      rfl
  unfold SeqAt.shaped
  have e1 : PyData.canLay0 (.list (ns.map PyData.int)) = true := h1 ns
  have e2 : PyData.depth (.list (ns.map PyData.int)) = 1 := by
    show PyData.depthAll (ns.map PyData.int) + 1 = 1
    rw [h2 ns]
  rw [e1, e2]
  rfl
theorem dp_ints {K : PySem.W.Frag} {H : Hp} {q : Addr} (ns : List Int) (h : H q = some (.lst (ns.map V.int))) : Dp K H (.ref q) (.list (ns.map PyData.int)) := by
  refine .lst (.inl (.inl h)) ?_
  clear h
  induction ns with
  | nil => exact .nil
  | cons a l ih => exact .cons (.int a) ih
theorem eqv_ints_nil (ns : List Int) : PyData.eqv (.list (ns.map PyData.int)) (.list []) = ns.isEmpty := by
  cases ns <;> rfl
/-- law_begun: the numbers stirred -/
def stirI (ns : List Int) : Int := ns.foldl (fun s c => (s * 48271 + c * 69621 + 11) % 2147483647) 0
def begunI (ns : List Int) : Int := stirI ns * (if decide (2 < (ns.length : Int)) = true then 1 else 0)
/-- a def that makes the box out of the script -/
def spBegun (K : PySem.W.Frag) : Sp := fun vs H Q _ => ∃ (a : Addr) (ns : List Int), vs = [.ref a] ∧ SqL K H a (ns.map V.int) ∧ ns.length ≤ 1000 ∧ ∀ H' p A, (∀ b o, H b = some o → H' b = some o) → SlOk K (fun _ => none) H' (.ref p) (.box p ns (begunI ns)) A → (∀ b, A b → H b = none) → Q (.ref p) H'
/-- the law: True at every script -/
def spLaw (K : PySem.W.Frag) : Sp := fun vs H Q _ => ∃ (a : Addr) (ns : List Int), vs = [.ref a] ∧ SqL K H a (ns.map V.int) ∧ ns.length ≤ 63 ∧ ∀ H', Q (.bl true) H'
def initL (n : Nat) (p : Addr) (ns : List Int) : En := none :: some (.box p ns (begunI ns)) :: List.replicate (n - 2) none
def TrueL : SR → Prop
  | .ret (.bl true) _ => True
  | _ => False

def f_law_alike_den (rec : List D → R D) : DS := sSeq (sIf (dTest (dBin gIsN (dVar 1) (dC .non))) (sRet (dBin gIsN (dVar 0) (dC .non))) (sNext)) (sSeq (sIf (dTest (dIsi "bool" (dVar 1))) (sRet (dAndV (dIsi "bool" (dVar 0)) (dBin gEq (dVar 0) (dVar 1)))) (sNext)) (sSeq (sIf (dTest (dIsi "int" (dVar 1))) (sRet (dAndV (dIsi "int" (dVar 0)) (dAndV (dNotV (dIsi "bool" (dVar 0))) (dBin gEq (dVar 0) (dVar 1))))) (sNext)) (sSeq (sIf (dTest (dIsi "str" (dVar 1))) (sRet (dAndV (dIsi "str" (dVar 0)) (dBin gEq (dVar 0) (dVar 1)))) (sNext)) (sSeq (sIf (dOr (dTest (dBin gNe (dIsi "tuple" (dVar 1)) (dIsi "tuple" (dVar 0)))) (dTest (dBin gNe (dIsi "list" (dVar 1)) (dIsi "list" (dVar 0))))) (sRet (dC (.bl false))) (sNext)) (sSeq (sIf (dTest (dBin gNe (dApp gLen (dCons (dVar 0) (dNil))) (dApp gLen (dCons (dVar 1) (dNil))))) (sRet (dC (.bl false))) (sNext)) (sSeq (sFor (iRange (dCons (dApp gLen (dCons (dVar 1) (dNil))) (dNil))) (gdName 2) (sIf (dNot (dTest (dCall rec (dCons (dBin gIx (dVar 0) (dVar 2)) (dCons (dBin gIx (dVar 1) (dVar 2)) (dNil)))))) (sRet (dC (.bl false))) (sNext))) (sRet (dC (.bl true)))))))))
def f_law_alike : Nat → List D → R D
  | 0 => fun _ => .bad
  | n + 1 => fnD 3 (f_law_alike_den (f_law_alike n))

def p_is_number_den : DS := sRet (dAndV (dIsi "int" (dVar 0)) (dAndV (dNotV (dIsi "bool" (dVar 0))) (dChain gLe gLe (dVar 1) (dVar 0) (dVar 2))))
def p_is_number : List D → R D := fnD 3 p_is_number_den

def p_are_frozen_den : DS := sSeq (sIf (dOr (dNot (dTest (dIsi "tuple" (dVar 0)))) (dNot (dTest (dApp gAll (dCons (dFrz (oComp (iVal (dVar 0)) [2] (gdName 2) (noTest) (dCall p_is_number (dCons (dVar 2) (dCons (dC (.int 0)) (dCons (dBin gSub (dVar 1) (dC (.int 1))) (dNil))))))) (dNil)))))) (sRet (dC (.bl false))) (sNext)) (sRet (dApp gAll (dCons (dFrz (oComp (iZipd (dCons (dVar 0) (dCons (dSl (dVar 0) (pSome (dC (.int 1))) (pNo)) (dNil)))) [3, 4] (gdTup [3, 4]) (noTest) (dBin gLt (dVar 3) (dVar 4)))) (dNil))))
def p_are_frozen : List D → R D := fnD 5 p_are_frozen_den

def p_are_weights_den : DS := sSeq (sIf (dOr (dNot (dTest (dIsi "tuple" (dVar 0)))) (dTest (dBin gNe (dApp gLen (dCons (dVar 0) (dNil))) (dApp gLen (dCons (dC (.tup ((["ab", "ac", "ad", "bc", "bd", "cd"] : List Str).map D.str))) (dNil)))))) (sRet (dC (.bl false))) (sNext)) (sRet (dApp gAll (dCons (dFrz (oComp (iVal (dVar 0)) [1] (gdName 1) (noTest) (dCall p_is_number (dCons (dVar 1) (dCons (dC (.int 1)) (dCons (dC (.int 9)) (dNil))))))) (dNil))))
def p_are_weights : List D → R D := fnD 2 p_are_weights_den

def p_need_plan_den : DS := sSeq (sIf (dOr (dNot (dTest (dIsi "tuple" (dVar 0)))) (dTest (dBin gNe (dApp gLen (dCons (dVar 0) (dNil))) (dC (.int 4))))) (sBad) (sNext)) (sSeq (sTo (gdTup [1, 2, 3, 4]) (dVar 0)) (sSeq (sIf (dNot (dTest (dIsi "bool" (dVar 1)))) (sBad) (sNext)) (sSeq (sIf (dNot (dTest (dCall p_is_number (dCons (dVar 2) (dCons (dC (.int 3)) (dCons (dC (.int 12)) (dNil))))))) (sBad) (sNext)) (sSeq (sIf (dNot (dTest (dCall p_are_frozen (dCons (dVar 3) (dCons (dVar 2) (dNil)))))) (sBad) (sNext)) (sIf (dNot (dTest (dCall p_are_weights (dCons (dVar 4) (dNil))))) (sBad) (sNext))))))
def p_need_plan : List D → R D := fnD 5 p_need_plan_den

def p_need_cells_den : DS := sIf (dOr (dNot (dTest (dIsi "str" (dVar 1)))) (dOr (dTest (dBin gNe (dApp gLen (dCons (dVar 1) (dNil))) (dBin gIx (dVar 0) (dC (.int 1))))) (dNot (dTest (dApp gAll (dCons (dFrz (oComp (iVal (dVar 1)) [2] (gdName 2) (noTest) (dBin gIn (dVar 2) (dC (.str ("abcd" : Str)))))) (dNil))))))) (sBad) (sNext)
def p_need_cells : List D → R D := fnD 3 p_need_cells_den

def p_weight_of_den : DS := sRet (dBin gIx (dBin gIx (dVar 0) (dC (.int 3))) (dTupIx (["ab", "ac", "ad", "bc", "bd", "cd"] : List Str) (dBin gAdd (dApp gMin2 (dCons (dVar 1) (dCons (dVar 2) (dNil)))) (dApp gMax2 (dCons (dVar 1) (dCons (dVar 2) (dNil)))))))
def p_weight_of : List D → R D := fnD 3 p_weight_of_den

def p_beside_den : DS := sSeq (sTo (gdTup [3, 4, 5, 6]) (dVar 0)) (sSeq (sIf (dAnd (dNot (dTest (dVar 3))) (dTest (dBin gIn (dVar 2) (dTup (dCons (dC (.int 0)) (dCons (dBin gSub (dVar 4) (dC (.int 1))) (dNil))))))) (sRet (dC .non)) (sNext)) (sRet (dTup (dCons (dBin gIx (dVar 1) (dBin gSub (dVar 2) (dC (.int 1)))) (dCons (dBin gIx (dVar 1) (dBin gMod (dBin gAdd (dVar 2) (dC (.int 1))) (dVar 4))) (dNil))))))
def p_beside : List D → R D := fnD 7 p_beside_den

def p_turned_den : DS := sSeq (sAsg 3 (dCall p_beside (dCons (dVar 0) (dCons (dVar 1) (dCons (dVar 2) (dNil)))))) (sSeq (sIf (dOr (dTest (dBin gIn (dVar 2) (dBin gIx (dVar 0) (dC (.int 2))))) (dOr (dTest (dBin gIsN (dVar 3) (dC .non))) (dOr (dTest (dBin gEq (dBin gIx (dVar 3) (dC (.int 0))) (dBin gIx (dVar 3) (dC (.int 1))))) (dTest (dBin gNotIn (dBin gIx (dVar 1) (dVar 2)) (dVar 3)))))) (sRet (dC .non)) (sNext)) (sRet (dIfE (dTest (dBin gEq (dBin gIx (dVar 1) (dVar 2)) (dBin gIx (dVar 3) (dC (.int 0))))) (dBin gIx (dVar 3) (dC (.int 1))) (dBin gIx (dVar 3) (dC (.int 0))))))
def p_turned : List D → R D := fnD 4 p_turned_den

def p_with_sign_den : DS := sRet (dBin gAdd (dBin gAdd (dSl (dVar 0) (pNo) (pSome (dVar 1))) (dVar 2)) (dSl (dVar 0) (pSome (dBin gAdd (dVar 1) (dC (.int 1)))) (pNo)))
def p_with_sign : List D → R D := fnD 3 p_with_sign_den

def p_turns_of_den : DS := sSeq (sAsgO 2 (oLst (dNil))) (sSeq (sFor (iRange (dCons (dBin gIx (dVar 0) (dC (.int 1))) (dNil))) (gdName 3) (sSeq (sAsg 4 (dCall p_turned (dCons (dVar 0) (dCons (dVar 1) (dCons (dVar 3) (dNil)))))) (sIf (dTest (dBin gNotN (dVar 4) (dC .non))) (sAppend 2 (dTup (dCons (dVar 3) (dCons (dCall p_with_sign (dCons (dVar 1) (dCons (dVar 3) (dCons (dVar 4) (dNil))))) (dCons (dCall p_weight_of (dCons (dVar 0) (dCons (dBin gIx (dVar 1) (dVar 3)) (dCons (dVar 4) (dNil))))) (dNil)))))) (sNext)))) (sRet (dVar 2)))
def p_turns_of : List D → R D := fnD 5 p_turns_of_den

def p_turns_den : DS := sSeq (sDrop (dCall p_need_plan (dCons (dVar 0) (dNil)))) (sSeq (sDrop (dCall p_need_cells (dCons (dVar 0) (dCons (dVar 1) (dNil))))) (sRet (dCall p_turns_of (dCons (dVar 0) (dCons (dVar 1) (dNil))))))
def p_turns : List D → R D := fnD 2 p_turns_den

def p_places_of_den : DS := sSeq (sTo (gdTup [2, 3, 4, 5]) (dVar 0)) (sSeq (sAsg 6 (dIfE (dTest (dVar 2)) (dVar 3) (dBin gSub (dVar 3) (dC (.int 1))))) (sRet (dFrz (oComp (iRange (dCons (dVar 6) (dNil))) [7] (gdName 7) (dTest (dBin gNe (dBin gIx (dVar 1) (dVar 7)) (dBin gIx (dVar 1) (dBin gMod (dBin gAdd (dVar 7) (dC (.int 1))) (dVar 3))))) (dVar 7)))))
def p_places_of : List D → R D := fnD 8 p_places_of_den

def p_walls_den : DS := sSeq (sDrop (dCall p_need_plan (dCons (dVar 0) (dNil)))) (sSeq (sDrop (dCall p_need_cells (dCons (dVar 0) (dCons (dVar 1) (dNil))))) (sRet (dFrz (oComp (iVal (dCall p_places_of (dCons (dVar 0) (dCons (dVar 1) (dNil))))) [2] (gdName 2) (noTest) (dTup (dCons (dVar 2) (dCons (dBin gIx (dVar 1) (dVar 2)) (dCons (dBin gIx (dVar 1) (dBin gMod (dBin gAdd (dVar 2) (dC (.int 1))) (dBin gIx (dVar 0) (dC (.int 1))))) (dNil)))))))))
def p_walls : List D → R D := fnD 3 p_walls_den

def p_blocks_den : DS := sSeq (sDrop (dCall p_need_plan (dCons (dVar 0) (dNil)))) (sSeq (sDrop (dCall p_need_cells (dCons (dVar 0) (dCons (dVar 1) (dNil))))) (sSeq (sAsg 2 (dCall p_places_of (dCons (dVar 0) (dCons (dVar 1) (dNil))))) (sSeq (sIf (dTest (dBin gEq (dVar 2) (dFrz (oLst (dNil))))) (sRet (dFrz (oLst (dCons (dTup (dCons (dBin gIx (dVar 1) (dC (.int 0))) (dCons (dBin gIx (dVar 0) (dC (.int 1))) (dNil)))) (dNil))))) (sNext)) (sSeq (sAsg 3 (dIfE (dTest (dBin gIx (dVar 0) (dC (.int 0)))) (dBin gAdd (dVar 2) (dFrz (oLst (dCons (dBin gAdd (dBin gIx (dVar 2) (dC (.int 0))) (dBin gIx (dVar 0) (dC (.int 1)))) (dNil))))) (dBin gAdd (dBin gAdd (dFrz (oLst (dCons (dUn gNeg (dC (.int 1))) (dNil)))) (dVar 2)) (dFrz (oLst (dCons (dBin gSub (dBin gIx (dVar 0) (dC (.int 1))) (dC (.int 1))) (dNil))))))) (sRet (dFrz (oComp (iZipd (dCons (dVar 3) (dCons (dSl (dVar 3) (pSome (dC (.int 1))) (pNo)) (dNil)))) [4, 5] (gdTup [4, 5]) (noTest) (dTup (dCons (dBin gIx (dVar 1) (dBin gMod (dBin gAdd (dVar 4) (dC (.int 1))) (dBin gIx (dVar 0) (dC (.int 1))))) (dCons (dBin gSub (dVar 5) (dVar 4)) (dNil)))))))))))
def p_blocks : List D → R D := fnD 6 p_blocks_den

def f_law_plan_den : DS := sSeq (sAsg 2 (dBin gAdd (dC (.int 3)) (dCallB f_law_take 0 (dCons (dBin gSub (dVar 1) (dC (.int 2))) (dNil))))) (sSeq (sAsg 3 (dApp gTuple (dCons (dFrz (oComp (iRange (dCons (dVar 2) (dNil))) [4] (gdName 4) (dTest (dBin gEq (dCallB f_law_take 0 (dCons (dBin gIx (dFrz (oLst (dCons (dC (.int 2)) (dCons (dC (.int 9)) (dCons (dC (.int 30)) (dNil)))))) (dCallB f_law_take 0 (dCons (dC (.int 3)) (dNil)))) (dNil))) (dC (.int 1)))) (dVar 4))) (dNil)))) (sSeq (sAsg 3 (dIfE (dTest (dBin gEq (dCallB f_law_take 0 (dCons (dC (.int 2)) (dNil))) (dC (.int 0)))) (dVar 3) (dTup (dNil)))) (sSeq (sAsg 5 (dApp gTuple (dCons (dFrz (oComp (iRange (dCons (dC (.int 6)) (dNil))) [4] (gdName 4) (noTest) (dBin gAdd (dC (.int 1)) (dCallB f_law_take 0 (dCons (dBin gIx (dFrz (oLst (dCons (dC (.int 2)) (dCons (dC (.int 9)) (dNil))))) (dCallB f_law_take 0 (dCons (dC (.int 2)) (dNil)))) (dNil)))))) (dNil)))) (sRet (dTup (dCons (dBin gGt (dCallB f_law_take 0 (dCons (dC (.int 3)) (dNil))) (dC (.int 0))) (dCons (dVar 2) (dCons (dVar 3) (dCons (dVar 5) (dNil))))))))))
def f_law_plan : Bx → List D → R (D × Bx) := fnB 6 f_law_plan_den

def f_law_cells_den : DS := sSeq (sPar 2 3 (dC (.str ("" : Str))) (dSl (dC (.str ("abcd" : Str))) (pNo) (pSome (dBin gAdd (dC (.int 2)) (dCallB f_law_take 0 (dCons (dC (.int 3)) (dNil))))))) (sSeq (sWhile (dTest (dBin gLt (dApp gLen (dCons (dVar 2) (dNil))) (dBin gIx (dVar 1) (dC (.int 1))))) (sAsg 2 (dBin gAdd (dVar 2) (dBin gMul (dBin gIx (dVar 3) (dCallB f_law_take 0 (dCons (dApp gLen (dCons (dVar 3) (dNil))) (dNil)))) (dBin gAdd (dC (.int 1)) (dCallB f_law_take 0 (dCons (dC (.int 3)) (dNil)))))))) (sRet (dSl (dVar 2) (pNo) (pSome (dBin gIx (dVar 1) (dC (.int 1)))))))
def f_law_cells : Bx → List D → R (D × Bx) := fnB 4 f_law_cells_den

def f_law_turns_den : DS := sSeq (sAsgO 2 (oLst (dNil))) (sSeq (sFor (iRange (dCons (dBin gIx (dVar 0) (dC (.int 1))) (dNil))) (gdName 3) (sIf (dAnd (dTest (dBin gNotIn (dVar 3) (dBin gIx (dVar 0) (dC (.int 2))))) (dOr (dTest (dBin gIx (dVar 0) (dC (.int 0)))) (dTest (dChain gLt gLt (dC (.int 0)) (dVar 3) (dBin gSub (dBin gIx (dVar 0) (dC (.int 1))) (dC (.int 1))))))) (sSeq (sPar 4 5 (dBin gIx (dVar 1) (dBin gSub (dVar 3) (dC (.int 1)))) (dBin gIx (dVar 1) (dBin gMod (dBin gAdd (dVar 3) (dC (.int 1))) (dBin gIx (dVar 0) (dC (.int 1)))))) (sIf (dAnd (dTest (dBin gNe (dVar 4) (dVar 5))) (dTest (dBin gIn (dBin gIx (dVar 1) (dVar 3)) (dTup (dCons (dVar 4) (dCons (dVar 5) (dNil))))))) (sSeq (sAsg 6 (dIfE (dTest (dBin gEq (dBin gIx (dVar 1) (dVar 3)) (dVar 4))) (dVar 5) (dVar 4))) (sSeq (sAsg 7 (dMth isL gIndex (dFrz (oLst (dCons (dC (.str ("ab" : Str))) (dCons (dC (.str ("ac" : Str))) (dCons (dC (.str ("ad" : Str))) (dCons (dC (.str ("bc" : Str))) (dCons (dC (.str ("bd" : Str))) (dCons (dC (.str ("cd" : Str))) (dNil))))))))) (dCons (dMth isS gJoin (dC (.str ("" : Str))) (dCons (dApp gSorted (dCons (dFrz (oLst (dCons (dVar 4) (dCons (dVar 5) (dNil))))) (dNil))) (dNil))) (dNil)))) (sAppend 2 (dTup (dCons (dVar 3) (dCons (dBin gAdd (dBin gAdd (dSl (dVar 1) (pNo) (pSome (dVar 3))) (dVar 6)) (dSl (dVar 1) (pSome (dBin gAdd (dVar 3) (dC (.int 1)))) (pNo))) (dCons (dBin gIx (dBin gIx (dVar 0) (dC (.int 3))) (dVar 7)) (dNil)))))))) (sNext))) (sNext))) (sRet (dVar 2)))
def f_law_turns : List D → R D := fnD 8 f_law_turns_den

def f_law_round_den : DS := sRet (dApp gMinL (dCons (dFrz (oComp (iRange (dCons (dApp gMax2 (dCons (dC (.int 1)) (dCons (dApp gLen (dCons (dVar 0) (dNil))) (dNil)))) (dNil))) [1] (gdName 1) (noTest) (dBin gAdd (dSl (dVar 0) (pSome (dVar 1)) (pNo)) (dSl (dVar 0) (pNo) (pSome (dVar 1)))))) (dNil)))
def f_law_round : List D → R D := fnD 2 f_law_round_den

def f_law_by_blocks_den : DS := sSeq (sAsg 3 (dMth isS gJoin (dC (.str ("" : Str))) (dCons (dFrz (oComp (iVal (dVar 2)) [4, 5] (gdTup [4, 5]) (noTest) (dBin gMul (dVar 4) (dVar 5)))) (dNil)))) (sSeq (sAsgO 6 (oComp (iVal (dCall p_walls (dCons (dVar 0) (dCons (dVar 1) (dNil))))) [7, 8, 9] (gdTup [7, 8, 9]) (noTest) (dVar 7))) (sSeq (sIf (dAnd (dTest (dBin gIx (dVar 0) (dC (.int 0)))) (dTest (dBin gNe (dVar 6) (dFrz (oLst (dNil)))))) (sSeq (sAsg 10 (dBin gAdd (dBin gIx (dVar 6) (dC (.int 0))) (dC (.int 1)))) (sIf (dOr (dTest (dBin gNe (dVar 3) (dBin gAdd (dSl (dVar 1) (pSome (dVar 10)) (pNo)) (dSl (dVar 1) (pNo) (pSome (dVar 10)))))) (dTest (dBin gNe (dApp gLen (dCons (dVar 2) (dNil))) (dApp gLen (dCons (dVar 6) (dNil)))))) (sRet (dC (.bl false))) (sNext))) (sIf (dOr (dTest (dBin gNe (dVar 3) (dVar 1))) (dTest (dBin gNe (dApp gLen (dCons (dVar 2) (dNil))) (dBin gAdd (dApp gLen (dCons (dVar 6) (dNil))) (dC (.int 1)))))) (sRet (dC (.bl false))) (sNext))) (sRet (dBin gEq (dFrz (oComp (iRange (dCons (dBin gSub (dApp gLen (dCons (dVar 2) (dNil))) (dC (.int 1))) (dNil))) [11] (gdName 11) (dTest (dBin gEq (dBin gIx (dBin gIx (dVar 2) (dVar 11)) (dC (.int 0))) (dBin gIx (dBin gIx (dVar 2) (dBin gAdd (dVar 11) (dC (.int 1)))) (dC (.int 0))))) (dVar 11))) (dFrz (oLst (dNil)))))))
def f_law_by_blocks : List D → R D := fnD 12 f_law_by_blocks_den

def law_den : DS := sSeq (sFor (iRange (dCons (dC (.int 2)) (dNil))) (gdName 2) (sSeq (sAsg 3 (dCallB f_law_plan 1 (dCons (dC (.int 12)) (dNil)))) (sSeq (sAsg 4 (dCallB f_law_cells 1 (dCons (dVar 3) (dNil)))) (sSeq (sAsgO 5 (oComp (iVal (dCall p_blocks (dCons (dVar 3) (dCons (dVar 4) (dNil))))) [6, 7] (gdTup [6, 7]) (noTest) (dVar 6))) (sFor (iRange (dCons (dCallB f_law_take 1 (dCons (dC (.int 60)) (dNil))) (dNil))) (gdName 8) (sSeq (sPar 9 10 (dCall p_blocks (dCons (dVar 3) (dCons (dVar 4) (dNil)))) (dCall f_law_turns (dCons (dVar 3) (dCons (dVar 4) (dNil))))) (sSeq (sAsgO 11 (oComp (iVal (dVar 9)) [6, 7] (gdTup [6, 7]) (noTest) (dVar 6))) (sSeq (sIf (dOr (dNot (dTest (dCall (f_law_alike 8) (dCons (dCall p_turns (dCons (dVar 3) (dCons (dVar 4) (dNil)))) (dCons (dVar 10) (dNil)))))) (dNot (dTest (dCall f_law_by_blocks (dCons (dVar 3) (dCons (dVar 4) (dCons (dVar 9) (dNil)))))))) (sRet (dC (.bl false))) (sNext)) (sSeq (sIf (dOr (dAnd (dTest (dBin gNe (dVar 11) (dVar 5))) (dNot (dTest (dBin gIx (dVar 3) (dC (.int 0)))))) (dTest (dBin gNe (dApp gLen (dCons (dVar 11) (dNil))) (dApp gLen (dCons (dVar 5) (dNil)))))) (sRet (dC (.bl false))) (sNext)) (sSeq (sIf (dAnd (dTest (dBin gIx (dVar 3) (dC (.int 0)))) (dTest (dBin gNe (dCall f_law_round (dCons (dVar 11) (dNil))) (dCall f_law_round (dCons (dVar 5) (dNil)))))) (sRet (dC (.bl false))) (sNext)) (sIf (dTest (dBin gNe (dVar 10) (dFrz (oLst (dNil))))) (sSeq (sTo (gdTup [12, 13, 14]) (dBin gIx (dVar 10) (dCallB f_law_take 1 (dCons (dApp gLen (dCons (dVar 10) (dNil))) (dNil))))) (sSeq (sTo (gdTup [15, 16]) (dTup (dCons (dCall p_walls (dCons (dVar 3) (dCons (dVar 4) (dNil)))) (dCons (dCall p_walls (dCons (dVar 3) (dCons (dVar 13) (dNil)))) (dNil))))) (sSeq (sPar 17 18 (dFrz (oComp (iVal (dVar 15)) [19] (gdName 19) (dTest (dBin gNotIn (dVar 19) (dVar 16))) (dVar 19))) (dFrz (oComp (iVal (dVar 16)) [19] (gdName 19) (dTest (dBin gNotIn (dVar 19) (dVar 15))) (dVar 19)))) (sSeq (sIf (dOr (dTest (dBin gNe (dApp gLen (dCons (dVar 17) (dNil))) (dC (.int 1)))) (dOr (dTest (dBin gNe (dApp gLen (dCons (dVar 18) (dNil))) (dC (.int 1)))) (dTest (dBin gNe (dSl (dBin gIx (dVar 17) (dC (.int 0))) (pSome (dC (.int 1))) (pNo)) (dSl (dBin gIx (dVar 18) (dC (.int 0))) (pSome (dC (.int 1))) (pNo)))))) (sRet (dC (.bl false))) (sNext)) (sSeq (sIf (dTest (dBin gNotIn (dApp gAbs (dCons (dBin gSub (dBin gIx (dBin gIx (dVar 17) (dC (.int 0))) (dC (.int 0))) (dBin gIx (dBin gIx (dVar 18) (dC (.int 0))) (dC (.int 0)))) (dNil))) (dTup (dCons (dC (.int 1)) (dCons (dBin gSub (dBin gIx (dVar 3) (dC (.int 1))) (dC (.int 1))) (dNil)))))) (sRet (dC (.bl false))) (sNext)) (sAsg 4 (dVar 13))))))) (sNext)))))))))))) (sRet (dC (.bl true)))

end WW
set_option Elab.async false
set_option linter.all false
set_option maxRecDepth 100000
set_option maxHeartbeats 4000000
namespace WW
namespace K20
open PySem PySem.Spec L2
def top (i : Nat) : Stmt := PySem.Challenge.pw_wallwalk_k20_whole_walls_keep_their_orde.main.body.getD i (.Pass ⟨0, 0, 0, 0⟩)
structure Txt (K : PySem.W.Frag) (mg : Str → Option Value) : Prop where
  abs : mg "abs" = none
  all : mg "all" = none
  tbool : mg "bool" = none
  tint : mg "int" = none
  isinstance : mg "isinstance" = none
  len : mg "len" = none
  tlist : mg "list" = none
  bmax : mg "max" = none
  bmin : mg "min" = none
  range : mg "range" = none
  sorted : mg "sorted" = none
  tstr : mg "str" = none
  ttuple : mg "tuple" = none
  zip : mg "zip" = none
  SIGNS : ∃ t, mg "SIGNS" = some (.str ("abcd" : Str) t)
  LEAST_CELLS : ∃ t, mg "LEAST_CELLS" = some (.int 3 t)
  MOST_CELLS : ∃ t, mg "MOST_CELLS" = some (.int 12 t)
  MOST_WEIGHT : ∃ t, mg "MOST_WEIGHT" = some (.int 9 t)
  PAIRS : GTup K mg "PAIRS" (["ab", "ac", "ad", "bc", "bd", "cd"] : List Str)
section
variable {P : Program} {w : World} {K : PySem.W.Frag} {mg : Str → Option Value} {base : Heap}
abbrev s_law_take : Stmt := top 27
theorem sc_law_take : FnScope (["_law_box", "_law_size", "_law_figure"] : List Str) (["_law_box", "_law_size"] : List Str) (defScope s_law_take) := ⟨rfl, rfl, rfl, by decide +kernel, rfl, by decide +kernel, by decide +kernel⟩
theorem ok_law_take {f : Addr} {fd : FuncData} (T : Txt K mg) (Fn : Fun K "_law_take" "_law_take" s_law_take f fd) : FnOk P w K mg base (L2.CX P w) 1 f fd (["_law_box", "_law_size"] : List Str) (spB K 1 f_law_take) := by
  refine Fn.okX (k := 0) sc_law_take (fun vs H Q E h => ?_) (fun cdv A outer s H vs Q E hr h => ?_)
  · obtain ⟨F, v0, vs', b, ds, A, rfl, _, rs, hl, _⟩ := h
    rw [List.length_cons, rs.len, hl]
    rfl
  · have u4 := hr.units
    refine ⟨_, pss_cons (ps_if (pt_cmpR (op_eqD u4) (pe_ix ix_list (pv 0) pe_int (fun _ _ => rfl)) (pe_lst pa_nil) (nomark _))
        (pss_cons (ps_asg (pe_op op_mod (pe_callTy call_int1 (by rfl) T.tint bt_int (pa_cons (pe_op op_mul (pe_ix ix_list (pv 0) pe_int (fun _ _ => rfl)) pe_int) pa_nil)) pe_int) (pg_sub (pv 0) pe_int set_list))
        (pss_one (ps_ret (pe_op op_mod (pe_callTy call_int1 (by rfl) T.tint bt_int (pa_cons (pe_op op_fdiv (pe_ix ix_list (pv 0) pe_int (fun _ _ => rfl)) pe_int) pa_nil)) (pv 1))))) pss_nil)
      (pss_cons (ps_set (i := 2) sc_law_take.nd rfl (by first | exact Or.inl rfl | exact Or.inr rfl) (pe_ix ix_list (pe_ix ix_list (pv 0) pe_int (fun _ _ => rfl)) pe_int (fun _ _ => rfl)))
      (pss_cons (ps_asg (pe_op op_fdiv (pv 2) (pv 1)) (pg_sub (pe_ix ix_list (pv 0) pe_int (fun _ _ => rfl)) pe_int set_list))
      (pss_cons (ps_if (PW.pt (pw_or (pt_cmpR op_eq (pe_ix ix_list (pe_ix ix_list (pv 0) pe_int (fun _ _ => rfl)) pe_int (fun _ _ => rfl)) pe_int (nomark _))
          (pw_or1 (pt_cmpR op_eq (pe_ix ix_list (pe_ix ix_list (pv 0) pe_int (fun _ _ => rfl)) pe_int (fun _ _ => rfl)) (pe_un un_neg pe_int) (nomark _)))))
          (pss_one (ps_expr (pe_bm PySem.F.plainAttrs_list PySem.F.slot_list_pop PySem.F.type_list_pop mt_popAt (pe_ix ix_list (pv 0) pe_int (fun _ _ => rfl)) (pa_cons pe_int pa_nil)))) pss_nil)
      (pss_one (ps_ret (pe_op op_mod (pe_callTy call_int1 (by rfl) T.tint bt_int (pa_cons (pv 2) pa_nil)) (pv 1))))))), ?_⟩
    obtain ⟨F, v0, vs', b, ds, A0, rfl, sm, rs, hl, ok, hA, d, b', o, fin⟩ := h
    obtain ⟨p, ns, st⟩ := b
    obtain ⟨q, rfl, npq, hAi, hp, hq⟩ := ok
    have hn : ∃ n, ds = [.int n] ∧ 0 < n ∧ n < SMALL ∧ d = .int (takeI (p, ns, st) n).1 ∧ b' = (takeI (p, ns, st) n).2 := by
      unfold f_law_take at o
      split at o
      · rename_i n
        by_cases c : 0 < n ∧ n < SMALL
        · rw [if_pos c] at o
          injection o with o
          injection o with o1 o2
          exact ⟨n, rfl, c.1, c.2, o1.symm, o2.symm⟩
        · rw [if_neg c] at o
          cases o
      · cases o
    obtain ⟨n, rfl, n0, n1, rfl, rfl⟩ := hn
    have n2 : n < 1073741824 := by
      unfold SMALL at n1
      omega
    obtain ⟨v, rfl, rv⟩ := reps1 rs
    rw [rv.int_inv]
    have fp : F p = none := hA p ((hAi p).mpr (.inl rfl))
    have fq : F q = none := hA q ((hAi q).mpr (.inr rfl))
    -- if box[0] == []
    refine ⟨.ref p, rfl, p, _, 0, .ref q, rfl, rfl, .inl (.inl hp), rfl, Nat.zero_le _, fun l hl0 => ?_⟩
    have npl : p ≠ l := ne_of_none hp hl0
    have nql : q ≠ l := ne_of_none hq hl0
    have hp1 : (upd H l (.lst [])) p = some (.lst [.ref q, .int st]) := by rw [upd_ne npl]; exact hp
    have hq1 : (upd H l (.lst [])) q = some (.lst (ns.map V.int)) := by rw [upd_ne nql]; exact hq
    refine ⟨_, _, dp_ints ns hq1, .lst (.inl (.inl upd_same)) .nil, shaped_ints ns, by decide, _, rfl, ?_⟩
    rw [eqv_ints_nil]
    have ext : ∀ (H' : Hp), (∀ a, ¬ A0 a → H' a = (upd H l (.lst [])) a) → (∀ a, A0 a → ∃ o, H' a = some o) → Ext A0 F H F H' := fun H' h1 h2 =>
      ⟨fun a o ha => by
        have na : ¬ A0 a := fun z => by rw [hA a z] at ha; cases ha
        rw [h1 a na, upd_ne (ne_of_none (sm a o ha) hl0)]
        exact sm a o ha, Same.refl _, fun a o ha na => by rw [h1 a na, upd_ne (ne_of_none ha hl0)]; exact ha,
       fun a o ha => by
        by_cases c : A0 a
        · exact h2 a c
        · exact ⟨o, by rw [h1 a c, upd_ne (ne_of_none ha hl0)]; exact ha⟩, fun a o ha => .inl ha⟩
    cases ns with
    | nil =>
      refine iteT ?_
      refine ⟨.ref p, rfl, p, _, 1, .int st, rfl, rfl, .inl (.inl hp1), rfl, st, 48271, rfl, rfl, .inr ⟨by decide, by decide⟩, .inl ⟨_, rfl, _, 2147483647, rfl, rfl, (by show (0 : Int) < 2147483647; decide), .ref p, rfl, p, _, 1, 1, rfl, rfl, hp1, rfl, ?_⟩⟩
      refine ⟨.ref p, rfl, p, _, 1, .int (st * 48271 % 2147483647), rfl, rfl, .inl (.inl upd_same), rfl, _, 7, rfl, rfl, ⟨by decide, by decide⟩, .inl ⟨_, rfl, .int n, rfl, _, n, rfl, rfl, n0, ?_⟩⟩
      refine fin F _ _ A0 (ext _ (fun a na => upd_ne fun z => na ((hAi a).mpr (.inl z))) fun a ha => ?_) ⟨q, rfl, npq, hAi, upd_same, by rw [upd_ne npq.symm]; exact hq1⟩ (fun a ha => ⟨hA a ha, .inl ha⟩) (.int _)
      rcases (hAi a).mp ha with z | z
      · rw [z]; exact ⟨_, upd_same⟩
      · rw [z]; exact ⟨_, by rw [upd_ne npq.symm]; exact hq1⟩
    | cons k r =>
      refine iteF ?_
      refine ⟨.ref p, rfl, p, _, 0, .ref q, rfl, rfl, .inl (.inl hp1), rfl, q, _, 0, .int k, rfl, rfl, .inl (.inl hq1), atI_nat (j := 0) rfl, ?_⟩
      refine ⟨.int k, rfl, .int n, rfl, k, n, rfl, rfl, ⟨n0, n2⟩, .ref p, rfl, p, _, 0, .ref q, rfl, rfl, .inl (.inl hp1), rfl, q, _, 0, 0, rfl, rfl, hq1, ?_, ?_⟩
      · unfold ixN
        rw [if_pos (by decide), if_pos (by rw [List.length_map, List.length_cons]; omega)]
        rfl
      have hp2 : (upd (upd H l (.lst [])) q (.lst (((k :: r).map V.int).set 0 (.int (k / n))))) p = some (.lst [.ref q, .int st]) := by rw [upd_ne npq]; exact hp1
      have hend : ∀ (r' : List Int) (H2 : Hp), (∀ a, ¬ A0 a → H2 a = (upd H l (.lst [])) a) → H2 p = some (.lst [.ref q, .int st]) → H2 q = some (.lst (r'.map V.int)) → (if k / n = 0 ∨ k / n = -1 then r else (k / n) :: r) = r' → Q (.int (k % n)) H2 := fun r' H2 h1 h2 h3 h4 => by
        refine fin F H2 _ A0 (ext _ h1 fun a ha => ?_) ⟨q, rfl, npq, hAi, h2, ?_⟩ (fun a ha => ⟨hA a ha, .inl ha⟩) (.int _)
        · rcases (hAi a).mp ha with z | z
          · rw [z]; exact ⟨_, h2⟩
          · rw [z]; exact ⟨_, h3⟩
        · show H2 q = some (.lst ((if k / n = 0 ∨ k / n = -1 then r else (k / n) :: r).map V.int))
          rw [h4]
          exact h3
      have hoff : ∀ a, ¬ A0 a → a ≠ q := fun a na z => na ((hAi a).mpr (.inr z))
      refine ⟨.ref p, rfl, p, _, 0, .ref q, rfl, rfl, .inl (.inl hp2), rfl, q, _, 0, .int (k / n), rfl, rfl, .inl (.inl upd_same), atI_nat (j := 0) rfl, rfl, _, rfl, ite2 (fun c => ?_) (fun c => ?_)⟩
      · have c0 : k / n = 0 := V.int.inj (of_decide_eq_true c)
        refine iteT ⟨.ref p, rfl, p, _, 0, .ref q, rfl, rfl, .inl (.inl hp2), rfl, .inl ⟨rfl, _, .inl (.inl upd_same)⟩, q, _, 0, 0, .int (k / n), rfl, rfl, upd_same, by decide, by decide, ?_, rfl, ?_⟩
        · rw [show (((k :: r).map V.int).set 0 (.int (k / n))).length = r.length + 1 by simp]
          unfold seqIndex?
          simp
        · refine ⟨.int k, rfl, .inl ⟨_, rfl, .int n, rfl, k, n, rfl, rfl, n0, hend r _ (fun a na => by rw [upd_ne (hoff a na), upd_ne (hoff a na)]) (by rw [upd_ne npq]; exact hp2) upd_same (if_pos (.inl c0))⟩⟩
      · have c0 : ¬ k / n = 0 := fun z => c (decide_eq_true (by rw [z]))
        refine ⟨.ref p, rfl, p, _, 0, .ref q, rfl, rfl, .inl (.inl hp2), rfl, q, _, 0, .int (k / n), rfl, rfl, .inl (.inl upd_same), atI_nat (j := 0) rfl, _, rfl, rfl, _, rfl, ite2 (fun c2 => ?_) (fun c2 => ?_)⟩
        · have c1 : k / n = -1 := V.int.inj (of_decide_eq_true c2)
          refine ⟨.ref p, rfl, p, _, 0, .ref q, rfl, rfl, .inl (.inl hp2), rfl, .inl ⟨rfl, _, .inl (.inl upd_same)⟩, q, _, 0, 0, .int (k / n), rfl, rfl, upd_same, by decide, by decide, ?_, rfl, ?_⟩
          · rw [show (((k :: r).map V.int).set 0 (.int (k / n))).length = r.length + 1 by simp]
            unfold seqIndex?
            simp
          · refine ⟨.int k, rfl, .inl ⟨_, rfl, .int n, rfl, k, n, rfl, rfl, n0, hend r _ (fun a na => by rw [upd_ne (hoff a na), upd_ne (hoff a na)]) (by rw [upd_ne npq]; exact hp2) upd_same (if_pos (.inr c1))⟩⟩
        · have c1 : ¬ k / n = -1 := fun z => c2 (decide_eq_true (by rw [z]))
          refine ⟨.int k, rfl, .inl ⟨_, rfl, .int n, rfl, k, n, rfl, rfl, n0, hend ((k / n) :: r) _ (fun a na => upd_ne (hoff a na)) hp2 upd_same (if_neg (by simp [c0, c1]))⟩⟩

abbrev s_law_begun : Stmt := top 26
theorem sc_law_begun : FnScope (["_law_script", "_law_stirred", "_law_cell"] : List Str) (["_law_script"] : List Str) (defScope s_law_begun) := ⟨rfl, rfl, rfl, by decide +kernel, rfl, by decide +kernel, by decide +kernel⟩
theorem ok_law_begun {f : Addr} {fd : FuncData} (T : Txt K mg) (Fn : Fun K "_law_begun" "_law_begun" s_law_begun f fd) : FnOk P w K mg base (L2.CX P w) 1 f fd (["_law_script"] : List Str) (spBegun K) := by
  refine Fn.okX (k := 0) sc_law_begun (fun vs H Q E h => ?_) (fun cdv A outer s H vs Q E hr h => ?_)
  · obtain ⟨a, ns, rfl, _⟩ := h
    rfl
  · refine ⟨_, pss_cons (ps_set (i := 1) sc_law_begun.nd rfl (by first | exact Or.inl rfl | exact Or.inr rfl) pe_int)
      (pss_cons (ps_for (passes_of rfl) rfl (pi_list (pv 0)) (pg_name (i := 2) sc_law_begun.nd rfl (by first | exact Or.inl rfl | exact Or.inr rfl))
        (pss_one (ps_set (i := 1) sc_law_begun.nd rfl (by first | exact Or.inl rfl | exact Or.inr rfl) (pe_op op_mod (pe_callTy call_int1 (by rfl) T.tint bt_int (pa_cons (pe_op op_add (pe_op op_add (pe_op op_mul (pv 1) pe_int) (pe_op op_mul (pv 2) pe_int)) pe_int) pa_nil)) pe_int))))
      (pss_one (ps_ret (pe_lst (pa_cons (pe_callTy call_list_of (by rfl) T.tlist bt_list (pa_cons (pv 0) pa_nil))
        (pa_cons (pe_op op_mul (pv 1) (pe_callTy call_int1 (by rfl) T.tint bt_int (pa_cons (pe_cmpR op_gt (pe_callB call_len_seq (by rfl) T.len bt_len (pa_cons (pv 0) pa_nil)) pe_int (nomark _)) pa_nil))) pa_nil)))))), ?_⟩
    obtain ⟨a, ns, rfl, hS, hlen, fin⟩ := h
    refine ⟨.ref a, rfl, a, rfl, ⟨_, hS⟩, for_list (K := K) (a := a) (xs := ns.map V.int) (fun i σ H' => H' = H ∧ ∃ v, σ = [some (.ref a), some (.int (stirI (ns.take i))), v]) ⟨rfl, none, rfl⟩ (fun i σ H' _ ⟨e, _⟩ => by rw [e]; exact hS) ?_ ?_⟩
    · rintro i y σ H' hi ⟨rfl, v, rfl⟩
      obtain ⟨z, hz, rfl⟩ : ∃ z, ns[i]? = some z ∧ y = V.int z := by
        rw [List.getElem?_map] at hi
        cases e : ns[i]? with
        | none => rw [e] at hi; cases hi
        | some z => rw [e] at hi; exact ⟨z, rfl, (Option.some.inj hi).symm⟩
      refine ⟨.int (stirI (ns.take i)), rfl, _, 48271, rfl, rfl, .inr ⟨by decide, by decide⟩, .int z, rfl, z, 69621, rfl, rfl, .inr ⟨by decide, by decide⟩, _, _, rfl, rfl, _, 11, rfl, rfl, .inl ⟨_, rfl, _, 2147483647, rfl, rfl, (by show (0 : Int) < 2147483647; decide), rfl, some (.int z), ?_⟩⟩
      have e : stirI (ns.take (i + 1)) = (stirI (ns.take i) * 48271 + z * 69621 + 11) % 2147483647 := by
        unfold stirI
        rw [List.take_add_one, hz, List.foldl_append]
        rfl
      rw [e]
      rfl
    · rintro σ H' ⟨rfl, v, rfl⟩
      rw [List.length_map, List.take_length]
      refine ⟨.ref a, rfl, a, _, rfl, .inl hS, fun q hq => ?_⟩
      have hS' : SqL K (upd H' q (.lst (ns.map V.int))) a (ns.map V.int) := by
        rcases hS with (h | ⟨o, h⟩) | h
        · exact .inl (.inl (by rw [upd_ne (ne_of_none h hq)]; exact h))
        · exact .inl (.inr ⟨o, by rw [upd_ne (ne_of_none h hq)]; exact h⟩)
        · exact .inr h
      refine ⟨.int (stirI ns), rfl, .ref a, rfl, a, _, rfl, .inl hS', _, 2, rfl, rfl, .inr ⟨_, rfl, ?_⟩⟩
      refine ⟨_, _, rfl, rfl, ?_, (by show 2 ≤ sizeLine; decide), fun p hp => ?_⟩
      · refine .inr ?_
        rw [List.length_map]
        by_cases c : (2 : Int) < (ns.length : Int)
        · rw [decide_eq_true c]
          exact ⟨by decide, by decide⟩
        · rw [decide_eq_false c]
          exact ⟨by decide, by decide⟩
      · have npq : p ≠ q := fun z => by
          rw [z, upd_same] at hp
          cases hp
        have hpH : H' p = none := by
          rw [upd_ne npq] at hp
          exact hp
        refine fin _ p (fun b => b = p ∨ b = q) (fun b o hb => ?_) ⟨q, rfl, npq, fun b => Iff.rfl, ?_, ?_⟩ (fun b hb => ?_)
        · rw [upd_ne (ne_of_none hb hpH), upd_ne (ne_of_none hb hq)]
          exact hb
        · rw [upd_same]
          unfold begunI
          rw [List.length_map]
        · rw [upd_ne npq.symm, upd_same]
        · rcases hb with z | z
          · rw [z]; exact hpH
          · rw [z]; exact hq

abbrev s_law_alike : Stmt := top 28
theorem sc_law_alike : FnScope (["_law_found", "_law_due", "_law_k"] : List Str) (["_law_found", "_law_due"] : List Str) (defScope s_law_alike) := ⟨rfl, rfl, rfl, by decide +kernel, rfl, by decide +kernel, by decide +kernel⟩
theorem ok_law_alike {f : Addr} {fd : FuncData} (T : Txt K mg) (Fn : Fun K "_law_alike" "_law_alike" s_law_alike f fd) (hm : mg "_law_alike" = some (.ref f)) (hb : Binds K fd (["_law_found", "_law_due"] : List Str) []) : ∀ n : Nat, FnOk P w K mg base (L2.CX P w) n f fd (["_law_found", "_law_due"] : List Str) (spD K 2 (f_law_alike n))
  | 0 => ⟨fun _ _ _ _ ⟨_, _, _, _, _, h⟩ => h.elim, fun _ _ _ _ _ _ _ _ _ _ _ _ _ ⟨_, _, _, _, _, h⟩ => h.elim⟩
  | n + 1 => by
    have ih := ok_law_alike T Fn hm hb n
    have Gself : GFn P w K mg base "_law_alike" n (["_law_found", "_law_due"] : List Str) (spD K 2 (f_law_alike n)) := ⟨f, fd, ih, hm, Fn.kp, hb⟩
    exact okD (k := n) Fn sc_law_alike 2 rfl 3 rfl fun cdv A outer s H E hr => by
      have tk : Takes (cxOf (L2.CX P w) P w K mg base (["_law_found", "_law_due", "_law_k"] : List Str) "_law_alike" (defScope s_law_alike) f cdv A outer s H E) (fun c d _ H => E c d H) := takes_of rfl rfl rfl rfl
      have u4 := hr.units
      have u5 := u65 hr
      exact ds_cons (ds_if (t_isN (dx_var 1) (dx_non)) (ds_one (ds_ret (x_isN (dx_var 0) (dx_non)))) (ds_nil)) (ds_cons (ds_if (dt_val (dx_isi "bool" (by rfl) T.isinstance (by rfl) T.tbool bt_bool (dx_var 1))) (ds_one (ds_ret (dx_and (dx_isi "bool" (by rfl) T.isinstance (by rfl) T.tbool bt_bool (dx_var 0)) (dx_one (x_eq u4 (dx_var 0) (dx_var 1)))))) (ds_nil)) (ds_cons (ds_if (dt_val (dx_isi "int" (by rfl) T.isinstance (by rfl) T.tint bt_int (dx_var 1))) (ds_one (ds_ret (dx_and (dx_isi "int" (by rfl) T.isinstance (by rfl) T.tint bt_int (dx_var 0)) (dx_and (dx_not (dx_isi "bool" (by rfl) T.isinstance (by rfl) T.tbool bt_bool (dx_var 0))) (dx_one (x_eq u4 (dx_var 0) (dx_var 1))))))) (ds_nil)) (ds_cons (ds_if (dt_val (dx_isi "str" (by rfl) T.isinstance (by rfl) T.tstr bt_str (dx_var 1))) (ds_one (ds_ret (dx_and (dx_isi "str" (by rfl) T.isinstance (by rfl) T.tstr bt_str (dx_var 0)) (dx_one (x_eq u4 (dx_var 0) (dx_var 1)))))) (ds_nil)) (ds_cons (ds_if (PW.pt (dw_or (t_ne u4 (dx_isi "tuple" (by rfl) T.isinstance (by rfl) T.ttuple bt_tuple (dx_var 1)) (dx_isi "tuple" (by rfl) T.isinstance (by rfl) T.ttuple bt_tuple (dx_var 0))) (dw_or1 (t_ne u4 (dx_isi "list" (by rfl) T.isinstance (by rfl) T.tlist bt_list (dx_var 1)) (dx_isi "list" (by rfl) T.isinstance (by rfl) T.tlist bt_list (dx_var 0)))))) (ds_one (ds_ret (dx_bl))) (ds_nil)) (ds_cons (ds_if (t_ne u4 (dx_callB call_len vr_len nx_len (by rfl) T.len bt_len (da_cons (dx_var 0) (da_nil))) (dx_callB call_len vr_len nx_len (by rfl) T.len bt_len (da_cons (dx_var 1) (da_nil)))) (ds_one (ds_ret (dx_bl))) (ds_nil)) (ds_cons (ds_for (passes_of rfl) rfl (di_range1 (by rfl) T.range (da_cons (dx_callB call_len vr_len nx_len (by rfl) T.len bt_len (da_cons (dx_var 1) (da_nil))) (da_nil)) (len_cons len0)) (dg_name (i := 2) sc_law_alike.nd rfl (by first | exact Or.inl rfl | exact Or.inr rfl)) (ds_one (ds_if (dt_not (dt_val (dx_callG Gself hr (Nat.le_refl _) tk (by rfl) (da_cons (dx_ix (dx_var 0) (dx_var 2) (fun _ _ => rfl)) (da_cons (dx_ix (dx_var 1) (dx_var 2) (fun _ _ => rfl)) (da_nil))) (len_cons (len_cons len0))))) (ds_one (ds_ret (dx_bl))) (ds_nil)))) (ds_one (ds_ret (dx_bl)))))))))

abbrev sis_number : Stmt := top 10
theorem scis_number : FnScope (["part", "low", "high"] : List Str) (["part", "low", "high"] : List Str) (defScope sis_number) := ⟨rfl, rfl, rfl, by decide +kernel, rfl, by decide +kernel, by decide +kernel⟩
theorem okis_number {f : Addr} {fd : FuncData} (T : Txt K mg) (Fn : Fun K "is_number" "is_number" sis_number f fd)  : FnOk P w K mg base (L2.CX P w) 1 f fd (["part", "low", "high"] : List Str) (spD K 3 p_is_number) :=
  okD (k := 0) Fn scis_number 3 rfl 3 rfl fun cdv A outer s H E hr => by
    have tk : Takes (cxOf (L2.CX P w) P w K mg base (["part", "low", "high"] : List Str) "is_number" (defScope sis_number) f cdv A outer s H E) (fun c d _ H => E c d H) := takes_of rfl rfl rfl rfl
    have u4 := hr.units
    have u5 := u65 hr
    exact ds_one (ds_ret (dx_and (dx_isi "int" (by rfl) T.isinstance (by rfl) T.tint bt_int (dx_var 0)) (dx_and (dx_not (dx_isi "bool" (by rfl) T.isinstance (by rfl) T.tbool bt_bool (dx_var 0))) (dx_one (x_lele (dx_var 1) (dx_var 0) (dx_var 2))))))

abbrev sare_frozen : Stmt := top 11
theorem scare_frozen : FnScope (["frozen", "many", "cell", "one", "other"] : List Str) (["frozen", "many"] : List Str) (defScope sare_frozen) := ⟨rfl, rfl, rfl, by decide +kernel, rfl, by decide +kernel, by decide +kernel⟩
theorem okare_frozen {f : Addr} {fd : FuncData} (T : Txt K mg) (Fn : Fun K "are_frozen" "are_frozen" sare_frozen f fd) (Gis_number : GFn P w K mg base "is_number" 1 ["part", "low", "high"] (spD K 3 p_is_number)) : FnOk P w K mg base (L2.CX P w) 2 f fd (["frozen", "many"] : List Str) (spD K 2 p_are_frozen) :=
  okD (k := 1) Fn scare_frozen 2 rfl 5 rfl fun cdv A outer s H E hr => by
    have tk : Takes (cxOf (L2.CX P w) P w K mg base (["frozen", "many", "cell", "one", "other"] : List Str) "are_frozen" (defScope sare_frozen) f cdv A outer s H E) (fun c d _ H => E c d H) := takes_of rfl rfl rfl rfl
    have u4 := hr.units
    have u5 := u65 hr
    exact ds_cons (ds_if (PW.pt (dw_or (dt_not (dt_val (dx_isi "tuple" (by rfl) T.isinstance (by rfl) T.ttuple bt_tuple (dx_var 0)))) (dw_or1 (dt_not (dt_val (dx_callB (cr_all rfl) vr_all nx_all (by rfl) T.all bt_all (da_cons (dx_frz (ox_comp (own := [(("cell" : Str), 2)]) (is := [2]) rfl scare_frozen.nd (di_val (dx_var 0)) (blkOk_by (N := (["frozen", "many", "cell", "one", "other"] : List Str)) (sc := defScope sare_frozen) (by decide +kernel)) (fun _ _ _ _ _ => dg_name (i := 2) scare_frozen.nd rfl (by first | exact Or.inl rfl | exact Or.inr rfl)) (fun _ _ _ _ _ => dt_nil) (fun _ _ _ _ _ => dx_callG Gis_number hr (by decide) takesF (by rfl) (da_cons (dx_var 2) (da_cons (dx_int) (da_cons (x_sub (dx_var 1) (dx_int)) (da_nil)))) (len_cons (len_cons (len_cons len0)))))) (da_nil)))))))) (ds_one (ds_ret (dx_bl))) (ds_nil)) (ds_one (ds_ret (dx_callB (cr_all rfl) vr_all nx_all (by rfl) T.all bt_all (da_cons (dx_frz (ox_comp (own := [(("one" : Str), 3), (("other" : Str), 4)]) (is := [3, 4]) rfl scare_frozen.nd (di_zip (by rfl) T.zip (da_cons (dx_var 0) (da_cons (dx_slice (dx_var 0) (dp_some (dx_int)) (dp_none)) (da_nil))) (len_cons (len_cons len0))) (blkOk_by (N := (["frozen", "many", "cell", "one", "other"] : List Str)) (sc := defScope sare_frozen) (by decide +kernel)) (fun _ _ _ _ _ => dg_tup rfl (dgs_cons (i := 3) scare_frozen.nd rfl (by first | exact Or.inl rfl | exact Or.inr rfl) (dgs_cons (i := 4) scare_frozen.nd rfl (by first | exact Or.inl rfl | exact Or.inr rfl) (dgs_nil)))) (fun _ _ _ _ _ => dt_nil) (fun _ _ _ _ _ => x_lt (dx_var 3) (dx_var 4)))) (da_nil)))))

abbrev sare_weights : Stmt := top 12
theorem scare_weights : FnScope (["weights", "weight"] : List Str) (["weights"] : List Str) (defScope sare_weights) := ⟨rfl, rfl, rfl, by decide +kernel, rfl, by decide +kernel, by decide +kernel⟩
theorem okare_weights {f : Addr} {fd : FuncData} (T : Txt K mg) (Fn : Fun K "are_weights" "are_weights" sare_weights f fd) (Gis_number : GFn P w K mg base "is_number" 1 ["part", "low", "high"] (spD K 3 p_is_number)) : FnOk P w K mg base (L2.CX P w) 2 f fd (["weights"] : List Str) (spD K 1 p_are_weights) :=
  okD (k := 1) Fn scare_weights 1 rfl 2 rfl fun cdv A outer s H E hr => by
    have tk : Takes (cxOf (L2.CX P w) P w K mg base (["weights", "weight"] : List Str) "are_weights" (defScope sare_weights) f cdv A outer s H E) (fun c d _ H => E c d H) := takes_of rfl rfl rfl rfl
    have u4 := hr.units
    have u5 := u65 hr
    exact ds_cons (ds_if (PW.pt (dw_or (dt_not (dt_val (dx_isi "tuple" (by rfl) T.isinstance (by rfl) T.ttuple bt_tuple (dx_var 0)))) (dw_or1 (t_ne u4 (dx_callB call_len vr_len nx_len (by rfl) T.len bt_len (da_cons (dx_var 0) (da_nil))) (dx_callB call_len vr_len nx_len (by rfl) T.len bt_len (da_cons (dx_gtup (by rfl) T.PAIRS) (da_nil))))))) (ds_one (ds_ret (dx_bl))) (ds_nil)) (ds_one (ds_ret (dx_callB (cr_all rfl) vr_all nx_all (by rfl) T.all bt_all (da_cons (dx_frz (ox_comp (own := [(("weight" : Str), 1)]) (is := [1]) rfl scare_weights.nd (di_val (dx_var 0)) (blkOk_by (N := (["weights", "weight"] : List Str)) (sc := defScope sare_weights) (by decide +kernel)) (fun _ _ _ _ _ => dg_name (i := 1) scare_weights.nd rfl (by first | exact Or.inl rfl | exact Or.inr rfl)) (fun _ _ _ _ _ => dt_nil) (fun _ _ _ _ _ => dx_callG Gis_number hr (by decide) takesF (by rfl) (da_cons (dx_var 1) (da_cons (dx_int) (da_cons (dx_gint (by rfl) T.MOST_WEIGHT) (da_nil)))) (len_cons (len_cons (len_cons len0)))))) (da_nil)))))

abbrev sneed_plan : Stmt := top 13
theorem scneed_plan : FnScope (["plan", "is_round", "many", "frozen", "weights"] : List Str) (["plan"] : List Str) (defScope sneed_plan) := ⟨rfl, rfl, rfl, by decide +kernel, rfl, by decide +kernel, by decide +kernel⟩
theorem okneed_plan {f : Addr} {fd : FuncData} (T : Txt K mg) (Fn : Fun K "need_plan" "need_plan" sneed_plan f fd) (Gare_frozen : GFn P w K mg base "are_frozen" 2 ["frozen", "many"] (spD K 2 p_are_frozen)) (Gare_weights : GFn P w K mg base "are_weights" 2 ["weights"] (spD K 1 p_are_weights)) (Gis_number : GFn P w K mg base "is_number" 1 ["part", "low", "high"] (spD K 3 p_is_number)) : FnOk P w K mg base (L2.CX P w) 3 f fd (["plan"] : List Str) (spD K 1 p_need_plan) :=
  okD (k := 2) Fn scneed_plan 1 rfl 5 rfl fun cdv A outer s H E hr => by
    have tk : Takes (cxOf (L2.CX P w) P w K mg base (["plan", "is_round", "many", "frozen", "weights"] : List Str) "need_plan" (defScope sneed_plan) f cdv A outer s H E) (fun c d _ H => E c d H) := takes_of rfl rfl rfl rfl
    have u4 := hr.units
    have u5 := u65 hr
    exact ds_cons (ds_if (PW.pt (dw_or (dt_not (dt_val (dx_isi "tuple" (by rfl) T.isinstance (by rfl) T.ttuple bt_tuple (dx_var 0)))) (dw_or1 (t_ne u4 (dx_callB call_len vr_len nx_len (by rfl) T.len bt_len (da_cons (dx_var 0) (da_nil))) (dx_int))))) (ds_one (ds_never)) (ds_nil)) (ds_cons (ds_to (is := [1, 2, 3, 4]) (dg_tup rfl (dgs_cons (i := 1) scneed_plan.nd rfl (by first | exact Or.inl rfl | exact Or.inr rfl) (dgs_cons (i := 2) scneed_plan.nd rfl (by first | exact Or.inl rfl | exact Or.inr rfl) (dgs_cons (i := 3) scneed_plan.nd rfl (by first | exact Or.inl rfl | exact Or.inr rfl) (dgs_cons (i := 4) scneed_plan.nd rfl (by first | exact Or.inl rfl | exact Or.inr rfl) (dgs_nil)))))) (dx_var 0)) (ds_cons (ds_if (dt_not (dt_val (dx_isi "bool" (by rfl) T.isinstance (by rfl) T.tbool bt_bool (dx_var 1)))) (ds_one (ds_never)) (ds_nil)) (ds_cons (ds_if (dt_not (dt_val (dx_callG Gis_number hr (by decide) tk (by rfl) (da_cons (dx_var 2) (da_cons (dx_gint (by rfl) T.LEAST_CELLS) (da_cons (dx_gint (by rfl) T.MOST_CELLS) (da_nil)))) (len_cons (len_cons (len_cons len0)))))) (ds_one (ds_never)) (ds_nil)) (ds_cons (ds_if (dt_not (dt_val (dx_callG Gare_frozen hr (by decide) tk (by rfl) (da_cons (dx_var 3) (da_cons (dx_var 2) (da_nil))) (len_cons (len_cons len0))))) (ds_one (ds_never)) (ds_nil)) (ds_one (ds_if (dt_not (dt_val (dx_callG Gare_weights hr (by decide) tk (by rfl) (da_cons (dx_var 4) (da_nil)) (len_cons len0)))) (ds_one (ds_never)) (ds_nil)))))))

abbrev sneed_cells : Stmt := top 14
theorem scneed_cells : FnScope (["plan", "cells", "sign"] : List Str) (["plan", "cells"] : List Str) (defScope sneed_cells) := ⟨rfl, rfl, rfl, by decide +kernel, rfl, by decide +kernel, by decide +kernel⟩
theorem okneed_cells {f : Addr} {fd : FuncData} (T : Txt K mg) (Fn : Fun K "need_cells" "need_cells" sneed_cells f fd)  : FnOk P w K mg base (L2.CX P w) 1 f fd (["plan", "cells"] : List Str) (spD K 2 p_need_cells) :=
  okD (k := 0) Fn scneed_cells 2 rfl 3 rfl fun cdv A outer s H E hr => by
    have tk : Takes (cxOf (L2.CX P w) P w K mg base (["plan", "cells", "sign"] : List Str) "need_cells" (defScope sneed_cells) f cdv A outer s H E) (fun c d _ H => E c d H) := takes_of rfl rfl rfl rfl
    have u4 := hr.units
    have u5 := u65 hr
    exact ds_one (ds_if (PW.pt (dw_or (dt_not (dt_val (dx_isi "str" (by rfl) T.isinstance (by rfl) T.tstr bt_str (dx_var 1)))) (dw_or (t_ne u4 (dx_callB call_len vr_len nx_len (by rfl) T.len bt_len (da_cons (dx_var 1) (da_nil))) (dx_ix (dx_var 0) (dx_int) (fun _ _ => rfl))) (dw_or1 (dt_not (dt_val (dx_callB (cr_all rfl) vr_all nx_all (by rfl) T.all bt_all (da_cons (dx_frz (ox_comp (own := [(("sign" : Str), 2)]) (is := [2]) rfl scneed_cells.nd (di_val (dx_var 1)) (blkOk_by (N := (["plan", "cells", "sign"] : List Str)) (sc := defScope sneed_cells) (by decide +kernel)) (fun _ _ _ _ _ => dg_name (i := 2) scneed_cells.nd rfl (by first | exact Or.inl rfl | exact Or.inr rfl)) (fun _ _ _ _ _ => dt_nil) (fun _ _ _ _ _ => x_in u5 (dx_var 2) (dx_gstr (by rfl) T.SIGNS)))) (da_nil))))))))) (ds_one (ds_never)) (ds_nil))

abbrev sweight_of : Stmt := top 15
theorem scweight_of : FnScope (["plan", "one", "other"] : List Str) (["plan", "one", "other"] : List Str) (defScope sweight_of) := ⟨rfl, rfl, rfl, by decide +kernel, rfl, by decide +kernel, by decide +kernel⟩
theorem okweight_of {f : Addr} {fd : FuncData} (T : Txt K mg) (Fn : Fun K "weight_of" "weight_of" sweight_of f fd)  : FnOk P w K mg base (L2.CX P w) 1 f fd (["plan", "one", "other"] : List Str) (spD K 3 p_weight_of) :=
  okD (k := 0) Fn scweight_of 3 rfl 3 rfl fun cdv A outer s H E hr => by
    have tk : Takes (cxOf (L2.CX P w) P w K mg base (["plan", "one", "other"] : List Str) "weight_of" (defScope sweight_of) f cdv A outer s H E) (fun c d _ H => E c d H) := takes_of rfl rfl rfl rfl
    have u4 := hr.units
    have u5 := u65 hr
    exact ds_one (ds_ret (dx_ix (dx_ix (dx_var 0) (dx_int) (fun _ _ => rfl)) (dx_gtupIx (by rfl) T.PAIRS (x_add (dx_callB (cr_min2 rfl) vr_min2 nx_min2 (by rfl) T.bmin bt_min (da_cons (dx_var 1) (da_cons (dx_var 2) (da_nil)))) (dx_callB (cr_max2 rfl) vr_max2 nx_max2 (by rfl) T.bmax bt_max (da_cons (dx_var 1) (da_cons (dx_var 2) (da_nil)))))) (fun _ _ => rfl)))

abbrev sbeside : Stmt := top 16
theorem scbeside : FnScope (["plan", "cells", "cell", "is_round", "many", "frozen", "weights"] : List Str) (["plan", "cells", "cell"] : List Str) (defScope sbeside) := ⟨rfl, rfl, rfl, by decide +kernel, rfl, by decide +kernel, by decide +kernel⟩
theorem okbeside {f : Addr} {fd : FuncData} (T : Txt K mg) (Fn : Fun K "beside" "beside" sbeside f fd)  : FnOk P w K mg base (L2.CX P w) 1 f fd (["plan", "cells", "cell"] : List Str) (spD K 3 p_beside) :=
  okD (k := 0) Fn scbeside 3 rfl 7 rfl fun cdv A outer s H E hr => by
    have tk : Takes (cxOf (L2.CX P w) P w K mg base (["plan", "cells", "cell", "is_round", "many", "frozen", "weights"] : List Str) "beside" (defScope sbeside) f cdv A outer s H E) (fun c d _ H => E c d H) := takes_of rfl rfl rfl rfl
    have u4 := hr.units
    have u5 := u65 hr
    exact ds_cons (ds_to (is := [3, 4, 5, 6]) (dg_tup rfl (dgs_cons (i := 3) scbeside.nd rfl (by first | exact Or.inl rfl | exact Or.inr rfl) (dgs_cons (i := 4) scbeside.nd rfl (by first | exact Or.inl rfl | exact Or.inr rfl) (dgs_cons (i := 5) scbeside.nd rfl (by first | exact Or.inl rfl | exact Or.inr rfl) (dgs_cons (i := 6) scbeside.nd rfl (by first | exact Or.inl rfl | exact Or.inr rfl) (dgs_nil)))))) (dx_var 0)) (ds_cons (ds_if (PW.pt (dw_and (dt_not (dt_val (dx_var 3))) (dw_and1 (t_in u5 (dx_var 2) (dx_tup (da_cons (dx_int) (da_cons (x_sub (dx_var 4) (dx_int)) (da_nil)))))))) (ds_one (ds_ret (dx_non))) (ds_nil)) (ds_one (ds_ret (dx_tup (da_cons (dx_ix (dx_var 1) (x_sub (dx_var 2) (dx_int)) (fun _ _ => rfl)) (da_cons (dx_ix (dx_var 1) (x_mod (x_add (dx_var 2) (dx_int)) (dx_var 4)) (fun _ _ => rfl)) (da_nil)))))))

abbrev sturned : Stmt := top 17
theorem scturned : FnScope (["plan", "cells", "cell", "pair"] : List Str) (["plan", "cells", "cell"] : List Str) (defScope sturned) := ⟨rfl, rfl, rfl, by decide +kernel, rfl, by decide +kernel, by decide +kernel⟩
theorem okturned {f : Addr} {fd : FuncData} (T : Txt K mg) (Fn : Fun K "turned" "turned" sturned f fd) (Gbeside : GFn P w K mg base "beside" 1 ["plan", "cells", "cell"] (spD K 3 p_beside)) : FnOk P w K mg base (L2.CX P w) 2 f fd (["plan", "cells", "cell"] : List Str) (spD K 3 p_turned) :=
  okD (k := 1) Fn scturned 3 rfl 4 rfl fun cdv A outer s H E hr => by
    have tk : Takes (cxOf (L2.CX P w) P w K mg base (["plan", "cells", "cell", "pair"] : List Str) "turned" (defScope sturned) f cdv A outer s H E) (fun c d _ H => E c d H) := takes_of rfl rfl rfl rfl
    have u4 := hr.units
    have u5 := u65 hr
    exact ds_cons (ds_set (i := 3) scturned.nd rfl (by first | exact Or.inl rfl | exact Or.inr rfl) (dx_callG Gbeside hr (by decide) tk (by rfl) (da_cons (dx_var 0) (da_cons (dx_var 1) (da_cons (dx_var 2) (da_nil)))) (len_cons (len_cons (len_cons len0))))) (ds_cons (ds_if (PW.pt (dw_or (t_in u5 (dx_var 2) (dx_ix (dx_var 0) (dx_int) (fun _ _ => rfl))) (dw_or (t_isN (dx_var 3) (dx_non)) (dw_or (t_eq u4 (dx_ix (dx_var 3) (dx_int) (fun _ _ => rfl)) (dx_ix (dx_var 3) (dx_int) (fun _ _ => rfl))) (dw_or1 (t_notIn u5 (dx_ix (dx_var 1) (dx_var 2) (fun _ _ => rfl)) (dx_var 3))))))) (ds_one (ds_ret (dx_non))) (ds_nil)) (ds_one (ds_ret (dx_if (t_eq u4 (dx_ix (dx_var 1) (dx_var 2) (fun _ _ => rfl)) (dx_ix (dx_var 3) (dx_int) (fun _ _ => rfl))) (dx_ix (dx_var 3) (dx_int) (fun _ _ => rfl)) (dx_ix (dx_var 3) (dx_int) (fun _ _ => rfl))))))

abbrev swith_sign : Stmt := top 18
theorem scwith_sign : FnScope (["cells", "cell", "sign"] : List Str) (["cells", "cell", "sign"] : List Str) (defScope swith_sign) := ⟨rfl, rfl, rfl, by decide +kernel, rfl, by decide +kernel, by decide +kernel⟩
theorem okwith_sign {f : Addr} {fd : FuncData} (T : Txt K mg) (Fn : Fun K "with_sign" "with_sign" swith_sign f fd)  : FnOk P w K mg base (L2.CX P w) 1 f fd (["cells", "cell", "sign"] : List Str) (spD K 3 p_with_sign) :=
  okD (k := 0) Fn scwith_sign 3 rfl 3 rfl fun cdv A outer s H E hr => by
    have tk : Takes (cxOf (L2.CX P w) P w K mg base (["cells", "cell", "sign"] : List Str) "with_sign" (defScope swith_sign) f cdv A outer s H E) (fun c d _ H => E c d H) := takes_of rfl rfl rfl rfl
    have u4 := hr.units
    have u5 := u65 hr
    exact ds_one (ds_ret (x_add (x_add (dx_slice (dx_var 0) (dp_none) (dp_some (dx_var 1))) (dx_var 2)) (dx_slice (dx_var 0) (dp_some (x_add (dx_var 1) (dx_int))) (dp_none))))

abbrev sturns_of : Stmt := top 19
theorem scturns_of : FnScope (["plan", "cells", "found", "cell", "sign"] : List Str) (["plan", "cells"] : List Str) (defScope sturns_of) := ⟨rfl, rfl, rfl, by decide +kernel, rfl, by decide +kernel, by decide +kernel⟩
theorem okturns_of {f : Addr} {fd : FuncData} (T : Txt K mg) (Fn : Fun K "turns_of" "turns_of" sturns_of f fd) (Gturned : GFn P w K mg base "turned" 2 ["plan", "cells", "cell"] (spD K 3 p_turned)) (Gweight_of : GFn P w K mg base "weight_of" 1 ["plan", "one", "other"] (spD K 3 p_weight_of)) (Gwith_sign : GFn P w K mg base "with_sign" 1 ["cells", "cell", "sign"] (spD K 3 p_with_sign)) : FnOk P w K mg base (L2.CX P w) 3 f fd (["plan", "cells"] : List Str) (spD K 2 p_turns_of) :=
  okD (k := 2) Fn scturns_of 2 rfl 5 rfl fun cdv A outer s H E hr => by
    have tk : Takes (cxOf (L2.CX P w) P w K mg base (["plan", "cells", "found", "cell", "sign"] : List Str) "turns_of" (defScope sturns_of) f cdv A outer s H E) (fun c d _ H => E c d H) := takes_of rfl rfl rfl rfl
    have u4 := hr.units
    have u5 := u65 hr
    exact ds_cons (ds_setO (i := 2) scturns_of.nd rfl (by first | exact Or.inl rfl | exact Or.inr rfl) (ox_lst (da_nil))) (ds_cons (ds_for (passes_of rfl) rfl (di_range1 (by rfl) T.range (da_cons (dx_ix (dx_var 0) (dx_int) (fun _ _ => rfl)) (da_nil)) (len_cons len0)) (dg_name (i := 3) scturns_of.nd rfl (by first | exact Or.inl rfl | exact Or.inr rfl)) (ds_cons (ds_set (i := 4) scturns_of.nd rfl (by first | exact Or.inl rfl | exact Or.inr rfl) (dx_callG Gturned hr (by decide) tk (by rfl) (da_cons (dx_var 0) (da_cons (dx_var 1) (da_cons (dx_var 3) (da_nil)))) (len_cons (len_cons (len_cons len0))))) (ds_one (ds_if (t_notN (dx_var 4) (dx_non)) (ds_one (ds_append 2 (dx_tup (da_cons (dx_var 3) (da_cons (dx_callG Gwith_sign hr (by decide) tk (by rfl) (da_cons (dx_var 1) (da_cons (dx_var 3) (da_cons (dx_var 4) (da_nil)))) (len_cons (len_cons (len_cons len0)))) (da_cons (dx_callG Gweight_of hr (by decide) tk (by rfl) (da_cons (dx_var 0) (da_cons (dx_ix (dx_var 1) (dx_var 3) (fun _ _ => rfl)) (da_cons (dx_var 4) (da_nil)))) (len_cons (len_cons (len_cons len0)))) (da_nil))))))) (ds_nil))))) (ds_one (ds_ret (dx_var 2))))

abbrev sturns : Stmt := top 20
theorem scturns : FnScope (["plan", "cells"] : List Str) (["plan", "cells"] : List Str) (defScope sturns) := ⟨rfl, rfl, rfl, by decide +kernel, rfl, by decide +kernel, by decide +kernel⟩
theorem okturns {f : Addr} {fd : FuncData} (T : Txt K mg) (Fn : Fun K "turns" "turns" sturns f fd) (Gneed_cells : GFn P w K mg base "need_cells" 1 ["plan", "cells"] (spD K 2 p_need_cells)) (Gneed_plan : GFn P w K mg base "need_plan" 3 ["plan"] (spD K 1 p_need_plan)) (Gturns_of : GFn P w K mg base "turns_of" 3 ["plan", "cells"] (spD K 2 p_turns_of)) : FnOk P w K mg base (L2.CX P w) 4 f fd (["plan", "cells"] : List Str) (spD K 2 p_turns) :=
  okD (k := 3) Fn scturns 2 rfl 2 rfl fun cdv A outer s H E hr => by
    have tk : Takes (cxOf (L2.CX P w) P w K mg base (["plan", "cells"] : List Str) "turns" (defScope sturns) f cdv A outer s H E) (fun c d _ H => E c d H) := takes_of rfl rfl rfl rfl
    have u4 := hr.units
    have u5 := u65 hr
    exact ds_cons (ds_expr (dx_callG Gneed_plan hr (by decide) tk (by rfl) (da_cons (dx_var 0) (da_nil)) (len_cons len0))) (ds_cons (ds_expr (dx_callG Gneed_cells hr (by decide) tk (by rfl) (da_cons (dx_var 0) (da_cons (dx_var 1) (da_nil))) (len_cons (len_cons len0)))) (ds_one (ds_ret (dx_callG Gturns_of hr (by decide) tk (by rfl) (da_cons (dx_var 0) (da_cons (dx_var 1) (da_nil))) (len_cons (len_cons len0))))))

abbrev splaces_of : Stmt := top 22
theorem scplaces_of : FnScope (["plan", "cells", "is_round", "many", "frozen", "weights", "last", "place"] : List Str) (["plan", "cells"] : List Str) (defScope splaces_of) := ⟨rfl, rfl, rfl, by decide +kernel, rfl, by decide +kernel, by decide +kernel⟩
theorem okplaces_of {f : Addr} {fd : FuncData} (T : Txt K mg) (Fn : Fun K "places_of" "places_of" splaces_of f fd)  : FnOk P w K mg base (L2.CX P w) 1 f fd (["plan", "cells"] : List Str) (spD K 2 p_places_of) :=
  okD (k := 0) Fn scplaces_of 2 rfl 8 rfl fun cdv A outer s H E hr => by
    have tk : Takes (cxOf (L2.CX P w) P w K mg base (["plan", "cells", "is_round", "many", "frozen", "weights", "last", "place"] : List Str) "places_of" (defScope splaces_of) f cdv A outer s H E) (fun c d _ H => E c d H) := takes_of rfl rfl rfl rfl
    have u4 := hr.units
    have u5 := u65 hr
    exact ds_cons (ds_to (is := [2, 3, 4, 5]) (dg_tup rfl (dgs_cons (i := 2) scplaces_of.nd rfl (by first | exact Or.inl rfl | exact Or.inr rfl) (dgs_cons (i := 3) scplaces_of.nd rfl (by first | exact Or.inl rfl | exact Or.inr rfl) (dgs_cons (i := 4) scplaces_of.nd rfl (by first | exact Or.inl rfl | exact Or.inr rfl) (dgs_cons (i := 5) scplaces_of.nd rfl (by first | exact Or.inl rfl | exact Or.inr rfl) (dgs_nil)))))) (dx_var 0)) (ds_cons (ds_set (i := 6) scplaces_of.nd rfl (by first | exact Or.inl rfl | exact Or.inr rfl) (dx_if (dt_val (dx_var 2)) (dx_var 3) (x_sub (dx_var 3) (dx_int)))) (ds_one (ds_ret (dx_frz (ox_comp (own := [(("place" : Str), 7)]) (is := [7]) rfl scplaces_of.nd (di_range1 (by rfl) T.range (da_cons (dx_var 6) (da_nil)) (len_cons len0)) (blkOk_by (N := (["plan", "cells", "is_round", "many", "frozen", "weights", "last", "place"] : List Str)) (sc := defScope splaces_of) (by decide +kernel)) (fun _ _ _ _ _ => dg_name (i := 7) scplaces_of.nd rfl (by first | exact Or.inl rfl | exact Or.inr rfl)) (fun _ _ _ _ _ => dt_one (t_ne u4 (dx_ix (dx_var 1) (dx_var 7) (fun _ _ => rfl)) (dx_ix (dx_var 1) (x_mod (x_add (dx_var 7) (dx_int)) (dx_var 3)) (fun _ _ => rfl)))) (fun _ _ _ _ _ => dx_var 7))))))

abbrev swalls : Stmt := top 23
theorem scwalls : FnScope (["plan", "cells", "place"] : List Str) (["plan", "cells"] : List Str) (defScope swalls) := ⟨rfl, rfl, rfl, by decide +kernel, rfl, by decide +kernel, by decide +kernel⟩
theorem okwalls {f : Addr} {fd : FuncData} (T : Txt K mg) (Fn : Fun K "walls" "walls" swalls f fd) (Gneed_cells : GFn P w K mg base "need_cells" 1 ["plan", "cells"] (spD K 2 p_need_cells)) (Gneed_plan : GFn P w K mg base "need_plan" 3 ["plan"] (spD K 1 p_need_plan)) (Gplaces_of : GFn P w K mg base "places_of" 1 ["plan", "cells"] (spD K 2 p_places_of)) : FnOk P w K mg base (L2.CX P w) 4 f fd (["plan", "cells"] : List Str) (spD K 2 p_walls) :=
  okD (k := 3) Fn scwalls 2 rfl 3 rfl fun cdv A outer s H E hr => by
    have tk : Takes (cxOf (L2.CX P w) P w K mg base (["plan", "cells", "place"] : List Str) "walls" (defScope swalls) f cdv A outer s H E) (fun c d _ H => E c d H) := takes_of rfl rfl rfl rfl
    have u4 := hr.units
    have u5 := u65 hr
    exact ds_cons (ds_expr (dx_callG Gneed_plan hr (by decide) tk (by rfl) (da_cons (dx_var 0) (da_nil)) (len_cons len0))) (ds_cons (ds_expr (dx_callG Gneed_cells hr (by decide) tk (by rfl) (da_cons (dx_var 0) (da_cons (dx_var 1) (da_nil))) (len_cons (len_cons len0)))) (ds_one (ds_ret (dx_frz (ox_comp (own := [(("place" : Str), 2)]) (is := [2]) rfl scwalls.nd (di_val (dx_callG Gplaces_of hr (by decide) tk (by rfl) (da_cons (dx_var 0) (da_cons (dx_var 1) (da_nil))) (len_cons (len_cons len0)))) (blkOk_by (N := (["plan", "cells", "place"] : List Str)) (sc := defScope swalls) (by decide +kernel)) (fun _ _ _ _ _ => dg_name (i := 2) scwalls.nd rfl (by first | exact Or.inl rfl | exact Or.inr rfl)) (fun _ _ _ _ _ => dt_nil) (fun _ _ _ _ _ => dx_tup (da_cons (dx_var 2) (da_cons (dx_ix (dx_var 1) (dx_var 2) (fun _ _ => rfl)) (da_cons (dx_ix (dx_var 1) (x_mod (x_add (dx_var 2) (dx_int)) (dx_ix (dx_var 0) (dx_int) (fun _ _ => rfl))) (fun _ _ => rfl)) (da_nil))))))))))

abbrev sblocks : Stmt := top 24
theorem scblocks : FnScope (["plan", "cells", "places", "ends", "end", "later"] : List Str) (["plan", "cells"] : List Str) (defScope sblocks) := ⟨rfl, rfl, rfl, by decide +kernel, rfl, by decide +kernel, by decide +kernel⟩
theorem okblocks {f : Addr} {fd : FuncData} (T : Txt K mg) (Fn : Fun K "blocks" "blocks" sblocks f fd) (Gneed_cells : GFn P w K mg base "need_cells" 1 ["plan", "cells"] (spD K 2 p_need_cells)) (Gneed_plan : GFn P w K mg base "need_plan" 3 ["plan"] (spD K 1 p_need_plan)) (Gplaces_of : GFn P w K mg base "places_of" 1 ["plan", "cells"] (spD K 2 p_places_of)) : FnOk P w K mg base (L2.CX P w) 4 f fd (["plan", "cells"] : List Str) (spD K 2 p_blocks) :=
  okD (k := 3) Fn scblocks 2 rfl 6 rfl fun cdv A outer s H E hr => by
    have tk : Takes (cxOf (L2.CX P w) P w K mg base (["plan", "cells", "places", "ends", "end", "later"] : List Str) "blocks" (defScope sblocks) f cdv A outer s H E) (fun c d _ H => E c d H) := takes_of rfl rfl rfl rfl
    have u4 := hr.units
    have u5 := u65 hr
    exact ds_cons (ds_expr (dx_callG Gneed_plan hr (by decide) tk (by rfl) (da_cons (dx_var 0) (da_nil)) (len_cons len0))) (ds_cons (ds_expr (dx_callG Gneed_cells hr (by decide) tk (by rfl) (da_cons (dx_var 0) (da_cons (dx_var 1) (da_nil))) (len_cons (len_cons len0)))) (ds_cons (ds_set (i := 2) scblocks.nd rfl (by first | exact Or.inl rfl | exact Or.inr rfl) (dx_callG Gplaces_of hr (by decide) tk (by rfl) (da_cons (dx_var 0) (da_cons (dx_var 1) (da_nil))) (len_cons (len_cons len0)))) (ds_cons (ds_if (t_eq u4 (dx_var 2) (dx_frz (ox_lst (da_nil)))) (ds_one (ds_ret (dx_frz (ox_lst (da_cons (dx_tup (da_cons (dx_ix (dx_var 1) (dx_int) (fun _ _ => rfl)) (da_cons (dx_ix (dx_var 0) (dx_int) (fun _ _ => rfl)) (da_nil)))) (da_nil)))))) (ds_nil)) (ds_cons (ds_set (i := 3) scblocks.nd rfl (by first | exact Or.inl rfl | exact Or.inr rfl) (dx_if (dt_val (dx_ix (dx_var 0) (dx_int) (fun _ _ => rfl))) (x_add (dx_var 2) (dx_frz (ox_lst (da_cons (x_add (dx_ix (dx_var 2) (dx_int) (fun _ _ => rfl)) (dx_ix (dx_var 0) (dx_int) (fun _ _ => rfl))) (da_nil))))) (x_add (x_add (dx_frz (ox_lst (da_cons (dx_neg (dx_int)) (da_nil)))) (dx_var 2)) (dx_frz (ox_lst (da_cons (x_sub (dx_ix (dx_var 0) (dx_int) (fun _ _ => rfl)) (dx_int)) (da_nil))))))) (ds_one (ds_ret (dx_frz (ox_comp (own := [(("end" : Str), 4), (("later" : Str), 5)]) (is := [4, 5]) rfl scblocks.nd (di_zip (by rfl) T.zip (da_cons (dx_var 3) (da_cons (dx_slice (dx_var 3) (dp_some (dx_int)) (dp_none)) (da_nil))) (len_cons (len_cons len0))) (blkOk_by (N := (["plan", "cells", "places", "ends", "end", "later"] : List Str)) (sc := defScope sblocks) (by decide +kernel)) (fun _ _ _ _ _ => dg_tup rfl (dgs_cons (i := 4) scblocks.nd rfl (by first | exact Or.inl rfl | exact Or.inr rfl) (dgs_cons (i := 5) scblocks.nd rfl (by first | exact Or.inl rfl | exact Or.inr rfl) (dgs_nil)))) (fun _ _ _ _ _ => dt_nil) (fun _ _ _ _ _ => dx_tup (da_cons (dx_ix (dx_var 1) (x_mod (x_add (dx_var 4) (dx_int)) (dx_ix (dx_var 0) (dx_int) (fun _ _ => rfl))) (fun _ _ => rfl)) (da_cons (x_sub (dx_var 5) (dx_var 4)) (da_nil))))))))))))

abbrev s_law_plan : Stmt := top 29
theorem sc_law_plan : FnScope (["_law_box", "_law_most", "_law_count", "_law_frozen", "_law_k", "_law_weights"] : List Str) (["_law_box", "_law_most"] : List Str) (defScope s_law_plan) := ⟨rfl, rfl, rfl, by decide +kernel, rfl, by decide +kernel, by decide +kernel⟩
theorem ok_law_plan {f : Addr} {fd : FuncData} (T : Txt K mg) (Fn : Fun K "_law_plan" "_law_plan" s_law_plan f fd) (G_law_take : GFn P w K mg base "_law_take" 1 ["_law_box", "_law_size"] (spB K 1 f_law_take)) : FnOk P w K mg base (L2.CX P w) 2 f fd (["_law_box", "_law_most"] : List Str) (spB K 1 f_law_plan) :=
  okB (k := 1) Fn sc_law_plan 1 rfl 6 rfl fun cdv A outer s H E hr => by
    have tk : Takes (cxOf (L2.CX P w) P w K mg base (["_law_box", "_law_most", "_law_count", "_law_frozen", "_law_k", "_law_weights"] : List Str) "_law_plan" (defScope s_law_plan) f cdv A outer s H E) (fun c d _ H => E c d H) := takes_of rfl rfl rfl rfl
    have u4 := hr.units
    have u5 := u65 hr
    exact ds_cons (ds_set (i := 2) sc_law_plan.nd rfl (by first | exact Or.inl rfl | exact Or.inr rfl) (x_add (dx_int) (dx_callBG 0 G_law_take hr (by decide) tk (by rfl) (da_cons (x_sub (dx_var 1) (dx_int)) (da_nil)) (len_cons len0)))) (ds_cons (ds_set (i := 3) sc_law_plan.nd rfl (by first | exact Or.inl rfl | exact Or.inr rfl) (dx_callTy call_tuple_of vr_tuple nx_tuple (by rfl) T.ttuple bt_tuple (da_cons (dx_frz (ox_comp (own := [(("_law_k" : Str), 4)]) (is := [4]) rfl sc_law_plan.nd (di_range1 (by rfl) T.range (da_cons (dx_var 2) (da_nil)) (len_cons len0)) (blkOk_by (N := (["_law_box", "_law_most", "_law_count", "_law_frozen", "_law_k", "_law_weights"] : List Str)) (sc := defScope s_law_plan) (by decide +kernel)) (fun _ _ _ _ _ => dg_name (i := 4) sc_law_plan.nd rfl (by first | exact Or.inl rfl | exact Or.inr rfl)) (fun _ _ _ _ _ => dt_one (t_eq u4 (dx_callBG 0 G_law_take hr (by decide) takesF (by rfl) (da_cons (dx_ix (dx_frz (ox_lst (da_cons (dx_int) (da_cons (dx_int) (da_cons (dx_int) (da_nil)))))) (dx_callBG 0 G_law_take hr (by decide) takesF (by rfl) (da_cons (dx_int) (da_nil)) (len_cons len0)) (fun _ _ => rfl)) (da_nil)) (len_cons len0)) (dx_int))) (fun _ _ _ _ _ => dx_var 4))) (da_nil)))) (ds_cons (ds_set (i := 3) sc_law_plan.nd rfl (by first | exact Or.inl rfl | exact Or.inr rfl) (dx_if (t_eq u4 (dx_callBG 0 G_law_take hr (by decide) tk (by rfl) (da_cons (dx_int) (da_nil)) (len_cons len0)) (dx_int)) (dx_var 3) (dx_tup (da_nil)))) (ds_cons (ds_set (i := 5) sc_law_plan.nd rfl (by first | exact Or.inl rfl | exact Or.inr rfl) (dx_callTy call_tuple_of vr_tuple nx_tuple (by rfl) T.ttuple bt_tuple (da_cons (dx_frz (ox_comp (own := [(("_law_k" : Str), 4)]) (is := [4]) rfl sc_law_plan.nd (di_range1 (by rfl) T.range (da_cons (dx_int) (da_nil)) (len_cons len0)) (blkOk_by (N := (["_law_box", "_law_most", "_law_count", "_law_frozen", "_law_k", "_law_weights"] : List Str)) (sc := defScope s_law_plan) (by decide +kernel)) (fun _ _ _ _ _ => dg_name (i := 4) sc_law_plan.nd rfl (by first | exact Or.inl rfl | exact Or.inr rfl)) (fun _ _ _ _ _ => dt_nil) (fun _ _ _ _ _ => x_add (dx_int) (dx_callBG 0 G_law_take hr (by decide) takesF (by rfl) (da_cons (dx_ix (dx_frz (ox_lst (da_cons (dx_int) (da_cons (dx_int) (da_nil))))) (dx_callBG 0 G_law_take hr (by decide) takesF (by rfl) (da_cons (dx_int) (da_nil)) (len_cons len0)) (fun _ _ => rfl)) (da_nil)) (len_cons len0))))) (da_nil)))) (ds_one (ds_ret (dx_tup (da_cons (x_gt (dx_callBG 0 G_law_take hr (by decide) tk (by rfl) (da_cons (dx_int) (da_nil)) (len_cons len0)) (dx_int)) (da_cons (dx_var 2) (da_cons (dx_var 3) (da_cons (dx_var 5) (da_nil)))))))))))

abbrev s_law_cells : Stmt := top 30
theorem sc_law_cells : FnScope (["_law_box", "_law_plan_here", "_law_found", "_law_signs"] : List Str) (["_law_box", "_law_plan_here"] : List Str) (defScope s_law_cells) := ⟨rfl, rfl, rfl, by decide +kernel, rfl, by decide +kernel, by decide +kernel⟩
theorem ok_law_cells {f : Addr} {fd : FuncData} (T : Txt K mg) (Fn : Fun K "_law_cells" "_law_cells" s_law_cells f fd) (G_law_take : GFn P w K mg base "_law_take" 1 ["_law_box", "_law_size"] (spB K 1 f_law_take)) : FnOk P w K mg base (L2.CX P w) 2 f fd (["_law_box", "_law_plan_here"] : List Str) (spB K 1 f_law_cells) :=
  okB (k := 1) Fn sc_law_cells 1 rfl 4 rfl fun cdv A outer s H E hr => by
    have tk : Takes (cxOf (L2.CX P w) P w K mg base (["_law_box", "_law_plan_here", "_law_found", "_law_signs"] : List Str) "_law_cells" (defScope s_law_cells) f cdv A outer s H E) (fun c d _ H => E c d H) := takes_of rfl rfl rfl rfl
    have u4 := hr.units
    have u5 := u65 hr
    exact ds_cons (ds_par 2 3 rfl sc_law_cells.nd rfl rfl (by decide) rfl rfl (dx_str) (dx_slice (dx_str) (dp_none) (dp_some (x_add (dx_int) (dx_callBG 0 G_law_take hr (by decide) tk (by rfl) (da_cons (dx_int) (da_nil)) (len_cons len0))))) (by rfl)) (ds_cons (ds_while (passes_of rfl) (t_lt (dx_callB call_len vr_len nx_len (by rfl) T.len bt_len (da_cons (dx_var 2) (da_nil))) (dx_ix (dx_var 1) (dx_int) (fun _ _ => rfl))) (ds_one (ds_set (i := 2) sc_law_cells.nd rfl (by first | exact Or.inl rfl | exact Or.inr rfl) (x_add (dx_var 2) (x_mul (dx_ix (dx_var 3) (dx_callBG 0 G_law_take hr (by decide) tk (by rfl) (da_cons (dx_callB call_len vr_len nx_len (by rfl) T.len bt_len (da_cons (dx_var 3) (da_nil))) (da_nil)) (len_cons len0)) (fun _ _ => rfl)) (x_add (dx_int) (dx_callBG 0 G_law_take hr (by decide) tk (by rfl) (da_cons (dx_int) (da_nil)) (len_cons len0)))))))) (ds_one (ds_ret (dx_slice (dx_var 2) (dp_none) (dp_some (dx_ix (dx_var 1) (dx_int) (fun _ _ => rfl)))))))

abbrev s_law_turns : Stmt := top 31
theorem sc_law_turns : FnScope (["_law_plan_here", "_law_cells_here", "_law_found", "_law_k", "_law_low", "_law_high", "_law_sign", "_law_place"] : List Str) (["_law_plan_here", "_law_cells_here"] : List Str) (defScope s_law_turns) := ⟨rfl, rfl, rfl, by decide +kernel, rfl, by decide +kernel, by decide +kernel⟩
theorem ok_law_turns {f : Addr} {fd : FuncData} (T : Txt K mg) (Fn : Fun K "_law_turns" "_law_turns" s_law_turns f fd)  : FnOk P w K mg base (L2.CX P w) 1 f fd (["_law_plan_here", "_law_cells_here"] : List Str) (spD K 2 f_law_turns) :=
  okD (k := 0) Fn sc_law_turns 2 rfl 8 rfl fun cdv A outer s H E hr => by
    have tk : Takes (cxOf (L2.CX P w) P w K mg base (["_law_plan_here", "_law_cells_here", "_law_found", "_law_k", "_law_low", "_law_high", "_law_sign", "_law_place"] : List Str) "_law_turns" (defScope s_law_turns) f cdv A outer s H E) (fun c d _ H => E c d H) := takes_of rfl rfl rfl rfl
    have u4 := hr.units
    have u5 := u65 hr
    exact ds_cons (ds_setO (i := 2) sc_law_turns.nd rfl (by first | exact Or.inl rfl | exact Or.inr rfl) (ox_lst (da_nil))) (ds_cons (ds_for (passes_of rfl) rfl (di_range1 (by rfl) T.range (da_cons (dx_ix (dx_var 0) (dx_int) (fun _ _ => rfl)) (da_nil)) (len_cons len0)) (dg_name (i := 3) sc_law_turns.nd rfl (by first | exact Or.inl rfl | exact Or.inr rfl)) (ds_one (ds_if (PW.pt (dw_and (t_notIn u5 (dx_var 3) (dx_ix (dx_var 0) (dx_int) (fun _ _ => rfl))) (dw_and1 (PW.pt (dw_or (dt_val (dx_ix (dx_var 0) (dx_int) (fun _ _ => rfl))) (dw_or1 (t_ltlt (dx_int) (dx_var 3) (x_sub (dx_ix (dx_var 0) (dx_int) (fun _ _ => rfl)) (dx_int))))))))) (ds_cons (ds_par 4 5 rfl sc_law_turns.nd rfl rfl (by decide) rfl rfl (dx_ix (dx_var 1) (x_sub (dx_var 3) (dx_int)) (fun _ _ => rfl)) (dx_ix (dx_var 1) (x_mod (x_add (dx_var 3) (dx_int)) (dx_ix (dx_var 0) (dx_int) (fun _ _ => rfl))) (fun _ _ => rfl)) (by rfl)) (ds_one (ds_if (PW.pt (dw_and (t_ne u4 (dx_var 4) (dx_var 5)) (dw_and1 (t_in u5 (dx_ix (dx_var 1) (dx_var 3) (fun _ _ => rfl)) (dx_tup (da_cons (dx_var 4) (da_cons (dx_var 5) (da_nil)))))))) (ds_cons (ds_set (i := 6) sc_law_turns.nd rfl (by first | exact Or.inl rfl | exact Or.inr rfl) (dx_if (t_eq u4 (dx_ix (dx_var 1) (dx_var 3) (fun _ _ => rfl)) (dx_var 4)) (dx_var 5) (dx_var 4))) (ds_cons (ds_set (i := 7) sc_law_turns.nd rfl (by first | exact Or.inl rfl | exact Or.inr rfl) (dx_bm PySem.F.plainAttrs_list PySem.F.slot_list_index PySem.F.type_list_index mt_index ty_lst vr_index nx_index (dx_frz (ox_lst (da_cons (dx_str) (da_cons (dx_str) (da_cons (dx_str) (da_cons (dx_str) (da_cons (dx_str) (da_cons (dx_str) (da_nil))))))))) (da_cons (dx_bm PySem.F.plainAttrs_str PySem.F.slot_str_join PySem.F.type_str_join mt_join ty_str vr_join nx_join (dx_str) (da_cons (dx_callB cr_sortedS vr_sorted nx_sorted (by rfl) T.sorted bt_sorted (da_cons (dx_frz (ox_lst (da_cons (dx_var 4) (da_cons (dx_var 5) (da_nil))))) (da_nil))) (da_nil))) (da_nil)))) (ds_one (ds_append 2 (dx_tup (da_cons (dx_var 3) (da_cons (x_add (x_add (dx_slice (dx_var 1) (dp_none) (dp_some (dx_var 3))) (dx_var 6)) (dx_slice (dx_var 1) (dp_some (x_add (dx_var 3) (dx_int))) (dp_none))) (da_cons (dx_ix (dx_ix (dx_var 0) (dx_int) (fun _ _ => rfl)) (dx_var 7) (fun _ _ => rfl)) (da_nil))))))))) (ds_nil)))) (ds_nil)))) (ds_one (ds_ret (dx_var 2))))

abbrev s_law_round : Stmt := top 32
theorem sc_law_round : FnScope (["_law_signs", "_law_k"] : List Str) (["_law_signs"] : List Str) (defScope s_law_round) := ⟨rfl, rfl, rfl, by decide +kernel, rfl, by decide +kernel, by decide +kernel⟩
theorem ok_law_round {f : Addr} {fd : FuncData} (T : Txt K mg) (Fn : Fun K "_law_round" "_law_round" s_law_round f fd)  : FnOk P w K mg base (L2.CX P w) 1 f fd (["_law_signs"] : List Str) (spD K 1 f_law_round) :=
  okD (k := 0) Fn sc_law_round 1 rfl 2 rfl fun cdv A outer s H E hr => by
    have tk : Takes (cxOf (L2.CX P w) P w K mg base (["_law_signs", "_law_k"] : List Str) "_law_round" (defScope s_law_round) f cdv A outer s H E) (fun c d _ H => E c d H) := takes_of rfl rfl rfl rfl
    have u4 := hr.units
    have u5 := u65 hr
    exact ds_one (ds_ret (dx_callB (cr_minDa u4 rfl) vr_minL nx_minL (by rfl) T.bmin bt_min (da_cons (dx_frz (ox_comp (own := [(("_law_k" : Str), 1)]) (is := [1]) rfl sc_law_round.nd (di_range1 (by rfl) T.range (da_cons (dx_callB (cr_max2 rfl) vr_max2 nx_max2 (by rfl) T.bmax bt_max (da_cons (dx_int) (da_cons (dx_callB call_len vr_len nx_len (by rfl) T.len bt_len (da_cons (dx_var 0) (da_nil))) (da_nil)))) (da_nil)) (len_cons len0)) (blkOk_by (N := (["_law_signs", "_law_k"] : List Str)) (sc := defScope s_law_round) (by decide +kernel)) (fun _ _ _ _ _ => dg_name (i := 1) sc_law_round.nd rfl (by first | exact Or.inl rfl | exact Or.inr rfl)) (fun _ _ _ _ _ => dt_nil) (fun _ _ _ _ _ => x_add (dx_slice (dx_var 0) (dp_some (dx_var 1)) (dp_none)) (dx_slice (dx_var 0) (dp_none) (dp_some (dx_var 1)))))) (da_nil))))

abbrev s_law_by_blocks : Stmt := top 33
theorem sc_law_by_blocks : FnScope (["_law_plan_here", "_law_cells_here", "_law_told", "_law_text", "_law_sign", "_law_size", "_law_places", "_law_place", "_law_ahead", "_law_behind", "_law_start", "_law_k"] : List Str) (["_law_plan_here", "_law_cells_here", "_law_told"] : List Str) (defScope s_law_by_blocks) := ⟨rfl, rfl, rfl, by decide +kernel, rfl, by decide +kernel, by decide +kernel⟩
theorem ok_law_by_blocks {f : Addr} {fd : FuncData} (T : Txt K mg) (Fn : Fun K "_law_by_blocks" "_law_by_blocks" s_law_by_blocks f fd) (Gwalls : GFn P w K mg base "walls" 4 ["plan", "cells"] (spD K 2 p_walls)) : FnOk P w K mg base (L2.CX P w) 5 f fd (["_law_plan_here", "_law_cells_here", "_law_told"] : List Str) (spD K 3 f_law_by_blocks) :=
  okD (k := 4) Fn sc_law_by_blocks 3 rfl 12 rfl fun cdv A outer s H E hr => by
    have tk : Takes (cxOf (L2.CX P w) P w K mg base (["_law_plan_here", "_law_cells_here", "_law_told", "_law_text", "_law_sign", "_law_size", "_law_places", "_law_place", "_law_ahead", "_law_behind", "_law_start", "_law_k"] : List Str) "_law_by_blocks" (defScope s_law_by_blocks) f cdv A outer s H E) (fun c d _ H => E c d H) := takes_of rfl rfl rfl rfl
    have u4 := hr.units
    have u5 := u65 hr
    exact ds_cons (ds_set (i := 3) sc_law_by_blocks.nd rfl (by first | exact Or.inl rfl | exact Or.inr rfl) (dx_bm PySem.F.plainAttrs_str PySem.F.slot_str_join PySem.F.type_str_join mt_join ty_str vr_join nx_join (dx_str) (da_cons (dx_frz (ox_comp (own := [(("_law_sign" : Str), 4), (("_law_size" : Str), 5)]) (is := [4, 5]) rfl sc_law_by_blocks.nd (di_val (dx_var 2)) (blkOk_by (N := (["_law_plan_here", "_law_cells_here", "_law_told", "_law_text", "_law_sign", "_law_size", "_law_places", "_law_place", "_law_ahead", "_law_behind", "_law_start", "_law_k"] : List Str)) (sc := defScope s_law_by_blocks) (by decide +kernel)) (fun _ _ _ _ _ => dg_tup rfl (dgs_cons (i := 4) sc_law_by_blocks.nd rfl (by first | exact Or.inl rfl | exact Or.inr rfl) (dgs_cons (i := 5) sc_law_by_blocks.nd rfl (by first | exact Or.inl rfl | exact Or.inr rfl) (dgs_nil)))) (fun _ _ _ _ _ => dt_nil) (fun _ _ _ _ _ => x_mul (dx_var 4) (dx_var 5)))) (da_nil)))) (ds_cons (ds_setC (i := 6) (own := [(("_law_place" : Str), 7), (("_law_ahead" : Str), 8), (("_law_behind" : Str), 9)]) (is := [7, 8, 9]) rfl sc_law_by_blocks.nd rfl rfl (sw_true rfl rfl rfl (by decide +kernel)) (di_val (dx_callG Gwalls hr (by decide) tk (by rfl) (da_cons (dx_var 0) (da_cons (dx_var 1) (da_nil))) (len_cons (len_cons len0)))) (blkOk_by (N := (["_law_plan_here", "_law_cells_here", "_law_told", "_law_text", "_law_sign", "_law_size", "_law_places", "_law_place", "_law_ahead", "_law_behind", "_law_start", "_law_k"] : List Str)) (sc := defScope s_law_by_blocks) (by decide +kernel)) (fun _ _ _ _ _ => dg_tup rfl (dgs_cons (i := 7) sc_law_by_blocks.nd rfl (by first | exact Or.inl rfl | exact Or.inr rfl) (dgs_cons (i := 8) sc_law_by_blocks.nd rfl (by first | exact Or.inl rfl | exact Or.inr rfl) (dgs_cons (i := 9) sc_law_by_blocks.nd rfl (by first | exact Or.inl rfl | exact Or.inr rfl) (dgs_nil))))) (fun _ _ _ _ _ => dt_nil) (fun _ _ _ _ _ => dx_var 7)) (ds_cons (ds_if (PW.pt (dw_and (dt_val (dx_ix (dx_var 0) (dx_int) (fun _ _ => rfl))) (dw_and1 (t_ne u4 (dx_var 6) (dx_frz (ox_lst (da_nil))))))) (ds_cons (ds_set (i := 10) sc_law_by_blocks.nd rfl (by first | exact Or.inl rfl | exact Or.inr rfl) (x_add (dx_ix (dx_var 6) (dx_int) (fun _ _ => rfl)) (dx_int))) (ds_one (ds_if (PW.pt (dw_or (t_ne u4 (dx_var 3) (x_add (dx_slice (dx_var 1) (dp_some (dx_var 10)) (dp_none)) (dx_slice (dx_var 1) (dp_none) (dp_some (dx_var 10))))) (dw_or1 (t_ne u4 (dx_callB call_len vr_len nx_len (by rfl) T.len bt_len (da_cons (dx_var 2) (da_nil))) (dx_callB call_len vr_len nx_len (by rfl) T.len bt_len (da_cons (dx_var 6) (da_nil))))))) (ds_one (ds_ret (dx_bl))) (ds_nil)))) (ds_one (ds_if (PW.pt (dw_or (t_ne u4 (dx_var 3) (dx_var 1)) (dw_or1 (t_ne u4 (dx_callB call_len vr_len nx_len (by rfl) T.len bt_len (da_cons (dx_var 2) (da_nil))) (x_add (dx_callB call_len vr_len nx_len (by rfl) T.len bt_len (da_cons (dx_var 6) (da_nil))) (dx_int)))))) (ds_one (ds_ret (dx_bl))) (ds_nil)))) (ds_one (ds_ret (x_eq u4 (dx_frz (ox_comp (own := [(("_law_k" : Str), 11)]) (is := [11]) rfl sc_law_by_blocks.nd (di_range1 (by rfl) T.range (da_cons (x_sub (dx_callB call_len vr_len nx_len (by rfl) T.len bt_len (da_cons (dx_var 2) (da_nil))) (dx_int)) (da_nil)) (len_cons len0)) (blkOk_by (N := (["_law_plan_here", "_law_cells_here", "_law_told", "_law_text", "_law_sign", "_law_size", "_law_places", "_law_place", "_law_ahead", "_law_behind", "_law_start", "_law_k"] : List Str)) (sc := defScope s_law_by_blocks) (by decide +kernel)) (fun _ _ _ _ _ => dg_name (i := 11) sc_law_by_blocks.nd rfl (by first | exact Or.inl rfl | exact Or.inr rfl)) (fun _ _ _ _ _ => dt_one (t_eq u4 (dx_ix (dx_ix (dx_var 2) (dx_var 11) (fun _ _ => rfl)) (dx_int) (fun _ _ => rfl)) (dx_ix (dx_ix (dx_var 2) (x_add (dx_var 11) (dx_int)) (fun _ _ => rfl)) (dx_int) (fun _ _ => rfl)))) (fun _ _ _ _ _ => dx_var 11))) (dx_frz (ox_lst (da_nil))))))))

abbrev s_law : Stmt := top 34
theorem sc_law : FnScope (["_law_script", "_law_box", "_law_turn", "_law_plan_here", "_law_cells_here", "_law_first", "_law_sign", "_law_size", "_law_step", "_law_told", "_law_found", "_law_signs", "_law_k", "_law_behind", "_law_cost", "_law_one", "_law_other", "_law_gone", "_law_come", "_law_row"] : List Str) (["_law_script"] : List Str) (defScope s_law) := ⟨rfl, rfl, rfl, by decide +kernel, rfl, by decide +kernel, by decide +kernel⟩
theorem ok_law {f fB : Addr} {fd fdB : FuncData} (T : Txt K mg) (Fn : Fun K "law" "law" s_law f fd) (GB : FnOk P w K mg base (L2.CX P w) 1 fB fdB (["_law_script"] : List Str) (spBegun K)) (gB : mg "_law_begun" = some (.ref fB)) (kB : PySem.W.keepIn K (.ref fB) = true) (bB : Binds K fdB (["_law_script"] : List Str) [])
    (G_law_alike : GFn P w K mg base "_law_alike" 8 ["_law_found", "_law_due"] (spD K 2 (f_law_alike 8))) (G_law_by_blocks : GFn P w K mg base "_law_by_blocks" 5 ["_law_plan_here", "_law_cells_here", "_law_told"] (spD K 3 f_law_by_blocks)) (G_law_cells : GFn P w K mg base "_law_cells" 2 ["_law_box", "_law_plan_here"] (spB K 1 f_law_cells)) (G_law_plan : GFn P w K mg base "_law_plan" 2 ["_law_box", "_law_most"] (spB K 1 f_law_plan)) (G_law_round : GFn P w K mg base "_law_round" 1 ["_law_signs"] (spD K 1 f_law_round)) (G_law_take : GFn P w K mg base "_law_take" 1 ["_law_box", "_law_size"] (spB K 1 f_law_take)) (G_law_turns : GFn P w K mg base "_law_turns" 1 ["_law_plan_here", "_law_cells_here"] (spD K 2 f_law_turns)) (Gblocks : GFn P w K mg base "blocks" 4 ["plan", "cells"] (spD K 2 p_blocks)) (Gturns : GFn P w K mg base "turns" 4 ["plan", "cells"] (spD K 2 p_turns)) (Gwalls : GFn P w K mg base "walls" 4 ["plan", "cells"] (spD K 2 p_walls)) (good : ∀ p ns, TrueL (law_den (initL 20 p ns))) : FnOk P w K mg base (L2.CX P w) 9 f fd (["_law_script"] : List Str) (spLaw K) := by
  refine Fn.okX (k := 8) sc_law (fun vs H Q E h => ?_) (fun cdv A outer s H vs Q E hr h => ?_)
  · obtain ⟨a, ns, rfl, _⟩ := h
    rfl
  · have tk : Takes (cxOf (L2.CX P w) P w K mg base (["_law_script", "_law_box", "_law_turn", "_law_plan_here", "_law_cells_here", "_law_first", "_law_sign", "_law_size", "_law_step", "_law_told", "_law_found", "_law_signs", "_law_k", "_law_behind", "_law_cost", "_law_one", "_law_other", "_law_gone", "_law_come", "_law_row"] : List Str) "law" (defScope s_law) f cdv A outer s H E) (fun c d _ H => E c d H) := takes_of rfl rfl rfl rfl
    have u4 := hr.units
    have u5 := u65 hr
    have hder : PSs (cxOf (L2.CX P w) P w K mg base (["_law_script", "_law_box", "_law_turn", "_law_plan_here", "_law_cells_here", "_law_first", "_law_sign", "_law_size", "_law_step", "_law_told", "_law_found", "_law_signs", "_law_k", "_law_behind", "_law_cost", "_law_one", "_law_other", "_law_gone", "_law_come", "_law_row"] : List Str) "law" (defScope s_law) f cdv A outer s H E) ((defBody s_law).drop 1) (tS K (fun c d _ H => E c d H) law_den) := (ds_cons (ds_for (passes_of rfl) rfl (di_range1 (by rfl) T.range (da_cons (dx_int) (da_nil)) (len_cons len0)) (dg_name (i := 2) sc_law.nd rfl (by first | exact Or.inl rfl | exact Or.inr rfl)) (ds_cons (ds_set (i := 3) sc_law.nd rfl (by first | exact Or.inl rfl | exact Or.inr rfl) (dx_callBG 1 G_law_plan hr (by decide) tk (by rfl) (da_cons (dx_int) (da_nil)) (len_cons len0))) (ds_cons (ds_set (i := 4) sc_law.nd rfl (by first | exact Or.inl rfl | exact Or.inr rfl) (dx_callBG 1 G_law_cells hr (by decide) tk (by rfl) (da_cons (dx_var 3) (da_nil)) (len_cons len0))) (ds_cons (ds_setC (i := 5) (own := [(("_law_sign" : Str), 6), (("_law_size" : Str), 7)]) (is := [6, 7]) rfl sc_law.nd rfl rfl (sw_true rfl rfl rfl (by decide +kernel)) (di_val (dx_callG Gblocks hr (by decide) tk (by rfl) (da_cons (dx_var 3) (da_cons (dx_var 4) (da_nil))) (len_cons (len_cons len0)))) (blkOk_by (N := (["_law_script", "_law_box", "_law_turn", "_law_plan_here", "_law_cells_here", "_law_first", "_law_sign", "_law_size", "_law_step", "_law_told", "_law_found", "_law_signs", "_law_k", "_law_behind", "_law_cost", "_law_one", "_law_other", "_law_gone", "_law_come", "_law_row"] : List Str)) (sc := defScope s_law) (by decide +kernel)) (fun _ _ _ _ _ => dg_tup rfl (dgs_cons (i := 6) sc_law.nd rfl (by first | exact Or.inl rfl | exact Or.inr rfl) (dgs_cons (i := 7) sc_law.nd rfl (by first | exact Or.inl rfl | exact Or.inr rfl) (dgs_nil)))) (fun _ _ _ _ _ => dt_nil) (fun _ _ _ _ _ => dx_var 6)) (ds_one (ds_for (passes_of rfl) rfl (di_range1 (by rfl) T.range (da_cons (dx_callBG 1 G_law_take hr (by decide) tk (by rfl) (da_cons (dx_int) (da_nil)) (len_cons len0)) (da_nil)) (len_cons len0)) (dg_name (i := 8) sc_law.nd rfl (by first | exact Or.inl rfl | exact Or.inr rfl)) (ds_cons (ds_par 9 10 rfl sc_law.nd rfl rfl (by decide) rfl rfl (dx_callG Gblocks hr (by decide) tk (by rfl) (da_cons (dx_var 3) (da_cons (dx_var 4) (da_nil))) (len_cons (len_cons len0))) (dx_callG G_law_turns hr (by decide) tk (by rfl) (da_cons (dx_var 3) (da_cons (dx_var 4) (da_nil))) (len_cons (len_cons len0))) (by rfl)) (ds_cons (ds_setC (i := 11) (own := [(("_law_sign" : Str), 6), (("_law_size" : Str), 7)]) (is := [6, 7]) rfl sc_law.nd rfl rfl (sw_true rfl rfl rfl (by decide +kernel)) (di_val (dx_var 9)) (blkOk_by (N := (["_law_script", "_law_box", "_law_turn", "_law_plan_here", "_law_cells_here", "_law_first", "_law_sign", "_law_size", "_law_step", "_law_told", "_law_found", "_law_signs", "_law_k", "_law_behind", "_law_cost", "_law_one", "_law_other", "_law_gone", "_law_come", "_law_row"] : List Str)) (sc := defScope s_law) (by decide +kernel)) (fun _ _ _ _ _ => dg_tup rfl (dgs_cons (i := 6) sc_law.nd rfl (by first | exact Or.inl rfl | exact Or.inr rfl) (dgs_cons (i := 7) sc_law.nd rfl (by first | exact Or.inl rfl | exact Or.inr rfl) (dgs_nil)))) (fun _ _ _ _ _ => dt_nil) (fun _ _ _ _ _ => dx_var 6)) (ds_cons (ds_if (PW.pt (dw_or (dt_not (dt_val (dx_callG G_law_alike hr (by decide) tk (by rfl) (da_cons (dx_callG Gturns hr (by decide) tk (by rfl) (da_cons (dx_var 3) (da_cons (dx_var 4) (da_nil))) (len_cons (len_cons len0))) (da_cons (dx_var 10) (da_nil))) (len_cons (len_cons len0))))) (dw_or1 (dt_not (dt_val (dx_callG G_law_by_blocks hr (by decide) tk (by rfl) (da_cons (dx_var 3) (da_cons (dx_var 4) (da_cons (dx_var 9) (da_nil)))) (len_cons (len_cons (len_cons len0))))))))) (ds_one (ds_ret (dx_bl))) (ds_nil)) (ds_cons (ds_if (PW.pt (dw_or (PW.pt (dw_and (t_ne u4 (dx_var 11) (dx_var 5)) (dw_and1 (dt_not (dt_val (dx_ix (dx_var 3) (dx_int) (fun _ _ => rfl))))))) (dw_or1 (t_ne u4 (dx_callB call_len vr_len nx_len (by rfl) T.len bt_len (da_cons (dx_var 11) (da_nil))) (dx_callB call_len vr_len nx_len (by rfl) T.len bt_len (da_cons (dx_var 5) (da_nil))))))) (ds_one (ds_ret (dx_bl))) (ds_nil)) (ds_cons (ds_if (PW.pt (dw_and (dt_val (dx_ix (dx_var 3) (dx_int) (fun _ _ => rfl))) (dw_and1 (t_ne u4 (dx_callG G_law_round hr (by decide) tk (by rfl) (da_cons (dx_var 11) (da_nil)) (len_cons len0)) (dx_callG G_law_round hr (by decide) tk (by rfl) (da_cons (dx_var 5) (da_nil)) (len_cons len0)))))) (ds_one (ds_ret (dx_bl))) (ds_nil)) (ds_one (ds_if (t_ne u4 (dx_var 10) (dx_frz (ox_lst (da_nil)))) (ds_cons (ds_to (is := [12, 13, 14]) (dg_tup rfl (dgs_cons (i := 12) sc_law.nd rfl (by first | exact Or.inl rfl | exact Or.inr rfl) (dgs_cons (i := 13) sc_law.nd rfl (by first | exact Or.inl rfl | exact Or.inr rfl) (dgs_cons (i := 14) sc_law.nd rfl (by first | exact Or.inl rfl | exact Or.inr rfl) (dgs_nil))))) (dx_ix (dx_var 10) (dx_callBG 1 G_law_take hr (by decide) tk (by rfl) (da_cons (dx_callB call_len vr_len nx_len (by rfl) T.len bt_len (da_cons (dx_var 10) (da_nil))) (da_nil)) (len_cons len0)) (fun _ _ => rfl))) (ds_cons (ds_to (is := [15, 16]) (dg_tup rfl (dgs_cons (i := 15) sc_law.nd rfl (by first | exact Or.inl rfl | exact Or.inr rfl) (dgs_cons (i := 16) sc_law.nd rfl (by first | exact Or.inl rfl | exact Or.inr rfl) (dgs_nil)))) (dx_tup (da_cons (dx_callG Gwalls hr (by decide) tk (by rfl) (da_cons (dx_var 3) (da_cons (dx_var 4) (da_nil))) (len_cons (len_cons len0))) (da_cons (dx_callG Gwalls hr (by decide) tk (by rfl) (da_cons (dx_var 3) (da_cons (dx_var 13) (da_nil))) (len_cons (len_cons len0))) (da_nil))))) (ds_cons (ds_par 17 18 rfl sc_law.nd rfl rfl (by decide) rfl rfl (dx_frz (ox_comp (own := [(("_law_row" : Str), 19)]) (is := [19]) rfl sc_law.nd (di_val (dx_var 15)) (blkOk_by (N := (["_law_script", "_law_box", "_law_turn", "_law_plan_here", "_law_cells_here", "_law_first", "_law_sign", "_law_size", "_law_step", "_law_told", "_law_found", "_law_signs", "_law_k", "_law_behind", "_law_cost", "_law_one", "_law_other", "_law_gone", "_law_come", "_law_row"] : List Str)) (sc := defScope s_law) (by decide +kernel)) (fun _ _ _ _ _ => dg_name (i := 19) sc_law.nd rfl (by first | exact Or.inl rfl | exact Or.inr rfl)) (fun _ _ _ _ _ => dt_one (t_notIn u5 (dx_var 19) (dx_var 16))) (fun _ _ _ _ _ => dx_var 19))) (dx_frz (ox_comp (own := [(("_law_row" : Str), 19)]) (is := [19]) rfl sc_law.nd (di_val (dx_var 16)) (blkOk_by (N := (["_law_script", "_law_box", "_law_turn", "_law_plan_here", "_law_cells_here", "_law_first", "_law_sign", "_law_size", "_law_step", "_law_told", "_law_found", "_law_signs", "_law_k", "_law_behind", "_law_cost", "_law_one", "_law_other", "_law_gone", "_law_come", "_law_row"] : List Str)) (sc := defScope s_law) (by decide +kernel)) (fun _ _ _ _ _ => dg_name (i := 19) sc_law.nd rfl (by first | exact Or.inl rfl | exact Or.inr rfl)) (fun _ _ _ _ _ => dt_one (t_notIn u5 (dx_var 19) (dx_var 15))) (fun _ _ _ _ _ => dx_var 19))) (by rfl)) (ds_cons (ds_if (PW.pt (dw_or (t_ne u4 (dx_callB call_len vr_len nx_len (by rfl) T.len bt_len (da_cons (dx_var 17) (da_nil))) (dx_int)) (dw_or (t_ne u4 (dx_callB call_len vr_len nx_len (by rfl) T.len bt_len (da_cons (dx_var 18) (da_nil))) (dx_int)) (dw_or1 (t_ne u4 (dx_slice (dx_ix (dx_var 17) (dx_int) (fun _ _ => rfl)) (dp_some (dx_int)) (dp_none)) (dx_slice (dx_ix (dx_var 18) (dx_int) (fun _ _ => rfl)) (dp_some (dx_int)) (dp_none))))))) (ds_one (ds_ret (dx_bl))) (ds_nil)) (ds_cons (ds_if (t_notIn u5 (dx_callB call_abs vr_abs nx_abs (by rfl) T.abs bt_abs (da_cons (x_sub (dx_ix (dx_ix (dx_var 17) (dx_int) (fun _ _ => rfl)) (dx_int) (fun _ _ => rfl)) (dx_ix (dx_ix (dx_var 18) (dx_int) (fun _ _ => rfl)) (dx_int) (fun _ _ => rfl))) (da_nil))) (dx_tup (da_cons (dx_int) (da_cons (x_sub (dx_ix (dx_var 3) (dx_int) (fun _ _ => rfl)) (dx_int)) (da_nil))))) (ds_one (ds_ret (dx_bl))) (ds_nil)) (ds_one (ds_set (i := 4) sc_law.nd rfl (by first | exact Or.inl rfl | exact Or.inr rfl) (dx_var 13)))))))) (ds_nil)))))))))))))) (ds_one (ds_ret (dx_bl))))
    refine ⟨_, pss_cons (ps_set (i := 1) sc_law.nd rfl (by first | exact Or.inl rfl | exact Or.inr rfl) (pe_call (E := fun c d H => E c d H) GB (hr.mono (by decide)) (by rfl) gB kB bB .nil (passes_call tk fun _ _ _ _ z => z) (pa_cons (pv 0) pa_nil)))
      hder, ?_⟩
    obtain ⟨a, ns, rfl, hS, hlen, fin⟩ := h
    refine ⟨.ref a, rfl, a, ns, rfl, hS, by omega, fun H1 p B0 keep ok1 hB0 => ?_⟩
    refine ⟨⟨fun _ => none, H, fun _ => False⟩, fun _ => none, initL 20 p ns, ⟨rfl, ⟨fun _ _ z => (by cases z), Same.refl _, fun b o hb _ => keep b o hb, fun b o hb => ⟨o, keep b o hb⟩, fun _ _ z => (by cases z)⟩, fun j b => j = 1 ∧ B0 b, fun j t ht => ?_, fun j b ⟨hj, hb⟩ => ⟨rfl, .inr (hB0 b hb), ok1.there b hb, by rw [hj]; exact fun z => by cases z⟩, fun j j' b ⟨h1, _⟩ ⟨h2, _⟩ => by rw [h1, h2]⟩, ?_⟩
    · match j, ht with
      | 0, ht => cases ht
      | 1, ht =>
        have h2 : some (Sl.box p ns (begunI ns)) = some t := ht
        injection h2 with h2
        subst h2
        refine ⟨.ref p, rfl, ?_⟩
        have ea : (fun b => (1 : Nat) = 1 ∧ B0 b) = B0 := funext fun b => propext ⟨fun z => z.2, fun z => ⟨rfl, z⟩⟩
        show SlOk K (fun _ => none) H1 (.ref p) (.box p ns (begunI ns)) (fun b => (1 : Nat) = 1 ∧ B0 b)
        rw [ea]
        exact ok1
      | j + 2, ht =>
        have h2 : nth (List.replicate (20 - 2) (none : Option Sl)) j = some t := ht
        rw [nth_repl] at h2
        cases h2
    · have g := good p ns
      cases z : law_den (initL 20 p ns) with
      | ret d e =>
        rw [z] at g
        cases d with
        | bl k =>
          cases k with
          | true => exact fun F' H' σ v R rv => by rw [rv.bl_inv]; exact fin H'
          | false => exact g.elim
        | _ => exact g.elim
      | _ => rw [z] at g; exact g.elim

end
end K20
end WW
set_option Elab.async false
set_option linter.all false
set_option maxRecDepth 100000
set_option maxHeartbeats 0
namespace WW
namespace K20
open PySem PySem.Spec L2
def fn : List He.DefD := [⟨("_law_take", none), "_law_take", "_law_take", defArgs s_law_take, defBody s_law_take, defScope s_law_take, [], []⟩,
  ⟨("_law_begun", none), "_law_begun", "_law_begun", defArgs s_law_begun, defBody s_law_begun, defScope s_law_begun, [], []⟩,
  ⟨("_law_alike", none), "_law_alike", "_law_alike", defArgs s_law_alike, defBody s_law_alike, defScope s_law_alike, [], []⟩,
  ⟨("is_number", none), "is_number", "is_number", defArgs sis_number, defBody sis_number, defScope sis_number, [], []⟩,
  ⟨("are_frozen", none), "are_frozen", "are_frozen", defArgs sare_frozen, defBody sare_frozen, defScope sare_frozen, [], []⟩,
  ⟨("are_weights", none), "are_weights", "are_weights", defArgs sare_weights, defBody sare_weights, defScope sare_weights, [], []⟩,
  ⟨("need_plan", none), "need_plan", "need_plan", defArgs sneed_plan, defBody sneed_plan, defScope sneed_plan, [], []⟩,
  ⟨("need_cells", none), "need_cells", "need_cells", defArgs sneed_cells, defBody sneed_cells, defScope sneed_cells, [], []⟩,
  ⟨("weight_of", none), "weight_of", "weight_of", defArgs sweight_of, defBody sweight_of, defScope sweight_of, [], []⟩,
  ⟨("beside", none), "beside", "beside", defArgs sbeside, defBody sbeside, defScope sbeside, [], []⟩,
  ⟨("turned", none), "turned", "turned", defArgs sturned, defBody sturned, defScope sturned, [], []⟩,
  ⟨("with_sign", none), "with_sign", "with_sign", defArgs swith_sign, defBody swith_sign, defScope swith_sign, [], []⟩,
  ⟨("turns_of", none), "turns_of", "turns_of", defArgs sturns_of, defBody sturns_of, defScope sturns_of, [], []⟩,
  ⟨("turns", none), "turns", "turns", defArgs sturns, defBody sturns, defScope sturns, [], []⟩,
  ⟨("places_of", none), "places_of", "places_of", defArgs splaces_of, defBody splaces_of, defScope splaces_of, [], []⟩,
  ⟨("walls", none), "walls", "walls", defArgs swalls, defBody swalls, defScope swalls, [], []⟩,
  ⟨("blocks", none), "blocks", "blocks", defArgs sblocks, defBody sblocks, defScope sblocks, [], []⟩,
  ⟨("_law_plan", none), "_law_plan", "_law_plan", defArgs s_law_plan, defBody s_law_plan, defScope s_law_plan, [], []⟩,
  ⟨("_law_cells", none), "_law_cells", "_law_cells", defArgs s_law_cells, defBody s_law_cells, defScope s_law_cells, [], []⟩,
  ⟨("_law_turns", none), "_law_turns", "_law_turns", defArgs s_law_turns, defBody s_law_turns, defScope s_law_turns, [], []⟩,
  ⟨("_law_round", none), "_law_round", "_law_round", defArgs s_law_round, defBody s_law_round, defScope s_law_round, [], []⟩,
  ⟨("_law_by_blocks", none), "_law_by_blocks", "_law_by_blocks", defArgs s_law_by_blocks, defBody s_law_by_blocks, defScope s_law_by_blocks, [], []⟩,
  ⟨("law", none), "law", "law", defArgs s_law, defBody s_law, defScope s_law, [], []⟩]
def cs : List Chk := [cFree "abs", cFree "all", cFree "bool", cFree "int", cFree "isinstance", cFree "len", cFree "list", cFree "max", cFree "min", cFree "range", cFree "sorted", cFree "str", cFree "tuple", cFree "zip", cStr "SIGNS" ("abcd" : Str), cInt "LEAST_CELLS" 3, cInt "MOST_CELLS" 12, cInt "MOST_WEIGHT" 9, cTup "PAIRS" (["ab", "ac", "ad", "bc", "bd", "cd"] : List Str), cGlo "_law_take", cGlo "_law_begun", cGlo "_law_alike", cGlo "is_number", cGlo "are_frozen", cGlo "are_weights", cGlo "need_plan", cGlo "need_cells", cGlo "weight_of", cGlo "beside", cGlo "turned", cGlo "with_sign", cGlo "turns_of", cGlo "turns", cGlo "places_of", cGlo "walls", cGlo "blocks", cGlo "_law_plan", cGlo "_law_cells", cGlo "_law_turns", cGlo "_law_round", cGlo "_law_by_blocks", cGlo "law"]
abbrev Rw : PySem.W.OpenRow := PySem.W.OpenLaw.row PySem.Challenge.rw_wallwalk_k20_whole_walls_keep_their_orde
abbrev hk : PySem.W.Hook := hookW 5 cs fn
def ob (s : PySem.W.SharedT) : He.AlD := obsWG 5 cs fn (HandSHeadRun.getT s)
theorem ob_eq (s : PySem.W.SharedT) : ob s = hk.obs s.abs := obsWG_eq (HandSHeadRun.getT_eq s)
def loose : List PySem.Str := (["WallError", "BadPlan", "BadCells", "SIGNS", "LEAST_CELLS", "MOST_CELLS", "MOST_WEIGHT", "PAIRS", "is_number", "are_frozen", "are_weights", "need_plan", "need_cells", "weight_of", "beside", "turned", "with_sign", "turns_of", "turns", "places_of", "walls", "blocks", "_law_begun", "_law_take", "_law_alike", "_law_plan", "_law_cells", "_law_turns", "_law_round", "_law_by_blocks"] : List PySem.Str)
theorem run (w : World) : HandSHeadRun.RunEq Rw (PySem.W.view Rw.prog [34]) hk ob 20000 loose w := by
  intro os
  kernel_rfl
theorem facts {P : Program} {w : World} {K : PySem.W.Frag} {h : Heap} {mg : Str → Option Value} {fa : Addr} (X : K.In h) (G : h.Ns mainGlobals mg) (hfa : mg ("law" : Str) = some (.ref fa)) (c : SaysW cs fn K) (good : ∀ p ns, TrueL (law_den (initL 20 p ns))) :
    ∃ fd : FuncData, (∀ (s : Shared) (v : Value), BindsTo s fd ⟨[v], []⟩ [("_law_script", v)]) ∧ ∀ base : Heap, K.In base → base.Ns mainGlobals mg → FnOk P w K mg base (L2.CX P w) 9 fa fd (["_law_script"] : List Str) (spLaw K) := by
  have T : Txt K mg := ⟨He.free_ok X G (c.fact 0 (f := cFree "abs") rfl), He.free_ok X G (c.fact 1 (f := cFree "all") rfl), He.free_ok X G (c.fact 2 (f := cFree "bool") rfl), He.free_ok X G (c.fact 3 (f := cFree "int") rfl), He.free_ok X G (c.fact 4 (f := cFree "isinstance") rfl), He.free_ok X G (c.fact 5 (f := cFree "len") rfl), He.free_ok X G (c.fact 6 (f := cFree "list") rfl), He.free_ok X G (c.fact 7 (f := cFree "max") rfl), He.free_ok X G (c.fact 8 (f := cFree "min") rfl), He.free_ok X G (c.fact 9 (f := cFree "range") rfl), He.free_ok X G (c.fact 10 (f := cFree "sorted") rfl), He.free_ok X G (c.fact 11 (f := cFree "str") rfl), He.free_ok X G (c.fact 12 (f := cFree "tuple") rfl), He.free_ok X G (c.fact 13 (f := cFree "zip") rfl), He.str_ok X G (c.fact 14 (f := cStr "SIGNS" ("abcd" : Str)) rfl), He.int_ok X G (c.fact 15 (f := cInt "LEAST_CELLS" 3) rfl), He.int_ok X G (c.fact 16 (f := cInt "MOST_CELLS" 12) rfl), He.int_ok X G (c.fact 17 (f := cInt "MOST_WEIGHT" 9) rfl), cTup_ok X G (c.fact 18 (f := cTup "PAIRS" (["ab", "ac", "ad", "bc", "bd", "cd"] : List Str)) rfl)⟩
  obtain ⟨fd_law_take, D_law_take⟩ := c.def_ 0 (d := ⟨("_law_take", none), "_law_take", "_law_take", defArgs s_law_take, defBody s_law_take, defScope s_law_take, [], []⟩) rfl
  have F_law_take := toFun (st := s_law_take) D_law_take
  have g_law_take : mg "_law_take" = some (.ref (He.ga K "_law_take")) := He.glo_ok X G (c.fact 19 (f := cGlo "_law_take") rfl)
  have b_law_take : Binds K fd_law_take (["_law_box", "_law_size"] : List Str) [] := F_law_take.binds fun _ _ _ _ _ _ us hl => match us, hl with | [_, _], _ => rfl
  obtain ⟨fd_law_begun, D_law_begun⟩ := c.def_ 1 (d := ⟨("_law_begun", none), "_law_begun", "_law_begun", defArgs s_law_begun, defBody s_law_begun, defScope s_law_begun, [], []⟩) rfl
  have F_law_begun := toFun (st := s_law_begun) D_law_begun
  have g_law_begun : mg "_law_begun" = some (.ref (He.ga K "_law_begun")) := He.glo_ok X G (c.fact 20 (f := cGlo "_law_begun") rfl)
  have b_law_begun : Binds K fd_law_begun (["_law_script"] : List Str) [] := F_law_begun.binds fun _ _ _ _ _ _ us hl => match us, hl with | [_], _ => rfl
  obtain ⟨fd_law_alike, D_law_alike⟩ := c.def_ 2 (d := ⟨("_law_alike", none), "_law_alike", "_law_alike", defArgs s_law_alike, defBody s_law_alike, defScope s_law_alike, [], []⟩) rfl
  have F_law_alike := toFun (st := s_law_alike) D_law_alike
  have g_law_alike : mg "_law_alike" = some (.ref (He.ga K "_law_alike")) := He.glo_ok X G (c.fact 21 (f := cGlo "_law_alike") rfl)
  have b_law_alike : Binds K fd_law_alike (["_law_found", "_law_due"] : List Str) [] := F_law_alike.binds fun _ _ _ _ _ _ us hl => match us, hl with | [_, _], _ => rfl
  obtain ⟨fdis_number, Dis_number⟩ := c.def_ 3 (d := ⟨("is_number", none), "is_number", "is_number", defArgs sis_number, defBody sis_number, defScope sis_number, [], []⟩) rfl
  have Fis_number := toFun (st := sis_number) Dis_number
  have gis_number : mg "is_number" = some (.ref (He.ga K "is_number")) := He.glo_ok X G (c.fact 22 (f := cGlo "is_number") rfl)
  have bis_number : Binds K fdis_number (["part", "low", "high"] : List Str) [] := Fis_number.binds fun _ _ _ _ _ _ us hl => match us, hl with | [_, _, _], _ => rfl
  obtain ⟨fdare_frozen, Dare_frozen⟩ := c.def_ 4 (d := ⟨("are_frozen", none), "are_frozen", "are_frozen", defArgs sare_frozen, defBody sare_frozen, defScope sare_frozen, [], []⟩) rfl
  have Fare_frozen := toFun (st := sare_frozen) Dare_frozen
  have gare_frozen : mg "are_frozen" = some (.ref (He.ga K "are_frozen")) := He.glo_ok X G (c.fact 23 (f := cGlo "are_frozen") rfl)
  have bare_frozen : Binds K fdare_frozen (["frozen", "many"] : List Str) [] := Fare_frozen.binds fun _ _ _ _ _ _ us hl => match us, hl with | [_, _], _ => rfl
  obtain ⟨fdare_weights, Dare_weights⟩ := c.def_ 5 (d := ⟨("are_weights", none), "are_weights", "are_weights", defArgs sare_weights, defBody sare_weights, defScope sare_weights, [], []⟩) rfl
  have Fare_weights := toFun (st := sare_weights) Dare_weights
  have gare_weights : mg "are_weights" = some (.ref (He.ga K "are_weights")) := He.glo_ok X G (c.fact 24 (f := cGlo "are_weights") rfl)
  have bare_weights : Binds K fdare_weights (["weights"] : List Str) [] := Fare_weights.binds fun _ _ _ _ _ _ us hl => match us, hl with | [_], _ => rfl
  obtain ⟨fdneed_plan, Dneed_plan⟩ := c.def_ 6 (d := ⟨("need_plan", none), "need_plan", "need_plan", defArgs sneed_plan, defBody sneed_plan, defScope sneed_plan, [], []⟩) rfl
  have Fneed_plan := toFun (st := sneed_plan) Dneed_plan
  have gneed_plan : mg "need_plan" = some (.ref (He.ga K "need_plan")) := He.glo_ok X G (c.fact 25 (f := cGlo "need_plan") rfl)
  have bneed_plan : Binds K fdneed_plan (["plan"] : List Str) [] := Fneed_plan.binds fun _ _ _ _ _ _ us hl => match us, hl with | [_], _ => rfl
  obtain ⟨fdneed_cells, Dneed_cells⟩ := c.def_ 7 (d := ⟨("need_cells", none), "need_cells", "need_cells", defArgs sneed_cells, defBody sneed_cells, defScope sneed_cells, [], []⟩) rfl
  have Fneed_cells := toFun (st := sneed_cells) Dneed_cells
  have gneed_cells : mg "need_cells" = some (.ref (He.ga K "need_cells")) := He.glo_ok X G (c.fact 26 (f := cGlo "need_cells") rfl)
  have bneed_cells : Binds K fdneed_cells (["plan", "cells"] : List Str) [] := Fneed_cells.binds fun _ _ _ _ _ _ us hl => match us, hl with | [_, _], _ => rfl
  obtain ⟨fdweight_of, Dweight_of⟩ := c.def_ 8 (d := ⟨("weight_of", none), "weight_of", "weight_of", defArgs sweight_of, defBody sweight_of, defScope sweight_of, [], []⟩) rfl
  have Fweight_of := toFun (st := sweight_of) Dweight_of
  have gweight_of : mg "weight_of" = some (.ref (He.ga K "weight_of")) := He.glo_ok X G (c.fact 27 (f := cGlo "weight_of") rfl)
  have bweight_of : Binds K fdweight_of (["plan", "one", "other"] : List Str) [] := Fweight_of.binds fun _ _ _ _ _ _ us hl => match us, hl with | [_, _, _], _ => rfl
  obtain ⟨fdbeside, Dbeside⟩ := c.def_ 9 (d := ⟨("beside", none), "beside", "beside", defArgs sbeside, defBody sbeside, defScope sbeside, [], []⟩) rfl
  have Fbeside := toFun (st := sbeside) Dbeside
  have gbeside : mg "beside" = some (.ref (He.ga K "beside")) := He.glo_ok X G (c.fact 28 (f := cGlo "beside") rfl)
  have bbeside : Binds K fdbeside (["plan", "cells", "cell"] : List Str) [] := Fbeside.binds fun _ _ _ _ _ _ us hl => match us, hl with | [_, _, _], _ => rfl
  obtain ⟨fdturned, Dturned⟩ := c.def_ 10 (d := ⟨("turned", none), "turned", "turned", defArgs sturned, defBody sturned, defScope sturned, [], []⟩) rfl
  have Fturned := toFun (st := sturned) Dturned
  have gturned : mg "turned" = some (.ref (He.ga K "turned")) := He.glo_ok X G (c.fact 29 (f := cGlo "turned") rfl)
  have bturned : Binds K fdturned (["plan", "cells", "cell"] : List Str) [] := Fturned.binds fun _ _ _ _ _ _ us hl => match us, hl with | [_, _, _], _ => rfl
  obtain ⟨fdwith_sign, Dwith_sign⟩ := c.def_ 11 (d := ⟨("with_sign", none), "with_sign", "with_sign", defArgs swith_sign, defBody swith_sign, defScope swith_sign, [], []⟩) rfl
  have Fwith_sign := toFun (st := swith_sign) Dwith_sign
  have gwith_sign : mg "with_sign" = some (.ref (He.ga K "with_sign")) := He.glo_ok X G (c.fact 30 (f := cGlo "with_sign") rfl)
  have bwith_sign : Binds K fdwith_sign (["cells", "cell", "sign"] : List Str) [] := Fwith_sign.binds fun _ _ _ _ _ _ us hl => match us, hl with | [_, _, _], _ => rfl
  obtain ⟨fdturns_of, Dturns_of⟩ := c.def_ 12 (d := ⟨("turns_of", none), "turns_of", "turns_of", defArgs sturns_of, defBody sturns_of, defScope sturns_of, [], []⟩) rfl
  have Fturns_of := toFun (st := sturns_of) Dturns_of
  have gturns_of : mg "turns_of" = some (.ref (He.ga K "turns_of")) := He.glo_ok X G (c.fact 31 (f := cGlo "turns_of") rfl)
  have bturns_of : Binds K fdturns_of (["plan", "cells"] : List Str) [] := Fturns_of.binds fun _ _ _ _ _ _ us hl => match us, hl with | [_, _], _ => rfl
  obtain ⟨fdturns, Dturns⟩ := c.def_ 13 (d := ⟨("turns", none), "turns", "turns", defArgs sturns, defBody sturns, defScope sturns, [], []⟩) rfl
  have Fturns := toFun (st := sturns) Dturns
  have gturns : mg "turns" = some (.ref (He.ga K "turns")) := He.glo_ok X G (c.fact 32 (f := cGlo "turns") rfl)
  have bturns : Binds K fdturns (["plan", "cells"] : List Str) [] := Fturns.binds fun _ _ _ _ _ _ us hl => match us, hl with | [_, _], _ => rfl
  obtain ⟨fdplaces_of, Dplaces_of⟩ := c.def_ 14 (d := ⟨("places_of", none), "places_of", "places_of", defArgs splaces_of, defBody splaces_of, defScope splaces_of, [], []⟩) rfl
  have Fplaces_of := toFun (st := splaces_of) Dplaces_of
  have gplaces_of : mg "places_of" = some (.ref (He.ga K "places_of")) := He.glo_ok X G (c.fact 33 (f := cGlo "places_of") rfl)
  have bplaces_of : Binds K fdplaces_of (["plan", "cells"] : List Str) [] := Fplaces_of.binds fun _ _ _ _ _ _ us hl => match us, hl with | [_, _], _ => rfl
  obtain ⟨fdwalls, Dwalls⟩ := c.def_ 15 (d := ⟨("walls", none), "walls", "walls", defArgs swalls, defBody swalls, defScope swalls, [], []⟩) rfl
  have Fwalls := toFun (st := swalls) Dwalls
  have gwalls : mg "walls" = some (.ref (He.ga K "walls")) := He.glo_ok X G (c.fact 34 (f := cGlo "walls") rfl)
  have bwalls : Binds K fdwalls (["plan", "cells"] : List Str) [] := Fwalls.binds fun _ _ _ _ _ _ us hl => match us, hl with | [_, _], _ => rfl
  obtain ⟨fdblocks, Dblocks⟩ := c.def_ 16 (d := ⟨("blocks", none), "blocks", "blocks", defArgs sblocks, defBody sblocks, defScope sblocks, [], []⟩) rfl
  have Fblocks := toFun (st := sblocks) Dblocks
  have gblocks : mg "blocks" = some (.ref (He.ga K "blocks")) := He.glo_ok X G (c.fact 35 (f := cGlo "blocks") rfl)
  have bblocks : Binds K fdblocks (["plan", "cells"] : List Str) [] := Fblocks.binds fun _ _ _ _ _ _ us hl => match us, hl with | [_, _], _ => rfl
  obtain ⟨fd_law_plan, D_law_plan⟩ := c.def_ 17 (d := ⟨("_law_plan", none), "_law_plan", "_law_plan", defArgs s_law_plan, defBody s_law_plan, defScope s_law_plan, [], []⟩) rfl
  have F_law_plan := toFun (st := s_law_plan) D_law_plan
  have g_law_plan : mg "_law_plan" = some (.ref (He.ga K "_law_plan")) := He.glo_ok X G (c.fact 36 (f := cGlo "_law_plan") rfl)
  have b_law_plan : Binds K fd_law_plan (["_law_box", "_law_most"] : List Str) [] := F_law_plan.binds fun _ _ _ _ _ _ us hl => match us, hl with | [_, _], _ => rfl
  obtain ⟨fd_law_cells, D_law_cells⟩ := c.def_ 18 (d := ⟨("_law_cells", none), "_law_cells", "_law_cells", defArgs s_law_cells, defBody s_law_cells, defScope s_law_cells, [], []⟩) rfl
  have F_law_cells := toFun (st := s_law_cells) D_law_cells
  have g_law_cells : mg "_law_cells" = some (.ref (He.ga K "_law_cells")) := He.glo_ok X G (c.fact 37 (f := cGlo "_law_cells") rfl)
  have b_law_cells : Binds K fd_law_cells (["_law_box", "_law_plan_here"] : List Str) [] := F_law_cells.binds fun _ _ _ _ _ _ us hl => match us, hl with | [_, _], _ => rfl
  obtain ⟨fd_law_turns, D_law_turns⟩ := c.def_ 19 (d := ⟨("_law_turns", none), "_law_turns", "_law_turns", defArgs s_law_turns, defBody s_law_turns, defScope s_law_turns, [], []⟩) rfl
  have F_law_turns := toFun (st := s_law_turns) D_law_turns
  have g_law_turns : mg "_law_turns" = some (.ref (He.ga K "_law_turns")) := He.glo_ok X G (c.fact 38 (f := cGlo "_law_turns") rfl)
  have b_law_turns : Binds K fd_law_turns (["_law_plan_here", "_law_cells_here"] : List Str) [] := F_law_turns.binds fun _ _ _ _ _ _ us hl => match us, hl with | [_, _], _ => rfl
  obtain ⟨fd_law_round, D_law_round⟩ := c.def_ 20 (d := ⟨("_law_round", none), "_law_round", "_law_round", defArgs s_law_round, defBody s_law_round, defScope s_law_round, [], []⟩) rfl
  have F_law_round := toFun (st := s_law_round) D_law_round
  have g_law_round : mg "_law_round" = some (.ref (He.ga K "_law_round")) := He.glo_ok X G (c.fact 39 (f := cGlo "_law_round") rfl)
  have b_law_round : Binds K fd_law_round (["_law_signs"] : List Str) [] := F_law_round.binds fun _ _ _ _ _ _ us hl => match us, hl with | [_], _ => rfl
  obtain ⟨fd_law_by_blocks, D_law_by_blocks⟩ := c.def_ 21 (d := ⟨("_law_by_blocks", none), "_law_by_blocks", "_law_by_blocks", defArgs s_law_by_blocks, defBody s_law_by_blocks, defScope s_law_by_blocks, [], []⟩) rfl
  have F_law_by_blocks := toFun (st := s_law_by_blocks) D_law_by_blocks
  have g_law_by_blocks : mg "_law_by_blocks" = some (.ref (He.ga K "_law_by_blocks")) := He.glo_ok X G (c.fact 40 (f := cGlo "_law_by_blocks") rfl)
  have b_law_by_blocks : Binds K fd_law_by_blocks (["_law_plan_here", "_law_cells_here", "_law_told"] : List Str) [] := F_law_by_blocks.binds fun _ _ _ _ _ _ us hl => match us, hl with | [_, _, _], _ => rfl
  obtain ⟨fdlaw, Dlaw⟩ := c.def_ 22 (d := ⟨("law", none), "law", "law", defArgs s_law, defBody s_law, defScope s_law, [], []⟩) rfl
  have Flaw := toFun (st := s_law) Dlaw
  have glaw : mg "law" = some (.ref (He.ga K "law")) := He.glo_ok X G (c.fact 41 (f := cGlo "law") rfl)
  have blaw : Binds K fdlaw (["_law_script"] : List Str) [] := Flaw.binds fun _ _ _ _ _ _ us hl => match us, hl with | [_], _ => rfl
  have e := hfa.symm.trans glaw
  cases e
  refine ⟨fdlaw, fun s v => ?_, fun base _ _ => ?_⟩
  · have b := FunD.bindsA (ps := (["_law_script"] : List Str)) Dlaw fun _ _ _ _ _ _ us hl => match us, hl with | [_], _ => rfl
    exact b s [v] rfl
  have G_law_take : GFn P w K mg base "_law_take" 1 (["_law_box", "_law_size"] : List Str) (spB K 1 f_law_take) := ⟨_, _, ok_law_take T F_law_take, g_law_take, F_law_take.kp, b_law_take⟩
  have G_law_alike : GFn P w K mg base "_law_alike" 8 (["_law_found", "_law_due"] : List Str) (spD K 2 (f_law_alike 8)) := ⟨_, _, ok_law_alike T F_law_alike g_law_alike b_law_alike 8, g_law_alike, F_law_alike.kp, b_law_alike⟩
  have Gis_number : GFn P w K mg base "is_number" 1 (["part", "low", "high"] : List Str) (spD K 3 p_is_number) := ⟨_, _, okis_number T Fis_number , gis_number, Fis_number.kp, bis_number⟩
  have Gare_frozen : GFn P w K mg base "are_frozen" 2 (["frozen", "many"] : List Str) (spD K 2 p_are_frozen) := ⟨_, _, okare_frozen T Fare_frozen Gis_number, gare_frozen, Fare_frozen.kp, bare_frozen⟩
  have Gare_weights : GFn P w K mg base "are_weights" 2 (["weights"] : List Str) (spD K 1 p_are_weights) := ⟨_, _, okare_weights T Fare_weights Gis_number, gare_weights, Fare_weights.kp, bare_weights⟩
  have Gneed_plan : GFn P w K mg base "need_plan" 3 (["plan"] : List Str) (spD K 1 p_need_plan) := ⟨_, _, okneed_plan T Fneed_plan Gare_frozen Gare_weights Gis_number, gneed_plan, Fneed_plan.kp, bneed_plan⟩
  have Gneed_cells : GFn P w K mg base "need_cells" 1 (["plan", "cells"] : List Str) (spD K 2 p_need_cells) := ⟨_, _, okneed_cells T Fneed_cells , gneed_cells, Fneed_cells.kp, bneed_cells⟩
  have Gweight_of : GFn P w K mg base "weight_of" 1 (["plan", "one", "other"] : List Str) (spD K 3 p_weight_of) := ⟨_, _, okweight_of T Fweight_of , gweight_of, Fweight_of.kp, bweight_of⟩
  have Gbeside : GFn P w K mg base "beside" 1 (["plan", "cells", "cell"] : List Str) (spD K 3 p_beside) := ⟨_, _, okbeside T Fbeside , gbeside, Fbeside.kp, bbeside⟩
  have Gturned : GFn P w K mg base "turned" 2 (["plan", "cells", "cell"] : List Str) (spD K 3 p_turned) := ⟨_, _, okturned T Fturned Gbeside, gturned, Fturned.kp, bturned⟩
  have Gwith_sign : GFn P w K mg base "with_sign" 1 (["cells", "cell", "sign"] : List Str) (spD K 3 p_with_sign) := ⟨_, _, okwith_sign T Fwith_sign , gwith_sign, Fwith_sign.kp, bwith_sign⟩
  have Gturns_of : GFn P w K mg base "turns_of" 3 (["plan", "cells"] : List Str) (spD K 2 p_turns_of) := ⟨_, _, okturns_of T Fturns_of Gturned Gweight_of Gwith_sign, gturns_of, Fturns_of.kp, bturns_of⟩
  have Gturns : GFn P w K mg base "turns" 4 (["plan", "cells"] : List Str) (spD K 2 p_turns) := ⟨_, _, okturns T Fturns Gneed_cells Gneed_plan Gturns_of, gturns, Fturns.kp, bturns⟩
  have Gplaces_of : GFn P w K mg base "places_of" 1 (["plan", "cells"] : List Str) (spD K 2 p_places_of) := ⟨_, _, okplaces_of T Fplaces_of , gplaces_of, Fplaces_of.kp, bplaces_of⟩
  have Gwalls : GFn P w K mg base "walls" 4 (["plan", "cells"] : List Str) (spD K 2 p_walls) := ⟨_, _, okwalls T Fwalls Gneed_cells Gneed_plan Gplaces_of, gwalls, Fwalls.kp, bwalls⟩
  have Gblocks : GFn P w K mg base "blocks" 4 (["plan", "cells"] : List Str) (spD K 2 p_blocks) := ⟨_, _, okblocks T Fblocks Gneed_cells Gneed_plan Gplaces_of, gblocks, Fblocks.kp, bblocks⟩
  have G_law_plan : GFn P w K mg base "_law_plan" 2 (["_law_box", "_law_most"] : List Str) (spB K 1 f_law_plan) := ⟨_, _, ok_law_plan T F_law_plan G_law_take, g_law_plan, F_law_plan.kp, b_law_plan⟩
  have G_law_cells : GFn P w K mg base "_law_cells" 2 (["_law_box", "_law_plan_here"] : List Str) (spB K 1 f_law_cells) := ⟨_, _, ok_law_cells T F_law_cells G_law_take, g_law_cells, F_law_cells.kp, b_law_cells⟩
  have G_law_turns : GFn P w K mg base "_law_turns" 1 (["_law_plan_here", "_law_cells_here"] : List Str) (spD K 2 f_law_turns) := ⟨_, _, ok_law_turns T F_law_turns , g_law_turns, F_law_turns.kp, b_law_turns⟩
  have G_law_round : GFn P w K mg base "_law_round" 1 (["_law_signs"] : List Str) (spD K 1 f_law_round) := ⟨_, _, ok_law_round T F_law_round , g_law_round, F_law_round.kp, b_law_round⟩
  have G_law_by_blocks : GFn P w K mg base "_law_by_blocks" 5 (["_law_plan_here", "_law_cells_here", "_law_told"] : List Str) (spD K 3 f_law_by_blocks) := ⟨_, _, ok_law_by_blocks T F_law_by_blocks Gwalls, g_law_by_blocks, F_law_by_blocks.kp, b_law_by_blocks⟩
  exact ok_law T Flaw (ok_law_begun T F_law_begun) g_law_begun F_law_begun.kp b_law_begun G_law_alike G_law_by_blocks G_law_cells G_law_plan G_law_round G_law_take G_law_turns Gblocks Gturns Gwalls good
end K20
end WW
set_option Elab.async false
set_option linter.all false
set_option maxRecDepth 100000
namespace WW
open PySem PySem.Spec L2
/-! evaluating denotations by simp: every combinator's own equation, first arguments first -/
def SR.seq : SR → DS → SR
  | .next e, b => b e
  | .ret d e, _ => .ret d e
  | .brk e, _ => .brk e
  | .cnt e, _ => .cnt e
  | .exc x, _ => .exc x
  | .bad, _ => .bad
section
variable {α β : Type}
@[simp] theorem r_bind_ok (a : α) (f : α → R β) : (R.ok a).bind f = f a := rfl
@[simp] theorem r_bind_bad (f : α → R β) : (R.bad : R α).bind f = .bad := rfl
@[simp] theorem r_bind_exc (x : Exn) (f : α → R β) : (R.exc x : R α).bind f = .exc x := rfl
@[simp] theorem r_toS_ok (a : α) (f : α → SR) : (R.ok a).toS f = f a := rfl
@[simp] theorem r_toS_bad (f : α → SR) : (R.bad : R α).toS f = .bad := rfl
@[simp] theorem r_toS_exc (x : Exn) (f : α → SR) : (R.exc x : R α).toS f = .exc x := rfl
@[simp] theorem r_noX_ok (a : α) : (R.ok a).noX = .ok a := rfl
end
variable (e : En) (da db dc : DE) (dr : DA) (t u : DT) (a b : DS) (i j : Nat)
@[simp] theorem s_next : (SR.next e).seq b = b e := rfl
@[simp] theorem s_ret (d : D) : (SR.ret d e).seq b = .ret d e := rfl
@[simp] theorem s_brk : (SR.brk e).seq b = .brk e := rfl
@[simp] theorem s_cnt : (SR.cnt e).seq b = .cnt e := rfl
@[simp] theorem s_exc (x : Exn) : (SR.exc x).seq b = .exc x := rfl
@[simp] theorem s_bad : SR.bad.seq b = .bad := rfl
@[simp] theorem e_seq : sSeq a b e = (a e).seq b := by
  unfold sSeq SR.seq
  cases a e <;> rfl
def fin (e : En) (d : D) : R (D × En) := .ok (d, e)
@[simp] theorem fin_e (d : D) : fin e d = .ok (d, e) := rfl
def kRet (p : D × En) : SR := .ret p.1 p.2
@[simp] theorem kRet_e (d : D) : kRet (d, e) = .ret d e := rfl
def kDrop (p : D × En) : SR := .next p.2
@[simp] theorem kDrop_e (d : D) : kDrop (d, e) = .next e := rfl
def kIf (a b : DS) (p : Bool × En) : SR := if p.1 = true then a p.2 else b p.2
@[simp] theorem kIf_t : kIf a b (true, e) = a e := rfl
@[simp] theorem kIf_f : kIf a b (false, e) = b e := rfl
theorem kIf_c (k : Bool) : kIf a b (k, e) = if k = true then a e else b e := rfl
def kSet (i : Nat) (p : D × En) : SR := setS p.2 i (.v p.1)
@[simp] theorem kSet_e (d : D) : kSet i (d, e) = setS e i (.v d) := rfl
def kSetO (i : Nat) (p : Sl × En) : SR := setS p.2 i p.1
@[simp] theorem kSetO_e (s : Sl) : kSetO i (s, e) = setS e i s := rfl
def oNx : Option En → SR
  | some e' => .next e'
  | none => .bad
@[simp] theorem oNx_s : oNx (some e) = .next e := rfl
def kTo (g : DG) (p : D × En) : SR := oNx (g p.1 p.2)
@[simp] theorem kTo_e (g : DG) (d : D) : kTo g (d, e) = oNx (g d e) := rfl
def oSet (j : Nat) (s : Sl) : Option En → SR
  | some e1 => setS e1 j s
  | none => .bad
@[simp] theorem oSet_s (s : Sl) : oSet j s (some e) = setS e j s := rfl
def kPar2 (i j : Nat) (s : Sl) (q : D × En) : SR := oSet j (.v q.1) (setE q.2 i (some s))
@[simp] theorem kPar2_e (s : Sl) (d : D) : kPar2 i j s (d, e) = oSet j (.v d) (setE e i (some s)) := rfl
def kPar (i j : Nat) (db : DE) (p : D × En) : SR := (db p.2).toS (kPar2 i j (.v p.1))
@[simp] theorem kPar_e (d : D) : kPar i j db (d, e) = (db e).toS (kPar2 i j (.v d)) := rfl
def kParO (i j : Nat) (db : DE) (p : Sl × En) : SR := (db p.2).toS (kPar2 i j p.1)
@[simp] theorem kParO_e (s : Sl) : kParO i j db (s, e) = (db e).toS (kPar2 i j s) := rfl
@[simp] theorem e_next : sNext e = .next e := rfl
@[simp] theorem e_if : sIf t a b e = (t e).toS (kIf a b) := rfl
@[simp] theorem e_ret : sRet da e = (da e).toS kRet := rfl
@[simp] theorem e_retN : sRetN e = .ret .non e := rfl
@[simp] theorem e_drop : sDrop da e = (da e).toS kDrop := rfl
@[simp] theorem e_brk : sBrk e = .brk e := rfl
@[simp] theorem e_cnt : sCnt e = .cnt e := rfl
@[simp] theorem e_sbad : sBad e = .bad := rfl
@[simp] theorem e_asg : sAsg i da e = (da e).toS (kSet i) := rfl
@[simp] theorem e_asgO (o : OE) : sAsgO i o e = (o e).toS (kSetO i) := rfl
@[simp] theorem e_to (g : DG) : sTo g da e = (da e).toS (kTo g) := by
  unfold sTo
  congr 1
@[simp] theorem e_par : sPar i j da db e = (da e).toS (kPar i j db) := by
  unfold sPar
  congr 1
@[simp] theorem e_parO (o : OE) : sParO i j o db e = (o e).toS (kParO i j db) := by
  unfold sParO
  congr 1
def sApp2 (e : En) (i : Nat) (d : D) : Option Sl → SR
  | some (.l xs) => if xs.length < LIM then setS e i (.l (xs ++ [d])) else .bad
  | _ => .bad
@[simp] theorem sApp2_l (d : D) (xs : List D) : sApp2 e i d (some (.l xs)) = if xs.length < LIM then setS e i (.l (xs ++ [d])) else .bad := rfl
def kApp2 (i : Nat) (p : D × En) : SR := sApp2 p.2 i p.1 (nth p.2 i)
@[simp] theorem kApp2_e (d : D) : kApp2 i (d, e) = sApp2 e i d (nth e i) := rfl
def sApp1 (da : DE) (e : En) (i : Nat) : Option Sl → SR
  | some (.l _) => (da e).toS (kApp2 i)
  | _ => .bad
@[simp] theorem sApp1_l (xs : List D) : sApp1 da e i (some (.l xs)) = (da e).toS (kApp2 i) := rfl
@[simp] theorem e_append : sAppend i da e = sApp1 da e i (nth e i) := rfl
def sIx3 (e : En) (i : Nat) (d : D) (xs : List D) : Option Nat → SR
  | some j => setS e i (.l (xs.set j d))
  | none => .bad
@[simp] theorem sIx3_s (d : D) (xs : List D) : sIx3 e i d xs (some j) = setS e i (.l (xs.set j d)) := rfl
def sIx2 (e : En) (i : Nat) (d : D) : D → Option Sl → SR
  | .int k, some (.l xs) => sIx3 e i d xs (ixN xs.length k)
  | _, _ => .bad
@[simp] theorem sIx2_l (d : D) (k : Int) (xs : List D) : sIx2 e i d (.int k) (some (.l xs)) = sIx3 e i d xs (ixN xs.length k) := rfl
def kIx2 (i : Nat) (d : D) (q : D × En) : SR := sIx2 q.2 i d q.1 (nth q.2 i)
@[simp] theorem kIx2_e (d k : D) : kIx2 i d (k, e) = sIx2 e i d k (nth e i) := rfl
def sIx1 (dk : DE) (e : En) (i : Nat) (d : D) : Option Sl → SR
  | some (.l _) => (dk e).toS (kIx2 i d)
  | _ => .bad
@[simp] theorem sIx1_l (d : D) (xs : List D) : sIx1 da e i d (some (.l xs)) = (da e).toS (kIx2 i d) := rfl
def kIx1 (dk : DE) (i : Nat) (p : D × En) : SR := sIx1 dk p.2 i p.1 (nth p.2 i)
@[simp] theorem kIx1_e (d : D) : kIx1 da i (d, e) = sIx1 da e i d (nth e i) := rfl
@[simp] theorem e_setIx (dk : DE) : sSetIx i dk da e = (da e).toS (kIx1 dk i) := by
  unfold sSetIx
  congr 1
  funext p
  have h2 : (fun q : D × En => (match nth q.2 i, q.1 with
      | some (.l xs), .int k => (match ixN xs.length k with
        | some j => setS q.2 i (.l (xs.set j p.1))
        | none => .bad)
      | _, _ => .bad)) = kIx2 i p.1 := by
    funext q
    unfold kIx2
    cases nth q.2 i with
    | none => cases q.1 <;> rfl
    | some s =>
      cases s with
      | v d => cases q.1 <;> rfl
      | box a b c => cases q.1 <;> rfl
      | l xs =>
        cases q.1 with
        | int k =>
          show (match ixN xs.length k with
            | some j => setS q.2 i (.l (xs.set j p.1))
            | none => .bad) = sIx3 q.2 i p.1 xs (ixN xs.length k)
          cases ixN xs.length k <;> rfl
        | _ => rfl
  unfold kIx1
  cases nth p.2 i with
  | none => rfl
  | some s =>
    cases s with
    | v d => rfl
    | box a b c => rfl
    | l xs => exact congrArg ((dk p.2).toS) h2
def kFor (g : DG) (b : DS) (p : List D × En) : SR := forL g b p.1 p.2
@[simp] theorem kFor_e (g : DG) (l : List D) : kFor g b (l, e) = forL g b l e := rfl
@[simp] theorem e_for (src : DA) (g : DG) : sFor src g b e = (src e).toS (kFor g b) := rfl
def oVar2 (xs : List D) : Option En → R (D × En)
  | some e' => .ok (.lst xs, e')
  | none => .bad
@[simp] theorem oVar2_s (xs : List D) : oVar2 xs (some e) = .ok (.lst xs, e) := rfl
def oVar (e : En) (i : Nat) : Option Sl → R (D × En)
  | some (.v d) => .ok (d, e)
  | some (.l xs) => oVar2 xs (setE e i (some (.v (.lst xs))))
  | _ => .bad
@[simp] theorem oVar_v (d : D) : oVar e i (some (.v d)) = .ok (d, e) := rfl
@[simp] theorem oVar_l (xs : List D) : oVar e i (some (.l xs)) = oVar2 xs (setE e i (some (.v (.lst xs)))) := rfl
@[simp] theorem e_var : dVar i e = oVar e i (nth e i) := rfl
@[simp] theorem e_C (d : D) : dC d e = .ok (d, e) := rfl
def kBin2 (g : D → D → R D) (x : D) (q : D × En) : R (D × En) := (g x q.1).bind (fin q.2)
@[simp] theorem kBin2_e (g : D → D → R D) (x d : D) : kBin2 g x (d, e) = (g x d).bind (fin e) := rfl
def kBin (g : D → D → R D) (db : DE) (p : D × En) : R (D × En) := (db p.2).bind (kBin2 g p.1)
@[simp] theorem kBin_e (g : D → D → R D) (d : D) : kBin g db (d, e) = (db e).bind (kBin2 g d) := rfl
@[simp] theorem e_bin (g : D → D → R D) : dBin g da db e = (da e).bind (kBin g db) := rfl
def kUn (g : D → R D) (p : D × En) : R (D × En) := (g p.1).bind (fin p.2)
@[simp] theorem kUn_e (g : D → R D) (d : D) : kUn g (d, e) = (g d).bind (fin e) := rfl
@[simp] theorem e_un (g : D → R D) : dUn g da e = (da e).bind (kUn g) := rfl
@[simp] theorem e_nil : dNil e = .ok ([], e) := rfl
def kCons2 (d : D) (q : List D × En) : R (List D × En) := .ok (d :: q.1, q.2)
@[simp] theorem kCons2_e (d : D) (l : List D) : kCons2 d (l, e) = .ok (d :: l, e) := rfl
def kCons (dr : DA) (p : D × En) : R (List D × En) := (dr p.2).bind (kCons2 p.1)
@[simp] theorem kCons_e (d : D) : kCons dr (d, e) = (dr e).bind (kCons2 d) := rfl
@[simp] theorem e_cons : dCons da dr e = (da e).bind (kCons dr) := rfl
def kApp (g : List D → R D) (p : List D × En) : R (D × En) := (g p.1).bind (fin p.2)
@[simp] theorem kApp_e (g : List D → R D) (l : List D) : kApp g (l, e) = (g l).bind (fin e) := rfl
@[simp] theorem e_app (g : List D → R D) : dApp g dr e = (dr e).bind (kApp g) := rfl
@[simp] theorem e_call (g : List D → R D) : dCall g dr e = (dr e).bind (kApp g) := rfl
@[simp] theorem e_tup : dTup dr e = (dr e).bind (kApp mkTup) := rfl
def finT (e : En) (k : Bool) : R (Bool × En) := .ok (k, e)
@[simp] theorem finT_e (k : Bool) : finT e k = .ok (k, e) := rfl
def kTest (p : D × En) : R (Bool × En) := (asB p.1).bind (finT p.2)
@[simp] theorem kTest_e (d : D) : kTest (d, e) = (asB d).bind (finT e) := rfl
@[simp] theorem e_test : dTest da e = (da e).bind kTest := rfl
def kCh4 (g' : D → D → R D) (y : D) (z : D × En) : R (D × En) := (g' y z.1).bind (fin z.2)
@[simp] theorem kCh4_e (g' : D → D → R D) (y d : D) : kCh4 g' y (d, e) = (g' y d).bind (fin e) := rfl
def kCh3 (g' : D → D → R D) (y : D) (e : En) (dc : DE) (k : Bool) : R (D × En) := if k = true then (dc e).bind (kCh4 g' y) else .ok (.bl false, e)
@[simp] theorem kCh3_t (g' : D → D → R D) (y : D) : kCh3 g' y e dc true = (dc e).bind (kCh4 g' y) := rfl
@[simp] theorem kCh3_f (g' : D → D → R D) (y : D) : kCh3 g' y e dc false = .ok (.bl false, e) := rfl
theorem kCh3_c (g' : D → D → R D) (y : D) (k : Bool) : kCh3 g' y e dc k = if k = true then (dc e).bind (kCh4 g' y) else .ok (.bl false, e) := rfl
def kCh2 (g g' : D → D → R D) (x : D) (dc : DE) (q : D × En) : R (D × En) := ((g x q.1).bind asB).bind (kCh3 g' q.1 q.2 dc)
@[simp] theorem kCh2_e (g g' : D → D → R D) (x d : D) : kCh2 g g' x dc (d, e) = ((g x d).bind asB).bind (kCh3 g' d e dc) := rfl
def kCh1 (g g' : D → D → R D) (db dc : DE) (p : D × En) : R (D × En) := (db p.2).bind (kCh2 g g' p.1 dc)
@[simp] theorem kCh1_e (g g' : D → D → R D) (d : D) : kCh1 g g' db dc (d, e) = (db e).bind (kCh2 g g' d dc) := rfl
theorem bind_bind {α β γ : Type} (r : R α) (f : α → R β) (g : β → R γ) : (r.bind f).bind g = r.bind fun x => (f x).bind g := by cases r <;> rfl
@[simp] theorem e_chain (g g' : D → D → R D) : dChain g g' da db dc e = (da e).bind (kCh1 g g' db dc) := by
  unfold dChain
  congr 1
  funext p
  unfold kCh1
  congr 1
  funext q
  unfold kCh2
  rw [bind_bind]
  rfl
def kNot (p : Bool × En) : R (Bool × En) := .ok (!p.1, p.2)
@[simp] theorem kNot_e (k : Bool) : kNot (k, e) = .ok (!k, e) := rfl
@[simp] theorem e_not : dNot t e = (t e).bind kNot := rfl
def kAnd (u : DT) (p : Bool × En) : R (Bool × En) := if p.1 = true then u p.2 else .ok (false, p.2)
@[simp] theorem kAnd_t : kAnd u (true, e) = u e := rfl
@[simp] theorem kAnd_f : kAnd u (false, e) = .ok (false, e) := rfl
theorem kAnd_c (k : Bool) : kAnd u (k, e) = if k = true then u e else .ok (false, e) := rfl
@[simp] theorem e_and : dAnd t u e = (t e).bind (kAnd u) := rfl
def kOr (u : DT) (p : Bool × En) : R (Bool × En) := if p.1 = true then .ok (true, p.2) else u p.2
@[simp] theorem kOr_t : kOr u (true, e) = .ok (true, e) := rfl
@[simp] theorem kOr_f : kOr u (false, e) = u e := rfl
theorem kOr_c (k : Bool) : kOr u (k, e) = if k = true then .ok (true, e) else u e := rfl
@[simp] theorem e_or : dOr t u e = (t e).bind (kOr u) := rfl
def kOfT (p : Bool × En) : R (D × En) := .ok (.bl p.1, p.2)
@[simp] theorem kOfT_e (k : Bool) : kOfT (k, e) = .ok (.bl k, e) := rfl
@[simp] theorem e_ofT : dOfT t e = (t e).bind kOfT := rfl
def kAV2 (db : DE) (e : En) (k : Bool) : R (D × En) := if k = true then db e else .ok (.bl false, e)
@[simp] theorem kAV2_t : kAV2 db e true = db e := rfl
@[simp] theorem kAV2_f : kAV2 db e false = .ok (.bl false, e) := rfl
theorem kAV2_c (k : Bool) : kAV2 db e k = if k = true then db e else .ok (.bl false, e) := rfl
def kAV (db : DE) (p : D × En) : R (D × En) := (asB p.1).bind (kAV2 db p.2)
@[simp] theorem kAV_e (d : D) : kAV db (d, e) = (asB d).bind (kAV2 db e) := rfl
@[simp] theorem e_andV : dAndV da db e = (da e).bind (kAV db) := rfl
def kOV2 (db : DE) (e : En) (k : Bool) : R (D × En) := if k = true then .ok (.bl true, e) else db e
@[simp] theorem kOV2_t : kOV2 db e true = .ok (.bl true, e) := rfl
@[simp] theorem kOV2_f : kOV2 db e false = db e := rfl
def kOV (db : DE) (p : D × En) : R (D × En) := (asB p.1).bind (kOV2 db p.2)
@[simp] theorem kOV_e (d : D) : kOV db (d, e) = (asB d).bind (kOV2 db e) := rfl
@[simp] theorem e_orV : dOrV da db e = (da e).bind (kOV db) := rfl
def finN (e : En) (k : Bool) : R (D × En) := .ok (.bl (!k), e)
@[simp] theorem finN_e (k : Bool) : finN e k = .ok (.bl (!k), e) := rfl
def kNV (p : D × En) : R (D × En) := (asB p.1).bind (finN p.2)
@[simp] theorem kNV_e (d : D) : kNV (d, e) = (asB d).bind (finN e) := rfl
@[simp] theorem e_notV : dNotV da e = (da e).bind kNV := rfl
def kIfE (da db : DE) (p : Bool × En) : R (D × En) := if p.1 = true then da p.2 else db p.2
@[simp] theorem kIfE_t : kIfE da db (true, e) = da e := rfl
@[simp] theorem kIfE_f : kIfE da db (false, e) = db e := rfl
theorem kIfE_c (k : Bool) : kIfE da db (k, e) = if k = true then da e else db e := rfl
@[simp] theorem e_ifE : dIfE t da db e = (t e).bind (kIfE da db) := rfl
def finS (e : En) (s : Sl) : R (Sl × En) := .ok (s, e)
@[simp] theorem finS_e (s : Sl) : finS e s = .ok (s, e) := rfl
def kLst (p : List D × En) : R (Sl × En) := (mkLst p.1).bind (finS p.2)
@[simp] theorem kLst_e (l : List D) : kLst (l, e) = (mkLst l).bind (finS e) := rfl
@[simp] theorem e_oLst : oLst dr e = (dr e).bind kLst := rfl
def kFrz (p : Sl × En) : R (D × En) := (slD p.1).bind (fin p.2)
@[simp] theorem kFrz_e (s : Sl) : kFrz (s, e) = (slD s).bind (fin e) := rfl
@[simp] theorem e_frz (o : OE) : dFrz o e = (o e).bind kFrz := rfl
@[simp] theorem e_isi (T : String) : dIsi T da e = (da e).bind (kUn (gIsi T)) := rfl
@[simp] theorem e_tupIx (ys : List Str) : dTupIx ys da e = (da e).bind (kUn (gTupIx ys)) := rfl
def kM2 (g : D → List D → R D) (d : D) (q : List D × En) : R (D × En) := (g d q.1).bind (fin q.2)
@[simp] theorem kM2_e (g : D → List D → R D) (d : D) (l : List D) : kM2 g d (l, e) = (g d l).bind (fin e) := rfl
def kM (ok : D → Bool) (g : D → List D → R D) (dr : DA) (p : D × En) : R (D × En) := if ok p.1 = true then (dr p.2).bind (kM2 g p.1) else .bad
@[simp] theorem kM_e (ok : D → Bool) (g : D → List D → R D) (d : D) : kM ok g dr (d, e) = if ok d = true then (dr e).bind (kM2 g d) else .bad := rfl
@[simp] theorem e_mth (ok : D → Bool) (g : D → List D → R D) : dMth ok g da dr e = (da e).bind (kM ok g dr) := rfl
@[simp] theorem e_pNo : pNo e = .ok (none, e) := rfl
def finP (e : En) (k : Int) : R (Option Int × En) := .ok (some k, e)
@[simp] theorem finP_e (k : Int) : finP e k = .ok (some k, e) := rfl
def kP (p : D × En) : R (Option Int × En) := (asI p.1).bind (finP p.2)
@[simp] theorem kP_e (d : D) : kP (d, e) = (asI d).bind (finP e) := rfl
@[simp] theorem e_pSome : pSome da e = (da e).bind kP := rfl
def kSl3 (d : D) (x : Option Int) (p : Option Int × En) : R (D × En) := (gSl d x p.1).bind (fin p.2)
@[simp] theorem kSl3_e (d : D) (x y : Option Int) : kSl3 d x (y, e) = (gSl d x y).bind (fin e) := rfl
def kSl2 (d : D) (hi : DOp) (p : Option Int × En) : R (D × En) := (hi p.2).bind (kSl3 d p.1)
@[simp] theorem kSl2_e (d : D) (hi : DOp) (x : Option Int) : kSl2 d hi (x, e) = (hi e).bind (kSl3 d x) := rfl
def kSl1 (lo hi : DOp) (p : D × En) : R (D × En) := (lo p.2).bind (kSl2 p.1 hi)
@[simp] theorem kSl1_e (lo hi : DOp) (d : D) : kSl1 lo hi (d, e) = (lo e).bind (kSl2 d hi) := rfl
@[simp] theorem e_sl (lo hi : DOp) : dSl da lo hi e = (da e).bind (kSl1 lo hi) := rfl
def oB4 (d : D) : Option En → R (D × En)
  | some e' => .ok (d, e')
  | none => .bad
@[simp] theorem oB4_s (d : D) : oB4 d (some e) = .ok (d, e) := rfl
def kB3 (e : En) (i : Nat) (q : D × Bx) : R (D × En) := oB4 q.1 (setE e i (some (.box q.2.1 q.2.2.1 q.2.2.2)))
@[simp] theorem kB3_e (d : D) (b : Bx) : kB3 e i (d, b) = oB4 d (setE e i (some (.box b.1 b.2.1 b.2.2))) := rfl
def oB2 (f : Bx → List D → R (D × Bx)) (l : List D) (e : En) (i : Nat) : Option Sl → R (D × En)
  | some (.box a ns st) => (f (a, ns, st) l).noX.bind (kB3 e i)
  | _ => .bad
@[simp] theorem oB2_b (f : Bx → List D → R (D × Bx)) (l : List D) (a : Addr) (ns : List Int) (st : Int) : oB2 f l e i (some (.box a ns st)) = (f (a, ns, st) l).noX.bind (kB3 e i) := rfl
def kB1 (f : Bx → List D → R (D × Bx)) (i : Nat) (p : List D × En) : R (D × En) := oB2 f p.1 p.2 i (nth p.2 i)
@[simp] theorem kB1_e (f : Bx → List D → R (D × Bx)) (l : List D) : kB1 f i (l, e) = oB2 f l e i (nth e i) := rfl
def oB0 (f : Bx → List D → R (D × Bx)) (dr : DA) (e : En) (i : Nat) : Option Sl → R (D × En)
  | some (.box _ _ _) => (dr e).bind (kB1 f i)
  | _ => .bad
@[simp] theorem oB0_b (f : Bx → List D → R (D × Bx)) (a : Addr) (ns : List Int) (st : Int) : oB0 f dr e i (some (.box a ns st)) = (dr e).bind (kB1 f i) := rfl
@[simp] theorem e_callB (f : Bx → List D → R (D × Bx)) : dCallB f i dr e = oB0 f dr e i (nth e i) := by
  have h3 : ∀ (p : List D × En), (fun q : D × Bx => (match setE p.2 i (some (.box q.2.1 q.2.2.1 q.2.2.2)) with
      | some e' => .ok (q.1, e')
      | none => .bad)) = kB3 p.2 i := by
    intro p
    funext q
    unfold kB3
    cases setE p.2 i (some (.box q.2.1 q.2.2.1 q.2.2.2)) <;> rfl
  have h2 : (fun p : List D × En => (match nth p.2 i with
    | some (.box a ns st) => (f (a, ns, st) p.1).noX.bind fun q => (match setE p.2 i (some (.box q.2.1 q.2.2.1 q.2.2.2)) with
      | some e' => .ok (q.1, e')
      | none => .bad)
    | _ => .bad)) = kB1 f i := by
    funext p
    unfold kB1
    cases nth p.2 i with
    | none => rfl
    | some s =>
      cases s with
      | v d => rfl
      | l xs => rfl
      | box a ns st =>
        show ((f (a, ns, st) p.1).noX.bind fun q => (match setE p.2 i (some (.box q.2.1 q.2.2.1 q.2.2.2)) with
          | some e' => .ok (q.1, e')
          | none => .bad)) = _
        rw [h3]
        rfl
  unfold dCallB
  cases nth e i with
  | none => rfl
  | some s =>
    cases s with
    | v d => rfl
    | l xs => rfl
    | box a ns st => exact congrArg ((dr e).bind) h2
def finL (e : En) (l : List D) : R (List D × En) := .ok (l, e)
@[simp] theorem finL_e (l : List D) : finL e l = .ok (l, e) := rfl
def kIt (g : D → R (List D)) (p : D × En) : R (List D × En) := (g p.1).bind (finL p.2)
@[simp] theorem kIt_e (g : D → R (List D)) (d : D) : kIt g (d, e) = (g d).bind (finL e) := rfl
def kIts (g : List D → R (List D)) (p : List D × En) : R (List D × En) := (g p.1).bind (finL p.2)
@[simp] theorem kIts_e (g : List D → R (List D)) (l : List D) : kIts g (l, e) = (g l).bind (finL e) := rfl
@[simp] theorem e_iVal : iVal da e = (da e).bind (kIt itemsOf) := rfl
@[simp] theorem e_iRange : iRange dr e = (dr e).bind (kIts asRange) := rfl
@[simp] theorem e_iZipd : iZipd dr e = (dr e).bind (kIts asZip) := rfl
@[simp] theorem e_noTest : noTest e = .ok (true, e) := rfl
def kC3 (q : List D × En) : R (Sl × En) := .ok (.l q.1, q.2)
@[simp] theorem kC3_e (l : List D) : kC3 (l, e) = .ok (.l l, e) := rfl
def oC2 (vs : List Nat) (g : DG) (t : DT) (el : DE) (l : List D) : Option En → R (Sl × En)
  | some e1 => (compL vs g t el l e1).noX.bind kC3
  | none => .bad
@[simp] theorem oC2_s (vs : List Nat) (g : DG) (el : DE) (l : List D) : oC2 vs g t el l (some e) = (compL vs g t el l e).noX.bind kC3 := rfl
def kC1 (vs : List Nat) (g : DG) (t : DT) (el : DE) (p : List D × En) : R (Sl × En) := if p.1.length ≤ LIM then oC2 vs g t el p.1 (wipeE p.2 vs) else .bad
@[simp] theorem kC1_e (vs : List Nat) (g : DG) (el : DE) (l : List D) : kC1 vs g t el (l, e) = if l.length ≤ LIM then oC2 vs g t el l (wipeE e vs) else .bad := rfl
@[simp] theorem e_comp (src : DA) (vs : List Nat) (g : DG) (el : DE) : oComp src vs g t el e = (src e).bind (kC1 vs g t el) := by
  unfold oComp
  congr 1
def finI (e : En) (xs : List D) : R (D × En) := .ok (.int xs.length, e)
@[simp] theorem finI_e (l : List D) : finI e l = .ok (.int l.length, e) := rfl
@[simp] theorem e_dLenO : dLenO i e = (lstAt e i).bind (finI e) := rfl
def kIO3 (d : D) (e : En) (xs : List D) : R (D × En) := (gIx (.lst xs) d).bind (fin e)
@[simp] theorem kIO3_e (d : D) (xs : List D) : kIO3 d e xs = (gIx (.lst xs) d).bind (fin e) := rfl
def kIO2 (i : Nat) (p : D × En) : R (D × En) := (lstAt p.2 i).bind (kIO3 p.1 p.2)
@[simp] theorem kIO2_e (d : D) : kIO2 i (d, e) = (lstAt e i).bind (kIO3 d e) := rfl
def kIO1 (db : DE) (i : Nat) (e : En) (_ : List D) : R (D × En) := (db e).bind (kIO2 i)
@[simp] theorem kIO1_e (l : List D) : kIO1 db i e l = (db e).bind (kIO2 i) := rfl
@[simp] theorem e_dIxO : dIxO i db e = (lstAt e i).bind (kIO1 db i e) := rfl
def kNl (ne : Bool) (e : En) (xs : List D) : R (D × En) := if (D.lst xs).fit = true then .ok (.bl (if ne = true then !xs.isEmpty else xs.isEmpty), e) else .bad
@[simp] theorem kNl_e (ne : Bool) (xs : List D) : kNl ne e xs = if (D.lst xs).fit = true then .ok (.bl (if ne = true then !xs.isEmpty else xs.isEmpty), e) else .bad := rfl
@[simp] theorem e_dNilO (ne : Bool) : dNilO ne i e = (lstAt e i).bind (kNl ne e) := rfl
@[simp] theorem e_gdName (d : D) : gdName i d e = setE e i (some (.v d)) := rfl
@[simp] theorem nth_0 (s : Option Sl) (r : En) : nth (s :: r) 0 = s := rfl
@[simp] theorem nth_S (s : Option Sl) (r : En) (n : Nat) : nth (s :: r) (n + 1) = nth r n := rfl
@[simp] theorem setE_0 (s x : Option Sl) (r : En) : setE (s :: r) 0 x = some (x :: r) := rfl
def oCons (s : Option Sl) : Option En → Option En
  | some q => some (s :: q)
  | none => none
@[simp] theorem oCons_s (s : Option Sl) (q : En) : oCons s (some q) = some (s :: q) := rfl
@[simp] theorem setE_S (s x : Option Sl) (r : En) (n : Nat) : setE (s :: r) (n + 1) x = oCons s (setE r n x) := rfl
@[simp] theorem wipe_nil : wipeE e [] = some e := rfl
def oWp (v : Nat) : Option En → Option En
  | some e1 => setE e1 v none
  | none => none
@[simp] theorem oWp_s (v : Nat) : oWp v (some e) = setE e v none := rfl
@[simp] theorem wipe_cons (v : Nat) (vs : List Nat) : wipeE e (v :: vs) = oWp v (wipeE e vs) := rfl
@[simp] theorem gdAll_nil : gdAll [] [] e = some e := rfl
def oGd (is : List Nat) (ds : List D) : Option En → Option En
  | some e' => gdAll is ds e'
  | none => none
@[simp] theorem oGd_s (is : List Nat) (ds : List D) : oGd is ds (some e) = gdAll is ds e := rfl
@[simp] theorem gdAll_cons (is : List Nat) (d : D) (ds : List D) : gdAll (i :: is) (d :: ds) e = oGd is ds (setE e i (some (.v d))) := rfl
@[simp] theorem gdTup_tup (is : List Nat) (l : List D) : gdTup is (.tup l) e = gdAll is l e := rfl
@[simp] theorem slD_l (l : List D) : slD (.l l) = .ok (.lst l) := rfl
def oLa : Option Sl → R (List D)
  | some (.l xs) => .ok xs
  | some (.v (.lst xs)) => .ok xs
  | _ => .bad
@[simp] theorem oLa_l (xs : List D) : oLa (some (.l xs)) = .ok xs := rfl
@[simp] theorem oLa_v (xs : List D) : oLa (some (.v (.lst xs))) = .ok xs := rfl
@[simp] theorem lstAt_e : lstAt e i = oLa (nth e i) := rfl
@[simp] theorem asI_int (k : Int) : asI (.int k) = .ok k := rfl
@[simp] theorem endR_ret (d : D) : endR (.ret d e) = .ok d := rfl
@[simp] theorem endR_next : endR (.next e) = .ok .non := rfl
@[simp] theorem items_lst (l : List D) : itemsOf (.lst l) = .ok l := rfl
@[simp] theorem items_tup (l : List D) : itemsOf (.tup l) = .ok l := rfl
@[simp] theorem items_str (z : Str) : itemsOf (.str z) = .ok (signs z) := rfl
@[simp] theorem isL_lst (l : List D) : isL (.lst l) = true := rfl
@[simp] theorem isS_str (z : Str) : isS (.str z) = true := rfl
@[simp] theorem e_setS (s : Sl) : setS e i s = oNx (setE e i (some s)) := rfl
@[simp] theorem g_and1 (k : Bool) : asB (.bl k) = .ok k := rfl
/-! ### loops -/
theorem forL_inv {g : DG} {b : DS} (I : Nat → En → Prop) : ∀ (l : List D) (e : En) (k : Nat), I k e → (∀ (j : Nat) (d : D) (e : En), l[j]? = some d → I (k + j) e → ∃ e1 e2, g d e = some e1 ∧ (b e1 = .next e2 ∨ b e1 = .cnt e2) ∧ I (k + j + 1) e2) → ∃ e', forL g b l e = .next e' ∧ I (k + l.length) e'
  | [], e, k, h, _ => ⟨e, rfl, h⟩
  | d :: l, e, k, h, st => by
    obtain ⟨e1, e2, h1, h2, h3⟩ := st 0 d e rfl h
    obtain ⟨e', h4, h5⟩ := forL_inv I l e2 (k + 1) h3 fun j d' e0 hj hI => by
      have := st (j + 1) d' e0 hj (by rw [show k + (j + 1) = k + 1 + j by omega]; exact hI)
      rwa [show k + (j + 1) + 1 = k + 1 + j + 1 by omega] at this
    refine ⟨e', ?_, by rw [List.length_cons, show k + (l.length + 1) = k + 1 + l.length by omega]; exact h5⟩
    unfold forL
    rw [h1]
    rcases h2 with h2 | h2
    · simp only [h2]; exact h4
    · simp only [h2]; exact h4
theorem compL_ok {vs : List Nat} {g : DG} {t : DT} {el : DE} {e : En} (F : D → List D) : ∀ (l : List D), (∀ d ∈ l, ∃ e1 k e2, g d e = some e1 ∧ t e1 = .ok (k, e2) ∧ if k = true then ∃ v e3, el e2 = .ok (v, e3) ∧ wipeE e3 vs = some e ∧ F d = [v] else wipeE e2 vs = some e ∧ F d = []) → compL vs g t el l e = .ok (l.flatMap F, e)
  | [], _ => rfl
  | d :: l, h => by
    obtain ⟨e1, k, e2, h1, h2, h3⟩ := h d List.mem_cons_self
    have ih := compL_ok F l fun d' hd => h d' (List.mem_cons_of_mem _ hd)
    unfold compL
    rw [h1]
    simp only [h2, r_bind_ok]
    cases k with
    | true =>
      obtain ⟨v, e3, h4, h5, h6⟩ := h3
      simp only [if_true, h4, r_bind_ok, h5, ih, List.flatMap_cons, h6, List.singleton_append]
    | false =>
      obtain ⟨h5, h6⟩ := h3
      simp only [h5, ih, List.flatMap_cons, h6, List.nil_append, Bool.false_eq_true, if_false]
theorem compL_map {vs : List Nat} {g : DG} {el : DE} {e : En} (f : D → D) (l : List D) (h : ∀ d ∈ l, ∃ e1 e3, g d e = some e1 ∧ el e1 = .ok (f d, e3) ∧ wipeE e3 vs = some e) : compL vs g noTest el l e = .ok (l.map f, e) := by
  rw [compL_ok (fun d => [f d]) l]
  · congr 1; congr 1; induction l with
    | nil => rfl
    | cons a l ih => rw [List.flatMap_cons, List.map_cons, List.singleton_append, ih fun d hd => h d (List.mem_cons_of_mem _ hd)]
  · intro d hd
    obtain ⟨e1, e3, h1, h2, h3⟩ := h d hd
    exact ⟨e1, true, e1, h1, rfl, by rw [if_pos rfl]; exact ⟨_, _, h2, h3, rfl⟩⟩
end WW
set_option Elab.async false
set_option linter.all false
set_option maxRecDepth 100000
namespace WW
open PySem PySem.Spec L2
/-! typed data -/
def S (c : List Nat) : Str := ⟨c.toArray⟩
@[simp] theorem S_inj (a b : List Nat) : S a = S b ↔ a = b := by
  unfold S
  constructor
  · intro h
    injection h with h
    simpa using h
  · intro h; rw [h]
@[simp] theorem S_len (a : List Nat) : (S a).length = a.length := by
  unfold S Str.length
  simp
@[simp] theorem S_cps (a : List Nat) : (S a).cps.toList = a := by simp [S]
@[simp] theorem S_size (a : List Nat) : (S a).cps.size = a.length := by simp [S]
@[simp] theorem S_app (a b : List Nat) : S a ++ S b = S (a ++ b) := by
  show (⟨_ ++ _⟩ : Str) = _
  simp [S]
theorem S_mk (a : List Nat) : (⟨a.toArray⟩ : Str) = S a := rfl
@[simp] theorem S_abcd : ("abcd" : Str) = S [97, 98, 99, 100] := by decide +kernel
@[simp] theorem S_empty : ("" : Str) = S [] := by decide +kernel
def natD (k : Nat) : D := .int (k : Int)
section
variable (i j : Int) (k m n : Nat) (a b : List Nat) (l l' : List D) (x y : Str) (p q : Bool)
@[simp] theorem add_int : gAdd (.int i) (.int j) = .ok (.int (i + j)) := rfl
@[simp] theorem sub_int : gSub (.int i) (.int j) = .ok (.int (i - j)) := rfl
@[simp] theorem add_str (h : a.length + b.length ≤ LIM) : gAdd (.str (S a)) (.str (S b)) = .ok (.str (S (a ++ b))) := by
  unfold gAdd
  simp [h]
@[simp] theorem add_lst (h : l.length + l'.length ≤ LIM) : gAdd (.lst l) (.lst l') = .ok (.lst (l ++ l')) := by
  unfold gAdd
  simp [h]
@[simp] theorem eq_int : gEq (.int i) (.int j) = .ok (.bl (decide (i = j))) := rfl
@[simp] theorem eq_str : gEq (.str x) (.str y) = .ok (.bl (decide (x = y))) := rfl
@[simp] theorem eq_bool : gEq (.bl p) (.bl q) = .ok (.bl (decide (p = q))) := rfl
@[simp] theorem not_bl : gNot (.ok (.bl p)) = .ok (.bl (!p)) := rfl
@[simp] theorem ne_g (u v : D) : gNe u v = gNot (gEq u v) := rfl
@[simp] theorem lt_int : gLt (.int i) (.int j) = .ok (.bl (decide (i < j))) := rfl
@[simp] theorem le_int : gLe (.int i) (.int j) = .ok (.bl (decide (i ≤ j))) := rfl
@[simp] theorem gt_int : gGt (.int i) (.int j) = .ok (.bl (decide (j < i))) := rfl
@[simp] theorem ge_int : gGe (.int i) (.int j) = .ok (.bl (decide (j ≤ i))) := rfl
@[simp] theorem neg_int : gNeg (.int i) = .ok (.int (-i)) := rfl
@[simp] theorem isN_non : gIsN .non .non = .ok (.bl true) := rfl
@[simp] theorem isN_bl : gIsN (.bl p) .non = .ok (.bl false) := rfl
@[simp] theorem isN_int : gIsN (.int i) .non = .ok (.bl false) := rfl
@[simp] theorem isN_str : gIsN (.str x) .non = .ok (.bl false) := rfl
@[simp] theorem isN_tup : gIsN (.tup l) .non = .ok (.bl false) := rfl
@[simp] theorem isN_lst : gIsN (.lst l) .non = .ok (.bl false) := rfl
@[simp] theorem notN_non : gNotN .non .non = .ok (.bl false) := rfl
@[simp] theorem notN_bl : gNotN (.bl p) .non = .ok (.bl true) := rfl
@[simp] theorem notN_int : gNotN (.int i) .non = .ok (.bl true) := rfl
@[simp] theorem notN_str : gNotN (.str x) .non = .ok (.bl true) := rfl
@[simp] theorem notN_tup : gNotN (.tup l) .non = .ok (.bl true) := rfl
@[simp] theorem notN_lst : gNotN (.lst l) .non = .ok (.bl true) := rfl
@[simp] theorem notIn_g (u v : D) : gNotIn u v = gNot (gIn u v) := rfl
@[simp] theorem flat_int : (D.int i).flat = true := rfl
@[simp] theorem flat_bl : (D.bl p).flat = true := rfl
@[simp] theorem flat_str : (D.str x).flat = true := rfl
@[simp] theorem flat_non : D.non.flat = true := rfl
theorem in_tup_int (h : l.all D.flat = true) : gIn (.int i) (.tup l) = .ok (.bl (inFlat (.int i) l)) := by
  unfold gIn
  simp [h]
theorem in_tup_str (h : l.all D.flat = true) : gIn (.str x) (.tup l) = .ok (.bl (inFlat (.str x) l)) := by
  unfold gIn
  simp [h]
@[simp] theorem in_tup2_int (u v : Int) : gIn (.int i) (.tup [.int u, .int v]) = .ok (.bl (decide (u = i ∨ v = i))) := by
  rw [in_tup_int _ _ (by simp)]
  simp only [inFlat, eqFlat, List.any_cons, List.any_nil, Bool.or_false, Bool.decide_or]
  rfl
@[simp] theorem in_tup2_str (u v : Str) : gIn (.str x) (.tup [.str u, .str v]) = .ok (.bl (decide (u = x ∨ v = x))) := by
  rw [in_tup_str _ _ (by simp)]
  simp only [inFlat, eqFlat, List.any_cons, List.any_nil, Bool.or_false, Bool.decide_or]
  rfl
@[simp] theorem in_tupN (fz : List Nat) : gIn (.int (k : Int)) (.tup (fz.map natD)) = .ok (.bl (decide (k ∈ fz))) := by
  rw [in_tup_int _ _ (by simp [natD])]
  congr 2
  induction fz with
  | nil => rfl
  | cons f fz ih =>
    unfold inFlat at ih ⊢
    rw [List.map_cons, List.any_cons, ih]
    have e : eqFlat (natD f) (.int (k : Int)) = decide (k = f) := by
      show ((f : Int) == (k : Int)) = decide (k = f)
      by_cases h : k = f
      · subst h; simp
      · rw [decide_eq_false h]
        simp; omega
    rw [e]
    simp
@[simp] theorem in_tupNil (u : D) (h : u.flat = true) : gIn u (.tup []) = .ok (.bl false) := by
  cases u <;> first | rfl | cases h
@[simp] theorem in_S1 (c : Nat) : gIn (.str (S [c])) (.str (S a)) = .ok (.bl (decide (c ∈ a))) := by
  unfold gIn
  simp [S]
@[simp] theorem len_S (h : a.length ≤ LIM) : gLen [.str (S a)] = .ok (.int a.length) := by
  unfold gLen
  simp [h]
@[simp] theorem len_lst : gLen [.lst l] = .ok (.int l.length) := rfl
@[simp] theorem len_tup : gLen [.tup l] = .ok (.int l.length) := rfl
@[simp] theorem int_int : gInt [.int i] = .ok (.int i) := rfl
@[simp] theorem int_bl : gInt [.bl p] = .ok (.int (if p then 1 else 0)) := rfl
@[simp] theorem tuple_lst : gTuple [.lst l] = .ok (.tup l) := rfl
@[simp] theorem tuple_tup : gTuple [.tup l] = .ok (.tup l) := rfl
@[simp] theorem isi_int_non : gIsi "int" D.non = .ok (.bl false) := by
  have h : kitB "NoneType" "int" = some false := by decide +kernel
  unfold gIsi
  rw [show D.tyOf D.non = "NoneType" from rfl, h]
  rfl
@[simp] theorem isi_int_bl : gIsi "int" (.bl p) = .ok (.bl true) := by
  have h : kitB "bool" "int" = some true := by decide +kernel
  unfold gIsi
  rw [show D.tyOf (.bl p) = "bool" from rfl, h]
  rfl
@[simp] theorem isi_int_int : gIsi "int" (.int i) = .ok (.bl true) := by
  have h : kitB "int" "int" = some true := by decide +kernel
  unfold gIsi
  rw [show D.tyOf (.int i) = "int" from rfl, h]
  rfl
@[simp] theorem isi_int_str : gIsi "int" (.str x) = .ok (.bl false) := by
  have h : kitB "str" "int" = some false := by decide +kernel
  unfold gIsi
  rw [show D.tyOf (.str x) = "str" from rfl, h]
  rfl
@[simp] theorem isi_int_tup : gIsi "int" (.tup l) = .ok (.bl false) := by
  have h : kitB "tuple" "int" = some false := by decide +kernel
  unfold gIsi
  rw [show D.tyOf (.tup l) = "tuple" from rfl, h]
  rfl
@[simp] theorem isi_int_lst : gIsi "int" (.lst l) = .ok (.bl false) := by
  have h : kitB "list" "int" = some false := by decide +kernel
  unfold gIsi
  rw [show D.tyOf (.lst l) = "list" from rfl, h]
  rfl
@[simp] theorem isi_bool_non : gIsi "bool" D.non = .ok (.bl false) := by
  have h : kitB "NoneType" "bool" = some false := by decide +kernel
  unfold gIsi
  rw [show D.tyOf D.non = "NoneType" from rfl, h]
  rfl
@[simp] theorem isi_bool_bl : gIsi "bool" (.bl p) = .ok (.bl true) := by
  have h : kitB "bool" "bool" = some true := by decide +kernel
  unfold gIsi
  rw [show D.tyOf (.bl p) = "bool" from rfl, h]
  rfl
@[simp] theorem isi_bool_int : gIsi "bool" (.int i) = .ok (.bl false) := by
  have h : kitB "int" "bool" = some false := by decide +kernel
  unfold gIsi
  rw [show D.tyOf (.int i) = "int" from rfl, h]
  rfl
@[simp] theorem isi_bool_str : gIsi "bool" (.str x) = .ok (.bl false) := by
  have h : kitB "str" "bool" = some false := by decide +kernel
  unfold gIsi
  rw [show D.tyOf (.str x) = "str" from rfl, h]
  rfl
@[simp] theorem isi_bool_tup : gIsi "bool" (.tup l) = .ok (.bl false) := by
  have h : kitB "tuple" "bool" = some false := by decide +kernel
  unfold gIsi
  rw [show D.tyOf (.tup l) = "tuple" from rfl, h]
  rfl
@[simp] theorem isi_bool_lst : gIsi "bool" (.lst l) = .ok (.bl false) := by
  have h : kitB "list" "bool" = some false := by decide +kernel
  unfold gIsi
  rw [show D.tyOf (.lst l) = "list" from rfl, h]
  rfl
@[simp] theorem isi_str_non : gIsi "str" D.non = .ok (.bl false) := by
  have h : kitB "NoneType" "str" = some false := by decide +kernel
  unfold gIsi
  rw [show D.tyOf D.non = "NoneType" from rfl, h]
  rfl
@[simp] theorem isi_str_bl : gIsi "str" (.bl p) = .ok (.bl false) := by
  have h : kitB "bool" "str" = some false := by decide +kernel
  unfold gIsi
  rw [show D.tyOf (.bl p) = "bool" from rfl, h]
  rfl
@[simp] theorem isi_str_int : gIsi "str" (.int i) = .ok (.bl false) := by
  have h : kitB "int" "str" = some false := by decide +kernel
  unfold gIsi
  rw [show D.tyOf (.int i) = "int" from rfl, h]
  rfl
@[simp] theorem isi_str_str : gIsi "str" (.str x) = .ok (.bl true) := by
  have h : kitB "str" "str" = some true := by decide +kernel
  unfold gIsi
  rw [show D.tyOf (.str x) = "str" from rfl, h]
  rfl
@[simp] theorem isi_str_tup : gIsi "str" (.tup l) = .ok (.bl false) := by
  have h : kitB "tuple" "str" = some false := by decide +kernel
  unfold gIsi
  rw [show D.tyOf (.tup l) = "tuple" from rfl, h]
  rfl
@[simp] theorem isi_str_lst : gIsi "str" (.lst l) = .ok (.bl false) := by
  have h : kitB "list" "str" = some false := by decide +kernel
  unfold gIsi
  rw [show D.tyOf (.lst l) = "list" from rfl, h]
  rfl
@[simp] theorem isi_tuple_non : gIsi "tuple" D.non = .ok (.bl false) := by
  have h : kitB "NoneType" "tuple" = some false := by decide +kernel
  unfold gIsi
  rw [show D.tyOf D.non = "NoneType" from rfl, h]
  rfl
@[simp] theorem isi_tuple_bl : gIsi "tuple" (.bl p) = .ok (.bl false) := by
  have h : kitB "bool" "tuple" = some false := by decide +kernel
  unfold gIsi
  rw [show D.tyOf (.bl p) = "bool" from rfl, h]
  rfl
@[simp] theorem isi_tuple_int : gIsi "tuple" (.int i) = .ok (.bl false) := by
  have h : kitB "int" "tuple" = some false := by decide +kernel
  unfold gIsi
  rw [show D.tyOf (.int i) = "int" from rfl, h]
  rfl
@[simp] theorem isi_tuple_str : gIsi "tuple" (.str x) = .ok (.bl false) := by
  have h : kitB "str" "tuple" = some false := by decide +kernel
  unfold gIsi
  rw [show D.tyOf (.str x) = "str" from rfl, h]
  rfl
@[simp] theorem isi_tuple_tup : gIsi "tuple" (.tup l) = .ok (.bl true) := by
  have h : kitB "tuple" "tuple" = some true := by decide +kernel
  unfold gIsi
  rw [show D.tyOf (.tup l) = "tuple" from rfl, h]
  rfl
@[simp] theorem isi_tuple_lst : gIsi "tuple" (.lst l) = .ok (.bl false) := by
  have h : kitB "list" "tuple" = some false := by decide +kernel
  unfold gIsi
  rw [show D.tyOf (.lst l) = "list" from rfl, h]
  rfl
@[simp] theorem isi_list_non : gIsi "list" D.non = .ok (.bl false) := by
  have h : kitB "NoneType" "list" = some false := by decide +kernel
  unfold gIsi
  rw [show D.tyOf D.non = "NoneType" from rfl, h]
  rfl
@[simp] theorem isi_list_bl : gIsi "list" (.bl p) = .ok (.bl false) := by
  have h : kitB "bool" "list" = some false := by decide +kernel
  unfold gIsi
  rw [show D.tyOf (.bl p) = "bool" from rfl, h]
  rfl
@[simp] theorem isi_list_int : gIsi "list" (.int i) = .ok (.bl false) := by
  have h : kitB "int" "list" = some false := by decide +kernel
  unfold gIsi
  rw [show D.tyOf (.int i) = "int" from rfl, h]
  rfl
@[simp] theorem isi_list_str : gIsi "list" (.str x) = .ok (.bl false) := by
  have h : kitB "str" "list" = some false := by decide +kernel
  unfold gIsi
  rw [show D.tyOf (.str x) = "str" from rfl, h]
  rfl
@[simp] theorem isi_list_tup : gIsi "list" (.tup l) = .ok (.bl false) := by
  have h : kitB "tuple" "list" = some false := by decide +kernel
  unfold gIsi
  rw [show D.tyOf (.tup l) = "tuple" from rfl, h]
  rfl
@[simp] theorem isi_list_lst : gIsi "list" (.lst l) = .ok (.bl true) := by
  have h : kitB "list" "list" = some true := by decide +kernel
  unfold gIsi
  rw [show D.tyOf (.lst l) = "list" from rfl, h]
  rfl
@[simp] theorem mkTup_0 : mkTup [] = .ok (.tup []) := rfl
@[simp] theorem mkLst_0 : mkLst [] = .ok (.l []) := rfl
@[simp] theorem mkTup_1 (x0 : D) : mkTup [x0] = .ok (.tup [x0]) := rfl
@[simp] theorem mkLst_1 (x0 : D) : mkLst [x0] = .ok (.l [x0]) := rfl
@[simp] theorem mkTup_2 (x0 x1 : D) : mkTup [x0, x1] = .ok (.tup [x0, x1]) := rfl
@[simp] theorem mkLst_2 (x0 x1 : D) : mkLst [x0, x1] = .ok (.l [x0, x1]) := rfl
@[simp] theorem mkTup_3 (x0 x1 x2 : D) : mkTup [x0, x1, x2] = .ok (.tup [x0, x1, x2]) := rfl
@[simp] theorem mkLst_3 (x0 x1 x2 : D) : mkLst [x0, x1, x2] = .ok (.l [x0, x1, x2]) := rfl
@[simp] theorem mkTup_4 (x0 x1 x2 x3 : D) : mkTup [x0, x1, x2, x3] = .ok (.tup [x0, x1, x2, x3]) := rfl
@[simp] theorem mkLst_4 (x0 x1 x2 x3 : D) : mkLst [x0, x1, x2, x3] = .ok (.l [x0, x1, x2, x3]) := rfl
@[simp] theorem mkTup_5 (x0 x1 x2 x3 x4 : D) : mkTup [x0, x1, x2, x3, x4] = .ok (.tup [x0, x1, x2, x3, x4]) := rfl
@[simp] theorem mkLst_5 (x0 x1 x2 x3 x4 : D) : mkLst [x0, x1, x2, x3, x4] = .ok (.l [x0, x1, x2, x3, x4]) := rfl
@[simp] theorem mkTup_6 (x0 x1 x2 x3 x4 x5 : D) : mkTup [x0, x1, x2, x3, x4, x5] = .ok (.tup [x0, x1, x2, x3, x4, x5]) := rfl
@[simp] theorem mkLst_6 (x0 x1 x2 x3 x4 x5 : D) : mkLst [x0, x1, x2, x3, x4, x5] = .ok (.l [x0, x1, x2, x3, x4, x5]) := rfl
@[simp] theorem mkTup_7 (x0 x1 x2 x3 x4 x5 x6 : D) : mkTup [x0, x1, x2, x3, x4, x5, x6] = .ok (.tup [x0, x1, x2, x3, x4, x5, x6]) := rfl
@[simp] theorem mkLst_7 (x0 x1 x2 x3 x4 x5 x6 : D) : mkLst [x0, x1, x2, x3, x4, x5, x6] = .ok (.l [x0, x1, x2, x3, x4, x5, x6]) := rfl
@[simp] theorem mkTup_ok (h : l.length ≤ LIM) : mkTup l = .ok (.tup l) := by unfold mkTup; rw [if_pos h]
@[simp] theorem mkLst_ok (h : l.length ≤ LIM) : mkLst l = .ok (.l l) := by unfold mkLst; rw [if_pos h]
@[simp] theorem range1 (h : wide i = true) : asRange [.int i] = .ok (intsD 0 i.toNat) := by unfold asRange; simp [h]
@[simp] theorem zip_lst : asZip [.lst l, .lst l'] = .ok (zipD l l') := rfl
@[simp] theorem zip_tup : asZip [.tup l, .tup l'] = .ok (zipD l l') := rfl
theorem wide_of' (h : -1000000000 ≤ i ∧ i ≤ 1000000000) : wide i = true := by
  unfold wide SMALL
  simp
  omega
@[simp] theorem sl_lst (lo hi : Option Int) : gSl (.lst l) lo hi = .ok (.lst (cutD l lo hi)) := rfl
@[simp] theorem sl_tup (lo hi : Option Int) : gSl (.tup l) lo hi = .ok (.tup (cutD l lo hi)) := rfl
/-- a slice of anything -/
def cut {α : Type} (xs : List α) (lo hi : Option Int) : List α := (xs.drop (HT.sIx xs.length 0 lo)).take (HT.sIx xs.length xs.length hi - HT.sIx xs.length 0 lo)
@[simp] theorem cutD_eq (lo hi : Option Int) : cutD l lo hi = cut l lo hi := rfl
@[simp] theorem sl_S (lo hi : Option Int) (h : a.length ≤ LIM) : gSl (.str (S a)) lo hi = .ok (.str (S (cut a lo hi))) := by
  unfold gSl
  simp [h, cutS, cut, S, Str.length]
end
section
variable {α β : Type}
theorem cut_map (f : α → β) (l : List α) (lo hi : Option Int) : cut (l.map f) lo hi = (cut l lo hi).map f := by
  unfold cut
  rw [List.length_map, List.map_take, List.map_drop]
theorem cut_to (l : List α) (k : Nat) (h : k ≤ l.length) : cut l none (some (k : Int)) = l.take k := by
  unfold cut
  rw [HT.sIx_none, HT.sIx_nat, List.drop_zero, Nat.sub_zero, Nat.min_eq_left h]
theorem cut_from (l : List α) (k : Nat) (h : k ≤ l.length) : cut l (some (k : Int)) none = l.drop k := by
  unfold cut
  rw [HT.sIx_none, HT.sIx_nat, Nat.min_eq_left h]
  exact List.take_of_length_le (by rw [List.length_drop]; omega)
theorem cut_1 (l : List α) : cut l (some 1) none = l.tail := by
  cases l with
  | nil => rfl
  | cons a l => exact cut_from (a :: l) 1 (by simp)
theorem cut_to1 (l : List α) : cut l none (some 1) = l.take 1 := by
  cases l with
  | nil => rfl
  | cons a l => exact cut_to (a :: l) 1 (by simp)
end
/-- the sign at a place, places counted from the end too -/
def ixI (n : Nat) (i : Int) : Nat := (if i < 0 then i + n else i).toNat
def gt (c : List Nat) (k : Nat) : Nat := c.getD k 0
def at_ (c : List Nat) (i : Int) : Nat := c.getD (ixI c.length i) 0
theorem atI_some {α : Type} (l : List α) (i : Int) (h : -(l.length : Int) ≤ i) (h' : i < l.length) : ∃ hk : ixI l.length i < l.length, atI l i = some l[ixI l.length i] := by
  unfold atI ixN ixI
  by_cases h0 : 0 ≤ i
  · have e : (if i < 0 then i + (l.length : Int) else i) = i := if_neg (by omega)
    rw [if_pos h0, if_pos h']
    refine ⟨by rw [e]; omega, ?_⟩
    simp only [Option.bind_some]
    rw [List.getElem?_eq_getElem (by omega)]
    simp only [e]
  · have e : (if i < 0 then i + (l.length : Int) else i) = i + l.length := if_pos (by omega)
    rw [if_neg h0, if_pos h]
    refine ⟨by rw [e]; omega, ?_⟩
    simp only [Option.bind_some]
    rw [List.getElem?_eq_getElem (by omega)]
    simp only [e]
@[simp] theorem ix_S (c : List Nat) (i : Int) (hl : c.length ≤ LIM) (h : -(c.length : Int) ≤ i) (h' : i < c.length) : gIx (.str (S c)) (.int i) = .ok (.str (S [at_ c i])) := by
  obtain ⟨hk, e⟩ := atI_some c i h h'
  unfold gIx
  simp only [S_len, hl, if_true, S_cps, e]
  unfold at_
  rw [List.getD_eq_getElem?_getD, List.getElem?_eq_getElem hk]
  rfl
theorem ix_lst (l : List D) (i : Int) (d : D) (h : -(l.length : Int) ≤ i) (h' : i < l.length) (hd : l[ixI l.length i]? = some d) : gIx (.lst l) (.int i) = .ok d := by
  obtain ⟨hk, e⟩ := atI_some l i h h'
  unfold gIx
  rw [List.getElem?_eq_getElem hk] at hd
  injection hd with hd
  simp only [e, hd]
theorem ix_tup (l : List D) (i : Int) (d : D) (h : -(l.length : Int) ≤ i) (h' : i < l.length) (hd : l[ixI l.length i]? = some d) : gIx (.tup l) (.int i) = .ok d := by
  obtain ⟨hk, e⟩ := atI_some l i h h'
  unfold gIx
  rw [List.getElem?_eq_getElem hk] at hd
  injection hd with hd
  simp only [e, hd]
section
variable (x y z w : D) (l : List D)
@[simp] theorem ix_t0 : gIx (.tup (x :: l)) (.int 0) = .ok x := ix_tup _ _ _ (by simp; try omega) (by simp; try omega) rfl
@[simp] theorem ix_t1 : gIx (.tup (x :: y :: l)) (.int 1) = .ok y := ix_tup _ _ _ (by simp; omega) (by simp; omega) rfl
@[simp] theorem ix_t2 : gIx (.tup (x :: y :: z :: l)) (.int 2) = .ok z := ix_tup _ _ _ (by simp; omega) (by simp; omega) rfl
@[simp] theorem ix_t3 : gIx (.tup (x :: y :: z :: w :: l)) (.int 3) = .ok w := ix_tup _ _ _ (by simp; omega) (by simp; omega) rfl
@[simp] theorem ix_l0 : gIx (.lst (x :: l)) (.int 0) = .ok x := ix_lst _ _ _ (by simp; try omega) (by simp; try omega) rfl
@[simp] theorem ix_l1 : gIx (.lst (x :: y :: l)) (.int 1) = .ok y := ix_lst _ _ _ (by simp; omega) (by simp; omega) rfl
@[simp] theorem ix_l2 : gIx (.lst (x :: y :: z :: l)) (.int 2) = .ok z := ix_lst _ _ _ (by simp; omega) (by simp; omega) rfl
end
/-- the next cell round n cells -/
def nx (n k : Nat) : Nat := if k + 1 = n then 0 else k + 1
theorem nx_lt {n k : Nat} (h : k < n) : nx n k < n := by unfold nx; split <;> omega
@[simp] theorem mod_nx (n k : Nat) (h : k < n) : gMod (.int ((k : Int) + 1)) (.int (n : Int)) = .ok (.int (nx n k : Int)) := by
  show (if 0 < (n : Int) then R.ok (D.int (((k : Int) + 1) % (n : Int))) else .bad) = _
  rw [if_pos (by omega)]
  unfold nx
  congr 2
  by_cases e : k + 1 = n
  · rw [if_pos e, ← e]; simp
  · rw [if_neg e, Int.emod_eq_of_lt (by omega) (by omega)]; rfl
@[simp] theorem at_nat (c : List Nat) (k : Nat) : at_ c (k : Int) = gt c k := by
  unfold at_ ixI gt
  rw [if_neg (by omega), Int.toNat_natCast]
/-! plans -/
structure Plan where
  r : Bool
  n : Nat
  fz : List Nat
  ws : List Nat
def fzD (fz : List Nat) : D := .tup (fz.map natD)
def Plan.D (P : Plan) : WW.D := .tup [.bl P.r, .int (P.n : Int), .tup (P.fz.map natD), .tup (P.ws.map natD)]
structure Plan.Ok (P : Plan) : Prop where
  lo : 3 ≤ P.n
  hi : P.n ≤ 12
  fz : ∀ f ∈ P.fz, f < P.n
  rise : P.fz.Pairwise (· < ·)
  wl : P.ws.length = 6
  ws : ∀ w ∈ P.ws, 1 ≤ w ∧ w ≤ 9
structure Cells (n : Nat) (c : List Nat) : Prop where
  len : c.length = n
  sg : ∀ x ∈ c, 97 ≤ x ∧ x ≤ 100
def prev (n k : Nat) : Nat := if k = 0 then n - 1 else k - 1
theorem prev_lt {n k : Nat} (h : k < n) : prev n k < n := by unfold prev; split <;> omega
theorem LIM_n : LIM = 1000000 := rfl
@[simp] theorem at_prev (c : List Nat) (k : Nat) (h : k < c.length) : at_ c ((k : Int) - 1) = gt c (prev c.length k) := by
  unfold at_ ixI prev gt
  congr 1
  by_cases e : k = 0
  · subst e; simp; omega
  · rw [if_neg (by omega), if_neg e]; omega
theorem Cells.get {n : Nat} {c : List Nat} (h : Cells n c) {k : Nat} (hk : k < n) : 97 ≤ gt c k ∧ gt c k ≤ 100 := by
  unfold gt
  have hk2 : k < c.length := by rw [h.len]; exact hk
  rw [List.getD_eq_getElem?_getD, List.getElem?_eq_getElem hk2]
  exact h.sg _ (List.getElem_mem hk2)
end WW
set_option Elab.async false
set_option linter.all false
set_option maxRecDepth 100000
namespace WW
open PySem PySem.Spec L2
def f_law_alike_f1 (rec : List D → R D) : DS := sIf (dNot (dTest (dCall rec (dCons (dBin gIx (dVar 0) (dVar 2)) (dCons (dBin gIx (dVar 1) (dVar 2)) (dNil)))))) (sRet (dC (.bl false))) (sNext)
theorem f_law_alike_den_eq (rec : List D → R D) : f_law_alike_den rec = sSeq (sIf (dTest (dBin gIsN (dVar 1) (dC .non))) (sRet (dBin gIsN (dVar 0) (dC .non))) (sNext)) (sSeq (sIf (dTest (dIsi "bool" (dVar 1))) (sRet (dAndV (dIsi "bool" (dVar 0)) (dBin gEq (dVar 0) (dVar 1)))) (sNext)) (sSeq (sIf (dTest (dIsi "int" (dVar 1))) (sRet (dAndV (dIsi "int" (dVar 0)) (dAndV (dNotV (dIsi "bool" (dVar 0))) (dBin gEq (dVar 0) (dVar 1))))) (sNext)) (sSeq (sIf (dTest (dIsi "str" (dVar 1))) (sRet (dAndV (dIsi "str" (dVar 0)) (dBin gEq (dVar 0) (dVar 1)))) (sNext)) (sSeq (sIf (dOr (dTest (dBin gNe (dIsi "tuple" (dVar 1)) (dIsi "tuple" (dVar 0)))) (dTest (dBin gNe (dIsi "list" (dVar 1)) (dIsi "list" (dVar 0))))) (sRet (dC (.bl false))) (sNext)) (sSeq (sIf (dTest (dBin gNe (dApp gLen (dCons (dVar 0) (dNil))) (dApp gLen (dCons (dVar 1) (dNil))))) (sRet (dC (.bl false))) (sNext)) (sSeq (sFor (iRange (dCons (dApp gLen (dCons (dVar 1) (dNil))) (dNil))) (gdName 2) (f_law_alike_f1 rec)) (sRet (dC (.bl true))))))))) := rfl

def p_are_frozen_e1 : DE := dCall p_is_number (dCons (dVar 2) (dCons (dC (.int 0)) (dCons (dBin gSub (dVar 1) (dC (.int 1))) (dNil))))
def p_are_frozen_e2 : DE := dBin gLt (dVar 3) (dVar 4)
theorem p_are_frozen_den_eq : p_are_frozen_den = sSeq (sIf (dOr (dNot (dTest (dIsi "tuple" (dVar 0)))) (dNot (dTest (dApp gAll (dCons (dFrz (oComp (iVal (dVar 0)) [2] (gdName 2) (noTest) p_are_frozen_e1)) (dNil)))))) (sRet (dC (.bl false))) (sNext)) (sRet (dApp gAll (dCons (dFrz (oComp (iZipd (dCons (dVar 0) (dCons (dSl (dVar 0) (pSome (dC (.int 1))) (pNo)) (dNil)))) [3, 4] (gdTup [3, 4]) (noTest) p_are_frozen_e2)) (dNil)))) := rfl

def p_are_weights_e1 : DE := dCall p_is_number (dCons (dVar 1) (dCons (dC (.int 1)) (dCons (dC (.int 9)) (dNil))))
theorem p_are_weights_den_eq : p_are_weights_den = sSeq (sIf (dOr (dNot (dTest (dIsi "tuple" (dVar 0)))) (dTest (dBin gNe (dApp gLen (dCons (dVar 0) (dNil))) (dApp gLen (dCons (dC (.tup ((["ab", "ac", "ad", "bc", "bd", "cd"] : List Str).map D.str))) (dNil)))))) (sRet (dC (.bl false))) (sNext)) (sRet (dApp gAll (dCons (dFrz (oComp (iVal (dVar 0)) [1] (gdName 1) (noTest) p_are_weights_e1)) (dNil)))) := rfl

def p_need_cells_e1 : DE := dBin gIn (dVar 2) (dC (.str ("abcd" : Str)))
theorem p_need_cells_den_eq : p_need_cells_den = sIf (dOr (dNot (dTest (dIsi "str" (dVar 1)))) (dOr (dTest (dBin gNe (dApp gLen (dCons (dVar 1) (dNil))) (dBin gIx (dVar 0) (dC (.int 1))))) (dNot (dTest (dApp gAll (dCons (dFrz (oComp (iVal (dVar 1)) [2] (gdName 2) (noTest) p_need_cells_e1)) (dNil))))))) (sBad) (sNext) := rfl

def p_turns_of_f1 : DS := sSeq (sAsg 4 (dCall p_turned (dCons (dVar 0) (dCons (dVar 1) (dCons (dVar 3) (dNil)))))) (sIf (dTest (dBin gNotN (dVar 4) (dC .non))) (sAppend 2 (dTup (dCons (dVar 3) (dCons (dCall p_with_sign (dCons (dVar 1) (dCons (dVar 3) (dCons (dVar 4) (dNil))))) (dCons (dCall p_weight_of (dCons (dVar 0) (dCons (dBin gIx (dVar 1) (dVar 3)) (dCons (dVar 4) (dNil))))) (dNil)))))) (sNext))
theorem p_turns_of_den_eq : p_turns_of_den = sSeq (sAsgO 2 (oLst (dNil))) (sSeq (sFor (iRange (dCons (dBin gIx (dVar 0) (dC (.int 1))) (dNil))) (gdName 3) p_turns_of_f1) (sRet (dVar 2))) := rfl

def p_places_of_t1 : DT := dTest (dBin gNe (dBin gIx (dVar 1) (dVar 7)) (dBin gIx (dVar 1) (dBin gMod (dBin gAdd (dVar 7) (dC (.int 1))) (dVar 3))))
def p_places_of_e1 : DE := dVar 7
theorem p_places_of_den_eq : p_places_of_den = sSeq (sTo (gdTup [2, 3, 4, 5]) (dVar 0)) (sSeq (sAsg 6 (dIfE (dTest (dVar 2)) (dVar 3) (dBin gSub (dVar 3) (dC (.int 1))))) (sRet (dFrz (oComp (iRange (dCons (dVar 6) (dNil))) [7] (gdName 7) p_places_of_t1 p_places_of_e1)))) := rfl

def p_walls_e1 : DE := dTup (dCons (dVar 2) (dCons (dBin gIx (dVar 1) (dVar 2)) (dCons (dBin gIx (dVar 1) (dBin gMod (dBin gAdd (dVar 2) (dC (.int 1))) (dBin gIx (dVar 0) (dC (.int 1))))) (dNil))))
theorem p_walls_den_eq : p_walls_den = sSeq (sDrop (dCall p_need_plan (dCons (dVar 0) (dNil)))) (sSeq (sDrop (dCall p_need_cells (dCons (dVar 0) (dCons (dVar 1) (dNil))))) (sRet (dFrz (oComp (iVal (dCall p_places_of (dCons (dVar 0) (dCons (dVar 1) (dNil))))) [2] (gdName 2) (noTest) p_walls_e1)))) := rfl

def p_blocks_e1 : DE := dTup (dCons (dBin gIx (dVar 1) (dBin gMod (dBin gAdd (dVar 4) (dC (.int 1))) (dBin gIx (dVar 0) (dC (.int 1))))) (dCons (dBin gSub (dVar 5) (dVar 4)) (dNil)))
theorem p_blocks_den_eq : p_blocks_den = sSeq (sDrop (dCall p_need_plan (dCons (dVar 0) (dNil)))) (sSeq (sDrop (dCall p_need_cells (dCons (dVar 0) (dCons (dVar 1) (dNil))))) (sSeq (sAsg 2 (dCall p_places_of (dCons (dVar 0) (dCons (dVar 1) (dNil))))) (sSeq (sIf (dTest (dBin gEq (dVar 2) (dFrz (oLst (dNil))))) (sRet (dFrz (oLst (dCons (dTup (dCons (dBin gIx (dVar 1) (dC (.int 0))) (dCons (dBin gIx (dVar 0) (dC (.int 1))) (dNil)))) (dNil))))) (sNext)) (sSeq (sAsg 3 (dIfE (dTest (dBin gIx (dVar 0) (dC (.int 0)))) (dBin gAdd (dVar 2) (dFrz (oLst (dCons (dBin gAdd (dBin gIx (dVar 2) (dC (.int 0))) (dBin gIx (dVar 0) (dC (.int 1)))) (dNil))))) (dBin gAdd (dBin gAdd (dFrz (oLst (dCons (dUn gNeg (dC (.int 1))) (dNil)))) (dVar 2)) (dFrz (oLst (dCons (dBin gSub (dBin gIx (dVar 0) (dC (.int 1))) (dC (.int 1))) (dNil))))))) (sRet (dFrz (oComp (iZipd (dCons (dVar 3) (dCons (dSl (dVar 3) (pSome (dC (.int 1))) (pNo)) (dNil)))) [4, 5] (gdTup [4, 5]) (noTest) p_blocks_e1))))))) := rfl

def f_law_plan_t1 : DT := dTest (dBin gEq (dCallB f_law_take 0 (dCons (dBin gIx (dFrz (oLst (dCons (dC (.int 2)) (dCons (dC (.int 9)) (dCons (dC (.int 30)) (dNil)))))) (dCallB f_law_take 0 (dCons (dC (.int 3)) (dNil)))) (dNil))) (dC (.int 1)))
def f_law_plan_e1 : DE := dVar 4
def f_law_plan_e2 : DE := dBin gAdd (dC (.int 1)) (dCallB f_law_take 0 (dCons (dBin gIx (dFrz (oLst (dCons (dC (.int 2)) (dCons (dC (.int 9)) (dNil))))) (dCallB f_law_take 0 (dCons (dC (.int 2)) (dNil)))) (dNil)))
theorem f_law_plan_den_eq : f_law_plan_den = sSeq (sAsg 2 (dBin gAdd (dC (.int 3)) (dCallB f_law_take 0 (dCons (dBin gSub (dVar 1) (dC (.int 2))) (dNil))))) (sSeq (sAsg 3 (dApp gTuple (dCons (dFrz (oComp (iRange (dCons (dVar 2) (dNil))) [4] (gdName 4) f_law_plan_t1 f_law_plan_e1)) (dNil)))) (sSeq (sAsg 3 (dIfE (dTest (dBin gEq (dCallB f_law_take 0 (dCons (dC (.int 2)) (dNil))) (dC (.int 0)))) (dVar 3) (dTup (dNil)))) (sSeq (sAsg 5 (dApp gTuple (dCons (dFrz (oComp (iRange (dCons (dC (.int 6)) (dNil))) [4] (gdName 4) (noTest) f_law_plan_e2)) (dNil)))) (sRet (dTup (dCons (dBin gGt (dCallB f_law_take 0 (dCons (dC (.int 3)) (dNil))) (dC (.int 0))) (dCons (dVar 2) (dCons (dVar 3) (dCons (dVar 5) (dNil)))))))))) := rfl

def f_law_cells_w1t : DT := dTest (dBin gLt (dApp gLen (dCons (dVar 2) (dNil))) (dBin gIx (dVar 1) (dC (.int 1))))
def f_law_cells_w1 : DS := sAsg 2 (dBin gAdd (dVar 2) (dBin gMul (dBin gIx (dVar 3) (dCallB f_law_take 0 (dCons (dApp gLen (dCons (dVar 3) (dNil))) (dNil)))) (dBin gAdd (dC (.int 1)) (dCallB f_law_take 0 (dCons (dC (.int 3)) (dNil))))))
theorem f_law_cells_den_eq : f_law_cells_den = sSeq (sPar 2 3 (dC (.str ("" : Str))) (dSl (dC (.str ("abcd" : Str))) (pNo) (pSome (dBin gAdd (dC (.int 2)) (dCallB f_law_take 0 (dCons (dC (.int 3)) (dNil))))))) (sSeq (sWhile f_law_cells_w1t f_law_cells_w1) (sRet (dSl (dVar 2) (pNo) (pSome (dBin gIx (dVar 1) (dC (.int 1))))))) := rfl

def f_law_turns_f1 : DS := sIf (dAnd (dTest (dBin gNotIn (dVar 3) (dBin gIx (dVar 0) (dC (.int 2))))) (dOr (dTest (dBin gIx (dVar 0) (dC (.int 0)))) (dTest (dChain gLt gLt (dC (.int 0)) (dVar 3) (dBin gSub (dBin gIx (dVar 0) (dC (.int 1))) (dC (.int 1))))))) (sSeq (sPar 4 5 (dBin gIx (dVar 1) (dBin gSub (dVar 3) (dC (.int 1)))) (dBin gIx (dVar 1) (dBin gMod (dBin gAdd (dVar 3) (dC (.int 1))) (dBin gIx (dVar 0) (dC (.int 1)))))) (sIf (dAnd (dTest (dBin gNe (dVar 4) (dVar 5))) (dTest (dBin gIn (dBin gIx (dVar 1) (dVar 3)) (dTup (dCons (dVar 4) (dCons (dVar 5) (dNil))))))) (sSeq (sAsg 6 (dIfE (dTest (dBin gEq (dBin gIx (dVar 1) (dVar 3)) (dVar 4))) (dVar 5) (dVar 4))) (sSeq (sAsg 7 (dMth isL gIndex (dFrz (oLst (dCons (dC (.str ("ab" : Str))) (dCons (dC (.str ("ac" : Str))) (dCons (dC (.str ("ad" : Str))) (dCons (dC (.str ("bc" : Str))) (dCons (dC (.str ("bd" : Str))) (dCons (dC (.str ("cd" : Str))) (dNil))))))))) (dCons (dMth isS gJoin (dC (.str ("" : Str))) (dCons (dApp gSorted (dCons (dFrz (oLst (dCons (dVar 4) (dCons (dVar 5) (dNil))))) (dNil))) (dNil))) (dNil)))) (sAppend 2 (dTup (dCons (dVar 3) (dCons (dBin gAdd (dBin gAdd (dSl (dVar 1) (pNo) (pSome (dVar 3))) (dVar 6)) (dSl (dVar 1) (pSome (dBin gAdd (dVar 3) (dC (.int 1)))) (pNo))) (dCons (dBin gIx (dBin gIx (dVar 0) (dC (.int 3))) (dVar 7)) (dNil)))))))) (sNext))) (sNext)
theorem f_law_turns_den_eq : f_law_turns_den = sSeq (sAsgO 2 (oLst (dNil))) (sSeq (sFor (iRange (dCons (dBin gIx (dVar 0) (dC (.int 1))) (dNil))) (gdName 3) f_law_turns_f1) (sRet (dVar 2))) := rfl

def f_law_round_e1 : DE := dBin gAdd (dSl (dVar 0) (pSome (dVar 1)) (pNo)) (dSl (dVar 0) (pNo) (pSome (dVar 1)))
theorem f_law_round_den_eq : f_law_round_den = sRet (dApp gMinL (dCons (dFrz (oComp (iRange (dCons (dApp gMax2 (dCons (dC (.int 1)) (dCons (dApp gLen (dCons (dVar 0) (dNil))) (dNil)))) (dNil))) [1] (gdName 1) (noTest) f_law_round_e1)) (dNil))) := rfl

def f_law_by_blocks_e1 : DE := dBin gMul (dVar 4) (dVar 5)
def f_law_by_blocks_e2 : DE := dVar 7
def f_law_by_blocks_t3 : DT := dTest (dBin gEq (dBin gIx (dBin gIx (dVar 2) (dVar 11)) (dC (.int 0))) (dBin gIx (dBin gIx (dVar 2) (dBin gAdd (dVar 11) (dC (.int 1)))) (dC (.int 0))))
def f_law_by_blocks_e3 : DE := dVar 11
theorem f_law_by_blocks_den_eq : f_law_by_blocks_den = sSeq (sAsg 3 (dMth isS gJoin (dC (.str ("" : Str))) (dCons (dFrz (oComp (iVal (dVar 2)) [4, 5] (gdTup [4, 5]) (noTest) f_law_by_blocks_e1)) (dNil)))) (sSeq (sAsgO 6 (oComp (iVal (dCall p_walls (dCons (dVar 0) (dCons (dVar 1) (dNil))))) [7, 8, 9] (gdTup [7, 8, 9]) (noTest) f_law_by_blocks_e2)) (sSeq (sIf (dAnd (dTest (dBin gIx (dVar 0) (dC (.int 0)))) (dTest (dBin gNe (dVar 6) (dFrz (oLst (dNil)))))) (sSeq (sAsg 10 (dBin gAdd (dBin gIx (dVar 6) (dC (.int 0))) (dC (.int 1)))) (sIf (dOr (dTest (dBin gNe (dVar 3) (dBin gAdd (dSl (dVar 1) (pSome (dVar 10)) (pNo)) (dSl (dVar 1) (pNo) (pSome (dVar 10)))))) (dTest (dBin gNe (dApp gLen (dCons (dVar 2) (dNil))) (dApp gLen (dCons (dVar 6) (dNil)))))) (sRet (dC (.bl false))) (sNext))) (sIf (dOr (dTest (dBin gNe (dVar 3) (dVar 1))) (dTest (dBin gNe (dApp gLen (dCons (dVar 2) (dNil))) (dBin gAdd (dApp gLen (dCons (dVar 6) (dNil))) (dC (.int 1)))))) (sRet (dC (.bl false))) (sNext))) (sRet (dBin gEq (dFrz (oComp (iRange (dCons (dBin gSub (dApp gLen (dCons (dVar 2) (dNil))) (dC (.int 1))) (dNil))) [11] (gdName 11) f_law_by_blocks_t3 f_law_by_blocks_e3)) (dFrz (oLst (dNil))))))) := rfl

def law_e1 : DE := dVar 6
def law_e2 : DE := dVar 6
def law_t3 : DT := dTest (dBin gNotIn (dVar 19) (dVar 16))
def law_e3 : DE := dVar 19
def law_t4 : DT := dTest (dBin gNotIn (dVar 19) (dVar 15))
def law_e4 : DE := dVar 19
def law_f1 : DS := sSeq (sPar 9 10 (dCall p_blocks (dCons (dVar 3) (dCons (dVar 4) (dNil)))) (dCall f_law_turns (dCons (dVar 3) (dCons (dVar 4) (dNil))))) (sSeq (sAsgO 11 (oComp (iVal (dVar 9)) [6, 7] (gdTup [6, 7]) (noTest) law_e2)) (sSeq (sIf (dOr (dNot (dTest (dCall (f_law_alike 8) (dCons (dCall p_turns (dCons (dVar 3) (dCons (dVar 4) (dNil)))) (dCons (dVar 10) (dNil)))))) (dNot (dTest (dCall f_law_by_blocks (dCons (dVar 3) (dCons (dVar 4) (dCons (dVar 9) (dNil)))))))) (sRet (dC (.bl false))) (sNext)) (sSeq (sIf (dOr (dAnd (dTest (dBin gNe (dVar 11) (dVar 5))) (dNot (dTest (dBin gIx (dVar 3) (dC (.int 0)))))) (dTest (dBin gNe (dApp gLen (dCons (dVar 11) (dNil))) (dApp gLen (dCons (dVar 5) (dNil)))))) (sRet (dC (.bl false))) (sNext)) (sSeq (sIf (dAnd (dTest (dBin gIx (dVar 3) (dC (.int 0)))) (dTest (dBin gNe (dCall f_law_round (dCons (dVar 11) (dNil))) (dCall f_law_round (dCons (dVar 5) (dNil)))))) (sRet (dC (.bl false))) (sNext)) (sIf (dTest (dBin gNe (dVar 10) (dFrz (oLst (dNil))))) (sSeq (sTo (gdTup [12, 13, 14]) (dBin gIx (dVar 10) (dCallB f_law_take 1 (dCons (dApp gLen (dCons (dVar 10) (dNil))) (dNil))))) (sSeq (sTo (gdTup [15, 16]) (dTup (dCons (dCall p_walls (dCons (dVar 3) (dCons (dVar 4) (dNil)))) (dCons (dCall p_walls (dCons (dVar 3) (dCons (dVar 13) (dNil)))) (dNil))))) (sSeq (sPar 17 18 (dFrz (oComp (iVal (dVar 15)) [19] (gdName 19) law_t3 law_e3)) (dFrz (oComp (iVal (dVar 16)) [19] (gdName 19) law_t4 law_e4))) (sSeq (sIf (dOr (dTest (dBin gNe (dApp gLen (dCons (dVar 17) (dNil))) (dC (.int 1)))) (dOr (dTest (dBin gNe (dApp gLen (dCons (dVar 18) (dNil))) (dC (.int 1)))) (dTest (dBin gNe (dSl (dBin gIx (dVar 17) (dC (.int 0))) (pSome (dC (.int 1))) (pNo)) (dSl (dBin gIx (dVar 18) (dC (.int 0))) (pSome (dC (.int 1))) (pNo)))))) (sRet (dC (.bl false))) (sNext)) (sSeq (sIf (dTest (dBin gNotIn (dApp gAbs (dCons (dBin gSub (dBin gIx (dBin gIx (dVar 17) (dC (.int 0))) (dC (.int 0))) (dBin gIx (dBin gIx (dVar 18) (dC (.int 0))) (dC (.int 0)))) (dNil))) (dTup (dCons (dC (.int 1)) (dCons (dBin gSub (dBin gIx (dVar 3) (dC (.int 1))) (dC (.int 1))) (dNil)))))) (sRet (dC (.bl false))) (sNext)) (sAsg 4 (dVar 13))))))) (sNext))))))
def law_f2 : DS := sSeq (sAsg 3 (dCallB f_law_plan 1 (dCons (dC (.int 12)) (dNil)))) (sSeq (sAsg 4 (dCallB f_law_cells 1 (dCons (dVar 3) (dNil)))) (sSeq (sAsgO 5 (oComp (iVal (dCall p_blocks (dCons (dVar 3) (dCons (dVar 4) (dNil))))) [6, 7] (gdTup [6, 7]) (noTest) law_e1)) (sFor (iRange (dCons (dCallB f_law_take 1 (dCons (dC (.int 60)) (dNil))) (dNil))) (gdName 8) law_f1)))
theorem law_den_eq : law_den = sSeq (sFor (iRange (dCons (dC (.int 2)) (dNil))) (gdName 2) law_f2) (sRet (dC (.bl true))) := rfl

end WW
set_option Elab.async false
set_option linter.all false
set_option maxRecDepth 100000
namespace WW
open PySem PySem.Spec L2
/-! the program's small functions on good plans and cells -/
section
variable {P : Plan} {c : List Nat} {k : Nat}
theorem v_number (i lo hi : Int) : p_is_number [.int i, .int lo, .int hi] = .ok (.bl (decide (lo ≤ i) && decide (i ≤ hi))) := by
  unfold p_is_number p_is_number_den fnD
  by_cases h : lo ≤ i
  · simp [initE, h]
  · simp [initE, h]
theorem v_beside (hP : P.Ok) (hc : Cells P.n c) (hk : k < P.n) : p_beside [P.D, .str (S c), .int k] = .ok (if P.r = false ∧ (k = 0 ∨ k = P.n - 1) then .non else .tup [.str (S [gt c (prev P.n k)]), .str (S [gt c (nx P.n k)])]) := by
  obtain ⟨r, n, fz, ws⟩ := P
  have h1 := nx_lt hk
  have h2 := hc.len
  have h3 := hP.lo
  have h4 := hP.hi
  have h5 := LIM_n
  unfold p_beside p_beside_den fnD
  dsimp only at *
  cases r with
  | false =>
    by_cases e : k = 0 ∨ k = n - 1
    · have e2 : (0 : Int) = k ∨ (n : Int) - 1 = k := by omega
      simp (disch := omega) [initE, Plan.D, e, e2]
    · have e2 : ¬ ((0 : Int) = k ∨ (n : Int) - 1 = k) := by omega
      simp (disch := omega) [initE, Plan.D, e, e2, h2]
  | true => simp (disch := omega) [initE, Plan.D, h2]
/-- the sign that a cell turns to -/
def turnM (P : Plan) (c : List Nat) (k : Nat) : Option Nat :=
  if k ∈ P.fz ∨ (P.r = false ∧ (k = 0 ∨ k = P.n - 1)) ∨ gt c (prev P.n k) = gt c (nx P.n k) then none
  else if gt c k = gt c (prev P.n k) then some (gt c (nx P.n k))
  else if gt c k = gt c (nx P.n k) then some (gt c (prev P.n k)) else none
def optD : Option Nat → D
  | some s => .str (S [s])
  | none => .non
theorem v_turned (hP : P.Ok) (hc : Cells P.n c) (hk : k < P.n) : p_turned [P.D, .str (S c), .int k] = .ok (optD (turnM P c k)) := by
  have hb := v_beside hP hc hk
  obtain ⟨r, n, fz, ws⟩ := P
  have h1 := nx_lt hk
  have h2 := hc.len
  have h3 := hP.lo
  have h4 := hP.hi
  have h5 := LIM_n
  unfold p_turned p_turned_den fnD
  unfold turnM
  dsimp only at *
  simp only [Plan.D] at hb
  by_cases e1 : k ∈ fz
  · simp (disch := omega) [initE, Plan.D, e1, hb, optD]
  by_cases e2 : (r = false ∧ (k = 0 ∨ k = n - 1))
  · rw [if_pos e2] at hb
    obtain ⟨rfl, e2⟩ := e2
    simp (disch := omega) [initE, Plan.D, e1, e2, hb, optD]
  rw [if_neg e2] at hb
  by_cases e3 : gt c (prev n k) = gt c (nx n k)
  · simp (disch := omega) only [e3] at hb
    simp (disch := omega) [initE, Plan.D, e1, e2, hb, optD, e3]
  by_cases e4 : gt c k = gt c (prev n k)
  · simp (disch := omega) [initE, Plan.D, e1, e2, hb, optD, e3, e4]
  by_cases e5 : gt c k = gt c (nx n k)
  · have e6 := Ne.symm e3
    simp (disch := omega) [initE, Plan.D, e1, e2, hb, optD, e3, e4, e5, e6]
  · simp (disch := omega) [initE, Plan.D, e1, e2, hb, optD, e3, e4, e5, Ne.symm e4, Ne.symm e5]
end
end WW
set_option Elab.async false
set_option linter.all false
set_option maxRecDepth 100000
namespace WW
open PySem PySem.Spec L2
theorem intsD_get {n j : Nat} {d : D} (h : (intsD 0 n)[j]? = some d) : j < n ∧ d = natD j := by
  unfold intsD at h
  rw [List.getElem?_map] at h
  by_cases hj : j < n
  · rw [List.getElem?_range hj] at h
    simp at h
    exact ⟨hj, h.symm⟩
  · rw [List.getElem?_eq_none (by simp; omega)] at h
    cases h
@[simp] theorem intsD_len (i : Int) (n : Nat) : (intsD i n).length = n := by simp [intsD]
theorem intsD_eq (n : Nat) : intsD 0 n = (List.range n).map natD := by
  unfold intsD natD
  simp
theorem mem_intsD {n : Nat} {d : D} (h : d ∈ intsD 0 n) : ∃ k, k < n ∧ d = natD k := by
  rw [intsD_eq] at h
  obtain ⟨k, h1, h2⟩ := List.mem_map.mp h
  exact ⟨k, List.mem_range.mp h1, h2.symm⟩
@[simp] theorem rangeN (n : Nat) (h : n ≤ 1000000) : asRange [.int (n : Int)] = .ok (intsD 0 n) := by
  rw [range1 _ (wide_of' _ (by omega)), Int.toNat_natCast]
@[simp] theorem ix_tupN (l : List Nat) (k : Nat) (h : k < l.length) : gIx (.tup (l.map natD)) (.int (k : Int)) = .ok (natD (gt l k)) := by
  refine ix_tup _ _ _ (by simp; try omega) (by simp; try omega) ?_
  rw [List.length_map]
  unfold ixI gt
  rw [if_neg (by omega), Int.toNat_natCast, List.getElem?_map, List.getD_eq_getElem?_getD, List.getElem?_eq_getElem h]
  rfl
/-! ### one cell changed, weights -/
section
variable {P : Plan} {c : List Nat} {k : Nat}
theorem v_with (s : Nat) (hk : k < c.length) (hl : c.length ≤ 1000) : p_with_sign [.str (S c), .int k, .str (S [s])] = .ok (.str (S (c.set k s))) := by
  unfold p_with_sign p_with_sign_den fnD
  have h5 := LIM_n
  have e1 := cut_to c k (by omega)
  have e2 : cut c (some ((k : Int) + 1)) none = c.drop (k + 1) := cut_from c (k + 1) (by omega)
  have l1 : (c.take k).length = k := by rw [List.length_take]; omega
  have l2 : (c.drop (k + 1)).length = c.length - (k + 1) := by rw [List.length_drop]
  have a1 : gAdd (.str (S (c.take k))) (.str (S [s])) = .ok (.str (S (c.take k ++ [s]))) := add_str _ _ (by rw [l1]; simp; omega)
  have a2 : gAdd (.str (S (c.take k ++ [s]))) (.str (S (c.drop (k + 1)))) = .ok (.str (S (c.set k s))) := by
    rw [add_str _ _ (by rw [List.length_append, l1, l2]; simp; omega)]
    rw [List.set_eq_take_append_cons_drop, if_pos hk, List.append_assoc]
    rfl
  simp (disch := omega) [initE, e1, e2, a1, a2]
def pairIx (a b : Nat) : Nat := if min a b = 97 then max a b - 98 else if min a b = 98 then max a b - 96 else 5
theorem pairIx_lt {a b : Nat} (ha : 97 ≤ a ∧ a ≤ 100) (hb : 97 ≤ b ∧ b ≤ 100) : pairIx a b < 6 := by
  unfold pairIx
  split
  · omega
  · split <;> omega
theorem pairIx_comm (a b : Nat) : pairIx a b = pairIx b a := by
  unfold pairIx
  rw [Nat.min_comm, Nat.max_comm]
theorem pairs_S : (["ab", "ac", "ad", "bc", "bd", "cd"] : List Str) = [S [97, 98], S [97, 99], S [97, 100], S [98, 99], S [98, 100], S [99, 100]] := by decide +kernel
@[simp] theorem min_S (a b : Nat) : gMin2 [.str (S [a]), .str (S [b])] = .ok (.str (S [min a b])) := by
  unfold gMin2
  simp only [S_cps]
  by_cases h : b < a
  · rw [if_pos (List.cons_lt_cons_iff.mpr (.inl h)), Nat.min_eq_right (by omega)]
  · rw [if_neg, Nat.min_eq_left (by omega)]
    intro z
    rcases List.cons_lt_cons_iff.mp z with z | z
    · exact h z
    · exact absurd z.2 (by simp)
@[simp] theorem max_S (a b : Nat) : gMax2 [.str (S [a]), .str (S [b])] = .ok (.str (S [max a b])) := by
  unfold gMax2
  simp only [S_cps]
  by_cases h : a < b
  · rw [if_pos (List.cons_lt_cons_iff.mpr (.inl h)), Nat.max_eq_right (by omega)]
  · rw [if_neg, Nat.max_eq_left (by omega)]
    intro z
    rcases List.cons_lt_cons_iff.mp z with z | z
    · exact h z
    · exact absurd z.2 (by simp)
theorem idx_pair {a b : Nat} (ha : 97 ≤ a ∧ a ≤ 100) (hb : 97 ≤ b ∧ b ≤ 100) (hn : a ≠ b) : gTupIx ["ab", "ac", "ad", "bc", "bd", "cd"] (.str (S [min a b, max a b])) = .ok (.int (pairIx a b : Nat)) := by
  rw [pairs_S]
  have e1 : a = 97 ∨ a = 98 ∨ a = 99 ∨ a = 100 := by omega
  have e2 : b = 97 ∨ b = 98 ∨ b = 99 ∨ b = 100 := by omega
  rcases e1 with rfl | rfl | rfl | rfl <;> rcases e2 with rfl | rfl | rfl | rfl <;> first | exact absurd rfl hn | simp [gTupIx, idxStr, pairIx]
/-- the weight of a wall between two signs -/
def wM (P : Plan) (a b : Nat) : Nat := gt P.ws (pairIx a b)
theorem v_weight (hP : P.Ok) {a b : Nat} (ha : 97 ≤ a ∧ a ≤ 100) (hb : 97 ≤ b ∧ b ≤ 100) (hn : a ≠ b) : p_weight_of [P.D, .str (S [a]), .str (S [b])] = .ok (natD (wM P a b)) := by
  unfold p_weight_of p_weight_of_den fnD
  have h5 := LIM_n
  have e := idx_pair ha hb hn
  have h6 := pairIx_lt ha hb
  have h7 := hP.wl
  have a1 : gAdd (.str (S [min a b])) (.str (S [max a b])) = .ok (.str (S [min a b, max a b])) := add_str _ _ (by simp; omega)
  simp (disch := omega) [initE, Plan.D, a1, e, wM, -S_inj]
/-! ### turns -/
def turnD (P : Plan) (c : List Nat) (k : Nat) : Option D := (turnM P c k).map fun s => .tup [natD k, .str (S (c.set k s)), natD (wM P (gt c k) s)]
def turnsM (P : Plan) (c : List Nat) : List D := (List.range P.n).filterMap (turnD P c)
theorem turnM_some {s : Nat} (h : turnM P c k = some s) : k ∉ P.fz ∧ ¬ (P.r = false ∧ (k = 0 ∨ k = P.n - 1)) ∧ s ≠ gt c k ∧ ((gt c k = gt c (prev P.n k) ∧ s = gt c (nx P.n k)) ∨ (gt c k = gt c (nx P.n k) ∧ s = gt c (prev P.n k))) := by
  unfold turnM at h
  split at h
  · cases h
  rename_i h1
  have h2 := not_or.mp h1
  have h3 := not_or.mp h2.2
  split at h
  · rename_i h4
    injection h with h
    subst h
    exact ⟨h2.1, h3.1, by rw [h4]; exact Ne.symm h3.2, .inl ⟨h4, rfl⟩⟩
  · split at h
    · rename_i h4 h5
      injection h with h
      subst h
      exact ⟨h2.1, h3.1, by rw [h5]; exact h3.2, .inr ⟨h5, rfl⟩⟩
    · cases h
theorem turn_sign (hc : Cells P.n c) (hk : k < P.n) {s : Nat} (h : turnM P c k = some s) : 97 ≤ s ∧ s ≤ 100 := by
  obtain ⟨_, _, _, h4⟩ := turnM_some h
  rcases h4 with ⟨_, rfl⟩ | ⟨_, rfl⟩
  · exact hc.get (nx_lt hk)
  · exact hc.get (prev_lt hk)
theorem v_turns_of (hP : P.Ok) (hc : Cells P.n c) : p_turns_of [P.D, .str (S c)] = .ok (.lst (turnsM P c)) := by
  have h2 := hc.len
  have h3 := hP.lo
  have h4 := hP.hi
  have h5 := LIM_n
  obtain ⟨e', h6, x, y, h7⟩ := forL_inv (g := gdName 3) (b := p_turns_of_f1) (fun j e => ∃ x y, e = [some (.v P.D), some (.v (.str (S c))), some (.l ((List.range j).filterMap (turnD P c))), x, y]) (intsD 0 P.n) [some (.v P.D), some (.v (.str (S c))), some (.l []), none, none] 0 ⟨none, none, rfl⟩ (by
    rintro j d e hj ⟨x, y, rfl⟩
    obtain ⟨hj1, rfl⟩ := intsD_get hj; clear hj; have hj := hj1
    have e1 := v_turned hP hc hj
    have hlen : ((List.range j).filterMap (turnD P c)).length ≤ j := Nat.le_trans (List.length_filterMap_le _ _) (by simp)
    simp only [Nat.zero_add, List.range_succ, List.filterMap_append, List.filterMap_cons, List.filterMap_nil]
    cases q : turnM P c j with
    | none =>
      have e3 : turnD P c j = none := by unfold turnD; rw [q]; rfl
      refine ⟨_, _, by simp; rfl, .inl ?_, some (.v (natD j)), some (.v .non), rfl⟩
      unfold p_turns_of_f1
      simp [natD, e1, q, optD, e3]
    | some s =>
      have e3 : turnD P c j = some (.tup [natD j, .str (S (c.set j s)), natD (wM P (gt c j) s)]) := by unfold turnD; rw [q]; rfl
      have e4 := v_weight hP (hc.get hj) (turn_sign hc hj q) (Ne.symm (turnM_some q).2.2.1)
      have e5 := v_with (c := c) (k := j) s (by omega) (by omega)
      refine ⟨_, _, by simp; rfl, .inl ?_, some (.v (natD j)), some (.v (.str (S [s]))), rfl⟩
      unfold p_turns_of_f1
      simp only [natD] at *
      simp (disch := omega) [e1, q, optD, e3, e4, e5]
      omega)
  have h8 : p_turns_of_den (initE 5 [P.D, .str (S c)]) = .ret (.lst (turnsM P c)) [some (.v P.D), some (.v (.str (S c))), some (.v (.lst (turnsM P c))), x, y] := by
    rw [p_turns_of_den_eq]
    rw [h7] at h6
    simp only [intsD_len, Nat.zero_add] at h6
    unfold turnsM
    generalize h9 : p_turns_of_f1 = fb at *
    simp (disch := omega) [initE, Plan.D] at h6 ⊢
    rw [h6]
    simp
  unfold p_turns_of fnD
  rw [h8]
  rfl
end
end WW
set_option Elab.async false
set_option linter.all false
set_option maxRecDepth 100000
namespace WW
open PySem PySem.Spec L2
section
variable {α β : Type}
theorem compL_okT {vs : List Nat} {g : DG} {t : DT} {el : DE} {e : En} (h : α → D) (F : α → List D) : ∀ (xs : List α), (∀ a ∈ xs, ∃ e1 k e2, g (h a) e = some e1 ∧ t e1 = .ok (k, e2) ∧ if k = true then ∃ v e3, el e2 = .ok (v, e3) ∧ wipeE e3 vs = some e ∧ F a = [v] else wipeE e2 vs = some e ∧ F a = []) → compL vs g t el (xs.map h) e = .ok (xs.flatMap F, e)
  | [], _ => rfl
  | d :: l, H => by
    obtain ⟨e1, k, e2, h1, h2, h3⟩ := H d List.mem_cons_self
    have ih := compL_okT h F l fun d' hd => H d' (List.mem_cons_of_mem _ hd)
    rw [List.map_cons]
    unfold compL
    rw [h1]
    simp only [h2, r_bind_ok]
    cases k with
    | true =>
      obtain ⟨v, e3, h4, h5, h6⟩ := h3
      simp only [if_true, h4, r_bind_ok, h5, ih, List.flatMap_cons, h6, List.singleton_append]
    | false =>
      obtain ⟨h5, h6⟩ := h3
      simp only [h5, ih, List.flatMap_cons, h6, List.nil_append, Bool.false_eq_true, if_false]
theorem compL_mapT {vs : List Nat} {g : DG} {el : DE} {e : En} (h f : α → D) (xs : List α) (H : ∀ a ∈ xs, ∃ e1 e3, g (h a) e = some e1 ∧ el e1 = .ok (f a, e3) ∧ wipeE e3 vs = some e) : compL vs g noTest el (xs.map h) e = .ok (xs.map f, e) := by
  rw [compL_okT h (fun a => [f a]) xs]
  · congr 2
    clear H
    induction xs with
    | nil => rfl
    | cons a l ih => rw [List.flatMap_cons, ih]; rfl
  · intro a ha
    obtain ⟨e1, e3, h1, h2, h3⟩ := H a ha
    exact ⟨e1, true, e1, h1, rfl, by rw [if_pos rfl]; exact ⟨_, _, h2, h3, rfl⟩⟩
theorem flatMap_filter (p : α → Bool) (f : α → β) : ∀ xs : List α, xs.flatMap (fun a => if p a = true then [f a] else []) = (xs.filter p).map f
  | [] => rfl
  | a :: xs => by
    rw [List.flatMap_cons, flatMap_filter p f xs, List.filter_cons]
    by_cases h : p a = true
    · rw [if_pos h, if_pos h]; rfl
    · rw [if_neg h, if_neg h]; rfl
theorem compL_filT {vs : List Nat} {g : DG} {t : DT} {el : DE} {e : En} (h f : α → D) (p : α → Bool) (xs : List α) (H : ∀ a ∈ xs, ∃ e1 e2, g (h a) e = some e1 ∧ t e1 = .ok (p a, e2) ∧ (p a = false → wipeE e2 vs = some e) ∧ (p a = true → ∃ e3, el e2 = .ok (f a, e3) ∧ wipeE e3 vs = some e)) : compL vs g t el (xs.map h) e = .ok ((xs.filter p).map f, e) := by
  rw [compL_okT h (fun a => if p a = true then [f a] else []) xs, flatMap_filter]
  intro a ha
  obtain ⟨e1, e2, h1, h2, h3, h4⟩ := H a ha
  refine ⟨e1, p a, e2, h1, h2, ?_⟩
  cases q : p a with
  | false => rw [if_neg (by decide)]; exact ⟨h3 q, rfl⟩
  | true =>
    rw [if_pos rfl]
    obtain ⟨e3, h5, h6⟩ := h4 q
    exact ⟨_, e3, h5, h6, rfl⟩
end
theorem all_map (bs : List Bool) : gAll [.lst (bs.map D.bl)] = .ok (.bl (bs.all fun b => b)) := by
  show (match asBs (bs.map D.bl) with
    | some bs => R.ok (D.bl (bs.all fun b => b))
    | none => .bad) = _
  rw [asBs_map]
theorem any_map (bs : List Bool) : gAny [.lst (bs.map D.bl)] = .ok (.bl (bs.any fun b => b)) := by
  show (match asBs (bs.map D.bl) with
    | some bs => R.ok (D.bl (bs.any fun b => b))
    | none => .bad) = _
  rw [asBs_map]
@[simp] theorem all_true {α : Type} (l : List α) : gAll [.lst (l.map fun _ => D.bl true)] = .ok (.bl true) := by
  have := all_map (l.map fun _ => true)
  rw [List.map_map] at this
  rw [show (fun _ : α => D.bl true) = D.bl ∘ fun _ => true from rfl, this]
  simp
theorem zipD_map {α β : Type} (f : α → D) (g : β → D) : ∀ (l : List α) (m : List β), zipD (l.map f) (m.map g) = (l.zip m).map fun p => .tup [f p.1, g p.2]
  | [], _ => by simp [zipD]
  | _ :: _, [] => by simp [zipD]
  | a :: l, b :: m => by simp [zipD, zipD_map f g l m]
section
variable {P : Plan} {c : List Nat} {k : Nat}
theorem rise_zip : ∀ {l : List Nat}, l.Pairwise (· < ·) → ∀ p ∈ l.zip l.tail, p.1 < p.2
  | [], _, p, h => by cases h
  | [a], _, p, h => by cases h
  | a :: b :: l, hp, p, h => by
    rcases List.mem_cons.mp h with rfl | h
    · exact (List.pairwise_cons.mp hp).1 b List.mem_cons_self
    · exact rise_zip (List.pairwise_cons.mp hp).2 p h
theorem rise_len : ∀ {l : List Nat} {n m : Nat}, l.Pairwise (· < ·) → (∀ f ∈ l, m ≤ f ∧ f < n) → l.length + m ≤ max n m
  | [], n, m, _, _ => by simp; omega
  | a :: l, n, m, hp, hf => by
    obtain ⟨h1, h2⟩ := List.pairwise_cons.mp hp
    have h3 := hf a List.mem_cons_self
    have := rise_len (n := n) (m := a + 1) h2 fun f hm => ⟨h1 f hm, (hf f (List.mem_cons_of_mem _ hm)).2⟩
    rw [List.length_cons]
    omega
theorem Plan.Ok.fl (hP : P.Ok) : P.fz.length ≤ P.n := by
  have := rise_len (n := P.n) (m := 0) hP.rise fun f h => ⟨Nat.zero_le _, hP.fz f h⟩
  omega
theorem v_frozen (hP : P.Ok) : p_are_frozen [.tup (P.fz.map natD), .int P.n] = .ok (.bl true) := by
  have h3 := hP.lo
  have h4 := hP.hi
  have h5 := LIM_n
  have h6 := hP.fl
  have h7 := compL_mapT (vs := [2]) (g := gdName 2) (el := p_are_frozen_e1) (e := [some (.v (.tup (P.fz.map natD))), some (.v (.int P.n)), none, none, none]) natD (fun _ => .bl true) P.fz (by
    intro a ha
    have h8 := hP.fz a ha
    have h9 := v_number a 0 ((P.n : Int) - 1)
    rw [decide_eq_true (by omega), decide_eq_true (by omega)] at h9
    refine ⟨_, _, by simp; rfl, by unfold p_are_frozen_e1; simp [natD, h9]; rfl, by simp⟩)
  have h8 := compL_mapT (vs := [3, 4]) (g := gdTup [3, 4]) (el := p_are_frozen_e2) (e := [some (.v (.tup (P.fz.map natD))), some (.v (.int P.n)), none, none, none]) (fun p => .tup [natD p.1, natD p.2]) (fun _ => .bl true) (P.fz.zip P.fz.tail) (by
    intro a ha
    have h8 := rise_zip hP.rise a ha
    refine ⟨_, _, by simp; rfl, by unfold p_are_frozen_e2; simp [natD, h8]; rfl, by simp⟩)
  rw [← zipD_map] at h8
  have h9 : cut (P.fz.map natD) (some 1) none = P.fz.tail.map natD := by rw [cut_1, List.map_tail]
  unfold p_are_frozen fnD
  rw [p_are_frozen_den_eq]
  have l1 : (zipD (P.fz.map natD) (P.fz.tail.map natD)).length ≤ LIM := by
    rw [zipD_map, List.length_map, List.length_zip]
    omega
  simp (disch := omega) [initE, h7, h9, h8, l1, h6, show P.fz.length ≤ LIM by omega, -List.map_tail]
theorem v_weights (hP : P.Ok) : p_are_weights [.tup (P.ws.map natD)] = .ok (.bl true) := by
  have h5 := LIM_n
  have h6 := hP.wl
  have h7 := compL_mapT (vs := [1]) (g := gdName 1) (el := p_are_weights_e1) (e := [some (.v (.tup (P.ws.map natD))), none]) natD (fun _ => .bl true) P.ws (by
    intro a ha
    have h8 := hP.ws a ha
    have h9 := v_number a 1 9
    rw [decide_eq_true (by omega), decide_eq_true (by omega)] at h9
    refine ⟨_, _, by simp; rfl, by unfold p_are_weights_e1; simp [natD, h9]; rfl, by simp⟩)
  unfold p_are_weights fnD
  rw [p_are_weights_den_eq]
  simp (disch := omega) [initE, h7, h6, show (6 : Nat) ≤ LIM by omega]
theorem v_need_plan (hP : P.Ok) : p_need_plan [P.D] = .ok .non := by
  have h3 := hP.lo
  have h4 := hP.hi
  have h5 := LIM_n
  have h9 := v_number P.n 3 12
  rw [decide_eq_true (by omega), decide_eq_true (by omega)] at h9
  have h1 := v_frozen hP
  have h2 := v_weights hP
  unfold p_need_plan fnD p_need_plan_den
  simp (disch := omega) [initE, h1, h2, h9, Plan.D]
@[simp] theorem signs_S (c : List Nat) : signs (S c) = c.map fun x => .str (S [x]) := by
  unfold signs
  rw [S_cps]
  rfl
theorem v_need_cells (hP : P.Ok) (hc : Cells P.n c) : p_need_cells [P.D, .str (S c)] = .ok .non := by
  have h2 := hc.len
  have h3 := hP.lo
  have h4 := hP.hi
  have h5 := LIM_n
  have h7 := compL_mapT (vs := [2]) (g := gdName 2) (el := p_need_cells_e1) (e := [some (.v P.D), some (.v (.str (S c))), none]) (fun x => .str (S [x])) (fun _ => .bl true) c (by
    intro a ha
    have h8 := hc.sg a ha
    have h9 : a ∈ [97, 98, 99, 100] := by simp; omega
    refine ⟨_, _, by simp; rfl, by unfold p_need_cells_e1; simp [h9]; rfl, by simp⟩)
  unfold p_need_cells fnD
  rw [p_need_cells_den_eq]
  unfold Plan.D at *
  simp (disch := omega) [initE, h2, h7, show P.n ≤ LIM by omega]
theorem v_turns (hP : P.Ok) (hc : Cells P.n c) : p_turns [P.D, .str (S c)] = .ok (.lst (turnsM P c)) := by
  have h1 := v_need_plan hP
  have h2 := v_need_cells hP hc
  have h3 := v_turns_of hP hc
  unfold p_turns fnD p_turns_den
  simp [initE, h1, h2, h3]
/-! ### walls -/
def wallM (n : Nat) (c : List Nat) (k : Nat) : Bool := !decide (gt c k = gt c (nx n k))
def lastM (P : Plan) : Nat := if P.r = true then P.n else P.n - 1
def placesM (P : Plan) (c : List Nat) : List Nat := (List.range (lastM P)).filter (wallM P.n c)
theorem places_len : (placesM P c).length ≤ P.n := by
  refine Nat.le_trans (List.length_filter_le _ _) ?_
  rw [List.length_range]
  unfold lastM
  split <;> omega
theorem lastM_le : lastM P ≤ P.n := by unfold lastM; split <;> omega
theorem mem_places (h : k ∈ placesM P c) : k < P.n ∧ wallM P.n c k = true := by
  obtain ⟨h1, h2⟩ := List.mem_filter.mp h
  exact ⟨Nat.lt_of_lt_of_le (List.mem_range.mp h1) lastM_le, h2⟩
theorem v_places (hP : P.Ok) (hc : Cells P.n c) : p_places_of [P.D, .str (S c)] = .ok (.lst ((placesM P c).map natD)) := by
  have h2 := hc.len
  have h3 := hP.lo
  have h4 := hP.hi
  have h5 := LIM_n
  have h6 := lastM_le (P := P)
  have h7 := compL_filT (vs := [7]) (g := gdName 7) (t := p_places_of_t1) (el := p_places_of_e1) (e := [some (.v P.D), some (.v (.str (S c))), some (.v (.bl P.r)), some (.v (.int P.n)), some (.v (.tup (P.fz.map natD))), some (.v (.tup (P.ws.map natD))), some (.v (natD (lastM P))), none]) natD natD (wallM P.n c) (List.range (lastM P)) (by
    intro a ha
    have h8 : a < P.n := Nat.lt_of_lt_of_le (List.mem_range.mp ha) h6
    have h9 := nx_lt h8
    refine ⟨_, _, by simp; rfl, by unfold p_places_of_t1; simp (disch := omega) [natD, wallM]; rfl, fun _ => by simp [natD], fun _ => ⟨_, by unfold p_places_of_e1; simp [natD]; rfl, by simp [natD]⟩⟩)
  rw [← intsD_eq] at h7
  unfold p_places_of fnD
  rw [p_places_of_den_eq]
  have e : (if P.r = true then (P.n : Int) else (P.n : Int) - 1) = (lastM P : Nat) := by
    unfold lastM
    split <;> omega
  have h8 : (lastM P) ≤ LIM := by omega
  unfold placesM
  unfold Plan.D at *
  cases q : P.r with
  | true =>
    have e2 : lastM P = P.n := by unfold lastM; rw [if_pos q]
    simp only [q, e2, natD] at h7
    simp (disch := omega) [initE, q, natD, e2, h7, show P.n ≤ LIM by omega]
  | false =>
    have e2 : (lastM P : Int) = (P.n : Int) - 1 := by unfold lastM; rw [q]; simp; omega
    simp only [q, natD, e2] at h7
    have e3 : asRange [.int ((P.n : Int) - 1)] = .ok (intsD 0 (lastM P)) := by rw [← e2]; exact rangeN _ (by omega)
    simp (disch := omega) [initE, q, natD, e3, h7, h8]
def wallD (P : Plan) (c : List Nat) (k : Nat) : D := .tup [natD k, .str (S [gt c k]), .str (S [gt c (nx P.n k)])]
def wallsM (P : Plan) (c : List Nat) : List D := (placesM P c).map (wallD P c)
theorem v_walls (hP : P.Ok) (hc : Cells P.n c) : p_walls [P.D, .str (S c)] = .ok (.lst (wallsM P c)) := by
  have h1 := v_need_plan hP
  have h2 := v_need_cells hP hc
  have h3 := v_places hP hc
  have h5 := LIM_n
  have hn := hc.len
  have h4 := hP.hi
  have h6 := places_len (P := P) (c := c)
  have h7 := compL_mapT (vs := [2]) (g := gdName 2) (el := p_walls_e1) (e := [some (.v P.D), some (.v (.str (S c))), none]) natD (wallD P c) (placesM P c) (by
    intro a ha
    have h8 := (mem_places ha).1
    have h9 := nx_lt h8
    refine ⟨_, _, by simp; rfl, by unfold p_walls_e1 Plan.D wallD; simp (disch := omega) [natD]; rfl, by simp [Plan.D]⟩)
  unfold p_walls fnD
  rw [p_walls_den_eq]
  simp [initE, h1, h2, h3, h7, wallsM, show (placesM P c).length ≤ LIM by omega]
end
end WW
set_option Elab.async false
set_option linter.all false
set_option maxRecDepth 100000
namespace WW
open PySem PySem.Spec L2
/-! ### data that == may be asked about -/
def Nice (k : Nat) (d : D) : Prop := d.plain = true ∧ d.py.canLay0 = true ∧ d.py.depth ≤ k
theorem Nice.fit {k : Nat} {d : D} (h : Nice k d) (hk : k ≤ 64) : d.fit = true := by
  unfold D.fit SeqAt.shaped
  rw [h.1, h.2.1, decide_eq_true (Nat.le_trans h.2.2 hk)]
  rfl
theorem Nice.mono {k m : Nat} {d : D} (h : Nice k d) (hk : k ≤ m) : Nice m d := ⟨h.1, h.2.1, Nat.le_trans h.2.2 hk⟩
theorem nice_int (k : Nat) (i : Int) : Nice k (.int i) := ⟨rfl, rfl, Nat.zero_le _⟩
theorem nice_bl (k : Nat) (i : Bool) : Nice k (.bl i) := ⟨rfl, rfl, Nat.zero_le _⟩
theorem nice_non (k : Nat) : Nice k .non := ⟨rfl, rfl, Nat.zero_le _⟩
theorem nice_S (k : Nat) (c : List Nat) (h : ∀ x ∈ c, x < 1114112) : Nice k (.str (S c)) := by
  refine ⟨rfl, ?_, Nat.zero_le _⟩
  show PyData.strOk (S c) = true
  unfold PyData.strOk S
  rw [List.all_toArray']
  · rw [List.all_eq_true]
    intro x hx
    exact decide_eq_true (h x hx)
  · simp
theorem nice_all {k : Nat} {l : List D} (h : ∀ d ∈ l, Nice k d) : plainAll l = true ∧ PyData.canLayAll0 (pyAll l) = true ∧ PyData.depthAll (pyAll l) ≤ k := by
  induction l with
  | nil => exact ⟨rfl, rfl, Nat.zero_le _⟩
  | cons d l ih =>
    obtain ⟨h1, h2, h3⟩ := ih fun d hd => h d (List.mem_cons_of_mem _ hd)
    obtain ⟨h4, h5, h6⟩ := h d List.mem_cons_self
    refine ⟨?_, ?_, ?_⟩
    · show (d.plain && plainAll l) = true
      rw [h1, h4]; rfl
    · show (PyData.canLay0 d.py && PyData.canLayAll0 (pyAll l)) = true
      rw [h2, h5]; rfl
    · show max (PyData.depth d.py) (PyData.depthAll (pyAll l)) ≤ k
      omega
theorem nice_lst {k : Nat} {l : List D} (h : ∀ d ∈ l, Nice k d) : Nice (k + 1) (.lst l) := by
  obtain ⟨h1, h2, h3⟩ := nice_all h
  exact ⟨h1, h2, Nat.succ_le_succ h3⟩
theorem nice_tup {k : Nat} {l : List D} (h : ∀ d ∈ l, Nice k d) : Nice (k + 1) (.tup l) := by
  obtain ⟨h1, h2, h3⟩ := nice_all h
  exact ⟨h1, h2, Nat.succ_le_succ h3⟩
theorem eq_lst_nice {k : Nat} {l m : List D} (h : ∀ d ∈ l, Nice k d) (h' : ∀ d ∈ m, Nice k d) (hk : k ≤ 60) : gEq (.lst l) (.lst m) = .ok (.bl (PyData.eqv (D.lst l).py (D.lst m).py)) := by
  show (if (D.lst l).fit = true ∧ (D.lst m).fit = true then R.ok (D.bl (PyData.eqv (D.lst l).py (D.lst m).py)) else .bad) = _
  rw [if_pos ⟨(nice_lst h).fit (by omega), (nice_lst h').fit (by omega)⟩]
theorem eq_lst_nil {k : Nat} {l : List D} (h : ∀ d ∈ l, Nice k d) (hk : k ≤ 60) : gEq (.lst l) (.lst []) = .ok (.bl l.isEmpty) := by
  rw [eq_lst_nice h (fun d hd => by cases hd) hk]
  cases l <;> rfl
theorem nats_nice (l : List Nat) : ∀ d ∈ l.map natD, Nice 1 d := by
  intro d hd
  obtain ⟨a, _, rfl⟩ := List.mem_map.mp hd
  exact nice_int _ _
@[simp] theorem eq_nats_nil (l : List Nat) : gEq (.lst (l.map natD)) (.lst []) = .ok (.bl l.isEmpty) := by
  rw [eq_lst_nil (nats_nice l) (by omega)]
  cases l <;> rfl
@[simp] theorem add_natD (a b : Nat) : gAdd (natD a) (.int (b : Int)) = .ok (natD (a + b)) := by
  show R.ok (D.int ((a : Int) + (b : Int))) = .ok (.int ((a + b : Nat) : Int))
  rw [Int.natCast_add]
/-! ### blocks -/
def bl (sg : Nat → Nat) : List Nat → Nat → List (Nat × Nat)
  | [], _ => []
  | [s], e => [(sg s, e - s)]
  | s :: t :: r, e => (sg s, t - s) :: bl sg (t :: r) e
def blD (p : Nat × Nat) : D := .tup [.str (S [p.1]), natD p.2]
def blocksM (P : Plan) (c : List Nat) : List (Nat × Nat) := match placesM P c with
  | [] => [(gt c 0, P.n)]
  | p :: r => if P.r = true then bl (fun p => gt c (nx P.n p)) (p :: r) (p + P.n) else bl (gt c) (0 :: (p :: r).map (· + 1)) P.n
theorem zip_bl (φ : Nat → Int) (F : Int × Int → D) (sg : Nat → Nat) (Ok : Nat → Prop) (hF : ∀ s t, Ok s → s < t → F (φ s, φ t) = blD (sg s, t - s)) : ∀ (l : List Nat) (e : Nat), (l ++ [e]).Pairwise (· < ·) → (∀ s ∈ l, Ok s) → (((l ++ [e]).map φ).zip ((l ++ [e]).map φ).tail).map F = (bl sg l e).map blD
  | [], e, _, _ => rfl
  | [s], e, h, hs => by
    have h1 : s < e := (List.pairwise_cons.mp h).1 e (by simp)
    simp [bl, hF s e (hs s (by simp)) h1]
  | s :: t :: r, e, h, hs => by
    have h1 : s < t := (List.pairwise_cons.mp h).1 t (by simp)
    have ih := zip_bl φ F sg Ok hF (t :: r) e (List.pairwise_cons.mp h).2 fun x hx => hs x (List.mem_cons_of_mem _ hx)
    simp only [List.cons_append, List.map_cons, List.tail_cons, List.zip_cons_cons, bl] at ih ⊢
    rw [ih, hF s t (hs s (by simp)) h1]
section
variable {P : Plan} {c : List Nat} {k : Nat}
theorem places_rise : (placesM P c).Pairwise (· < ·) := by
  unfold placesM
  exact List.Pairwise.filter _ List.pairwise_lt_range
theorem blocks_len (sg : Nat → Nat) : ∀ (l : List Nat) (e : Nat), (bl sg l e).length = l.length
  | [], _ => rfl
  | [s], _ => rfl
  | s :: t :: r, e => by simp [bl, blocks_len sg (t :: r) e]
theorem v_blocks_of (ends : List Int) (h : ∃ l : List Nat, ∃ e, ∃ φ, ends = (l ++ [e]).map φ) (hn : 3 ≤ P.n) (hi : P.n ≤ 12) (hc : c.length = P.n) (pl : D) (he : ends.length ≤ 100) :
    compL [4, 5] (gdTup [4, 5]) noTest p_blocks_e1 (zipD (ends.map D.int) (ends.tail.map D.int)) [some (.v P.D), some (.v (.str (S c))), some (.v pl), some (.v (.lst (ends.map D.int))), none, none]
      = .ok ((ends.zip ends.tail).map (fun p => D.tup [.str (S [at_ c ((p.1 + 1) % P.n)]), .int (p.2 - p.1)]), [some (.v P.D), some (.v (.str (S c))), some (.v pl), some (.v (.lst (ends.map D.int))), none, none]) := by
  have h5 := LIM_n
  rw [zipD_map]
  refine compL_mapT _ _ _ ?_
  intro a ha
  have h1 := Int.emod_nonneg (a.1 + 1) (show (P.n : Int) ≠ 0 by omega)
  have h2 := Int.emod_lt_of_pos (a.1 + 1) (show 0 < (P.n : Int) by omega)
  have h3 : gMod (.int (a.1 + 1)) (.int (P.n : Int)) = .ok (.int ((a.1 + 1) % P.n)) := by
    show (if 0 < (P.n : Int) then R.ok (D.int ((a.1 + 1) % (P.n : Int))) else .bad) = _
    rw [if_pos (by omega)]
  refine ⟨_, _, by simp; rfl, by unfold p_blocks_e1 Plan.D; simp (disch := omega) [h3]; rfl, by simp [Plan.D]⟩
theorem v_blocks (hP : P.Ok) (hc : Cells P.n c) : p_blocks [P.D, .str (S c)] = .ok (.lst ((blocksM P c).map blD)) := by
  have h1 := v_need_plan hP
  have h2 := v_need_cells hP hc
  have h3 := v_places hP hc
  have h5 := LIM_n
  have hn := hc.len
  have h4 := hP.hi
  have h4' := hP.lo
  have h6 := places_len (P := P) (c := c)
  have hlt : ∀ p ∈ placesM P c, p < P.n := fun p hp => (mem_places hp).1
  have hr := places_rise (P := P) (c := c)
  have hl : ∀ p ∈ placesM P c, p < lastM P := fun p hp => List.mem_range.mp (List.mem_filter.mp hp).1
  unfold p_blocks fnD
  rw [p_blocks_den_eq]
  unfold blocksM
  cases q : placesM P c with
  | nil =>
    rw [q] at h3
    simp only [List.map_nil] at h3
    have e0 : gEq (.lst []) (.lst []) = .ok (.bl true) := eq_nats_nil []
    unfold Plan.D at *
    simp (disch := omega) [initE, h1, h2, h3, e0, blD, natD]
    rfl
  | cons p r =>
    rw [q] at h3 h6 hlt hr hl
    have e0 : gEq (.lst (natD p :: r.map natD)) (.lst []) = .ok (.bl false) := eq_nats_nil (p :: r)
    have e1 : gIx (.lst (natD p :: r.map natD)) (.int 0) = .ok (natD p) := ix_l0 _ _
    simp only [List.map_cons] at h3
    have hlen : r.length + 1 ≤ P.n := h6
    cases hrnd : P.r with
    | true =>
      dsimp only
      rw [if_pos rfl]
      have hw := v_blocks_of (P := P) (c := c) (((p :: r) ++ [p + P.n]).map fun x : Nat => (x : Int)) ⟨_, _, _, rfl⟩ hP.lo hP.hi hc.len (.lst (natD p :: r.map natD)) (by simp; omega)
      have hz := zip_bl (fun x : Nat => (x : Int)) (fun p => D.tup [.str (S [at_ c ((p.1 + 1) % P.n)]), .int (p.2 - p.1)]) (fun p => gt c (nx P.n p)) (fun s => s < P.n) (by
        intro s t hs ht
        have h7 := mod_nx P.n s hs
        have h8 : gMod (.int ((s : Int) + 1)) (.int (P.n : Int)) = .ok (.int (((s : Int) + 1) % P.n)) := by
          show (if 0 < (P.n : Int) then R.ok (D.int (((s : Int) + 1) % (P.n : Int))) else .bad) = _
          rw [if_pos (by omega)]
        rw [h8] at h7
        injection h7 with h7
        injection h7 with h7
        show D.tup [.str (S [at_ c (((s : Int) + 1) % P.n)]), .int ((t : Int) - (s : Int))] = _
        rw [h7, at_nat]
        unfold blD natD
        rw [show ((t - s : Nat) : Int) = (t : Int) - s by omega]) (p :: r) (p + P.n) (by
          refine List.pairwise_append.mpr ⟨hr, List.pairwise_singleton _ _, fun a ha b hb => ?_⟩
          rw [List.mem_singleton.mp hb]
          have := hlt a ha
          omega) hlt
      rw [hz] at hw
      have e2 : gAdd (.lst (natD p :: r.map natD)) (.lst [natD (p + P.n)]) = .ok (.lst ((((p :: r) ++ [p + P.n]).map fun x : Nat => (x : Int)).map D.int)) := by
        rw [add_lst _ _ (by simp; omega), List.map_map]
        rw [show D.int ∘ (fun x : Nat => (x : Int)) = natD from rfl]
        simp
      have e3 : cut ((((p :: r) ++ [p + P.n]).map fun x : Nat => (x : Int)).map D.int) (some 1) none = ((((p :: r) ++ [p + P.n]).map fun x : Nat => (x : Int)).tail).map D.int := by rw [cut_1, List.map_tail]
      have e4 : (zipD ((((p :: r) ++ [p + P.n]).map fun x : Nat => (x : Int)).map D.int) ((((p :: r) ++ [p + P.n]).map fun x : Nat => (x : Int)).tail.map D.int)).length ≤ LIM := by
        rw [zipD_map, List.length_map, List.length_zip]
        simp
        omega
      generalize (((p :: r) ++ [p + P.n]).map fun x : Nat => (x : Int)) = ends at *
      generalize bl (fun p => gt c (nx P.n p)) (p :: r) (p + P.n) = bs at *
      unfold Plan.D at h1 h2 h3 hw ⊢
      rw [hrnd] at h1 h2 h3 hw ⊢
      simp (disch := omega) [initE, h1, h2, h3, e0, e1, e2, e3, hw, e4, -List.map_tail]
    | false =>
      dsimp only
      rw [if_neg (by decide)]
      have hl2 : lastM P = P.n - 1 := by unfold lastM; rw [hrnd]; rfl
      rw [hl2] at hl
      have hw := v_blocks_of (P := P) (c := c) (((0 :: (p :: r).map (· + 1)) ++ [P.n]).map fun x : Nat => (x : Int) - 1) ⟨_, _, _, rfl⟩ hP.lo hP.hi hc.len (.lst (natD p :: r.map natD)) (by simp; omega)
      have hz := zip_bl (fun x : Nat => (x : Int) - 1) (fun p => D.tup [.str (S [at_ c ((p.1 + 1) % P.n)]), .int (p.2 - p.1)]) (gt c) (fun s => s < P.n) (by
        intro s t hs ht
        show D.tup [.str (S [at_ c (((s : Int) - 1 + 1) % P.n)]), .int (((t : Int) - 1) - ((s : Int) - 1))] = _
        rw [Int.sub_add_cancel, Int.emod_eq_of_lt (by omega) (by omega), at_nat]
        unfold blD natD
        rw [show ((t - s : Nat) : Int) = ((t : Int) - 1) - ((s : Int) - 1) by omega]) (0 :: (p :: r).map (· + 1)) P.n (by
          refine List.pairwise_append.mpr ⟨List.pairwise_cons.mpr ⟨fun a ha => ?_, ?_⟩, List.pairwise_singleton _ _, fun a ha b hb => ?_⟩
          · obtain ⟨x, _, rfl⟩ := List.mem_map.mp ha; omega
          · rw [List.pairwise_map]
            exact hr.imp fun h => by omega
          · rw [List.mem_singleton.mp hb]
            rcases List.mem_cons.mp ha with rfl | ha
            · omega
            · obtain ⟨x, hx, rfl⟩ := List.mem_map.mp ha
              have := hl x hx
              omega) (by
          intro a ha
          rcases List.mem_cons.mp ha with rfl | ha
          · omega
          · obtain ⟨x, hx, rfl⟩ := List.mem_map.mp ha
            have := hl x hx
            omega)
      rw [hz] at hw
      have e5 : ((0 :: (p :: r).map (· + 1)) ++ [P.n]).map (fun x : Nat => (x : Int) - 1) = (-1) :: ((p :: r).map (fun x : Nat => (x : Int)) ++ [(P.n : Int) - 1]) := by
        rw [List.cons_append, List.map_cons, List.map_append, List.map_map]
        congr 1
        congr 1
        refine List.map_congr_left fun a _ => ?_
        show ((a + 1 : Nat) : Int) - 1 = a
        omega
      rw [e5] at hw
      have e2 : gAdd (.lst [.int (-1)]) (.lst (natD p :: r.map natD)) = .ok (.lst (.int (-1) :: natD p :: r.map natD)) := by
        rw [add_lst _ _ (by simp; omega)]; rfl
      have e6 : gAdd (.lst (.int (-1) :: natD p :: r.map natD)) (.lst [.int ((P.n : Int) - 1)]) = .ok (.lst (((-1) :: ((p :: r).map (fun x : Nat => (x : Int)) ++ [(P.n : Int) - 1])).map D.int)) := by
        rw [add_lst _ _ (by simp; omega)]
        rw [List.map_cons, List.map_append, List.map_map, show D.int ∘ (fun x : Nat => (x : Int)) = natD from rfl]
        rfl
      have e3 : cut (((-1) :: ((p :: r).map (fun x : Nat => (x : Int)) ++ [(P.n : Int) - 1])).map D.int) (some 1) none = (((-1) :: ((p :: r).map (fun x : Nat => (x : Int)) ++ [(P.n : Int) - 1])).tail).map D.int := by rw [cut_1, List.map_tail]
      have e4 : (zipD (((-1) :: ((p :: r).map (fun x : Nat => (x : Int)) ++ [(P.n : Int) - 1])).map D.int) (((-1) :: ((p :: r).map (fun x : Nat => (x : Int)) ++ [(P.n : Int) - 1])).tail.map D.int)).length ≤ LIM := by
        rw [zipD_map, List.length_map, List.length_zip]
        simp
        omega
      generalize ((-1) :: ((p :: r).map (fun x : Nat => (x : Int)) ++ [(P.n : Int) - 1])) = ends at *
      generalize bl (gt c) (0 :: (p :: r).map (· + 1)) P.n = bs at *
      unfold Plan.D at h1 h2 h3 hw ⊢
      rw [hrnd] at h1 h2 h3 hw ⊢
      simp (disch := omega) [initE, h1, h2, h3, e0, e1, e2, e3, e6, hw, e4, -List.map_tail]
end
end WW
set_option Elab.async false
set_option linter.all false
set_option maxRecDepth 100000
namespace WW
open PySem PySem.Spec L2
/-! ### draws -/
section
variable {α β : Type}
theorem compL_relT {vs : List Nat} {g : DG} {t : DT} {el : DE} (h : α → D) (f : β → D) (I : En → Prop) (W : α → β → Prop) : ∀ (xs : List α) (e : En), I e → (∀ a ∈ xs, ∀ e, I e → ∃ e1 k e2, g (h a) e = some e1 ∧ t e1 = .ok (k, e2) ∧ if k = true then ∃ v e3 e4, el e2 = .ok (f v, e3) ∧ wipeE e3 vs = some e4 ∧ I e4 ∧ W a v else ∃ e4, wipeE e2 vs = some e4 ∧ I e4) →
    ∃ (ps : List (α × β)) (e' : En), compL vs g t el (xs.map h) e = .ok (ps.map fun p => f p.2, e') ∧ I e' ∧ (ps.map (·.1)).Sublist xs ∧ ∀ p ∈ ps, W p.1 p.2
  | [], e, hI, _ => ⟨[], e, rfl, hI, .slnil, fun _ h => nomatch h⟩
  | a :: xs, e, hI, H => by
    obtain ⟨e1, k, e2, h1, h2, h3⟩ := H a List.mem_cons_self e hI
    rw [List.map_cons]
    unfold compL
    rw [h1]
    simp only [h2, r_bind_ok]
    cases k with
    | true =>
      obtain ⟨v, e3, e4, h4, h5, h6, h7⟩ := h3
      obtain ⟨ps, e', i1, i2, i3, i4⟩ := compL_relT h f I W xs e4 h6 fun b hb => H b (List.mem_cons_of_mem _ hb)
      refine ⟨(a, v) :: ps, e', ?_, i2, i3.cons_cons _, fun p hp => ?_⟩
      · simp only [if_true, h4, r_bind_ok, h5, i1, List.map_cons]
      · rcases List.mem_cons.mp hp with rfl | hp
        · exact h7
        · exact i4 p hp
    | false =>
      obtain ⟨e4, h5, h6⟩ := h3
      obtain ⟨ps, e', i1, i2, i3, i4⟩ := compL_relT h f I W xs e4 h6 fun b hb => H b (List.mem_cons_of_mem _ hb)
      refine ⟨ps, e', ?_, i2, i3.cons _, i4⟩
      simp only [h5, i1, Bool.false_eq_true, if_false]
theorem compL_relA {vs : List Nat} {g : DG} {el : DE} (h : α → D) (f : β → D) (I : En → Prop) (W : α → β → Prop) : ∀ (xs : List α) (e : En), I e → (∀ a ∈ xs, ∀ e, I e → ∃ e1 v e3 e4, g (h a) e = some e1 ∧ el e1 = .ok (f v, e3) ∧ wipeE e3 vs = some e4 ∧ I e4 ∧ W a v) →
    ∃ (ps : List (α × β)) (e' : En), compL vs g noTest el (xs.map h) e = .ok (ps.map fun p => f p.2, e') ∧ I e' ∧ ps.map (·.1) = xs ∧ ∀ p ∈ ps, W p.1 p.2
  | [], e, hI, _ => ⟨[], e, rfl, hI, rfl, fun _ h => nomatch h⟩
  | a :: xs, e, hI, H => by
    obtain ⟨e1, v, e3, e4, h1, h4, h5, h6, h7⟩ := H a List.mem_cons_self e hI
    obtain ⟨ps, e', i1, i2, i3, i4⟩ := compL_relA h f I W xs e4 h6 fun b hb => H b (List.mem_cons_of_mem _ hb)
    rw [List.map_cons]
    unfold compL
    rw [h1]
    refine ⟨(a, v) :: ps, e', ?_, i2, by rw [List.map_cons, i3], fun p hp => ?_⟩
    · simp only [e_noTest, r_bind_ok, if_true, h4, r_bind_ok, h5, i1, List.map_cons]
    · rcases List.mem_cons.mp hp with rfl | hp
      · exact h7
      · exact i4 p hp
end
theorem while_inv {c : DT} {b : DS} (I : Nat → En → Prop) (J : En → Prop) (H : ∀ m e, I m e → ∃ k e1, c e = .ok (k, e1) ∧ if k = true then ∃ m' e2, m' < m ∧ (b e1 = .next e2 ∨ b e1 = .cnt e2) ∧ I m' e2 else J e1) : ∀ (m : Nat) (e : En), I m e → ∃ e', J e' ∧ whileL c b (m + 1) e = .next e' := by
  intro m
  induction m using Nat.strongRecOn with
  | _ m ih =>
    intro e hI
    obtain ⟨k, e1, h1, h2⟩ := H m e hI
    unfold whileL
    rw [h1]
    simp only [r_toS_ok]
    cases k with
    | false => exact ⟨e1, h2, rfl⟩
    | true =>
      obtain ⟨m', e2, h3, h4, h5⟩ := h2
      obtain ⟨e', h6, h7⟩ := ih m' h3 e2 h5
      refine ⟨e', h6, ?_⟩
      have h8 := whileL_mono c b (m' + 1) m e2 _ h3 (by intro z; cases z) h7
      rcases h4 with h4 | h4
      · simp only [h4, if_true]; exact h8
      · simp only [h4, if_true]; exact h8
theorem sWhile_inv {c : DT} {b : DS} (I : Nat → En → Prop) (J : En → Prop) (H : ∀ m e, I m e → ∃ k e1, c e = .ok (k, e1) ∧ if k = true then ∃ m' e2, m' < m ∧ (b e1 = .next e2 ∨ b e1 = .cnt e2) ∧ I m' e2 else J e1) (m : Nat) (e : En) (hI : I m e) (hm : m ≤ 1000000) : ∃ e', sWhile c b e = .next e' ∧ J e' := by
  obtain ⟨e', h1, h2⟩ := while_inv I J H m e hI
  exact ⟨e', sWhile_of (m + 1) (by omega) (by intro z; cases z) h2, h1⟩
theorem take_ok (a : Addr) (ns : List Int) (st n : Int) (h : 0 < n) (h' : n ≤ 1000000) : ∃ (v : Nat) (ns' : List Int) (st' : Int), f_law_take (a, ns, st) [.int n] = .ok (.int (v : Int), (a, ns', st')) ∧ (v : Int) < n := by
  have e : f_law_take (a, ns, st) [.int n] = .ok (.int (takeI (a, ns, st) n).1, (takeI (a, ns, st) n).2) := by
    show (if 0 < n ∧ n < SMALL then R.ok (D.int (takeI (a, ns, st) n).1, (takeI (a, ns, st) n).2) else .bad) = _
    rw [if_pos ⟨h, by unfold SMALL; omega⟩]
  cases ns with
  | nil =>
    have h1 := Int.emod_nonneg (st * 48271 % 2147483647 / 7) (show n ≠ 0 by omega)
    have h2 := Int.emod_lt_of_pos (st * 48271 % 2147483647 / 7) h
    refine ⟨(st * 48271 % 2147483647 / 7 % n).toNat, [], st * 48271 % 2147483647, ?_, by omega⟩
    rw [e, show (((st * 48271 % 2147483647 / 7 % n).toNat : Nat) : Int) = st * 48271 % 2147483647 / 7 % n by omega]
    rfl
  | cons k r =>
    have h1 := Int.emod_nonneg k (show n ≠ 0 by omega)
    have h2 := Int.emod_lt_of_pos k h
    refine ⟨(k % n).toNat, (if k / n = 0 ∨ k / n = -1 then r else (k / n) :: r), st, ?_, by omega⟩
    rw [e, show (((k % n).toNat : Nat) : Int) = k % n by omega]
    rfl
@[simp] theorem endB_ret (a : Addr) (d : D) (ns : List Int) (st : Int) (r : En) : endB a (.ret d (some (.box a ns st) :: r)) = .ok (d, (a, ns, st)) := by
  show (if a = a then R.ok (d, (a, ns, st)) else .bad) = _
  rw [if_pos rfl]
def sl (d : D) : Option Sl := some (.v d)
def bx (a : Addr) (ns : List Int) (st : Int) : Option Sl := some (.box a ns st)
theorem v_law_plan (a : Addr) (ns : List Int) (st : Int) (most : Nat) (h : 3 ≤ most) (h' : most ≤ 12) : ∃ (P : Plan) (ns' : List Int) (st' : Int), P.Ok ∧ P.n ≤ most ∧ f_law_plan (a, ns, st) [.int most] = .ok (P.D, (a, ns', st')) := by
  have h5 := LIM_n
  obtain ⟨v1, ns1, st1, t1, b1⟩ := take_ok a ns st ((most : Int) - 2) (by omega) (by omega)
  have hn : 3 + v1 ≤ most := by omega
  -- the frozen cells
  obtain ⟨ps, e1, c1, ⟨ns2, st2, rfl⟩, c2, c3⟩ := compL_relT (vs := [4]) (g := gdName 4) (t := f_law_plan_t1) (el := f_law_plan_e1) natD natD (fun e => ∃ ns st, e = [some (.box a ns st), some (.v (.int (most : Int))), some (.v (natD (3 + v1))), none, none, none]) (fun x y => y = x) (List.range (3 + v1)) [some (.box a ns1 st1), some (.v (.int (most : Int))), some (.v (natD (3 + v1))), none, none, none] ⟨_, _, rfl⟩ (by
    rintro x hx e ⟨ns, st, rfl⟩
    obtain ⟨w1, ns1, st1, u1, d1⟩ := take_ok a ns st 3 (by omega) (by omega)
    have e1 : ∃ q : Int, 0 < q ∧ q ≤ 1000 ∧ gIx (.lst [.int 2, .int 9, .int 30]) (.int (w1 : Int)) = .ok (.int q) := by
      have : w1 = 0 ∨ w1 = 1 ∨ w1 = 2 := by omega
      rcases this with rfl | rfl | rfl
      · exact ⟨2, by omega, by omega, by simp⟩
      · exact ⟨9, by omega, by omega, by simp⟩
      · exact ⟨30, by omega, by omega, by simp⟩
    obtain ⟨q, q1, q2, q3⟩ := e1
    obtain ⟨w2, ns2, st2, u2, d2⟩ := take_ok a ns1 st1 q q1 (by omega)
    refine ⟨_, decide ((w2 : Int) = 1), _, by simp; rfl, by unfold f_law_plan_t1; simp [u1, q3, u2]; rfl, ?_⟩
    by_cases z : (w2 : Int) = 1
    · rw [if_pos (decide_eq_true z)]
      exact ⟨x, _, [some (.box a ns2 st2), some (.v (.int (most : Int))), some (.v (natD (3 + v1))), none, none, none], by unfold f_law_plan_e1; simp; rfl, by simp, ⟨_, _, rfl⟩, rfl⟩
    · rw [if_neg (by simpa using z)]
      exact ⟨[some (.box a ns2 st2), some (.v (.int (most : Int))), some (.v (natD (3 + v1))), none, none, none], by simp, ⟨_, _, rfl⟩⟩)
  have c4 : ps.map (fun p => natD p.2) = (ps.map (·.1)).map natD := by
    rw [List.map_map]
    exact List.map_congr_left fun p hp => by rw [c3 p hp]; rfl
  rw [c4] at c1
  clear c3 c4
  generalize ps.map (·.1) = fz at *
  obtain ⟨v2, ns3, st3, t2, b2⟩ := take_ok a ns2 st2 2 (by omega) (by omega)
  -- the weights
  have hw : ∀ fD : D, ∃ (ps : List (Nat × Nat)) (ns4 : List Int) (st4 : Int), compL [4] (gdName 4) noTest f_law_plan_e2 ((List.range 6).map natD) [some (.box a ns3 st3), some (.v (.int (most : Int))), some (.v (natD (3 + v1))), some (.v fD), none, none] = .ok (ps.map fun p => natD p.2, [some (.box a ns4 st4), some (.v (.int (most : Int))), some (.v (natD (3 + v1))), some (.v fD), none, none]) ∧ ps.map (·.1) = List.range 6 ∧ ∀ p ∈ ps, 1 ≤ p.2 ∧ p.2 ≤ 9 := by
    intro fD
    obtain ⟨ps, e1, c1, ⟨ns2, st2, rfl⟩, c2, c3⟩ := compL_relA (vs := [4]) (g := gdName 4) (el := f_law_plan_e2) natD natD (fun e => ∃ ns st, e = [some (.box a ns st), some (.v (.int (most : Int))), some (.v (natD (3 + v1))), some (.v fD), none, none]) (fun x y => 1 ≤ y ∧ y ≤ 9) (List.range 6) [some (.box a ns3 st3), some (.v (.int (most : Int))), some (.v (natD (3 + v1))), some (.v fD), none, none] ⟨_, _, rfl⟩ (by
      rintro x hx e ⟨ns, st, rfl⟩
      obtain ⟨w1, ns1, st1, u1, d1⟩ := take_ok a ns st 2 (by omega) (by omega)
      have e1 : ∃ q : Int, 0 < q ∧ q ≤ 9 ∧ gIx (.lst [.int 2, .int 9]) (.int (w1 : Int)) = .ok (.int q) := by
        have : w1 = 0 ∨ w1 = 1 := by omega
        rcases this with rfl | rfl
        · exact ⟨2, by omega, by omega, by simp⟩
        · exact ⟨9, by omega, by omega, by simp⟩
      obtain ⟨q, q1, q2, q3⟩ := e1
      obtain ⟨w2, ns2, st2, u2, d2⟩ := take_ok a ns1 st1 q q1 (by omega)
      have q4 : gAdd (.int 1) (.int (w2 : Int)) = .ok (natD (1 + w2)) := by
        show R.ok (D.int (1 + (w2 : Int))) = .ok (.int ((1 + w2 : Nat) : Int))
        congr 2
      refine ⟨_, 1 + w2, _, [some (.box a ns2 st2), some (.v (.int (most : Int))), some (.v (natD (3 + v1))), some (.v fD), none, none], by simp; rfl, by unfold f_law_plan_e2; simp [u1, q3, u2, q4, -add_int]; rfl, by simp, ⟨_, _, rfl⟩, by omega, by omega⟩)
    exact ⟨ps, ns2, st2, c1, c2, c3⟩
  have hfz : ∀ f ∈ fz, f < 3 + v1 := fun f hf => List.mem_range.mp (c2.mem hf)
  have hrise : fz.Pairwise (· < ·) := List.Pairwise.sublist c2 List.pairwise_lt_range
  have hlen : fz.length ≤ 3 + v1 := by
    have := c2.length_le
    rw [List.length_range] at this
    exact this
  have e0 : (3 : Int) + (v1 : Int) = ((3 + v1 : Nat) : Int) := by omega
  have key : ∀ (fl : List Nat), fl.Sublist fz → (v2 = 0 → fl = fz) → (v2 ≠ 0 → fl = []) → ∃ (P : Plan) (ns' : List Int) (st' : Int), P.Ok ∧ P.n ≤ most ∧ f_law_plan (a, ns, st) [.int most] = .ok (P.D, (a, ns', st')) := by
    intro fl hs hz hz2
    obtain ⟨qs, ns4, st4, k1, k2, k3⟩ := hw (.tup (fl.map natD))
    obtain ⟨v3, ns5, st5, t3, b3⟩ := take_ok a ns4 st4 3 (by omega) (by omega)
    refine ⟨⟨decide (0 < (v3 : Int)), 3 + v1, fl, qs.map (·.2)⟩, ns5, st5, ⟨by dsimp only; omega, by dsimp only; omega, fun f hf => hfz f (hs.mem hf), hrise.sublist hs, ?_, ?_⟩, hn, ?_⟩
    · show (qs.map (·.2)).length = 6
      have := congrArg List.length k2
      simpa using this
    · intro w hw
      obtain ⟨p, hp, rfl⟩ := List.mem_map.mp hw
      exact k3 p hp
    have k4 : qs.map (fun p => natD p.2) = (qs.map (·.2)).map natD := by rw [List.map_map]; rfl
    rw [k4, ← intsD_eq] at k1
    rw [← intsD_eq] at c1
    unfold f_law_plan fnB
    rw [f_law_plan_den_eq]
    unfold Plan.D
    simp only [natD] at c1 k1
    rw [← e0] at c1 k1
    have r1 : asRange [.int ((3 : Int) + (v1 : Int))] = .ok (intsD 0 (3 + v1)) := by rw [e0]; exact rangeN _ (by omega)
    have r2 : asRange [.int 6] = .ok (intsD 0 6) := rangeN 6 (by omega)
    have l1 : 3 + v1 ≤ LIM := by omega
    have l2 : 6 ≤ LIM := by omega
    unfold natD at *
    by_cases z : v2 = 0
    · have z2 : (v2 : Int) = 0 := by omega
      rw [hz z] at *
      simp (disch := omega) [initB, t1, r1, c1, t2, z2, r2, k1, l1, l2, t3]
    · have z2 : ¬ (v2 : Int) = 0 := by omega
      rw [hz2 z] at k1 ⊢
      simp only [List.map_nil] at k1
      simp (disch := omega) [initB, t1, r1, c1, t2, z, z2, r2, k1, l1, l2, t3]
  by_cases z : v2 = 0
  · exact key fz (List.Sublist.refl _) (fun _ => rfl) fun h => absurd z h
  · exact key [] (List.nil_sublist _) (fun h => absurd h z) fun _ => rfl
/-! ### cells drawn -/
@[simp] theorem mul_S (x k : Nat) (h : k ≤ 1000) : gMul (.str (S [x])) (.int (k : Int)) = .ok (.str (S (List.replicate k x))) := by
  have e : Txt.mul (S [x]) (k : Int) = S (List.replicate k x) := by
    unfold Txt.mul
    by_cases h0 : k = 0
    · subst h0
      rw [if_pos (by omega)]
      rfl
    · rw [if_neg (by omega)]
      by_cases h1 : k = 1
      · subst h1
        rfl
      · rw [if_neg (by simp; omega), Int.toNat_natCast]
        have h2 : ∀ (m : Nat) (b : Array Nat), (List.replicate m (S [x]).cps).foldl (· ++ ·) b = b ++ (List.replicate m x).toArray := by
          intro m
          induction m with
          | zero => intro b; simp
          | succ m ih =>
            intro b
            rw [List.replicate_succ, List.foldl_cons, ih]
            refine Array.ext' ?_
            simp [S, List.replicate_succ]
        rw [h2]
        simp [S]
  show (if (S [x]).length * (k : Int).toNat ≤ LIM ∧ small (k : Int) = true then R.ok (D.str (Txt.mul (S [x]) (k : Int))) else .bad) = _
  rw [if_pos, e]
  refine ⟨by rw [S_len, Int.toNat_natCast]; unfold LIM; simp; omega, ?_⟩
  unfold small SMALL
  simp
  omega
theorem v_law_cells {P : Plan} (hP : P.Ok) (a : Addr) (ns : List Int) (st : Int) : ∃ (c : List Nat) (ns' : List Int) (st' : Int), Cells P.n c ∧ f_law_cells (a, ns, st) [P.D] = .ok (.str (S c), (a, ns', st')) := by
  have h5 := LIM_n
  have h3 := hP.lo
  have h4 := hP.hi
  obtain ⟨v1, ns1, st1, t1, b1⟩ := take_ok a ns st 3 (by omega) (by omega)
  have hsg : ∃ sg : List Nat, cut [97, 98, 99, 100] none (some (2 + (v1 : Int))) = sg ∧ 2 ≤ sg.length ∧ sg.length ≤ 4 ∧ ∀ x ∈ sg, 97 ≤ x ∧ x ≤ 100 := by
    have e := cut_to [97, 98, 99, 100] (2 + v1) (by simp; omega)
    refine ⟨_, rfl, ?_⟩
    rw [show (2 : Int) + (v1 : Int) = ((2 + v1 : Nat) : Int) by omega, e, List.length_take]
    refine ⟨by simp; omega, by simp; omega, fun x hx => ?_⟩
    have := List.mem_of_mem_take hx
    simp at this
    omega
  obtain ⟨sg, s1, s2, s3, s4⟩ := hsg
  obtain ⟨e', w1, ns2, st2, w, rfl, w2, w3, w4⟩ := sWhile_inv (c := f_law_cells_w1t) (b := f_law_cells_w1) (fun m e => ∃ ns st w, e = [some (.box a ns st), some (.v P.D), some (.v (.str (S w))), some (.v (.str (S sg)))] ∧ w.length ≤ 100 ∧ (∀ x ∈ w, 97 ≤ x ∧ x ≤ 100) ∧ m = 100 - w.length) (fun e => ∃ ns st w, e = [some (.box a ns st), some (.v P.D), some (.v (.str (S w))), some (.v (.str (S sg)))] ∧ w.length ≤ 100 ∧ (∀ x ∈ w, 97 ≤ x ∧ x ≤ 100) ∧ P.n ≤ w.length) (by
    rintro m e ⟨ns, st, w, rfl, w2, w3, rfl⟩
    by_cases hw : w.length < P.n
    · obtain ⟨u1, ns1, st1, t1, b1⟩ := take_ok a ns st (sg.length : Int) (by omega) (by omega)
      obtain ⟨u2, ns2, st2, t2, b2⟩ := take_ok a ns1 st1 3 (by omega) (by omega)
      refine ⟨true, _, by unfold f_law_cells_w1t Plan.D; simp (disch := omega) [hw]; rfl, ?_⟩
      rw [if_pos rfl]
      have hg : 97 ≤ gt sg u1 ∧ gt sg u1 ≤ 100 := by
        have hu : u1 < sg.length := by omega
        unfold gt
        rw [List.getD_eq_getElem?_getD, List.getElem?_eq_getElem hu]
        exact s4 _ (List.getElem_mem hu)
      have a1 : gMul (.str (S [gt sg u1])) (.int (1 + (u2 : Int))) = .ok (.str (S (List.replicate (1 + u2) (gt sg u1)))) := by
        rw [show (1 : Int) + (u2 : Int) = ((1 + u2 : Nat) : Int) by omega]
        exact mul_S _ _ (by omega)
      have a2 : gAdd (.str (S w)) (.str (S (List.replicate (1 + u2) (gt sg u1)))) = .ok (.str (S (w ++ List.replicate (1 + u2) (gt sg u1)))) := add_str _ _ (by rw [List.length_replicate]; omega)
      have l1 : (w ++ List.replicate (1 + u2) (gt sg u1)).length = w.length + (1 + u2) := by rw [List.length_append, List.length_replicate]
      refine ⟨100 - (w.length + (1 + u2)), [some (.box a ns2 st2), some (.v P.D), some (.v (.str (S (w ++ List.replicate (1 + u2) (gt sg u1))))), some (.v (.str (S sg)))], by omega, .inl ?_, ns2, st2, _, rfl, by omega, fun x hx => ?_, by rw [l1]⟩
      · unfold f_law_cells_w1 Plan.D
        simp (disch := omega) [t1, t2, a1, a2]
      · rcases List.mem_append.mp hx with hx | hx
        · exact w3 x hx
        · rw [(List.mem_replicate.mp hx).2]; exact hg
    · refine ⟨false, _, by unfold f_law_cells_w1t Plan.D; simp (disch := omega) [hw]; rfl, ?_⟩
      rw [if_neg (by decide)]
      exact ⟨ns, st, w, rfl, w2, w3, by omega⟩) 100 [some (.box a ns1 st1), some (.v P.D), some (.v (.str (S []))), some (.v (.str (S sg)))] ⟨ns1, st1, [], rfl, by simp, by simp, by simp⟩ (by omega)
  refine ⟨w.take P.n, ns2, st2, ⟨by rw [List.length_take]; omega, fun x hx => w3 x (List.mem_of_mem_take hx)⟩, ?_⟩
  have e1 : cut w none (some (P.n : Int)) = w.take P.n := cut_to w P.n w4
  unfold f_law_cells fnB
  rw [f_law_cells_den_eq]
  unfold Plan.D at *
  have g1 : gSl (.str (S [97, 98, 99, 100])) none (some (2 + (v1 : Int))) = .ok (.str (S sg)) := by rw [sl_S _ _ _ (by simp; omega), s1]
  simp (disch := omega) [initB, t1, g1, w1, e1, show w.length ≤ LIM by omega]
end WW
set_option Elab.async false
set_option linter.all false
set_option maxRecDepth 100000
namespace WW
open PySem PySem.Spec L2
/-! ### the law's own turns -/
theorem leS_S (a b : Nat) : leS (S [a]) (S [b]) = decide (a ≤ b) := by
  unfold leS
  rw [S_cps, S_cps]
  by_cases h : a ≤ b
  · rw [decide_eq_true h]
    refine decide_eq_true fun z => ?_
    rcases List.cons_lt_cons_iff.mp z with z | z
    · omega
    · exact absurd z.2 (by simp)
  · rw [decide_eq_false h]
    refine decide_eq_false fun z => z (List.cons_lt_cons_iff.mpr (.inl (by omega)))
@[simp] theorem sorted2 (a b : Nat) : gSorted [.lst [.str (S [a]), .str (S [b])]] = .ok (.lst [.str (S [min a b]), .str (S [max a b])]) := by
  have e : sortS [S [a], S [b]] = [S [min a b], S [max a b]] := by
    by_cases h : a ≤ b
    · rw [Nat.min_eq_left h, Nat.max_eq_right h]
      simp [sortS, insS, leS_S, h]
    · rw [Nat.min_eq_right (by omega), Nat.max_eq_left (by omega)]
      simp [sortS, insS, leS_S, h]
  show (if [S [a], S [b]].length < 64 then R.ok (D.lst ((sortS [S [a], S [b]]).map D.str)) else .bad) = _
  rw [if_pos (by simp), e]
  rfl
@[simp] theorem join2 (a b : Nat) : gJoin (.str (S [])) [.lst [.str (S [a]), .str (S [b])]] = .ok (.str (S [a, b])) := by
  show (if ([S [a], S [b]].map (·.length)).sum + [S [a], S [b]].length * (S []).length ≤ LIM then R.ok (D.str (Txt.join (S []) [S [a], S [b]])) else .bad) = _
  rw [if_pos (by simp; unfold LIM; omega)]
  rfl
theorem idx_pair' {a b : Nat} (ha : 97 ≤ a ∧ a ≤ 100) (hb : 97 ≤ b ∧ b ≤ 100) (hn : a ≠ b) : gIndex (.lst [.str ("ab" : Str), .str ("ac" : Str), .str ("ad" : Str), .str ("bc" : Str), .str ("bd" : Str), .str ("cd" : Str)]) [.str (S [min a b, max a b])] = .ok (.int (pairIx a b : Nat)) := by
  have e := pairs_S
  injection e with q1 e; injection e with q2 e; injection e with q3 e; injection e with q4 e; injection e with q5 e; injection e with q6 e
  rw [q1, q2, q3, q4, q5, q6]
  have e1 : a = 97 ∨ a = 98 ∨ a = 99 ∨ a = 100 := by omega
  have e2 : b = 97 ∨ b = 98 ∨ b = 99 ∨ b = 100 := by omega
  rcases e1 with rfl | rfl | rfl | rfl <;> rcases e2 with rfl | rfl | rfl | rfl <;> first | exact absurd rfl hn | simp [gIndex, idxFlat, eqFlat, pairIx]
section
variable {P : Plan} {c : List Nat} {k : Nat}
theorem wlaw {P : Plan} (c : List Nat) {j s x y : Nat} (h : (s = x ∧ gt c j = y) ∨ (s = y ∧ gt c j = x)) : wM P (gt c j) s = gt P.ws (pairIx x y) := by
  unfold wM
  rcases h with ⟨rfl, rfl⟩ | ⟨rfl, rfl⟩
  · rw [pairIx_comm]
  · rfl
theorem v_law_turns (hP : P.Ok) (hc : Cells P.n c) : f_law_turns [P.D, .str (S c)] = .ok (.lst (turnsM P c)) := by
  have h2 := hc.len
  have h3 := hP.lo
  have h4 := hP.hi
  have h5 := LIM_n
  have h66 := hP.wl
  obtain ⟨e', h6, x, y, z, u, v, h7⟩ := forL_inv (g := gdName 3) (b := f_law_turns_f1) (fun j e => ∃ x y z u v, e = [some (.v P.D), some (.v (.str (S c))), some (.l ((List.range j).filterMap (turnD P c))), x, y, z, u, v]) (intsD 0 P.n) [some (.v P.D), some (.v (.str (S c))), some (.l []), none, none, none, none, none] 0 ⟨none, none, none, none, none, rfl⟩ (by
    rintro j d e hj ⟨x, y, z, u, v, rfl⟩
    obtain ⟨hj1, rfl⟩ := intsD_get hj
    clear hj
    have hj := hj1
    have hnx := nx_lt hj
    have hlen : ((List.range j).filterMap (turnD P c)).length ≤ j := Nat.le_trans (List.length_filterMap_le _ _) (by simp)
    simp only [Nat.zero_add, List.range_succ, List.filterMap_append, List.filterMap_cons, List.filterMap_nil]
    by_cases c1 : j ∈ P.fz
    · have e3 : turnD P c j = none := by unfold turnD turnM; rw [if_pos (.inl c1)]; rfl
      refine ⟨_, _, by simp; rfl, .inl ?_, some (.v (natD j)), y, z, u, v, rfl⟩
      unfold f_law_turns_f1 Plan.D
      simp [natD, c1, e3]
    by_cases c2 : P.r = false ∧ (j = 0 ∨ j = P.n - 1)
    · have e3 : turnD P c j = none := by unfold turnD turnM; rw [if_pos (.inr (.inl c2))]; rfl
      refine ⟨_, _, by simp; rfl, .inl ?_, some (.v (natD j)), y, z, u, v, rfl⟩
      unfold f_law_turns_f1 Plan.D
      by_cases c3 : 0 < j
      · have c4 : ¬ (j : Int) < (P.n : Int) - 1 := by omega
        simp [natD, c1, c2.1, c4, c3, e3]
      · simp [natD, c1, c2.1, c3, e3]
    have c6 : P.r = true ∨ (0 < j ∧ (j : Int) < (P.n : Int) - 1) := by
      cases q : P.r with
      | true => exact .inl rfl
      | false =>
        have hh : ¬ (j = 0 ∨ j = P.n - 1) := fun z => c2 ⟨q, z⟩
        exact .inr (by omega)
    have tst : ∀ (e : En) (xs : List D) (s4 s5 s6 s7 : Option Sl), e = [some (.v P.D), some (.v (.str (S c))), some (.l xs), some (.v (natD j)), s4, s5, s6, s7] → (dAnd (dTest (dBin gNotIn (dVar 3) (dBin gIx (dVar 0) (dC (.int 2))))) (dOr (dTest (dBin gIx (dVar 0) (dC (.int 0)))) (dTest (dChain gLt gLt (dC (.int 0)) (dVar 3) (dBin gSub (dBin gIx (dVar 0) (dC (.int 1))) (dC (.int 1))))))) e = .ok (true, e) := by
      rintro e xs s4 s5 s6 s7 rfl
      unfold Plan.D
      cases q : P.r with
      | true => simp [natD, c1, q]
      | false =>
        rcases c6 with c6 | c6
        · rw [q] at c6; cases c6
        · simp [natD, c1, q, c6.1, c6.2]
    have hp := prev_lt hj
    by_cases c7 : gt c (prev P.n j) = gt c (nx P.n j)
    · have e3 : turnD P c j = none := by unfold turnD turnM; rw [if_pos (.inr (.inr c7))]; rfl
      refine ⟨_, _, by simp; rfl, .inl ?_, some (.v (natD j)), some (.v (.str (S [gt c (prev P.n j)]))), some (.v (.str (S [gt c (nx P.n j)]))), u, v, rfl⟩
      unfold f_law_turns_f1
      rw [e_if, tst _ _ _ _ _ _ rfl]
      unfold Plan.D
      simp (disch := omega) [natD, h2, c7, e3]
    by_cases c9 : gt c j = gt c (prev P.n j) ∨ gt c j = gt c (nx P.n j)
    · obtain ⟨s, e2, hs⟩ : ∃ s, turnM P c j = some s ∧ ((gt c j = gt c (prev P.n j) ∧ s = gt c (nx P.n j)) ∨ (gt c j ≠ gt c (prev P.n j) ∧ gt c j = gt c (nx P.n j) ∧ s = gt c (prev P.n j))) := by
        unfold turnM
        rw [if_neg (fun z => z.elim c1 fun z => z.elim c2 c7)]
        by_cases c8 : gt c j = gt c (prev P.n j)
        · rw [if_pos c8]; exact ⟨_, rfl, .inl ⟨c8, rfl⟩⟩
        · rw [if_neg c8, if_pos (c9.resolve_left c8)]; exact ⟨_, rfl, .inr ⟨c8, c9.resolve_left c8, rfl⟩⟩
      have e3 : turnD P c j = some (.tup [natD j, .str (S (c.set j s)), natD (wM P (gt c j) s)]) := by unfold turnD; rw [e2]; rfl
      have e4 := idx_pair' (hc.get hp) (hc.get hnx) c7
      have e5 : wM P (gt c j) s = gt P.ws (pairIx (gt c (prev P.n j)) (gt c (nx P.n j))) := wlaw c (by
        rcases hs with ⟨z1, z2⟩ | ⟨_, z1, z2⟩
        · exact .inr ⟨z2, z1⟩
        · exact .inl ⟨z2, z1⟩)
      have e6 := pairIx_lt (hc.get hp) (hc.get hnx)
      refine ⟨_, _, by simp; rfl, .inl ?_, some (.v (natD j)), some (.v (.str (S [gt c (prev P.n j)]))), some (.v (.str (S [gt c (nx P.n j)]))), some (.v (.str (S [s]))), some (.v (natD (pairIx (gt c (prev P.n j)) (gt c (nx P.n j))))), rfl⟩
      unfold f_law_turns_f1
      rw [e_if, tst _ _ _ _ _ _ rfl]
      rw [e3, e5]
      have d1 := cut_to c j (by omega)
      have d2 : cut c (some ((j : Int) + 1)) none = c.drop (j + 1) := cut_from c (j + 1) (by omega)
      have l1 : (c.take j).length = j := by rw [List.length_take]; omega
      have l2 : (c.drop (j + 1)).length = c.length - (j + 1) := by rw [List.length_drop]
      have a1 : gAdd (.str (S (c.take j))) (.str (S [s])) = .ok (.str (S (c.take j ++ [s]))) := add_str _ _ (by rw [l1]; simp; omega)
      have a2 : gAdd (.str (S (c.take j ++ [s]))) (.str (S (c.drop (j + 1)))) = .ok (.str (S (c.set j s))) := by
        rw [add_str _ _ (by rw [List.length_append, l1, l2]; simp; omega)]
        rw [List.set_eq_take_append_cons_drop, if_pos (by omega), List.append_assoc]
        rfl
      have e8 : gIx (.tup (P.ws.map natD)) (.int (pairIx (gt c (prev P.n j)) (gt c (nx P.n j)) : Nat)) = .ok (natD (gt P.ws (pairIx (gt c (prev P.n j)) (gt c (nx P.n j))))) := ix_tupN _ _ (by omega)
      have e9 : at_ c ((j : Int) - 1) = gt c (prev P.n j) := by rw [at_prev c j (by omega), h2]
      have e10 := at_nat c j
      have e11 := at_nat c (nx P.n j)
      generalize gt P.ws (pairIx (gt c (prev P.n j)) (gt c (nx P.n j))) = ww at *
      generalize pairIx (gt c (prev P.n j)) (gt c (nx P.n j)) = pp at *
      generalize c.set j s = cc at *
      have hL : ((List.range j).filterMap (turnD P c)).length < LIM := by omega
      generalize (List.range j).filterMap (turnD P c) = acc at *
      unfold Plan.D
      rcases hs with ⟨z1, rfl⟩ | ⟨z0, z1, rfl⟩
      · simp (disch := omega) [natD, h2, c7, z1, e4, d1, d2, a1, a2, e8, e9, e10, e11, hL]
      · simp (disch := omega) [natD, h2, c7, z1, Ne.symm c7, e4, d1, d2, a1, a2, e8, e9, e10, e11, hL]
    · have c10 := not_or.mp c9
      have e3 : turnD P c j = none := by unfold turnD turnM; rw [if_neg (fun z => z.elim c1 fun z => z.elim c2 c7), if_neg c10.1, if_neg c10.2]; rfl
      refine ⟨_, _, by simp; rfl, .inl ?_, some (.v (natD j)), some (.v (.str (S [gt c (prev P.n j)]))), some (.v (.str (S [gt c (nx P.n j)]))), u, v, rfl⟩
      unfold f_law_turns_f1
      rw [e_if, tst _ _ _ _ _ _ rfl]
      unfold Plan.D
      simp (disch := omega) [natD, h2, c7, e3, Ne.symm c10.1, Ne.symm c10.2])
  have h8 : f_law_turns_den (initE 8 [P.D, .str (S c)]) = .ret (.lst (turnsM P c)) [some (.v P.D), some (.v (.str (S c))), some (.v (.lst (turnsM P c))), x, y, z, u, v] := by
    rw [f_law_turns_den_eq]
    rw [h7] at h6
    simp only [intsD_len, Nat.zero_add] at h6
    unfold turnsM
    generalize h9 : f_law_turns_f1 = fb at *
    simp (disch := omega) [initE, Plan.D] at h6 ⊢
    rw [h6]
    simp
  unfold f_law_turns fnD
  rw [h8]
  rfl
end
end WW
set_option Elab.async false
set_option linter.all false
set_option maxRecDepth 100000
namespace WW
open PySem PySem.Spec L2
/-! ### the law's own blocks -/
theorem bl_snoc (sg : Nat → Nat) : ∀ (l : List Nat) (s e : Nat), bl sg (l ++ [s]) e = bl sg l s ++ [(sg s, e - s)]
  | [], s, e => rfl
  | [a], s, e => rfl
  | a :: b :: l, s, e => by
    have ih := bl_snoc sg (b :: l) s e
    simp only [List.cons_append, bl] at ih ⊢
    rw [ih]
def stp (d : List Nat) (i : Nat) : Bool := decide (i = 0 ∨ ¬ gt d (i - 1) = gt d i)
def starts (d : List Nat) (j : Nat) : List Nat := (List.range j).filter (stp d)
theorem starts_succ (d : List Nat) (j : Nat) : starts d (j + 1) = starts d j ++ (if stp d j = true then [j] else []) := by
  unfold starts
  rw [List.range_succ, List.filter_append, List.filter_cons, List.filter_nil]
theorem starts_last (d : List Nat) : ∀ j, 0 < j → ∃ l s, starts d j = l ++ [s] ∧ gt d s = gt d (j - 1) ∧ s < j
  | 0, h => by omega
  | 1, _ => ⟨[], 0, rfl, rfl, by omega⟩
  | j + 2, _ => by
    obtain ⟨l, s, h1, h2, h3⟩ := starts_last d (j + 1) (by omega)
    rw [starts_succ]
    by_cases h : stp d (j + 1) = true
    · rw [if_pos h]
      exact ⟨starts d (j + 1), j + 1, rfl, rfl, by omega⟩
    · rw [if_neg h, List.append_nil]
      refine ⟨l, s, h1, ?_, by omega⟩
      have : gt d (j + 1 - 1) = gt d (j + 1) := by
        unfold stp at h
        simp at h
        exact h
      rw [h2, this]
      rfl
theorem gt_le {d : List Nat} (h : ∀ x ∈ d, 97 ≤ x ∧ x ≤ 100) (i : Nat) : gt d i ≤ 100 := by
  unfold gt
  rw [List.getD_eq_getElem?_getD]
  cases q : d[i]? with
  | none => simp
  | some x => exact (h x (List.mem_of_getElem? q)).2
theorem bl_sg {sg : Nat → Nat} (h : ∀ i, sg i ≤ 100) : ∀ (l : List Nat) (e : Nat), ∀ p ∈ bl sg l e, p.1 ≤ 100
  | [], e, p, hp => by cases hp
  | [s], e, p, hp => by
    rw [List.mem_singleton.mp hp]; exact h s
  | s :: t :: r, e, p, hp => by
    rcases List.mem_cons.mp hp with rfl | hp
    · exact h s
    · exact bl_sg h (t :: r) e p hp
theorem blD_nice {l : List (Nat × Nat)} (h : ∀ p ∈ l, p.1 ≤ 100) : ∀ d ∈ l.map blD, Nice 2 d := by
  intro d hd
  obtain ⟨p, hp, rfl⟩ := List.mem_map.mp hd
  refine nice_tup (k := 1) fun x hx => ?_
  rcases List.mem_cons.mp hx with rfl | hx
  · exact nice_S _ _ fun y hy => by rw [List.mem_singleton.mp hy]; have := h p hp; omega
  · rw [List.mem_singleton.mp hx]; exact nice_int _ _
theorem neg1 : ixN 0 (-1) = none := rfl
theorem ix_last (l : List D) (d : D) : gIx (.lst (l ++ [d])) (.int (-1)) = .ok d := by
  refine ix_lst _ _ _ (by simp; omega) (by simp; omega) ?_
  unfold ixI
  rw [if_pos (by omega), List.length_append]
  rw [show ((-1 : Int) + ((l.length + [d].length : Nat) : Int)).toNat = l.length by simp; omega]
  simp
theorem ixN_last (n : Nat) : ixN (n + 1) (-1) = some n := by
  unfold ixN
  rw [if_neg (by omega), if_pos (by omega)]
  congr 1
  omega
theorem bl_shift {sg sg' : Nat → Nat} (p e : Nat) : ∀ (l : List Nat), (∀ q ∈ l, p ≤ q ∧ sg (q - p) = sg' q) → bl sg (l.map (· - p)) e = bl sg' l (p + e)
  | [], _ => rfl
  | [s], h => by
    have := h s (by simp)
    simp only [List.map_cons, List.map_nil, bl, this.2]
    rw [show e - (s - p) = p + e - s by omega]
  | s :: t :: r, h => by
    have h1 := h s (by simp)
    have h2 := h t (by simp)
    have ih := bl_shift (sg := sg) (sg' := sg') p e (t :: r) fun q hq => h q (List.mem_cons_of_mem _ hq)
    simp only [List.map_cons, bl] at ih ⊢
    rw [ih, h1.2, show t - p - (s - p) = t - s by omega]
section
variable {P : Plan} {c : List Nat} {k : Nat}
theorem nxt_in {n k : Nat} (h : k + 1 < n) : nx n k = k + 1 := by unfold nx; rw [if_neg (by omega)]
theorem nxt_end {n k : Nat} (h : k + 1 = n) : nx n k = 0 := by unfold nx; rw [if_pos h]
/-- where blocks begin in what is not turned round -/
theorem starts_row (n : Nat) (c : List Nat) (h : 0 < n) : starts c n = 0 :: ((List.range (n - 1)).filter (wallM n c)).map (· + 1) := by
  obtain ⟨m, rfl⟩ : ∃ m, n = m + 1 := ⟨n - 1, by omega⟩
  unfold starts
  rw [List.range_succ_eq_map, List.filter_cons, if_pos (by simp [stp]), List.filter_map]
  congr 1
  rw [Nat.add_sub_cancel]
  refine congrArg _ (List.filter_congr fun i hi => ?_)
  have hi := List.mem_range.mp hi
  show stp c (i + 1) = wallM (m + 1) c i
  unfold stp wallM
  rw [nxt_in (by omega)]
  simp
theorem gt_rot (c : List Nat) (b i : Nat) (hb : b ≤ c.length) (hi : i < c.length) : gt (c.drop b ++ c.take b) i = gt c (if b + i < c.length then b + i else b + i - c.length) := by
  unfold gt
  rw [List.getD_eq_getElem?_getD, List.getD_eq_getElem?_getD]
  congr 1
  by_cases h : b + i < c.length
  · rw [if_pos h, List.getElem?_append_left (by rw [List.length_drop]; omega), List.getElem?_drop]
  · rw [if_neg h, List.getElem?_append_right (by rw [List.length_drop]; omega), List.length_drop, List.getElem?_take]
    rw [if_pos (by omega), show i - (c.length - b) = b + i - c.length by omega]
theorem starts_ring (n : Nat) (c : List Nat) (p : Nat) (r : List Nat) (hc : c.length = n) (h3 : 3 ≤ n) (hp : (List.range n).filter (wallM n c) = p :: r) :
    starts (c.drop (nx n p) ++ c.take (nx n p)) n = (p :: r).map (· - p) ∧ ∀ q ∈ p :: r, p ≤ q ∧ gt (c.drop (nx n p) ++ c.take (nx n p)) (q - p) = gt c (nx n q) := by
  have hpm : p ∈ (List.range n).filter (wallM n c) := by rw [hp]; exact List.mem_cons_self
  have hpn : p < n := List.mem_range.mp (List.mem_filter.mp hpm).1
  have hpw : wallM n c p = true := (List.mem_filter.mp hpm).2
  have hr : (p :: r).Pairwise (· < ·) := by rw [← hp]; exact List.Pairwise.filter _ List.pairwise_lt_range
  have hge : ∀ q ∈ p :: r, p ≤ q := fun q hq => by
    rcases List.mem_cons.mp hq with rfl | hq
    · omega
    · exact Nat.le_of_lt ((List.pairwise_cons.mp hr).1 q hq)
  have hlow : ∀ q, q < p → wallM n c q = false := fun q hq => by
    cases z : wallM n c q with
    | false => rfl
    | true =>
      have : q ∈ (List.range n).filter (wallM n c) := List.mem_filter.mpr ⟨List.mem_range.mpr (by omega), z⟩
      rw [hp] at this
      have := hge q this
      omega
  have hnx := nx_lt hpn
  -- the signs of what is turned round
  have hg : ∀ i, i < n → gt (c.drop (nx n p) ++ c.take (nx n p)) i = gt c (if p + i < n then nx n (p + i) else p + i + 1 - n) := by
    intro i hi
    rw [gt_rot c _ _ (by omega) (by omega), hc]
    congr 1
    unfold nx
    by_cases e1 : p + 1 = n
    · rw [if_pos e1]
      by_cases e2 : p + i < n
      · have : i = 0 := by omega
        subst this
        rw [if_pos (by omega), if_pos e2, if_pos (by omega)]
      · rw [if_pos (by omega), if_neg e2]; omega
    · rw [if_neg e1]
      by_cases e2 : p + i < n
      · rw [if_pos e2]
        by_cases e3 : p + i + 1 = n
        · rw [if_pos e3, if_neg (by omega)]; omega
        · rw [if_neg e3, if_pos (by omega)]; omega
      · rw [if_neg e2, if_neg (by omega)]; omega
  generalize c.drop (nx n p) ++ c.take (nx n p) = dd at *
  refine ⟨?_, fun q hq => ⟨hge q hq, ?_⟩⟩
  · have hq1 : ∀ i, i < n - p → stp dd i = wallM n c (p + i) := by
      intro i hi
      by_cases h0 : i = 0
      · subst h0
        rw [Nat.add_zero, hpw]
        simp [stp]
      · unfold stp wallM
        rw [hg i (by omega), hg (i - 1) (by omega), if_pos (by omega), if_pos (by omega), nxt_in (n := n) (k := p + (i - 1)) (by omega), show p + (i - 1) + 1 = p + i by omega]
        simp [h0]
    have hq2 : ∀ j, j < p → stp dd (n - p + j) = false := by
      intro j hj
      have h1 := hlow j hj
      unfold wallM at h1
      rw [nxt_in (by omega)] at h1
      unfold stp
      rw [hg (n - p + j) (by omega), if_neg (by omega), show p + (n - p + j) + 1 - n = j + 1 by omega, hg (n - p + j - 1) (by omega)]
      have h2 : (if p + (n - p + j - 1) < n then nx n (p + (n - p + j - 1)) else p + (n - p + j - 1) + 1 - n) = j := by
        by_cases h3 : j = 0
        · subst h3
          rw [if_pos (by omega), nxt_end (by omega)]
        · rw [if_neg (by omega)]; omega
      rw [h2]
      simp at h1
      simp [h1]
      omega
    have e1 : starts dd n = (List.range (n - p)).filter (stp dd) := by
      unfold starts
      rw [show List.range n = List.range ((n - p) + p) by rw [show n - p + p = n by omega], List.range_add, List.filter_append]
      rw [show ((List.range p).map (n - p + ·)).filter (stp dd) = [] from List.filter_eq_nil_iff.mpr fun x hx => by
        obtain ⟨j, hj, rfl⟩ := List.mem_map.mp hx
        rw [hq2 j (List.mem_range.mp hj)]; decide]
      rw [List.append_nil]
    have e2 : (List.range n).filter (wallM n c) = ((List.range (n - p)).filter (fun i => wallM n c (p + i))).map (p + ·) := by
      rw [show List.range n = List.range (p + (n - p)) by rw [show p + (n - p) = n by omega], List.range_add, List.filter_append]
      rw [show (List.range p).filter (wallM n c) = [] from List.filter_eq_nil_iff.mpr fun x hx => by
        rw [hlow x (List.mem_range.mp hx)]; decide]
      rw [List.nil_append, List.filter_map]
      rfl
    rw [← hp, e2, e1, List.map_map]
    rw [List.filter_congr fun i hi => hq1 i (List.mem_range.mp hi)]
    rw [List.map_congr_left (g := id) fun a _ => by show p + a - p = a; omega, List.map_id]
  · have hqn : q < n := by
      rw [← hp] at hq
      exact List.mem_range.mp (List.mem_filter.mp hq).1
    have := hge q hq
    rw [hg (q - p) (by omega), show p + (q - p) = q by omega, if_pos hqn]
end
end WW
set_option Elab.async false
set_option linter.all false
set_option maxRecDepth 100000
namespace WW
open PySem PySem.Spec L2
/-! ### the law's _law_alike on what is the same -/
inductive Alk : Nat → D → Prop
  | non (n : Nat) : Alk n .non
  | bl (n : Nat) (b : Bool) : Alk n (.bl b)
  | int (n : Nat) (i : Int) : Alk n (.int i)
  | str (n : Nat) (x : Str) : Alk n (.str x)
  | tup (n : Nat) (l : List D) : l.length ≤ 1000000 → (∀ d ∈ l, Alk n d) → Alk (n + 1) (.tup l)
  | lst (n : Nat) (l : List D) : l.length ≤ 1000000 → (∀ d ∈ l, Alk n d) → Alk (n + 1) (.lst l)
theorem ix_lst_nat (l : List D) (k : Nat) (d : D) (h : l[k]? = some d) : gIx (.lst l) (.int (k : Int)) = .ok d := by
  have hk := (List.getElem?_eq_some_iff.mp h).1
  refine ix_lst _ _ _ (by omega) (by omega) ?_
  unfold ixI
  rw [if_neg (by omega), Int.toNat_natCast]
  exact h
theorem ix_tup_nat (l : List D) (k : Nat) (d : D) (h : l[k]? = some d) : gIx (.tup l) (.int (k : Int)) = .ok d := by
  have hk := (List.getElem?_eq_some_iff.mp h).1
  refine ix_tup _ _ _ (by omega) (by omega) ?_
  unfold ixI
  rw [if_neg (by omega), Int.toNat_natCast]
  exact h
theorem alike_loop (rec : List D → R D) (d : D) (l : List D) (hd : d = .tup l ∨ d = .lst l) (h : ∀ x ∈ l, rec [x, x] = .ok (.bl true)) : ∃ x, forL (gdName 2) (f_law_alike_f1 rec) (intsD 0 l.length) [some (.v d), some (.v d), none] = .next [some (.v d), some (.v d), x] := by
  obtain ⟨e', h1, x, rfl⟩ := forL_inv (g := gdName 2) (b := f_law_alike_f1 rec) (fun _ e => ∃ x, e = [some (.v d), some (.v d), x]) (intsD 0 l.length) [some (.v d), some (.v d), none] 0 ⟨_, rfl⟩ (by
    rintro j z e hj ⟨x, rfl⟩
    obtain ⟨hj2, rfl⟩ := intsD_get hj
    have hg := List.getElem?_eq_getElem hj2
    clear hj
    have hj := hj2
    have hx := h _ (List.getElem_mem hj)
    generalize l[j] = y at *
    have hi : gIx d (.int (j : Int)) = .ok y := by
      rcases hd with rfl | rfl
      · exact ix_tup_nat _ _ _ hg
      · exact ix_lst_nat _ _ _ hg
    refine ⟨_, _, by simp; rfl, .inl ?_, some (.v (natD j)), rfl⟩
    unfold f_law_alike_f1 natD
    simp [hi, hx])
  exact ⟨x, h1⟩
theorem alike_refl : ∀ (n : Nat) (d : D), Alk n d → f_law_alike (n + 1) [d, d] = .ok (.bl true) := by
  intro n d h
  induction h with
  | non n =>
    unfold f_law_alike fnD
    rw [f_law_alike_den_eq]
    simp [initE]
  | bl n b =>
    unfold f_law_alike fnD
    rw [f_law_alike_den_eq]
    simp [initE]
  | int n i =>
    unfold f_law_alike fnD
    rw [f_law_alike_den_eq]
    simp [initE]
  | str n x =>
    unfold f_law_alike fnD
    rw [f_law_alike_den_eq]
    simp [initE]
  | tup n l hl ha ih =>
    obtain ⟨x, hx⟩ := alike_loop (f_law_alike (n + 1)) (.tup l) l (.inl rfl) ih
    unfold f_law_alike fnD
    rw [f_law_alike_den_eq]
    generalize f_law_alike_f1 (f_law_alike (n + 1)) = fb at *
    simp (disch := omega) [initE, hx]
  | lst n l hl ha ih =>
    obtain ⟨x, hx⟩ := alike_loop (f_law_alike (n + 1)) (.lst l) l (.inr rfl) ih
    unfold f_law_alike fnD
    rw [f_law_alike_den_eq]
    generalize f_law_alike_f1 (f_law_alike (n + 1)) = fb at *
    simp (disch := omega) [initE, hx]
theorem Alk.mono {n m : Nat} {d : D} (h : Alk n d) (hm : n ≤ m) : Alk m d := by
  induction h generalizing m with
  | non n => exact .non m
  | bl n b => exact .bl m b
  | int n i => exact .int m i
  | str n x => exact .str m x
  | tup n l hl ha ih =>
    obtain ⟨k, rfl⟩ : ∃ k, m = k + 1 := ⟨m - 1, by omega⟩
    exact .tup k l hl fun d hd => ih d hd (by omega)
  | lst n l hl ha ih =>
    obtain ⟨k, rfl⟩ : ∃ k, m = k + 1 := ⟨m - 1, by omega⟩
    exact .lst k l hl fun d hd => ih d hd (by omega)
/-! ### what one turn does to the walls -/
section
variable {P : Plan} {c : List Nat} {k : Nat}
theorem gt_set (c : List Nat) (k s i : Nat) (hk : k < c.length) : gt (c.set k s) i = if i = k then s else gt c i := by
  unfold gt
  rw [List.getD_eq_getElem?_getD, List.getD_eq_getElem?_getD, List.getElem?_set]
  by_cases h : k = i
  · rw [if_pos h, if_pos (by omega), if_pos h.symm]; rfl
  · rw [if_neg h, if_neg (Ne.symm h)]
theorem Cells.set {n : Nat} {c : List Nat} (h : Cells n c) {k s : Nat} (hs : 97 ≤ s ∧ s ≤ 100) : Cells n (c.set k s) := by
  refine ⟨by rw [List.length_set, h.len], fun x hx => ?_⟩
  rcases List.mem_or_eq_of_mem_set hx with hx | rfl
  · exact h.sg x hx
  · exact hs
/-- the signs behind the walls -/
def behind (P : Plan) (c : List Nat) : List Nat := (placesM P c).map fun p => gt c (nx P.n p)
theorem nx_prev {n k : Nat} (h : k < n) : nx n (prev n k) = k := by
  unfold nx prev
  by_cases h0 : k = 0
  · rw [if_pos h0]
    rw [if_pos (by omega)]; omega
  · rw [if_neg h0, if_neg (by omega)]; omega
theorem nxt_eq {n p k : Nat} (hp : p < n) (hk : k < n) (h : nx n p = k) : p = prev n k := by
  unfold nx at h
  unfold prev
  split at h <;> split <;> omega
/-- a wall steps over the cell that turns -/
structure Step (n : Nat) (c d : List Nat) (u v : Nat) : Prop where
  wu : wallM n c u = true
  nu : wallM n d u = false
  wv : wallM n d v = true
  nv : wallM n c v = false
  oth : ∀ p, p < n → p ≠ u → p ≠ v → wallM n d p = wallM n c p ∧ gt d (nx n p) = gt c (nx n p)
  sg : gt d (nx n v) = gt c (nx n u)
theorem turn_step (hc : Cells P.n c) (h3 : 3 ≤ P.n) (hk : k < P.n) {s : Nat} (h : turnM P c k = some s) : Step P.n c (c.set k s) k (prev P.n k) ∨ Step P.n c (c.set k s) (prev P.n k) k := by
  obtain ⟨_, _, h4, h5⟩ := turnM_some h
  have h8 : ∀ i, gt (c.set k s) i = if i = k then s else gt c i := fun i => gt_set c k s i (by rw [hc.len]; exact hk)
  have hne : gt c (prev P.n k) ≠ gt c (nx P.n k) := by
    rcases h5 with ⟨z1, z2⟩ | ⟨z1, z2⟩
    · rw [← z1, ← z2]; exact Ne.symm h4
    · rw [← z1, ← z2]; exact h4
  have hpk : prev P.n k ≠ k := by unfold prev; split <;> omega
  have hnk : nx P.n k ≠ k := by unfold nx; split <;> omega
  have hnp := nx_prev hk
  have oth : ∀ p, p < P.n → p ≠ k → p ≠ prev P.n k → wallM P.n (c.set k s) p = wallM P.n c p ∧ gt (c.set k s) (nx P.n p) = gt c (nx P.n p) := by
    intro p hp h1 h2
    have h9 : nx P.n p ≠ k := fun z => h2 (nxt_eq hp hk z)
    unfold wallM
    rw [h8, h8, if_neg h1, if_neg h9]
    exact ⟨rfl, rfl⟩
  rcases h5 with ⟨z1, z2⟩ | ⟨z1, z2⟩
  · refine .inl ⟨?_, ?_, ?_, ?_, oth, ?_⟩
    · unfold wallM; rw [z1]; simp [hne]
    · unfold wallM; rw [h8, h8, if_pos rfl, if_neg hnk, z2]; simp
    · unfold wallM; rw [hnp, h8, h8, if_neg hpk, if_pos rfl, z2]; simp [hne]
    · unfold wallM; rw [hnp, z1]; simp
    · rw [hnp, h8, if_pos rfl, z2]
  · refine .inr ⟨?_, ?_, ?_, ?_, fun p hp h1 h2 => oth p hp h2 h1, ?_⟩
    · unfold wallM; rw [hnp, z1]; simp [hne]
    · unfold wallM; rw [hnp, h8, h8, if_neg hpk, if_pos rfl, z2]; simp
    · unfold wallM; rw [h8, h8, if_pos rfl, if_neg hnk, z2]; simp [hne]
    · unfold wallM; rw [z1]; simp
    · rw [h8, if_neg hnk, hnp, z1]
/-- the order of walls and of the signs behind them, when a wall steps inside -/
theorem step_in {n m : Nat} {c d : List Nat} {u v : Nat} (h : Step n c d u v) (hm : m ≤ n) (ha : u + 1 = v ∨ v + 1 = u) (hu : u < m) (hv : v < m) :
    ∃ A B, (List.range m).filter (wallM n c) = A ++ u :: B ∧ (List.range m).filter (wallM n d) = A ++ v :: B ∧ (∀ p ∈ A, p < u ∧ p < v) ∧ (∀ p ∈ B, u < p ∧ v < p) ∧ ∀ p, p ∈ A ∨ p ∈ B → gt d (nx n p) = gt c (nx n p) := by
  obtain ⟨w, hw⟩ : ∃ w, w = min u v := ⟨_, rfl⟩
  have hsplit : List.range m = List.range w ++ ([w, w + 1] ++ (List.range (m - (w + 2))).map (w + 2 + ·)) := by
    rw [show List.range m = List.range (w + (2 + (m - (w + 2)))) by rw [show w + (2 + (m - (w + 2))) = m by omega], List.range_add, List.range_add, List.map_append, List.map_map]
    congr 1
    congr 1
    refine List.map_congr_left fun a _ => ?_
    show w + (2 + a) = w + 2 + a
    omega
  have h1 : ∀ p, p < m → p ≠ u → p ≠ v → wallM n d p = wallM n c p := fun p hp a b => (h.oth p (by omega) a b).1
  refine ⟨(List.range w).filter (wallM n c), ((List.range (m - (w + 2))).map (w + 2 + ·)).filter (wallM n c), ?_, ?_, fun p hp => ?_, fun p hp => ?_, fun p hp => ?_⟩
  · rw [hsplit, List.filter_append, List.filter_append]
    congr 1
    rw [show ([w, w + 1]).filter (wallM n c) = [u] by
      rcases ha with ha | ha
      · have : w = u := by omega
        subst this
        have : w + 1 = v := by omega
        rw [List.filter_cons, h.wu, if_pos rfl, List.filter_cons, this, h.nv, if_neg (by decide)]
        rfl
      · have : w = v := by omega
        subst this
        have : w + 1 = u := by omega
        rw [List.filter_cons, h.nv, if_neg (by decide), List.filter_cons, this, h.wu, if_pos rfl]
        rfl]
    rfl
  · rw [hsplit, List.filter_append, List.filter_append]
    rw [List.filter_congr (q := wallM n c) (l := List.range w) fun p hp => h1 p (by have := List.mem_range.mp hp; omega) (by have := List.mem_range.mp hp; omega) (by have := List.mem_range.mp hp; omega)]
    rw [List.filter_congr (q := wallM n c) (l := (List.range (m - (w + 2))).map (w + 2 + ·)) fun p hp => by
      obtain ⟨x, hx, rfl⟩ := List.mem_map.mp hp
      have := List.mem_range.mp hx
      exact h1 _ (by omega) (by omega) (by omega)]
    congr 1
    rw [show ([w, w + 1]).filter (wallM n d) = [v] by
      rcases ha with ha | ha
      · have : w = u := by omega
        subst this
        have : w + 1 = v := by omega
        rw [List.filter_cons, h.nu, if_neg (by decide), List.filter_cons, this, h.wv, if_pos rfl]
        rfl
      · have : w = v := by omega
        subst this
        have : w + 1 = u := by omega
        rw [List.filter_cons, h.wv, if_pos rfl, List.filter_cons, this, h.nu, if_neg (by decide)]
        rfl]
    rfl
  · have := List.mem_range.mp (List.mem_filter.mp hp).1
    omega
  · obtain ⟨x, hx, rfl⟩ := List.mem_map.mp (List.mem_filter.mp hp).1
    omega
  · have h2 : p < m ∧ p ≠ u ∧ p ≠ v := by
      rcases hp with hp | hp
      · have := List.mem_range.mp (List.mem_filter.mp hp).1
        omega
      · obtain ⟨x, hx, rfl⟩ := List.mem_map.mp (List.mem_filter.mp hp).1
        have := List.mem_range.mp hx
        omega
    exact (h.oth p (by omega) h2.2.1 h2.2.2).2
/-- when a wall steps over a ring's first cell -/
theorem step_out {n : Nat} {c d : List Nat} (h3 : 3 ≤ n) (h : Step n c d 0 (n - 1)) :
    ∃ B, (List.range n).filter (wallM n c) = 0 :: B ∧ (List.range n).filter (wallM n d) = B ++ [n - 1] ∧ ∀ p ∈ B, gt d (nx n p) = gt c (nx n p) := by
  have hsplit : List.range n = 0 :: ((List.range (n - 2)).map (1 + ·) ++ [n - 1]) := by
    rw [show List.range n = List.range (1 + ((n - 2) + 1)) by rw [show 1 + ((n - 2) + 1) = n by omega], List.range_add, List.range_succ (n := n - 2), List.map_append]
    rw [show [n - 2].map (1 + ·) = [n - 1] by simp; omega]
    rfl
  refine ⟨((List.range (n - 2)).map (1 + ·)).filter (wallM n c), ?_, ?_, fun p hp => ?_⟩
  · rw [hsplit, List.filter_cons, h.wu, if_pos rfl, List.filter_append, List.filter_cons, h.nv, if_neg (by decide), List.filter_nil, List.append_nil]
  · rw [hsplit, List.filter_cons, h.nu, if_neg (by decide), List.filter_append, List.filter_cons, h.wv, if_pos rfl, List.filter_nil]
    congr 1
    refine List.filter_congr fun p hp => ?_
    obtain ⟨x, hx, rfl⟩ := List.mem_map.mp hp
    have := List.mem_range.mp hx
    exact (h.oth _ (by omega) (by omega) (by omega)).1
  · obtain ⟨x, hx, rfl⟩ := List.mem_map.mp (List.mem_filter.mp hp).1
    have := List.mem_range.mp hx
    exact (h.oth _ (by omega) (by omega) (by omega)).2
theorem Step.symm {n : Nat} {c d : List Nat} {u v : Nat} (h : Step n c d u v) : Step n d c v u :=
  ⟨h.wv, h.nv, h.wu, h.nu, fun p hp a b => ⟨(h.oth p hp b a).1.symm, (h.oth p hp b a).2.symm⟩, h.sg.symm⟩
/-- a turn keeps the number of walls, and the signs behind them, in a ring up to one step round -/
theorem turn_behind (hP : P.Ok) (hc : Cells P.n c) (hk : k < P.n) {s : Nat} (h : turnM P c k = some s) :
    (k ≠ 0 ∧ behind P (c.set k s) = behind P c) ∨ (P.r = true ∧ ∃ x B, (behind P c = x :: B ∧ behind P (c.set k s) = B ++ [x]) ∨ (behind P c = B ++ [x] ∧ behind P (c.set k s) = x :: B)) := by
  have h3 := hP.lo
  have hst := turn_step hc h3 hk h
  have hnr := (turnM_some h).2.1
  by_cases hin : k ≠ 0
  · left
    refine ⟨hin, ?_⟩
    have hpv : prev P.n k = k - 1 := by unfold prev; rw [if_neg hin]
    have hlast : k < lastM P := by
      unfold lastM
      cases hr : P.r with
      | true => rw [if_pos rfl]; exact hk
      | false =>
        rw [if_neg (by decide)]
        have hh : ¬ (k = 0 ∨ k = P.n - 1) := fun z => hnr ⟨hr, z⟩
        omega
    have gen : ∀ u v, Step P.n c (c.set k s) u v → (u + 1 = v ∨ v + 1 = u) → u < lastM P → v < lastM P → behind P (c.set k s) = behind P c := by
      intro u v hs ha hu hv
      obtain ⟨A, B, e1, e2, _, _, e5⟩ := step_in hs lastM_le ha hu hv
      unfold behind placesM
      rw [e1, e2, List.map_append, List.map_append, List.map_cons, List.map_cons, hs.sg]
      rw [List.map_congr_left fun p hp => e5 p (.inl hp), List.map_congr_left (l := B) fun p hp => e5 p (.inr hp)]
    rcases hst with hs | hs
    · exact gen _ _ hs (by omega) hlast (by omega)
    · exact gen _ _ hs (by omega) (by omega) hlast
  · have hk0 : k = 0 := by omega
    subst hk0
    have hr : P.r = true := by
      cases hr : P.r with
      | true => rfl
      | false => exact absurd ⟨hr, .inl rfl⟩ hnr
    have hl : lastM P = P.n := by unfold lastM; rw [if_pos hr]
    have hpv : prev P.n 0 = P.n - 1 := rfl
    rw [hpv] at hst
    right
    refine ⟨hr, ?_⟩
    unfold behind placesM
    rw [hl]
    rcases hst with hs | hs
    · obtain ⟨B, e1, e2, e3⟩ := step_out h3 hs
      refine ⟨gt c (nx P.n 0), B.map fun p => gt c (nx P.n p), .inl ⟨by rw [e1]; rfl, ?_⟩⟩
      rw [e2, List.map_append, List.map_congr_left e3, List.map_cons, List.map_nil, hs.sg]
    · obtain ⟨B, e1, e2, e3⟩ := step_out h3 hs.symm
      refine ⟨gt c (nx P.n (P.n - 1)), B.map fun p => gt c (nx P.n p), .inr ⟨?_, ?_⟩⟩
      · rw [e2, List.map_append]; rfl
      · rw [e1, List.map_cons, hs.sg, List.map_congr_left fun p hp => (e3 p hp).symm]
end
end WW
set_option Elab.async false
set_option linter.all false
set_option maxRecDepth 100000
namespace WW
open PySem PySem.Spec L2
/-! ### k01 -/
theorem bl_fst (sg : Nat → Nat) : ∀ (l : List Nat) (e : Nat), (bl sg l e).map (·.1) = l.map sg
  | [], _ => rfl
  | [s], _ => rfl
  | s :: t :: r, e => by
    have ih := bl_fst sg (t :: r) e
    simp only [bl, List.map_cons] at ih ⊢
    rw [ih]
theorem cut_m1 {α : Type} (l : List α) : cut l (some (-1)) none = l.drop (l.length - 1) := by
  unfold cut HT.sIx
  dsimp only
  rw [if_pos (by omega), show ((-1 : Int) + (l.length : Int)).toNat = l.length - 1 by omega]
  exact List.take_of_length_le (by rw [List.length_drop]; omega)
theorem cut_tom1 {α : Type} (l : List α) : cut l none (some (-1)) = l.take (l.length - 1) := by
  unfold cut HT.sIx
  dsimp only
  rw [if_pos (by omega), show ((-1 : Int) + (l.length : Int)).toNat = l.length - 1 by omega, List.drop_zero, Nat.sub_zero]
theorem in_lst_mem {x : List D} {l : List D} (hx : ∀ d ∈ x, Nice 1 d) (hl : ∀ d ∈ l, Nice 2 d) (h : D.lst x ∈ l) : gIn (.lst x) (.lst l) = .ok (.bl true) := by
  have n1 := nice_lst hx
  have n2 := nice_lst hl
  show (if ((D.lst x).flat && l.all D.flat) = true then R.ok (D.bl (inFlat (.lst x) l)) else if ((D.lst x).fit && (D.lst l).fit) = true then R.ok (D.bl ((pyAll l).any fun z => PyData.eqv z (D.lst x).py)) else .bad) = _
  rw [if_neg (by intro z; cases z), if_pos (by rw [n1.fit (by omega), n2.fit (by omega)]; rfl)]
  congr 2
  refine List.any_eq_true.mpr ⟨(D.lst x).py, ?_, SeqAt.eqv_refl _ n1.2.1⟩
  clear n1 n2 hl hx
  induction l with
  | nil => cases h
  | cons a l ih =>
    rcases List.mem_cons.mp h with h | h
    · rw [← h]; exact List.mem_cons_self
    · exact List.mem_cons_of_mem _ (ih h)
theorem mul_lst1 (l : List D) (h : l.length ≤ 100) : gMul (.lst l) (.int 1) = .ok (.lst l) := by
  show (if l.length * (1 : Int).toNat ≤ LIM ∧ small 1 = true then R.ok (D.lst (List.replicate (1 : Int).toNat l).flatten) else .bad) = _
  rw [if_pos ⟨by unfold LIM; simp; omega, by decide⟩]
  simp
theorem mul_lst0 (l : List D) : gMul (.lst l) (.int 0) = .ok (.lst []) := by
  show (if l.length * (0 : Int).toNat ≤ LIM ∧ small 0 = true then R.ok (D.lst (List.replicate (0 : Int).toNat l).flatten) else .bad) = _
  rw [if_pos ⟨by unfold LIM; simp, by decide⟩]
  simp
section
variable {P : Plan} {c : List Nat} {k : Nat}
def sgD (x : Nat) : D := .str (S [x])
def bsg (P : Plan) (c : List Nat) : List Nat := (blocksM P c).map (·.1)
theorem bsg_row (hP : P.Ok) (h : P.r = false) : bsg P c = gt c 0 :: behind P c := by
  unfold bsg blocksM behind
  have hl : ∀ p ∈ placesM P c, p + 1 < P.n := fun p hp => by
    have := List.mem_range.mp (List.mem_filter.mp hp).1
    unfold lastM at this
    rw [h, if_neg (by decide)] at this
    omega
  cases q : placesM P c with
  | nil => rfl
  | cons p r =>
    dsimp only
    rw [h, if_neg (by decide), bl_fst, List.map_cons, List.map_map]
    congr 1
    rw [q] at hl
    refine List.map_congr_left fun a ha => ?_
    show gt c (a + 1) = gt c (nx P.n a)
    rw [nxt_in (hl a ha)]
theorem bsg_ring (h : P.r = true) : bsg P c = match behind P c with
    | [] => [gt c 0]
    | l => l := by
  unfold bsg blocksM behind
  cases q : placesM P c with
  | nil => rfl
  | cons p r =>
    dsimp only
    rw [h, if_pos rfl, bl_fst]
    rfl
theorem turn_bsg (hP : P.Ok) (hc : Cells P.n c) (hk : k < P.n) {s : Nat} (h : turnM P c k = some s) :
    bsg P (c.set k s) = bsg P c ∨ (P.r = true ∧ ∃ x B, (bsg P c = x :: B ∧ bsg P (c.set k s) = B ++ [x]) ∨ (bsg P c = B ++ [x] ∧ bsg P (c.set k s) = x :: B)) := by
  rcases turn_behind hP hc hk h with ⟨h1, h2⟩ | ⟨hr, x, B, h3⟩
  · left
    have h0 : gt (c.set k s) 0 = gt c 0 := by rw [gt_set _ _ _ _ (by rw [hc.len]; exact hk), if_neg (Ne.symm h1)]
    cases hr : P.r with
    | false => rw [bsg_row hP hr, bsg_row hP hr, h2, h0]
    | true => rw [bsg_ring hr, bsg_ring hr, h2, h0]
  · right
    refine ⟨hr, x, B, ?_⟩
    rw [bsg_ring hr, bsg_ring hr]
    rcases h3 with ⟨a, b⟩ | ⟨a, b⟩
    · left
      rw [a, b]
      exact ⟨rfl, by cases B <;> rfl⟩
    · right
      rw [a, b]
      exact ⟨by cases B <;> rfl, rfl⟩
theorem turn_walls (hP : P.Ok) (hc : Cells P.n c) (hk : k < P.n) {s : Nat} (h : turnM P c k = some s) : (wallsM P (c.set k s)).length = (wallsM P c).length := by
  have e : ∀ d, (wallsM P d).length = (behind P d).length := fun d => by unfold wallsM behind; rw [List.length_map, List.length_map]
  rw [e, e]
  rcases turn_behind hP hc hk h with ⟨_, h2⟩ | ⟨_, x, B, ⟨a, b⟩ | ⟨a, b⟩⟩
  · rw [h2]
  · rw [a, b]; simp
  · rw [a, b]; simp
theorem mem_turns {d : D} (h : d ∈ turnsM P c) : ∃ k s, k < P.n ∧ turnM P c k = some s ∧ d = .tup [natD k, .str (S (c.set k s)), natD (wM P (gt c k) s)] := by
  obtain ⟨k, hk, h2⟩ := List.mem_filterMap.mp h
  unfold turnD at h2
  obtain ⟨s, hs, h3⟩ := Option.map_eq_some_iff.mp h2
  exact ⟨k, s, List.mem_range.mp hk, hs, h3.symm⟩
theorem turns_len : (turnsM P c).length ≤ P.n := Nat.le_trans (List.length_filterMap_le _ _) (by simp)
theorem bsg_len (h : 3 ≤ P.n) : (blocksM P c).length ≤ P.n + 1 := by
  unfold blocksM
  have := places_len (P := P) (c := c)
  cases q : placesM P c with
  | nil => simp
  | cons p r =>
    rw [q, List.length_cons] at this
    dsimp only
    split
    · rw [blocks_len, List.length_cons]; omega
    · rw [blocks_len]; simp; omega
end
end WW
set_option Elab.async false
set_option linter.all false
set_option maxRecDepth 100000
namespace WW
open PySem PySem.Spec L2
/-! ### the least of all turned round -/
def rots (L : List Nat) : List (List Nat) := (List.range (max 1 L.length)).map fun k => L.drop k ++ L.take k
theorem mem_rots {L y : List Nat} : y ∈ rots L ↔ ∃ a b, L = a ++ b ∧ y = b ++ a := by
  unfold rots
  constructor
  · intro h
    obtain ⟨k, _, rfl⟩ := List.mem_map.mp h
    exact ⟨L.take k, L.drop k, (List.take_append_drop k L).symm, rfl⟩
  · rintro ⟨a, b, rfl, rfl⟩
    by_cases h : a.length < (a ++ b).length
    · refine List.mem_map.mpr ⟨a.length, List.mem_range.mpr (by omega), ?_⟩
      simp
    · have hb : b = [] := by
        rw [List.length_append] at h
        exact List.eq_nil_of_length_eq_zero (by omega)
      subst hb
      exact List.mem_map.mpr ⟨0, List.mem_range.mpr (by omega), by simp⟩
def Rt (L M : List Nat) : Prop := L.length = M.length ∧ ∀ y, y ∈ rots L ↔ y ∈ rots M
theorem Rt.refl (L : List Nat) : Rt L L := ⟨rfl, fun _ => Iff.rfl⟩
theorem Rt.symm {L M : List Nat} (h : Rt L M) : Rt M L := ⟨h.1.symm, fun y => (h.2 y).symm⟩
theorem Rt.trans {L M N : List Nat} (h : Rt L M) (g : Rt M N) : Rt L N := ⟨h.1.trans g.1, fun y => (h.2 y).trans (g.2 y)⟩
theorem rt_one (x : Nat) (B : List Nat) : Rt (x :: B) (B ++ [x]) := by
  refine ⟨by simp, fun y => ?_⟩
  rw [mem_rots, mem_rots]
  constructor
  · rintro ⟨a, b, h, rfl⟩
    cases a with
    | nil => exact ⟨B, [x], rfl, by rw [List.append_nil]; exact h.symm⟩
    | cons x' a' =>
      injection h with h1 h2
      subst h1
      exact ⟨a', b ++ [x], by rw [show B = a' ++ b from h2, List.append_assoc], by simp⟩
  · rintro ⟨a, b, h, rfl⟩
    rcases List.eq_nil_or_concat b with rfl | ⟨b', z, rfl⟩
    · exact ⟨[x], B, rfl, by rw [List.nil_append, h, List.append_nil]⟩
    · rw [List.concat_eq_append, ← List.append_assoc] at h
      obtain ⟨h1, h2⟩ := List.append_inj' h rfl
      injection h2 with h2
      subst h2
      exact ⟨x :: a, b', by rw [h1]; rfl, by rw [List.concat_eq_append]; simp⟩
def minL (x : List Nat) (l : List (List Nat)) : List Nat := l.foldl (fun a y => if y < a then y else a) x
theorem minL_mem : ∀ (l : List (List Nat)) (x : List Nat), minL x l ∈ x :: l
  | [], x => List.mem_cons_self
  | y :: l, x => by
    have h := minL_mem l (if y < x then y else x)
    show minL (if y < x then y else x) l ∈ _
    rcases List.mem_cons.mp h with h | h
    · rw [h]
      by_cases c : y < x
      · rw [if_pos c]; exact List.mem_cons_of_mem _ List.mem_cons_self
      · rw [if_neg c]; exact List.mem_cons_self
    · exact List.mem_cons_of_mem _ (List.mem_cons_of_mem _ h)
theorem minL_le : ∀ (l : List (List Nat)) (x : List Nat), ∀ y ∈ x :: l, minL x l ≤ y
  | [], x, y, h => by
    rw [List.mem_singleton.mp h]
    exact List.le_refl _
  | z :: l, x, y, h => by
    have ih := minL_le l (if z < x then z else x)
    show minL (if z < x then z else x) l ≤ y
    have h1 : minL (if z < x then z else x) l ≤ (if z < x then z else x) := ih _ List.mem_cons_self
    rcases List.mem_cons.mp h with rfl | h
    · refine List.le_trans h1 ?_
      by_cases c : z < y
      · rw [if_pos c]; exact List.le_of_lt c
      · rw [if_neg c]; exact List.le_refl _
    · rcases List.mem_cons.mp h with rfl | h
      · refine List.le_trans h1 ?_
        by_cases c : y < x
        · rw [if_pos c]; exact List.le_refl _
        · rw [if_neg c]; exact c
      · exact ih y (List.mem_cons_of_mem _ h)
theorem minL_same {x y : List Nat} {l m : List (List Nat)} (h : ∀ z, z ∈ x :: l ↔ z ∈ y :: m) : minL x l = minL y m :=
  List.le_antisymm (minL_le l x _ ((h _).mpr (minL_mem m y))) (minL_le m y _ ((h _).mp (minL_mem l x)))
def lsD (L : List Nat) : D := .lst (L.map sgD)
def sgP (x : Nat) : PyData := .str (S [x])
theorem lsD_py (L : List Nat) : (lsD L).py = .list (L.map sgP) := by
  show PyData.list (pyAll (L.map sgD)) = _
  rw [pyAll_map, List.map_map]
  rfl
theorem lt_toks : ∀ (l m : List Nat), l.length = m.length → (∀ x ∈ l, x ≤ 100) → PyProof.Rows.lexLt PyProof.Rows.itemOrd (PySem.W.keyToksAll (l.map sgP)) (PySem.W.keyToksAll (m.map sgP)) = decide (l < m)
  | [], [], _, _ => by decide
  | [], _ :: _, h, _ => by cases h
  | _ :: _, [], h, _ => by cases h
  | x :: l, y :: m, h, hx => by
    have ih := lt_toks l m (Nat.succ.inj h) fun z hz => hx z (List.mem_cons_of_mem _ hz)
    have ha : PySem.W.alike (sgP x) (sgP y) = true := rfl
    rw [List.map_cons, List.map_cons]
    by_cases c : x = y
    · subst c
      rw [PySem.W.dataLt_all_yes ha (SeqAt.eqv_refl _ (nice_S 0 [x] fun y hy => by rw [List.mem_singleton.mp hy]; have := hx x List.mem_cons_self; omega).2.1), ih]
      simp
    · have e : PyData.eqv (sgP x) (sgP y) = false := by
        show (S [x] == S [y]) = false
        simp [c]
      rw [PySem.W.dataLt_all_no ha e]
      unfold sgP
      rw [PySem.W.dataLt_str, S_cps, S_cps]
      refine decide_eq_decide.mpr ?_
      rw [List.cons_lt_cons_iff, List.cons_lt_cons_iff]
      simp [c]
theorem lt_lsD (l m : List Nat) (h : l.length = m.length) (hx : ∀ x ∈ l, x ≤ 100) : PySem.W.dataLt (lsD l).py (lsD m).py = decide (l < m) := by
  rw [lsD_py, lsD_py, PySem.W.dataLt_list, lt_toks l m h hx]
theorem minDD_lsD : ∀ (ls : List (List Nat)) (x : List Nat), (∀ y ∈ ls, y.length = x.length) → (∀ y ∈ ls, ∀ z ∈ y, z ≤ 100) → minDD (lsD x) (ls.map lsD) = lsD (minL x ls)
  | [], x, _, _ => rfl
  | y :: ls, x, h, hz => by
    have hy := h y List.mem_cons_self
    rw [List.map_cons]
    show minDD (if PySem.W.dataLt (lsD y).py (lsD x).py = true then lsD y else lsD x) (ls.map lsD) = lsD (minL (if y < x then y else x) ls)
    rw [lt_lsD y x hy (hz y List.mem_cons_self)]
    by_cases c : y < x
    · rw [if_pos (decide_eq_true c), if_pos c]
      exact minDD_lsD ls y (fun z hz => (h z (List.mem_cons_of_mem _ hz)).trans hy.symm) fun z h2 => hz z (List.mem_cons_of_mem _ h2)
    · rw [if_neg (by rw [decide_eq_false c]; decide), if_neg c]
      exact minDD_lsD ls x (fun z hz => h z (List.mem_cons_of_mem _ hz)) fun z h2 => hz z (List.mem_cons_of_mem _ h2)
def minR (L : List Nat) : List Nat := match rots L with
  | [] => []
  | x :: l => minL x l
theorem rots_ne (L : List Nat) : rots L ≠ [] := by
  unfold rots
  intro h
  have := congrArg List.length h
  simp at this
theorem minR_same {L M : List Nat} (h : Rt L M) : minR L = minR M := by
  unfold minR
  have h2 := h.2
  cases hL : rots L with
  | nil => exact absurd hL (rots_ne L)
  | cons x l =>
    cases hM : rots M with
    | nil => exact absurd hM (rots_ne M)
    | cons y m =>
      rw [hL, hM] at h2
      exact minL_same h2
theorem rots_len {L y : List Nat} (h : y ∈ rots L) : y.length = L.length := by
  obtain ⟨a, b, rfl, rfl⟩ := mem_rots.mp h
  rw [List.length_append, List.length_append, Nat.add_comm]
theorem rots_sub {L y : List Nat} (h : y ∈ rots L) : ∀ z ∈ y, z ∈ L := by
  obtain ⟨a, b, rfl, rfl⟩ := mem_rots.mp h
  intro z hz
  rcases List.mem_append.mp hz with hz | hz
  · exact List.mem_append_right _ hz
  · exact List.mem_append_left _ hz
theorem alike_ls : ∀ (l m : List Nat), PySem.W.alikeAll (l.map sgP) (m.map sgP) = true
  | [], _ => by simp [PySem.W.alikeAll]
  | _ :: _, [] => by simp [PySem.W.alikeAll]
  | x :: l, y :: m => by
    rw [List.map_cons, List.map_cons, PySem.W.alikeAll, alike_ls l m]
    rfl
theorem lsD_nice {L : List Nat} (h : ∀ x ∈ L, x ≤ 100) : Nice 1 (lsD L) := nice_lst (k := 0) fun d hd => by
  obtain ⟨x, hx, rfl⟩ := List.mem_map.mp hd
  exact nice_S _ _ fun y hy => by rw [List.mem_singleton.mp hy]; have := h x hx; omega
theorem minOk_ls {ls : List (List Nat)} (h : ∀ y ∈ ls, ∀ z ∈ y, z ≤ 100) : minOk (ls.map lsD) = true := by
  have hn : ∀ d ∈ ls.map lsD, Nice 1 d := fun d hd => by
    obtain ⟨L, hL, rfl⟩ := List.mem_map.mp hd
    exact lsD_nice (h L hL)
  obtain ⟨h1, _, h3⟩ := nice_all hn
  unfold minOk
  rw [h1, decide_eq_true (show PyData.depthAll (pyAll (ls.map lsD)) ≤ 60 by omega)]
  have h4 : ((pyAll (ls.map lsD)).all fun x => (pyAll (ls.map lsD)).all fun y => PySem.W.alike x y) = true := by
    rw [pyAll_map, List.map_map]
    refine List.all_eq_true.mpr fun x hx => List.all_eq_true.mpr fun y hy => ?_
    obtain ⟨l, _, rfl⟩ := List.mem_map.mp hx
    obtain ⟨m, _, rfl⟩ := List.mem_map.mp hy
    show PySem.W.alike (lsD l).py (lsD m).py = true
    rw [lsD_py, lsD_py, PySem.W.alike]
    exact alike_ls l m
  have h5 : (ls.map lsD).all notNo = true := by
    refine List.all_eq_true.mpr fun x hx => ?_
    obtain ⟨l, _, rfl⟩ := List.mem_map.mp hx
    rfl
  rw [h4, h5]
  rfl
theorem v_round (L : List Nat) (h : ∀ x ∈ L, x ≤ 100) (hl : L.length ≤ 50) : f_law_round [lsD L] = .ok (lsD (minR L)) := by
  have h5 := LIM_n
  have w := compL_mapT (vs := [1]) (g := gdName 1) (el := f_law_round_e1) (e := [some (.v (lsD L)), none]) natD (fun k => lsD (L.drop k ++ L.take k)) (List.range (max 1 L.length)) (by
    intro k hk
    have hk2 := List.mem_range.mp hk
    have c1 : cut (L.map sgD) (some (k : Int)) none = (L.drop k).map sgD := by
      rw [cut_map]
      by_cases z : k ≤ L.length
      · rw [cut_from L k z]
      · have : L = [] := List.eq_nil_of_length_eq_zero (by omega)
        subst this
        simp [cut]
    have c2 : cut (L.map sgD) none (some (k : Int)) = (L.take k).map sgD := by
      rw [cut_map]
      by_cases z : k ≤ L.length
      · rw [cut_to L k z]
      · have : L = [] := List.eq_nil_of_length_eq_zero (by omega)
        subst this
        simp [cut]
    have a1 : gAdd (.lst ((L.drop k).map sgD)) (.lst ((L.take k).map sgD)) = .ok (lsD (L.drop k ++ L.take k)) := by
      rw [add_lst _ _ (by simp; omega)]
      unfold lsD
      rw [List.map_append]
    generalize lsD (L.drop k ++ L.take k) = out at a1 ⊢
    refine ⟨_, _, by simp; rfl, by unfold f_law_round_e1 lsD natD; simp [c1, c2, a1, -List.map_drop, -List.map_take]; rfl, by simp [lsD]⟩)
  rw [← intsD_eq] at w
  have hm : gMax2 [.int 1, .int (L.length : Int)] = .ok (.int (max 1 L.length : Nat)) := by
    show R.ok (D.int (if (L.length : Int) > 1 then (L.length : Int) else 1)) = _
    congr 2
    split <;> omega
  have hg : gMinL [.lst ((List.range (max 1 L.length)).map fun k => lsD (L.drop k ++ L.take k))] = .ok (lsD (minR L)) := by
    have e : (List.range (max 1 L.length)).map (fun k => lsD (L.drop k ++ L.take k)) = (rots L).map lsD := by
      unfold rots
      rw [List.map_map]
      rfl
    rw [e]
    have hlen : ∀ y ∈ rots L, y.length = L.length := fun y hy => rots_len hy
    have hsub : ∀ y ∈ rots L, ∀ z ∈ y, z ≤ 100 := fun y hy z hz => h z (rots_sub hy z hz)
    unfold minR
    cases q : rots L with
    | nil => exact absurd q (rots_ne L)
    | cons x l =>
      rw [q] at hlen hsub
      have ho := minOk_ls hsub
      rw [List.map_cons] at ho ⊢
      show (if minOk (lsD x :: l.map lsD) = true then R.ok (minDD (lsD x) (l.map lsD)) else .bad) = _
      rw [if_pos ho, minDD_lsD l x (fun y hy => (hlen y (List.mem_cons_of_mem _ hy)).trans (hlen x List.mem_cons_self).symm) fun y hy => hsub y (List.mem_cons_of_mem _ hy)]
  have r1 : asRange [.int (max 1 L.length : Nat)] = .ok (intsD 0 (max 1 L.length)) := rangeN _ (by omega)
  unfold f_law_round fnD
  rw [f_law_round_den_eq]
  have hlen : gLen [lsD L] = .ok (.int L.length) := by unfold lsD; rw [len_lst, List.length_map]
  generalize lsD L = ld at *
  generalize lsD (minR L) = md at *
  generalize ((List.range (max 1 L.length)).map fun k => lsD (L.drop k ++ L.take k)) = rs at *
  simp (disch := omega) [initE, hlen, hm, r1, w, hg, show max 1 L.length ≤ LIM by omega]
end WW
set_option Elab.async false
set_option linter.all false
set_option maxRecDepth 100000
namespace WW
open PySem PySem.Spec L2
/-! ### blocks make up the cells; neighbours differ -/
def rp (p : Nat × Nat) : List Nat := List.replicate p.2 p.1
theorem bl_flat (d : List Nat) : ∀ j, j ≤ d.length → (bl (gt d) (starts d j) j).flatMap rp = d.take j
  | 0, _ => rfl
  | j + 1, h => by
    have ih := bl_flat d j (by omega)
    have ht : d.take (j + 1) = d.take j ++ [gt d j] := by
      rw [List.take_add_one]
      congr 1
      unfold gt
      rw [List.getD_eq_getElem?_getD, List.getElem?_eq_getElem (by omega)]
      rfl
    rw [starts_succ, ht]
    by_cases c : stp d j = true
    · rw [if_pos c, bl_snoc, List.flatMap_append, ih, show j + 1 - j = 1 by omega]
      rfl
    · rw [if_neg c, List.append_nil]
      have hj : 0 < j := by
        rcases Nat.eq_zero_or_pos j with z | z
        · subst z; exact absurd rfl c
        · exact z
      obtain ⟨l, s, h1, h2, h3⟩ := starts_last d j hj
      have h4 : gt d (j - 1) = gt d j := by
        unfold stp at c
        simp at c
        exact c.2
      rw [h1, bl_snoc] at ih ⊢
      rw [List.flatMap_append] at ih ⊢
      rw [← ih, List.append_assoc]
      congr 1
      show List.replicate (j + 1 - s) (gt d s) ++ [] = (List.replicate (j - s) (gt d s) ++ []) ++ [gt d j]
      rw [show j + 1 - s = j - s + 1 by omega, List.replicate_succ', h2, h4]
      simp
def Adj (l : List (Nat × Nat)) : Prop := ∀ k x y, l[k]? = some x → l[k + 1]? = some y → x.1 ≠ y.1
theorem adj_snoc {l : List (Nat × Nat)} {x y : Nat × Nat} (h : Adj (l ++ [x])) (hxy : x.1 ≠ y.1) : Adj (l ++ [x] ++ [y]) := by
  intro k a b ha hb
  by_cases c : k + 1 < (l ++ [x]).length
  · rw [List.getElem?_append_left (by omega)] at ha hb
    exact h k a b ha hb
  · have hlen : k + 1 < (l ++ [x] ++ [y]).length := (List.getElem?_eq_some_iff.mp hb).1
    simp at c hlen
    have hk : k = l.length := by omega
    subst hk
    simp at ha hb
    subst ha hb
    exact hxy
theorem adj_last {l : List (Nat × Nat)} {x y : Nat × Nat} (h : Adj (l ++ [x])) (e : x.1 = y.1) : Adj (l ++ [y]) := by
  intro k a b ha hb
  have hlen : k + 1 < (l ++ [y]).length := (List.getElem?_eq_some_iff.mp hb).1
  simp at hlen
  by_cases c : k + 1 < l.length
  · rw [List.getElem?_append_left (by omega)] at ha hb
    exact h k a b (by rw [List.getElem?_append_left (by omega)]; exact ha) (by rw [List.getElem?_append_left c]; exact hb)
  · have hk : k + 1 = l.length := by omega
    have ha2 : (l ++ [x])[k]? = some a := by
      rw [List.getElem?_append_left (by omega)] at ha ⊢
      exact ha
    have hb2 : (l ++ [x])[k + 1]? = some x := by rw [hk]; simp
    rw [hk] at hb
    simp at hb
    subst hb
    rw [← e]
    exact h k a x ha2 hb2
theorem bl_adj (d : List Nat) : ∀ j, Adj (bl (gt d) (starts d j) j)
  | 0 => fun k x y hx _ => by cases hx
  | j + 1 => by
    have ih := bl_adj d j
    rw [starts_succ]
    rcases Nat.eq_zero_or_pos j with z | z
    · subst z
      intro k x y _ hy
      have : [(gt d 0, 1)][k + 1]? = some y := hy
      simp at this
    · obtain ⟨l, s, h1, h2, h3⟩ := starts_last d j z
      rw [h1, bl_snoc] at ih
      by_cases c : stp d j = true
      · rw [if_pos c, bl_snoc, h1, bl_snoc]
        refine adj_snoc ih ?_
        unfold stp at c
        simp at c
        show gt d s ≠ gt d j
        rw [h2]
        exact c.resolve_left (by omega)
      · rw [if_neg c, List.append_nil, h1, bl_snoc]
        exact adj_last ih rfl
section
variable {P : Plan} {c : List Nat} {k : Nat}
/-- the cells from behind the first wall on -/
def turnedC (P : Plan) (c : List Nat) : List Nat := if P.r = true then match placesM P c with
    | [] => c
    | p :: _ => c.drop (p + 1) ++ c.take (p + 1)
  else c
theorem blocks_bl (hP : P.Ok) (hc : Cells P.n c) : blocksM P c = bl (gt (turnedC P c)) (starts (turnedC P c) P.n) P.n := by
  have h2 := hc.len
  have h3 := hP.lo
  unfold turnedC
  cases hr : P.r with
  | false =>
    rw [if_neg (by decide), starts_row P.n c (by omega)]
    have : placesM P c = (List.range (P.n - 1)).filter (wallM P.n c) := by unfold placesM lastM; rw [hr]; rfl
    unfold blocksM
    rw [← this, hr]
    cases placesM P c <;> rfl
  | true =>
    rw [if_pos rfl]
    have hpl : placesM P c = (List.range P.n).filter (wallM P.n c) := by unfold placesM lastM; rw [hr]; rfl
    cases q : placesM P c with
    | nil =>
      dsimp only
      rw [starts_row P.n c (by omega)]
      have h7 : (List.range (P.n - 1)).filter (wallM P.n c) = [] := by
        refine List.filter_eq_nil_iff.mpr fun x hx => ?_
        rw [hpl] at q
        exact List.filter_eq_nil_iff.mp q x (List.mem_range.mpr (by have := List.mem_range.mp hx; omega))
      rw [h7]
      unfold blocksM
      rw [q]
      rfl
    | cons p r =>
      dsimp only
      have q2 := q
      rw [hpl] at q2
      have hpn : p < P.n := (mem_places (P := P) (c := c) (k := p) (by rw [q]; exact List.mem_cons_self)).1
      obtain ⟨k1, k2⟩ := starts_ring P.n c p r h2 h3 q2
      have e : c.drop (p + 1) ++ c.take (p + 1) = c.drop (nx P.n p) ++ c.take (nx P.n p) := by
        by_cases z : p + 1 = P.n
        · rw [nxt_end z, List.drop_of_length_le (by omega), List.take_of_length_le (by omega), List.drop_zero, List.take_zero, List.append_nil, List.nil_append]
        · rw [nxt_in (by omega)]
      rw [e, k1, bl_shift p P.n (p :: r) k2]
      unfold blocksM
      rw [q, hr]
      rfl
theorem turnedC_len (hc : Cells P.n c) : (turnedC P c).length = P.n := by
  have h2 := hc.len
  unfold turnedC
  split
  · split
    · exact h2
    · rename_i p r q
      have hpn : p < P.n := (mem_places (P := P) (c := c) (k := p) (by rw [q]; exact List.mem_cons_self)).1
      rw [List.length_append, List.length_drop, List.length_take]; omega
  · exact h2
theorem blocks_flat (hP : P.Ok) (hc : Cells P.n c) : (blocksM P c).flatMap rp = turnedC P c := by
  rw [blocks_bl hP hc, bl_flat _ _ (by rw [turnedC_len hc]; omega), List.take_of_length_le (by rw [turnedC_len hc]; omega)]
theorem blocks_adj (hP : P.Ok) (hc : Cells P.n c) : Adj (blocksM P c) := by
  rw [blocks_bl hP hc]
  exact bl_adj _ _
theorem rp_le : ∀ {l : List (Nat × Nat)} {p : Nat × Nat}, p ∈ l → p.2 ≤ (l.flatMap rp).length
  | q :: l, p, h => by
    rw [List.flatMap_cons, List.length_append]
    rcases List.mem_cons.mp h with rfl | h
    · unfold rp; rw [List.length_replicate]; omega
    · have := rp_le h
      omega
theorem asStrs_S : ∀ ls : List (List Nat), asStrs (ls.map fun l => D.str (S l)) = some (ls.map S)
  | [] => rfl
  | l :: ls => by
    rw [List.map_cons]
    unfold asStrs
    rw [asStrs_S ls]
    rfl
theorem glue_fold : ∀ (ls : List (List Nat)) (acc : Array Nat), (ls.map S).foldl (fun acc p => acc ++ (S []).cps ++ p.cps) acc = acc ++ ls.flatten.toArray
  | [], acc => by simp
  | l :: ls, acc => by
    rw [List.map_cons, List.foldl_cons, glue_fold ls]
    refine Array.ext' ?_
    simp [S]
theorem glue_S : ∀ ls : List (List Nat), Txt.join (S []) (ls.map S) = S ls.flatten
  | [] => rfl
  | l :: ls => by
    show (⟨(ls.map S).foldl (fun acc p => acc ++ (S []).cps ++ p.cps) (S l).cps⟩ : Str) = _
    rw [glue_fold]
    simp [S]
theorem join_S (ls : List (List Nat)) (h : ls.flatten.length ≤ LIM) : gJoin (.str (S [])) [.lst (ls.map fun l => D.str (S l))] = .ok (.str (S ls.flatten)) := by
  show (match asStrs (ls.map fun l => D.str (S l)) with
    | some ys => if (ys.map fun x : Str => x.length).sum + ys.length * (S []).length ≤ LIM then R.ok (D.str (Txt.join (S []) ys)) else .bad
    | none => .bad) = _
  rw [asStrs_S]
  have e : ((ls.map S).map fun x : Str => x.length).sum = ls.flatten.length := by
    rw [List.map_map, List.length_flatten]
    congr 1
  show (if ((ls.map S).map fun x : Str => x.length).sum + (ls.map S).length * (S []).length ≤ LIM then R.ok (D.str (Txt.join (S []) (ls.map S))) else .bad) = _
  rw [if_pos (by rw [e, S_len, List.length_nil, Nat.mul_zero, Nat.add_zero]; exact h), glue_S]
theorem v_by_blocks (hP : P.Ok) (hc : Cells P.n c) : f_law_by_blocks [P.D, .str (S c), .lst ((blocksM P c).map blD)] = .ok (.bl true) := by
  have h2 := hc.len
  have h3 := hP.lo
  have h4 := hP.hi
  have h5 := LIM_n
  have hfl := blocks_flat hP hc
  have hbl := bsg_len (P := P) (c := c) hP.lo
  have hpl := places_len (P := P) (c := c)
  have hw := v_walls hP hc
  have hadj := blocks_adj hP hc
  have m1 := compL_mapT (vs := [4, 5]) (g := gdTup [4, 5]) (el := f_law_by_blocks_e1) (e := [some (.v P.D), some (.v (.str (S c))), some (.v (.lst ((blocksM P c).map blD))), none, none, none, none, none, none, none, none, none]) blD (fun p => D.str (S (rp p))) (blocksM P c) (by
    intro p hp
    have hle := rp_le hp
    rw [hfl, turnedC_len hc] at hle
    have a1 : gMul (.str (S [p.1])) (natD p.2) = .ok (.str (S (rp p))) := mul_S _ _ (by omega)
    refine ⟨_, _, by unfold blD; simp; rfl, by unfold f_law_by_blocks_e1; simp [a1]; rfl, by simp [blD]⟩)
  have m2 := compL_mapT (vs := [7, 8, 9]) (g := gdTup [7, 8, 9]) (el := f_law_by_blocks_e2) (e := [some (.v P.D), some (.v (.str (S c))), some (.v (.lst ((blocksM P c).map blD))), some (.v (.str (S (turnedC P c)))), none, none, none, none, none, none, none, none]) (wallD P c) natD (placesM P c) (by
    intro p hp
    refine ⟨_, _, by unfold wallD; simp; rfl, by unfold f_law_by_blocks_e2; simp; rfl, by simp [wallD]⟩)
  have m3 : ∀ (s6 s10 : Option Sl), compL [11] (gdName 11) f_law_by_blocks_t3 f_law_by_blocks_e3 (intsD 0 ((blocksM P c).length - 1)) [some (.v P.D), some (.v (.str (S c))), some (.v (.lst ((blocksM P c).map blD))), some (.v (.str (S (turnedC P c)))), none, none, s6, none, none, none, s10, none] = .ok ([], [some (.v P.D), some (.v (.str (S c))), some (.v (.lst ((blocksM P c).map blD))), some (.v (.str (S (turnedC P c)))), none, none, s6, none, none, none, s10, none]) := by
    intro s6 s10
    rw [intsD_eq, compL_filT natD natD (fun _ => false) (List.range ((blocksM P c).length - 1))]
    · rw [show (List.range ((blocksM P c).length - 1)).filter (fun _ => false) = [] from List.filter_eq_nil_iff.mpr fun _ _ => by decide]
      rfl
    · intro j hj
      have hj := List.mem_range.mp hj
      obtain ⟨x, hx⟩ : ∃ x, (blocksM P c)[j]? = some x := ⟨_, List.getElem?_eq_getElem (by omega)⟩
      obtain ⟨y, hy⟩ : ∃ y, (blocksM P c)[j + 1]? = some y := ⟨_, List.getElem?_eq_getElem (by omega)⟩
      have hxy := hadj j x y hx hy
      have g1 : gIx (.lst ((blocksM P c).map blD)) (.int (j : Int)) = .ok (blD x) := ix_lst_nat _ _ _ (by rw [List.getElem?_map, hx]; rfl)
      have g2 : gIx (.lst ((blocksM P c).map blD)) (.int ((j : Int) + 1)) = .ok (blD y) := ix_lst_nat _ (j + 1) _ (by rw [List.getElem?_map, hy]; rfl)
      have g3 : gIx (blD x) (.int 0) = .ok (.str (S [x.1])) := ix_t0 _ _
      have g4 : gIx (blD y) (.int 0) = .ok (.str (S [y.1])) := ix_t0 _ _
      generalize (blocksM P c).map blD = bd at *
      refine ⟨_, _, by simp; rfl, by unfold f_law_by_blocks_t3 natD; simp [g1, g2, g3, g4, hxy]; rfl, fun _ => by simp, fun z => by cases z⟩
  have hj : gJoin (.str (S [])) [.lst ((blocksM P c).map fun p => D.str (S (rp p)))] = .ok (.str (S (turnedC P c))) := by
    have e : (blocksM P c).map (fun p => D.str (S (rp p))) = ((blocksM P c).map rp).map fun l => D.str (S l) := by rw [List.map_map]; rfl
    have e2 : ((blocksM P c).map rp).flatten = turnedC P c := by rw [← hfl, List.flatMap_def]
    rw [e, join_S _ (by rw [e2, turnedC_len hc]; omega), e2]
  have e0 : gEq (.lst []) (.lst []) = .ok (.bl true) := eq_nats_nil []
  have hbl2 : ((blocksM P c).map blD).length = (blocksM P c).length := List.length_map _
  have r1 : gIx P.D (.int 0) = .ok (.bl P.r) := ix_t0 _ _
  have hb0 : 1 ≤ (blocksM P c).length := by
    unfold blocksM
    split
    · simp
    · split
      · rw [blocks_len]; simp
      · rw [blocks_len]; simp
  have r2 : asRange [.int (((blocksM P c).length : Int) - 1)] = .ok (intsD 0 ((blocksM P c).length - 1)) := by
    rw [show ((blocksM P c).length : Int) - 1 = (((blocksM P c).length - 1 : Nat) : Int) by omega]
    exact rangeN _ (by omega)
  have hl1 : (blocksM P c).length ≤ LIM := by omega
  have hl2 : (blocksM P c).length - 1 ≤ LIM := by omega
  have hl3 : (placesM P c).length ≤ LIM := by omega
  unfold f_law_by_blocks fnD
  rw [f_law_by_blocks_den_eq]
  unfold wallsM at hw
  have hl0 : ((blocksM P c).map blD).length ≤ LIM := by omega
  have hN : ∀ N M : Nat, N = M → ((N : Int) = (M : Int)) = True := fun N M h => eq_true (by rw [h])
  have hT : turnedC P c = turnedC P c := rfl
  cases hr : P.r with
  | true =>
    rw [hr] at r1
    cases q : placesM P c with
    | nil =>
      have ht : turnedC P c = c := by unfold turnedC; rw [hr, q]; rfl
      have hlen : (blocksM P c).length = 1 := by unfold blocksM; rw [q]; rfl
      rw [q] at hw m2
      clear hadj hfl hT
      generalize hT : turnedC P c = T at *
      rw [ht] at hT
      generalize (blocksM P c).map blD = bd at *
      generalize P.D = pd at *
      simp only [List.map_nil] at hw m2
      subst ht
      have hE1 : (((blocksM P T).length : Int) = 1) = True := eq_true (by rw [hlen]; rfl)
      have hE2 := eq_true hlen
      clear hlen
      generalize (blocksM P T).length = N at *
      simp (disch := omega) [initE, m1, hj, hw, m2, r1, r2, hl0, hl1, hl2, hl3, hbl2, hE1, hE2, e0, m3]
    | cons p r =>
      have ht : turnedC P c = c.drop (p + 1) ++ c.take (p + 1) := by unfold turnedC; rw [hr, q]; rfl
      have hlen : (blocksM P c).length = (placesM P c).length := by unfold blocksM; rw [q]; dsimp only; rw [hr, if_pos rfl, blocks_len]
      have hpn : p < P.n := (mem_places (P := P) (c := c) (k := p) (by rw [q]; exact List.mem_cons_self)).1
      have e1 : gEq (.lst ((placesM P c).map natD)) (.lst []) = .ok (.bl false) := by rw [eq_nats_nil, q]; rfl
      have e2 : gIx (.lst ((placesM P c).map natD)) (.int 0) = .ok (natD p) := by rw [q]; exact ix_l0 _ _
      have e3 : gAdd (natD p) (.int 1) = .ok (natD (p + 1)) := add_natD p 1
      have d1 : gSl (.str (S c)) (some ((p + 1 : Nat) : Int)) none = .ok (.str (S (c.drop (p + 1)))) := by rw [sl_S _ _ _ (by omega), cut_from c (p + 1) (by omega)]
      have d2 : gSl (.str (S c)) none (some ((p + 1 : Nat) : Int)) = .ok (.str (S (c.take (p + 1)))) := by rw [sl_S _ _ _ (by omega), cut_to c (p + 1) (by omega)]
      have a1 : gAdd (.str (S (c.drop (p + 1)))) (.str (S (c.take (p + 1)))) = .ok (.str (S (turnedC P c))) := by
        rw [ht]
        exact add_str _ _ (by rw [List.length_drop, List.length_take]; omega)
      have e5 : asI (natD (p + 1)) = .ok ((p + 1 : Nat) : Int) := rfl
      have hpll : ((placesM P c).map natD).length = (placesM P c).length := List.length_map _
      clear hadj hfl hT ht
      generalize turnedC P c = T at *
      generalize c.drop (p + 1) = c1 at *
      generalize c.take (p + 1) = c2 at *
      generalize (((p + 1 : Nat) : Int)) = pi at *
      generalize natD (p + 1) = np at *
      generalize (blocksM P c).map blD = bd at *
      generalize P.D = pd at *
      have hml : ((placesM P c).map (wallD P c)).length ≤ LIM := by rw [List.length_map]; exact hl3
      generalize (placesM P c).map (wallD P c) = wd at *
      generalize (placesM P c).map natD = pn at *
      have hE1 : (((blocksM P c).length : Int) = ((placesM P c).length : Int)) = True := eq_true (by rw [hlen])
      have hE2 := eq_true hlen
      clear hlen
      generalize (blocksM P c).length = N at *
      generalize (placesM P c).length = M at *
      simp (disch := omega) [initE, m1, hj, hw, m2, r1, r2, hl0, hl1, hl2, hl3, hbl2, hE1, hE2, e0, m3, e1, e2, e3, d1, d2, a1, e5, hpll, hml]
  | false =>
    have ht : turnedC P c = c := by unfold turnedC; rw [hr]; rfl
    have hlen : (blocksM P c).length = (placesM P c).length + 1 := by
      unfold blocksM
      cases q : placesM P c with
      | nil => rfl
      | cons p r => dsimp only; rw [hr, if_neg (by decide), blocks_len]; simp
    rw [hr] at r1
    clear hadj hfl hT
    generalize hT : turnedC P c = T at *
    rw [ht] at hT
    generalize (blocksM P c).map blD = bd at *
    generalize P.D = pd at *
    subst ht
    have hE1 : (((blocksM P T).length : Int) = ((placesM P T).length : Int) + 1) = True := eq_true (by rw [hlen]; rfl)
    have hE2 := eq_true hlen
    clear hlen
    generalize (blocksM P T).length = N at *
    simp (disch := omega) [initE, m1, hj, hw, m2, r1, r2, hl0, hl1, hl2, hl3, hbl2, hE1, hE2, e0, m3]
end
end WW
set_option Elab.async false
set_option linter.all false
set_option maxRecDepth 100000
namespace WW
open PySem PySem.Spec L2
/-! ### the one wall that walked -/
section
variable {P : Plan} {c d : List Nat} {k : Nat}
structure Step2 (P : Plan) (c d : List Nat) (u v : Nat) : Prop extends Step P.n c d u v where
  ul : u < lastM P
  vl : v < lastM P
  keep : ∀ p, p < P.n → p ≠ u → p ≠ v → gt d p = gt c p
  ah : gt d v = gt c u
  df : (u : Int) - v = 1 ∨ (v : Int) - u = 1 ∨ (u : Int) - v = P.n - 1 ∨ (v : Int) - u = P.n - 1
theorem turn_step2 (hP : P.Ok) (hc : Cells P.n c) (hk : k < P.n) {s : Nat} (h : turnM P c k = some s) : ∃ u v, Step2 P c (c.set k s) u v := by
  have h3 := hP.lo
  obtain ⟨_, hnr, h4, h5⟩ := turnM_some h
  have h8 : ∀ i, gt (c.set k s) i = if i = k then s else gt c i := fun i => gt_set c k s i (by rw [hc.len]; exact hk)
  have hpk : prev P.n k ≠ k := by unfold prev; split <;> omega
  have hnk : nx P.n k ≠ k := by unfold nx; split <;> omega
  have hne : gt c (prev P.n k) ≠ gt c (nx P.n k) := by
    rcases h5 with ⟨z1, z2⟩ | ⟨z1, z2⟩
    · rw [← z1, ← z2]; exact Ne.symm h4
    · rw [← z1, ← z2]; exact h4
  have hl : k < lastM P ∧ prev P.n k < lastM P := by
    unfold lastM
    cases hr : P.r with
    | true => rw [if_pos rfl]; exact ⟨hk, prev_lt hk⟩
    | false =>
      rw [if_neg (by decide)]
      have hh : ¬ (k = 0 ∨ k = P.n - 1) := fun z => hnr ⟨hr, z⟩
      unfold prev
      rw [if_neg (by omega)]
      omega
  have hd : ((k : Int) - (prev P.n k : Nat) = 1) ∨ (((prev P.n k : Nat) : Int) - k = P.n - 1) := by
    unfold prev
    by_cases z : k = 0
    · rw [if_pos z]; right; omega
    · rw [if_neg z]; left; omega
  rcases turn_step hc h3 hk h with hs | hs
  · refine ⟨k, prev P.n k, { hs with ul := hl.1, vl := hl.2, keep := fun p _ h1 _ => by rw [h8, if_neg h1], ah := ?_, df := ?_ }⟩
    · have w := hs.wu
      have nv := hs.nv
      unfold wallM at w nv
      rw [nx_prev hk] at nv
      simp at w nv
      rw [h8, if_neg hpk]
      exact nv
    · rcases hd with hd | hd
      · exact .inl hd
      · exact .inr (.inr (.inr hd))
  · refine ⟨prev P.n k, k, { hs with ul := hl.2, vl := hl.1, keep := fun p _ _ h1 => by rw [h8, if_neg h1], ah := ?_, df := ?_ }⟩
    · rw [h8, if_pos rfl]
      rcases h5 with ⟨z1, z2⟩ | ⟨z1, z2⟩
      · have w := hs.wu
        unfold wallM at w
        rw [nx_prev hk] at w
        simp at w
        exact absurd z1.symm w
      · exact z2
    · rcases hd with hd | hd
      · exact .inr (.inl hd)
      · exact .inr (.inr (.inl hd))
theorem Step2.symm {u v : Nat} (h : Step2 P c d u v) : Step2 P d c v u :=
  { h.toStep.symm with ul := h.vl, vl := h.ul, keep := fun p hp a b => (h.keep p hp b a).symm, ah := h.ah.symm, df := h.df.elim (fun z => .inr (.inl z)) fun z => z.elim .inl fun z => z.elim (fun z => .inr (.inr (.inr z))) fun z => .inr (.inr (.inl z)) }
theorem wall_nice (hc : Cells P.n c) (p : Nat) (k : Nat) : Nice (k + 1) (wallD P c p) := nice_tup fun x hx => by
  have h1 := gt_le hc.sg p
  have h2 := gt_le hc.sg (nx P.n p)
  simp at hx
  rcases hx with rfl | rfl | rfl
  · exact nice_int _ _
  · exact nice_S _ _ fun y hy => by rw [List.mem_singleton.mp hy]; omega
  · exact nice_S _ _ fun y hy => by rw [List.mem_singleton.mp hy]; omega
theorem wall_eqv (p q : Nat) : PyData.eqv (wallD P d q).py (wallD P c p).py = decide (q = p ∧ gt d q = gt c p ∧ gt d (nx P.n q) = gt c (nx P.n p)) := by
  show PyData.eqv (.tuple [.int (q : Int), .str (S [gt d q]), .str (S [gt d (nx P.n q)])]) (.tuple [.int (p : Int), .str (S [gt c p]), .str (S [gt c (nx P.n p)])]) = _
  rw [Bool.eq_iff_iff]
  simp [PyData.eqv, PyData.eqvAll]
  omega
theorem in_walls (hc : Cells P.n c) (hd : Cells P.n d) (p : Nat) : gIn (wallD P c p) (.lst (wallsM P d)) = .ok (.bl ((placesM P d).any fun q => decide (q = p ∧ gt d q = gt c p ∧ gt d (nx P.n q) = gt c (nx P.n p)))) := by
  have n1 := wall_nice hc p 0
  have n2 : Nice 2 (.lst (wallsM P d)) := nice_lst fun x hx => by
    obtain ⟨q, _, rfl⟩ := List.mem_map.mp hx
    exact wall_nice hd q 0
  have e : (pyAll (wallsM P d)).any (fun z => PyData.eqv z (wallD P c p).py) = (placesM P d).any fun q => decide (q = p ∧ gt d q = gt c p ∧ gt d (nx P.n q) = gt c (nx P.n p)) := by
    rw [pyAll_map]
    unfold wallsM
    rw [List.map_map, List.any_map]
    congr 1
    funext q
    exact wall_eqv p q
  rw [← e]
  show (if ((wallD P c p).flat && (wallsM P d).all D.flat) = true then R.ok (D.bl (inFlat (wallD P c p) (wallsM P d))) else if ((wallD P c p).fit && (D.lst (wallsM P d)).fit) = true then R.ok (D.bl ((pyAll (wallsM P d)).any fun z => PyData.eqv z (wallD P c p).py)) else .bad) = _
  rw [if_neg (by intro z; cases z), if_pos (by rw [n1.fit (by omega), n2.fit (by omega)]; rfl)]
theorem step_places {u v : Nat} (h : Step2 P c d u v) {p : Nat} : p ∈ placesM P c ↔ p < lastM P ∧ wallM P.n c p = true := by
  unfold placesM
  rw [List.mem_filter, List.mem_range]
theorem in_step (hc : Cells P.n c) (hd : Cells P.n d) {u v : Nat} (h : Step2 P c d u v) {p : Nat} (hp : p ∈ placesM P c) : gIn (wallD P c p) (.lst (wallsM P d)) = .ok (.bl (!decide (p = u))) := by
  rw [in_walls hc hd]
  congr 2
  have hp2 := (step_places h).mp hp
  have hpn : p < P.n := Nat.lt_of_lt_of_le hp2.1 lastM_le
  rw [Bool.eq_iff_iff, List.any_eq_true]
  constructor
  · rintro ⟨q, hq, e⟩
    have e2 := of_decide_eq_true e
    have hq2 := (step_places h.symm).mp hq
    rw [e2.1] at hq2
    have : p ≠ u := fun z => by rw [z, h.nu] at hq2; cases hq2.2
    simp [this]
  · intro e
    have hu : p ≠ u := by simpa using e
    have hv : p ≠ v := fun z => by rw [z, h.nv] at hp2; cases hp2.2
    obtain ⟨o1, o2⟩ := h.oth p hpn hu hv
    refine ⟨p, (step_places h.symm).mpr ⟨hp2.1, by rw [o1]; exact hp2.2⟩, decide_eq_true ⟨rfl, h.keep p hpn hu hv, o2⟩⟩
theorem filter_one {l : List Nat} {u : Nat} (hl : l.Pairwise (· < ·)) (hu : u ∈ l) : l.filter (fun p => decide (p = u)) = [u] := by
  induction l with
  | nil => cases hu
  | cons a l ih =>
    obtain ⟨h1, h2⟩ := List.pairwise_cons.mp hl
    rcases List.mem_cons.mp hu with rfl | hu
    · rw [List.filter_cons, if_pos (by simp)]
      congr 1
      refine List.filter_eq_nil_iff.mpr fun x hx => ?_
      have := h1 x hx
      simp
      omega
    · have := h1 u hu
      rw [List.filter_cons, if_neg (by simp; omega), ih h2 hu]
end
end WW
set_option Elab.async false
set_option linter.all false
set_option maxRecDepth 100000
namespace WW
open PySem PySem.Spec L2
section
variable {P : Plan} {c d : List Nat} {k : Nat}
theorem eq_tup_refl {k : Nat} {l : List D} (h : Nice k (.tup l)) (hk : k ≤ 60) : gEq (.tup l) (.tup l) = .ok (.bl true) := by
  show (if (D.tup l).fit = true ∧ (D.tup l).fit = true then R.ok (D.bl (PyData.eqv (D.tup l).py (D.tup l).py)) else .bad) = _
  rw [if_pos ⟨h.fit (by omega), h.fit (by omega)⟩, SeqAt.eqv_refl _ h.2.1]
theorem eq_lst_refl {k : Nat} {l : List D} (h : Nice k (.lst l)) (hk : k ≤ 60) : gEq (.lst l) (.lst l) = .ok (.bl true) := by
  show (if (D.lst l).fit = true ∧ (D.lst l).fit = true then R.ok (D.bl (PyData.eqv (D.lst l).py (D.lst l).py)) else .bad) = _
  rw [if_pos ⟨h.fit (by omega), h.fit (by omega)⟩, SeqAt.eqv_refl _ h.2.1]
def Rel (P : Plan) (c L0 : List Nat) : Prop := (P.r = false → bsg P c = L0) ∧ (P.r = true → Rt (bsg P c) L0)
theorem Rel.len {L0 : List Nat} (h : Rel P c L0) : (bsg P c).length = L0.length := by
  cases hr : P.r with
  | false => rw [h.1 hr]
  | true => exact (h.2 hr).1
theorem Rel.turn (hP : P.Ok) (hc : Cells P.n c) (hk : k < P.n) {s : Nat} (h : turnM P c k = some s) {L0 : List Nat} (hr : Rel P c L0) : Rel P (c.set k s) L0 := by
  rcases turn_bsg hP hc hk h with e | ⟨r, x, B, ⟨e1, e2⟩ | ⟨e1, e2⟩⟩
  · exact ⟨fun z => by rw [e]; exact hr.1 z, fun z => by rw [e]; exact hr.2 z⟩
  · refine ⟨fun z => (by rw [r] at z; cases z), fun z => ?_⟩
    have h1 := hr.2 r
    rw [e1] at h1
    rw [e2]
    exact (rt_one x B).symm.trans h1
  · refine ⟨fun z => (by rw [r] at z; cases z), fun z => ?_⟩
    have h1 := hr.2 r
    rw [e1] at h1
    rw [e2]
    exact (rt_one x B).trans h1
theorem bsg_le (hc : Cells P.n c) : ∀ x ∈ bsg P c, x ≤ 100 := fun x hx => by
  unfold bsg at hx
  obtain ⟨p, hp, rfl⟩ := List.mem_map.mp hx
  unfold blocksM at hp
  split at hp
  · rw [List.mem_singleton.mp hp]; exact gt_le hc.sg _
  · split at hp
    · exact bl_sg (fun i => gt_le hc.sg _) _ _ p hp
    · exact bl_sg (fun i => gt_le hc.sg _) _ _ p hp
theorem alk_turns (hP : P.Ok) : Alk 7 (.lst (turnsM P c)) := by
  have h4 := hP.hi
  refine .lst 6 _ (by have := turns_len (P := P) (c := c); omega) fun d hd => ?_
  obtain ⟨k, s, _, _, rfl⟩ := mem_turns hd
  refine .tup 5 _ (by simp) fun x hx => ?_
  simp at hx
  rcases hx with rfl | rfl | rfl
  · exact .int _ _
  · exact .str _ _
  · exact .int _ _
theorem turns_nice (hc : Cells P.n c) : ∀ d ∈ turnsM P c, Nice 1 d := fun d hd => by
  obtain ⟨k, s, hk, hs, rfl⟩ := mem_turns hd
  refine nice_tup (k := 0) fun x hx => ?_
  simp at hx
  rcases hx with rfl | rfl | rfl
  · exact nice_int _ _
  · exact nice_S _ _ fun y hy => by have := ((hc.set (turn_sign hc hk hs)).sg y hy).2; omega
  · exact nice_int _ _
/-- the last part of a round -/
def k20_rest : DS := sIf (dTest (dBin gNe (dVar 10) (dFrz (oLst (dNil))))) (sSeq (sTo (gdTup [12, 13, 14]) (dBin gIx (dVar 10) (dCallB f_law_take 1 (dCons (dApp gLen (dCons (dVar 10) (dNil))) (dNil))))) (sSeq (sTo (gdTup [15, 16]) (dTup (dCons (dCall p_walls (dCons (dVar 3) (dCons (dVar 4) (dNil)))) (dCons (dCall p_walls (dCons (dVar 3) (dCons (dVar 13) (dNil)))) (dNil))))) (sSeq (sPar 17 18 (dFrz (oComp (iVal (dVar 15)) [19] (gdName 19) law_t3 law_e3)) (dFrz (oComp (iVal (dVar 16)) [19] (gdName 19) law_t4 law_e4))) (sSeq (sIf (dOr (dTest (dBin gNe (dApp gLen (dCons (dVar 17) (dNil))) (dC (.int 1)))) (dOr (dTest (dBin gNe (dApp gLen (dCons (dVar 18) (dNil))) (dC (.int 1)))) (dTest (dBin gNe (dSl (dBin gIx (dVar 17) (dC (.int 0))) (pSome (dC (.int 1))) (pNo)) (dSl (dBin gIx (dVar 18) (dC (.int 0))) (pSome (dC (.int 1))) (pNo)))))) (sRet (dC (.bl false))) (sNext)) (sSeq (sIf (dTest (dBin gNotIn (dApp gAbs (dCons (dBin gSub (dBin gIx (dBin gIx (dVar 17) (dC (.int 0))) (dC (.int 0))) (dBin gIx (dBin gIx (dVar 18) (dC (.int 0))) (dC (.int 0)))) (dNil))) (dTup (dCons (dC (.int 1)) (dCons (dBin gSub (dBin gIx (dVar 3) (dC (.int 1))) (dC (.int 1))) (dNil)))))) (sRet (dC (.bl false))) (sNext)) (sAsg 4 (dVar 13))))))) (sNext)
/-- one turn of the law's walk -/
theorem k20_step (hP : P.Ok) (hc : Cells P.n c) {L0 : List Nat} (hrel : Rel P c L0) (h100 : ∀ x ∈ L0, x ≤ 100) (a : Addr) (ns : List Int) (st : Int) (t2 s5 t6 t7 t8 t9 t10 t11 t12 t13 t14 t15 t16 t17 t18 t19 : Option Sl) (hs5 : s5 = some (.l (L0.map sgD)) ∨ s5 = some (.v (lsD L0))) :
    ∃ c' ns' st' u6 u7 u9 u10 u11 u12 u13 u14 u15 u16 u17 u18 u19, Cells P.n c' ∧ Rel P c' L0 ∧ law_f1 [none, some (.box a ns st), t2, some (.v P.D), some (.v (.str (S c))), s5, t6, t7, t8, t9, t10, t11, t12, t13, t14, t15, t16, t17, t18, t19] = .next [none, some (.box a ns' st'), t2, some (.v P.D), some (.v (.str (S c'))), some (.v (lsD L0)), u6, u7, t8, u9, u10, u11, u12, u13, u14, u15, u16, u17, u18, u19] := by
  have h5 := LIM_n
  have h3 := hP.lo
  have h4 := hP.hi
  have q1 := v_blocks hP hc
  have q2 := v_law_turns hP hc
  have q3 := v_turns hP hc
  have q4 := alike_refl 7 _ (alk_turns (P := P) (c := c) hP)
  have q5 := v_by_blocks hP hc
  have hbl := bsg_len (P := P) (c := c) hP.lo
  have hbs : (bsg P c).length ≤ 20 := by unfold bsg; rw [List.length_map]; omega
  have hL0 : L0.length ≤ 20 := by rw [← hrel.len]; exact hbs
  have w1 := compL_mapT (vs := [6, 7]) (g := gdTup [6, 7]) (el := law_e2) (e := [none, some (.box a ns st), t2, some (.v P.D), some (.v (.str (S c))), s5, none, none, t8, some (.v (.lst ((blocksM P c).map blD))), some (.v (.lst (turnsM P c))), t11, t12, t13, t14, t15, t16, t17, t18, t19]) blD (fun p => sgD p.1) (blocksM P c) (by
    intro p hp
    refine ⟨_, _, by unfold blD; simp; rfl, by unfold law_e2; simp; exact ⟨rfl, rfl⟩, by simp [blD]⟩)
  have hbe : (blocksM P c).map (fun p => sgD p.1) = (bsg P c).map sgD := by unfold bsg; rw [List.map_map]; rfl
  rw [hbe] at w1
  have n1 := lsD_nice (bsg_le hc)
  have n2 := lsD_nice h100
  obtain ⟨kb, hkb⟩ : ∃ kb, gEq (.lst ((bsg P c).map sgD)) (.lst (L0.map sgD)) = .ok (.bl kb) ∧ (P.r = false → kb = true) := by
    refine ⟨PyData.eqv (lsD (bsg P c)).py (lsD L0).py, ?_, fun z => ?_⟩
    · show (if (lsD (bsg P c)).fit = true ∧ (lsD L0).fit = true then R.ok (D.bl (PyData.eqv (lsD (bsg P c)).py (lsD L0).py)) else .bad) = _
      rw [if_pos ⟨n1.fit (by omega), n2.fit (by omega)⟩]
    · rw [hrel.1 z]
      exact SeqAt.eqv_refl _ n2.2.1
  obtain ⟨hkb, hkr⟩ := hkb
  have r1 := v_round (bsg P c) (bsg_le hc) (by omega)
  have r2 := v_round L0 h100 (by omega)
  have r3 : P.r = true → gEq (lsD (minR (bsg P c))) (lsD (minR L0)) = .ok (.bl true) := fun z => by
    rw [minR_same (hrel.2 z)]
    have hm : ∀ x ∈ minR L0, x ≤ 100 := fun x hx => by
      unfold minR at hx
      cases q : rots L0 with
      | nil => rw [q] at hx; cases hx
      | cons y l =>
        rw [q] at hx
        exact h100 x (rots_sub (by rw [q]; exact minL_mem l y) x hx)
    exact eq_lst_refl (lsD_nice hm) (by omega)
  have hln : gEq (.int (((bsg P c).map sgD).length : Int)) (.int ((L0.map sgD).length : Int)) = .ok (.bl true) := by
    rw [eq_int, List.length_map, List.length_map, hrel.len]
    simp
  have hlb : ((blocksM P c).map blD).length ≤ LIM := by rw [List.length_map]; omega
  have p0 : gIx P.D (.int 0) = .ok (.bl P.r) := ix_t0 _ _
  have p1 : gIx P.D (.int 1) = .ok (.int P.n) := ix_t1 _ _ _
  have htm := eq_lst_nil (turns_nice hc) (by omega)
  have hl1 : gLen [.lst ((bsg P c).map sgD)] = .ok (.int (((bsg P c).map sgD).length : Int)) := rfl
  have hl2 : gLen [.lst (L0.map sgD)] = .ok (.int ((L0.map sgD).length : Int)) := rfl
  unfold lsD at r1 r2 r3 hs5 ⊢
  -- what comes ahead of the last test
  have head : ∀ rest : DS, ∃ u11, sSeq (sPar 9 10 (dCall p_blocks (dCons (dVar 3) (dCons (dVar 4) (dNil)))) (dCall f_law_turns (dCons (dVar 3) (dCons (dVar 4) (dNil))))) (sSeq (sAsgO 11 (oComp (iVal (dVar 9)) [6, 7] (gdTup [6, 7]) (noTest) law_e2)) (sSeq (sIf (dOr (dNot (dTest (dCall (f_law_alike 8) (dCons (dCall p_turns (dCons (dVar 3) (dCons (dVar 4) (dNil)))) (dCons (dVar 10) (dNil)))))) (dNot (dTest (dCall f_law_by_blocks (dCons (dVar 3) (dCons (dVar 4) (dCons (dVar 9) (dNil)))))))) (sRet (dC (.bl false))) (sNext)) (sSeq (sIf (dOr (dAnd (dTest (dBin gNe (dVar 11) (dVar 5))) (dNot (dTest (dBin gIx (dVar 3) (dC (.int 0)))))) (dTest (dBin gNe (dApp gLen (dCons (dVar 11) (dNil))) (dApp gLen (dCons (dVar 5) (dNil)))))) (sRet (dC (.bl false))) (sNext)) (sSeq (sIf (dAnd (dTest (dBin gIx (dVar 3) (dC (.int 0)))) (dTest (dBin gNe (dCall f_law_round (dCons (dVar 11) (dNil))) (dCall f_law_round (dCons (dVar 5) (dNil)))))) (sRet (dC (.bl false))) (sNext)) rest)))) [none, some (.box a ns st), t2, some (.v P.D), some (.v (.str (S c))), s5, t6, t7, t8, t9, t10, t11, t12, t13, t14, t15, t16, t17, t18, t19] = rest [none, some (.box a ns st), t2, some (.v P.D), some (.v (.str (S c))), some (.v (.lst (L0.map sgD))), none, none, t8, some (.v (.lst ((blocksM P c).map blD))), some (.v (.lst (turnsM P c))), u11, t12, t13, t14, t15, t16, t17, t18, t19] := by
    intro rest
    refine ⟨some (.v (.lst ((bsg P c).map sgD))), ?_⟩
    generalize (blocksM P c).map blD = bd at *
    generalize (bsg P c).map sgD = X at *
    generalize L0.map sgD = F at *
    generalize turnsM P c = tm at *
    generalize P.D = pd at *
    generalize f_law_alike 8 = al at *
    generalize D.lst ((minR (bsg P c)).map sgD) = m1 at *
    generalize D.lst ((minR L0).map sgD) = m2 at *
    cases hr : P.r with
    | true =>
      rw [hr] at p0
      have r3 := r3 hr
      rcases hs5 with rfl | rfl <;> cases kb <;> simp (disch := omega) [q1, q2, q3, q4, q5, w1, hlb, hkb, p0, hln, r1, r2, r3, hl1, hl2, -eq_int]
    | false =>
      rw [hr] at p0
      have := hkr hr
      subst this
      rcases hs5 with rfl | rfl <;> simp (disch := omega) [q1, q2, q3, q4, q5, w1, hlb, hkb, p0, hln, r1, r2, hl1, hl2, -eq_int]
  obtain ⟨u11, hh⟩ := head k20_rest
  have hf : law_f1 [none, some (.box a ns st), t2, some (.v P.D), some (.v (.str (S c))), s5, t6, t7, t8, t9, t10, t11, t12, t13, t14, t15, t16, t17, t18, t19] = k20_rest [none, some (.box a ns st), t2, some (.v P.D), some (.v (.str (S c))), some (.v (.lst (L0.map sgD))), none, none, t8, some (.v (.lst ((blocksM P c).map blD))), some (.v (.lst (turnsM P c))), u11, t12, t13, t14, t15, t16, t17, t18, t19] := hh
  rw [hf]
  clear hf hh head w1 q4 q5 r1 r2 r3 hkb hkr hln n1 n2
  cases hemp : (turnsM P c).isEmpty with
  | true =>
    rw [hemp] at htm
    refine ⟨c, ns, st, none, none, some (.v (.lst ((blocksM P c).map blD))), some (.v (.lst (turnsM P c))), u11, t12, t13, t14, t15, t16, t17, t18, t19, hc, hrel, ?_⟩
    unfold k20_rest
    simp [htm]
  | false =>
    rw [hemp] at htm
    have htl : 0 < (turnsM P c).length := by
      cases q : turnsM P c with
      | nil => rw [q] at hemp; cases hemp
      | cons x l => simp
    have htl2 := turns_len (P := P) (c := c)
    obtain ⟨w, ns1, st1, k1, k2⟩ := take_ok a ns st ((turnsM P c).length : Int) (by omega) (by omega)
    obtain ⟨td, htd⟩ : ∃ td, (turnsM P c)[w]? = some td := ⟨_, List.getElem?_eq_getElem (by omega)⟩
    have hix := ix_lst_nat _ _ _ htd
    obtain ⟨k, s, hk, hs, rfl⟩ := mem_turns (List.mem_of_getElem? htd)
    have hd : Cells P.n (c.set k s) := hc.set (turn_sign hc hk hs)
    obtain ⟨u, v, h2⟩ := turn_step2 hP hc hk hs
    have v1 := v_walls hP hc
    have v2 := v_walls hP hd
    have hrel2 := Rel.turn hP hc hk hs hrel
    generalize hcost : natD (wM P (gt c k) s) = cost at *
    generalize c.set k s = d at *
    have g1 := compL_filT (vs := [19]) (g := gdName 19) (t := law_t3) (el := law_e3) (e := [none, some (.box a ns1 st1), t2, some (.v P.D), some (.v (.str (S c))), some (.v (.lst (L0.map sgD))), none, none, t8, some (.v (.lst ((blocksM P c).map blD))), some (.v (.lst (turnsM P c))), u11, some (.v (natD k)), some (.v (.str (S d))), some (.v cost), some (.v (.lst (wallsM P c))), some (.v (.lst (wallsM P d))), t17, t18, none]) (wallD P c) (wallD P c) (fun p => decide (p = u)) (placesM P c) (by
      intro p hp
      have hi := in_step hc hd h2 hp
      refine ⟨_, _, by simp; rfl, by unfold law_t3; simp [hi]; rfl, fun _ => by simp, fun _ => ⟨_, by unfold law_e3; simp; rfl, by simp⟩⟩)
    have g2 := compL_filT (vs := [19]) (g := gdName 19) (t := law_t4) (el := law_e4) (e := [none, some (.box a ns1 st1), t2, some (.v P.D), some (.v (.str (S c))), some (.v (.lst (L0.map sgD))), none, none, t8, some (.v (.lst ((blocksM P c).map blD))), some (.v (.lst (turnsM P c))), u11, some (.v (natD k)), some (.v (.str (S d))), some (.v cost), some (.v (.lst (wallsM P c))), some (.v (.lst (wallsM P d))), t17, t18, none]) (wallD P d) (wallD P d) (fun p => decide (p = v)) (placesM P d) (by
      intro p hp
      have hi := in_step hd hc h2.symm hp
      refine ⟨_, _, by simp; rfl, by unfold law_t4; simp [hi]; rfl, fun _ => by simp, fun _ => ⟨_, by unfold law_e4; simp; rfl, by simp⟩⟩)
    rw [filter_one places_rise ((step_places h2).mpr ⟨h2.ul, h2.wu⟩)] at g1
    rw [filter_one places_rise ((step_places h2.symm).mpr ⟨h2.vl, h2.wv⟩)] at g2
    have hw1 : (placesM P c).map (wallD P c) = wallsM P c := rfl
    have hw2 : (placesM P d).map (wallD P d) = wallsM P d := rfl
    rw [hw1] at g1
    rw [hw2] at g2
    simp only [List.map_cons, List.map_nil] at g1 g2
    have l1 : (wallsM P c).length ≤ LIM := by unfold wallsM; rw [List.length_map]; have := places_len (P := P) (c := c); omega
    have l2 : (wallsM P d).length ≤ LIM := by unfold wallsM; rw [List.length_map]; have := places_len (P := P) (c := d); omega
    have s1 : gSl (wallD P c u) (some 1) none = .ok (.tup [.str (S [gt c u]), .str (S [gt c (nx P.n u)])]) := by
      unfold wallD
      rw [sl_tup, cutD_eq, cut_1]
      rfl
    have s2 : gSl (wallD P d v) (some 1) none = .ok (.tup [.str (S [gt c u]), .str (S [gt c (nx P.n u)])]) := by
      unfold wallD
      rw [sl_tup, cutD_eq, cut_1, h2.ah, h2.sg]
      rfl
    have s3 : gEq (.tup [.str (S [gt c u]), .str (S [gt c (nx P.n u)])]) (.tup [.str (S [gt c u]), .str (S [gt c (nx P.n u)])]) = .ok (.bl true) := by
      refine eq_tup_refl (nice_tup (k := 0) fun x hx => ?_) (by omega)
      have z1 := gt_le hc.sg u
      have z2 := gt_le hc.sg (nx P.n u)
      simp at hx
      rcases hx with rfl | rfl
      · exact nice_S _ _ fun y hy => by rw [List.mem_singleton.mp hy]; omega
      · exact nice_S _ _ fun y hy => by rw [List.mem_singleton.mp hy]; omega
    have i1 : gIx (wallD P c u) (.int 0) = .ok (.int (u : Int)) := ix_t0 _ _
    have i2 : gIx (wallD P d v) (.int 0) = .ok (.int (v : Int)) := ix_t0 _ _
    have a1 : gAbs [.int ((u : Int) - v)] = .ok (.int (if (u : Int) - v < 0 then -((u : Int) - v) else (u : Int) - v)) := rfl
    have a2 : gIn (.int (if (u : Int) - v < 0 then -((u : Int) - v) else (u : Int) - v)) (.tup [.int 1, .int ((P.n : Int) - 1)]) = .ok (.bl true) := by
      rw [in_tup2_int]
      congr 2
      refine decide_eq_true ?_
      have := h2.df
      split <;> omega
    refine ⟨d, ns1, st1, none, none, some (.v (.lst ((blocksM P c).map blD))), some (.v (.lst (turnsM P c))), u11, some (.v (natD k)), some (.v (.str (S d))), some (.v cost), some (.v (.lst (wallsM P c))), some (.v (.lst (wallsM P d))), some (.v (.lst [wallD P c u])), some (.v (.lst [wallD P d v])), none, hd, hrel2, ?_⟩
    have lT : gLen [.lst (turnsM P c)] = .ok (.int ((turnsM P c).length : Int)) := rfl
    clear q1 q2 q3 htd hbe hcost
    generalize (if (u : Int) - v < 0 then -((u : Int) - v) else (u : Int) - v) = uv at *
    generalize (blocksM P c).map blD = bd at *
    generalize turnsM P c = tm at *
    generalize wallsM P c = wc at *
    generalize wallsM P d = wd at *
    generalize wallD P c u = wu at *
    generalize wallD P d v = wv at *
    generalize L0.map sgD = F at *
    generalize P.D = pd at *
    unfold k20_rest
    simp [htm, lT, k1, hix, v1, v2, g1, g2, l1, l2, s1, s2, s3, i1, i2, a1, a2, p1]
theorem k20_round (a : Addr) (ns : List Int) (st : Int) (t2 t3 t4 t5 t6 t7 t8 t9 t10 t11 t12 t13 t14 t15 t16 t17 t18 t19 : Option Sl) :
    ∃ ns' st' u3 u4 u5 u6 u7 u8 u9 u10 u11 u12 u13 u14 u15 u16 u17 u18 u19, law_f2 [none, some (.box a ns st), t2, t3, t4, t5, t6, t7, t8, t9, t10, t11, t12, t13, t14, t15, t16, t17, t18, t19] = .next [none, some (.box a ns' st'), t2, u3, u4, u5, u6, u7, u8, u9, u10, u11, u12, u13, u14, u15, u16, u17, u18, u19] := by
  have h5 := LIM_n
  obtain ⟨P, ns1, st1, hP, hn, p1⟩ := v_law_plan a ns st 12 (by omega) (by omega)
  obtain ⟨c, ns2, st2, hc, p2⟩ := v_law_cells hP a ns1 st1
  obtain ⟨w, ns3, st3, p3, hw⟩ := take_ok a ns2 st2 60 (by omega) (by omega)
  have h3 := hP.lo
  have h4 := hP.hi
  have q1 := v_blocks hP hc
  have hbl := bsg_len (P := P) (c := c) hP.lo
  have w1 := compL_mapT (vs := [6, 7]) (g := gdTup [6, 7]) (el := law_e1) (e := [none, some (.box a ns2 st2), t2, some (.v P.D), some (.v (.str (S c))), t5, none, none, t8, t9, t10, t11, t12, t13, t14, t15, t16, t17, t18, t19]) blD (fun p => sgD p.1) (blocksM P c) (by
    intro p hp
    refine ⟨_, _, by unfold blD; simp; rfl, by unfold law_e1; simp; exact ⟨rfl, rfl⟩, by simp [blD]⟩)
  have hbe : (blocksM P c).map (fun p => sgD p.1) = (bsg P c).map sgD := by unfold bsg; rw [List.map_map]; rfl
  rw [hbe] at w1
  have hlb : ((blocksM P c).map blD).length ≤ LIM := by rw [List.length_map]; omega
  obtain ⟨e', f1, c', ns4, st4, s5, u6, u7, u8, u9, u10, u11, u12, u13, u14, u15, u16, u17, u18, u19, rfl, _⟩ := forL_inv (g := gdName 8) (b := law_f1) (fun _ e => ∃ c' ns st s5 t6 t7 t8 t9 t10 t11 t12 t13 t14 t15 t16 t17 t18 t19, e = [none, some (.box a ns st), t2, some (.v P.D), some (.v (.str (S c'))), s5, t6, t7, t8, t9, t10, t11, t12, t13, t14, t15, t16, t17, t18, t19] ∧ Cells P.n c' ∧ Rel P c' (bsg P c) ∧ (s5 = some (.l ((bsg P c).map sgD)) ∨ s5 = some (.v (lsD (bsg P c))))) (intsD 0 w) [none, some (.box a ns3 st3), t2, some (.v P.D), some (.v (.str (S c))), some (.l ((bsg P c).map sgD)), none, none, t8, t9, t10, t11, t12, t13, t14, t15, t16, t17, t18, t19] 0 ⟨c, ns3, st3, _, _, _, _, _, _, _, _, _, _, _, _, _, _, _, rfl, hc, ⟨fun _ => rfl, fun _ => Rt.refl _⟩, .inl rfl⟩ (by
    rintro j d e hj ⟨c', ns, st, s5, t6, t7, t8, t9, t10, t11, t12, t13, t14, t15, t16, t17, t18, t19, rfl, g1, g2, g3⟩
    obtain ⟨c2, ns', st', v6, v7, v9, v10, v11, v12, v13, v14, v15, v16, v17, v18, v19, k1, k2, k3⟩ := k20_step hP g1 g2 (bsg_le hc) a ns st t2 s5 t6 t7 (some (.v d)) t9 t10 t11 t12 t13 t14 t15 t16 t17 t18 t19 g3
    exact ⟨_, _, rfl, .inl k3, c2, ns', st', _, _, _, _, _, _, _, _, _, _, _, _, _, _, _, rfl, k1, k2, .inr rfl⟩)
  refine ⟨ns4, st4, some (.v P.D), some (.v (.str (S c'))), s5, u6, u7, u8, u9, u10, u11, u12, u13, u14, u15, u16, u17, u18, u19, ?_⟩
  have p1' : f_law_plan (a, ns, st) [.int 12] = .ok (P.D, (a, ns1, st1)) := p1
  have r1 : asRange [.int (w : Int)] = .ok (intsD 0 w) := rangeN w (by omega)
  unfold law_f2
  generalize (blocksM P c).map blD = bd at *
  generalize law_f1 = lf1 at *
  generalize P.D = pd at *
  simp [p1', p2, q1, w1, hlb, p3, r1, f1]
theorem law_good : ∀ p ns, TrueL (law_den (initL 20 p ns)) := by
  intro p ns
  rw [law_den_eq]
  obtain ⟨e', h1, a, ns', st', t2, t3, t4, t5, t6, t7, t8, t9, t10, t11, t12, t13, t14, t15, t16, t17, t18, t19, rfl⟩ := forL_inv (g := gdName 2) (b := law_f2) (fun _ e => ∃ a ns st t2 t3 t4 t5 t6 t7 t8 t9 t10 t11 t12 t13 t14 t15 t16 t17 t18 t19, e = [none, some (.box a ns st), t2, t3, t4, t5, t6, t7, t8, t9, t10, t11, t12, t13, t14, t15, t16, t17, t18, t19]) (intsD 0 2) (initL 20 p ns) 0 ⟨_, _, _, _, _, _, _, _, _, _, _, _, _, _, _, _, _, _, _, _, _, rfl⟩ (by
    rintro j d e hj ⟨a, ns, st, t2, t3, t4, t5, t6, t7, t8, t9, t10, t11, t12, t13, t14, t15, t16, t17, t18, t19, rfl⟩
    obtain ⟨ns', st', u3, u4, u5, u6, u7, u8, u9, u10, u11, u12, u13, u14, u15, u16, u17, u18, u19, h⟩ := k20_round a ns st (some (.v d)) t3 t4 t5 t6 t7 t8 t9 t10 t11 t12 t13 t14 t15 t16 t17 t18 t19
    exact ⟨_, _, rfl, .inl h, _, _, _, _, _, _, _, _, _, _, _, _, _, _, _, _, _, _, _, _, _, rfl⟩)
  generalize law_f2 = lf at *
  have r : asRange [.int 2] = .ok (intsD 0 2) := rangeN 2 (by omega)
  rw [show sSeq (sFor (iRange (dCons (dC (.int 2)) dNil)) (gdName 2) lf) (sRet (dC (.bl true))) (initL 20 p ns) = .ret (.bl true) [none, some (.box a ns' st'), t2, t3, t4, t5, t6, t7, t8, t9, t10, t11, t12, t13, t14, t15, t16, t17, t18, t19] by simp [r, h1]]
  trivial
end
end WW
open PySem PySem.W PySem.Calls PyProof.Rows
set_option maxRecDepth 100000 in
set_option maxHeartbeats 0 in
theorem PySem.Challenge.cw_wallwalk_k20_whole_walls_keep_their_orde_holds : PySem.Challenge.rw_wallwalk_k20_whole_walls_keep_their_orde.Holds := by
  w_on; o_law
  refine HandSHeadRun.head_any (r := OpenLaw.row PySem.Challenge.rw_wallwalk_k20_whole_walls_keep_their_orde) (q := view (OpenLaw.row PySem.Challenge.rw_wallwalk_k20_whole_walls_keep_their_orde).prog [34]) (H := WW.K20.hk) (ob := WW.K20.ob) (M := 20000) (loose := WW.K20.loose) (d := HandSHeadRun.topDef (OpenLaw.row PySem.Challenge.rw_wallwalk_k20_whole_walls_keep_their_orde).prog 34) (kwd := []) WW.K20.ob_eq
    (by kernel_rfl) (fun s => by kernel_rfl) WW.K20.run (by kernel_rfl) (by kernel_rfl) (by kernel_rfl) (by rfl) (by first | assumption | decide +kernel) (by decide +kernel) ⟨rfl, rfl, rfl, rfl, rfl, by decide +kernel⟩ ?hw ?hc
  case hw => w_witness2
  case hc =>
    refine LamX.walk_ofTsE (l := PySem.Challenge.rw_wallwalk_k20_whole_walls_keep_their_orde) (n := 63) (k := 9) (x := "_law_script") (CX := fun w => L2.CX (PySem.Challenge.rw_wallwalk_k20_whole_walls_keep_their_orde).prog w) rfl (by decide) (by kernel_rfl) ⟨rfl, by decide, by decide⟩ ?F ?E
    case E =>
      rintro w H s e s' ⟨_, _, _, _, _, _, _, _, _, _, _, _, z⟩
      exact z
    case F =>
      intro w mg fa h Y G hmg0
      obtain ⟨K, KX, c⟩ := Y
      have hmg : mg ("law" : PySem.Str) = some (.ref fa) := by
        have e : (HandSHeadRun.topDef (OpenLaw.row PySem.Challenge.rw_wallwalk_k20_whole_walls_keep_their_orde).prog 34).name = ("law" : PySem.Str) := by kernel_rfl
        rw [← e]
        exact hmg0
      obtain ⟨fd, hb, hF⟩ := WW.K20.facts (P := (PySem.Challenge.rw_wallwalk_k20_whole_walls_keep_their_orde).prog) (w := w) KX G hmg c WW.law_good
      exact ⟨K, KX, fd, [], WW.spLaw K, (fun _ z => nomatch z), (fun _ z => nomatch z), (fun _ z => nomatch z), hb, fun H a ns hl _ _ hS => ⟨a, ns, rfl, hS, hl, fun _ => rfl⟩, fun base h1 h2 _ => hF base h1 h2⟩
